import PyProof.Rows.All
import Wide.All
import OpenK.AllK
import Wide.FinOn
import KE.KPairComp
import KE.LcSums
import KE.KTurns
import KE.KSetAt
import KE.KLcTest
import KE.KTryMore
import KE.BitLaws
import KE.KBits
import KE.RegKTryMore
import PyProof.CompUse
import KE.KFind
import PyProof.StrWalks
import KE.KIsNot
import PyProof.ExcAttrAll.ValueError
import KE.KDeep
import KE.KCat
import PySem.Challenge.RW_uf040037_06
open PySem PySem.W PyProof.Rows
set_option Elab.async false
set_option maxRecDepth 100000
set_option maxHeartbeats 8000000
set_option linter.all false
set_option rowWalk.seconds 0
set_option compiler.extract_closed false

namespace Mine
open PySem PySem.W
/-- the row's program -/
noncomputable abbrev pW : Program := PySem.Challenge.pw_uf040037_06
noncomputable def nthS : List Stmt → Nat → Option Stmt
  | [], _ => none
  | x :: _, 0 => some x
  | _ :: r, n + 1 => nthS r n
noncomputable def inC : Option Stmt → Nat → Option Stmt
  | some (.ClassDef _ _ _ body ..), n => nthS body n
  | _, _ => none
noncomputable def fnP : Option Stmt → Arguments × List Stmt × Scope
  | some (.FunctionDef _ args body _ _ _ scope ..) => (args, body, scope)
  | _ => (⟨[], [], none, [], [], none, []⟩, [], ⟨.function, [], false, false, []⟩)
noncomputable def pickS (l : List Stmt) : List Nat → List Stmt
  | [] => []
  | n :: r => match nthS l n with
    | some s => s :: pickS l r
    | none => pickS l r
noncomputable def o2 (_P : Params) : Obj := ⟨.none, none, .dict (List.toArray []) 0, List.toArray []⟩
noncomputable def o3 (P : Params) : Obj := ⟨.type "dict", none, .dict (List.toArray [⟨PyData.keyHash P (Str.ofString "__name__"), .str (Str.ofString "__name__") 165, .str (Str.ofString "law_uf040037_06") 684⟩, ⟨PyData.keyHash P (Str.ofString "__doc__"), .str (Str.ofString "__doc__") 166, .none⟩, ⟨PyData.keyHash P (Str.ofString "__package__"), .str (Str.ofString "__package__") 167, .none⟩, ⟨PyData.keyHash P (Str.ofString "__loader__"), .str (Str.ofString "__loader__") 168, .builtin "__main__.__loader__#opaque"⟩, ⟨PyData.keyHash P (Str.ofString "__spec__"), .str (Str.ofString "__spec__") 169, .none⟩, ⟨PyData.keyHash P (Str.ofString "__annotations__"), .str (Str.ofString "__annotations__") 170, .ref 6⟩, ⟨PyData.keyHash P (Str.ofString "__builtins__"), .str (Str.ofString "__builtins__") 171, .ref 4⟩, ⟨PyData.keyHash P (Str.ofString "__file__"), .str (Str.ofString "__file__") 173, .str (Str.ofString "/claim/cut.py") 172⟩, ⟨PyData.keyHash P (Str.ofString "__cached__"), .str (Str.ofString "__cached__") 174, .none⟩, ⟨PyData.keyHash P (Str.ofString "_wall"), .str (Str.ofString "_wall") 193, .ref 21⟩, ⟨PyData.keyHash P (Str.ofString "GateError"), .str (Str.ofString "GateError") 213, .ref 31⟩, ⟨PyData.keyHash P (Str.ofString "NoRow"), .str (Str.ofString "NoRow") 229, .ref 44⟩, ⟨PyData.keyHash P (Str.ofString "NoSign"), .str (Str.ofString "NoSign") 245, .ref 56⟩, ⟨PyData.keyHash P (Str.ofString "NoDivisor"), .str (Str.ofString "NoDivisor") 261, .ref 68⟩, ⟨PyData.keyHash P (Str.ofString "NoCount"), .str (Str.ofString "NoCount") 277, .ref 80⟩, ⟨PyData.keyHash P (Str.ofString "TooLong"), .str (Str.ofString "TooLong") 293, .ref 92⟩, ⟨PyData.keyHash P (Str.ofString "TooShort"), .str (Str.ofString "TooShort") 309, .ref 104⟩, ⟨PyData.keyHash P (Str.ofString "Broken"), .str (Str.ofString "Broken") 325, .ref 116⟩, ⟨PyData.keyHash P (Str.ofString "NoMate"), .str (Str.ofString "NoMate") 341, .ref 128⟩, ⟨PyData.keyHash P (Str.ofString "NoText"), .str (Str.ofString "NoText") 357, .ref 140⟩, ⟨PyData.keyHash P (Str.ofString "is_sign"), .str (Str.ofString "is_sign") 366, .ref 149⟩, ⟨PyData.keyHash P (Str.ofString "need_row"), .str (Str.ofString "need_row") 374, .ref 156⟩, ⟨PyData.keyHash P (Str.ofString "value_of"), .str (Str.ofString "value_of") 383, .ref 163⟩, ⟨PyData.keyHash P (Str.ofString "signs_of"), .str (Str.ofString "signs_of") 393, .ref 170⟩, ⟨PyData.keyHash P (Str.ofString "added"), .str (Str.ofString "added") 399, .ref 175⟩, ⟨PyData.keyHash P (Str.ofString "times"), .str (Str.ofString "times") 412, .ref 182⟩, ⟨PyData.keyHash P (Str.ofString "parted"), .str (Str.ofString "parted") 427, .ref 189⟩, ⟨PyData.keyHash P (Str.ofString "LEAST"), .str (Str.ofString "LEAST") 431, .int 2 430⟩, ⟨PyData.keyHash P (Str.ofString "MOST"), .str (Str.ofString "MOST") 433, .int 13 432⟩, ⟨PyData.keyHash P (Str.ofString "need_divisor"), .str (Str.ofString "need_divisor") 440, .ref 196⟩, ⟨PyData.keyHash P (Str.ofString "onward"), .str (Str.ofString "onward") 449, .ref 203⟩, ⟨PyData.keyHash P (Str.ofString "reach"), .str (Str.ofString "reach") 460, .ref 210⟩, ⟨PyData.keyHash P (Str.ofString "MOST_NOUGHTS"), .str (Str.ofString "MOST_NOUGHTS") 466, .int 1000000000000000000 465⟩, ⟨PyData.keyHash P (Str.ofString "Gate"), .str (Str.ofString "Gate") 563, .ref 276⟩, ⟨PyData.keyHash P (Str.ofString "LETTERS"), .str (Str.ofString "LETTERS") 567, .str (Str.ofString " !\"#$&'()*+,-./0123456789:;<=>?@ABCDEFGHIJKLMNOPQRSTUVWXYZ[\\]^_`abcdefghijklmnopqrstuvwxyz{|}~") 566⟩, ⟨PyData.keyHash P (Str.ofString "WIDE"), .str (Str.ofString "WIDE") 569, .int 7 568⟩, ⟨PyData.keyHash P (Str.ofString "FIRST"), .str (Str.ofString "FIRST") 571, .int 32 570⟩, ⟨PyData.keyHash P (Str.ofString "LAST"), .str (Str.ofString "LAST") 573, .int 126 572⟩, ⟨PyData.keyHash P (Str.ofString "LEFT_OUT"), .str (Str.ofString "LEFT_OUT") 575, .int 37 574⟩, ⟨PyData.keyHash P (Str.ofString "is_letter"), .str (Str.ofString "is_letter") 582, .ref 287⟩, ⟨PyData.keyHash P (Str.ofString "letter_of"), .str (Str.ofString "letter_of") 589, .ref 294⟩, ⟨PyData.keyHash P (Str.ofString "row_of"), .str (Str.ofString "row_of") 598, .ref 301⟩, ⟨PyData.keyHash P (Str.ofString "text_of"), .str (Str.ofString "text_of") 608, .ref 308⟩, ⟨PyData.keyHash P (Str.ofString "MOST_SIGNS"), .str (Str.ofString "MOST_SIGNS") 614, .int 1000000000000000000 613⟩, ⟨PyData.keyHash P (Str.ofString "Register"), .str (Str.ofString "Register") 683, .ref 360⟩, ⟨PyData.keyHash P (Str.ofString "_law_cell_at"), .str (Str.ofString "_law_cell_at") 693, .ref 371⟩, ⟨PyData.keyHash P (Str.ofString "_law_row_by"), .str (Str.ofString "_law_row_by") 699, .ref 376⟩, ⟨PyData.keyHash P (Str.ofString "_law_bad"), .str (Str.ofString "_law_bad") 708, .ref 383⟩, ⟨PyData.keyHash P (Str.ofString "_law_rows_called"), .str (Str.ofString "_law_rows_called") 717, .ref 390⟩, ⟨PyData.keyHash P (Str.ofString "_law_gate_called"), .str (Str.ofString "_law_gate_called") 726, .ref 397⟩, ⟨PyData.keyHash P (Str.ofString "_law_else_called"), .str (Str.ofString "_law_else_called") 735, .ref 404⟩, ⟨PyData.keyHash P (Str.ofString "_law_words"), .str (Str.ofString "_law_words") 747, .ref 411⟩, ⟨PyData.keyHash P (Str.ofString "law"), .str (Str.ofString "law") 760, .ref 418⟩]) 53, List.toArray []⟩
noncomputable def o15 (_P : Params) : Obj := ⟨.type "tuple", none, .seq (List.toArray []) 0, List.toArray []⟩
noncomputable def o17 (_P : Params) : Obj := ⟨.type "tuple", none, .seq (List.toArray [.str (Str.ofString "k") 190]) 0, List.toArray []⟩
noncomputable def o18 (_P : Params) : Obj := ⟨.type "tuple", none, .seq (List.toArray []) 0, List.toArray []⟩
noncomputable def o20 (_P : Params) : Obj := ⟨.type "code", none, .fields (List.toArray [.str (Str.ofString "_wall") 187, .str (Str.ofString "_wall") 188, .str (Str.ofString "/claim/cut.py") 189, .int 1 0, .int 1 0, .int 0 0, .int 0 0, .int 3 0, .ref 15, .bool true, .int 181 0, .ref 16, .none, .ref 17, .ref 18, .ref 19, .int 191 0, .int 1 0, .str (Str.ofString "/claim/cut.py") 192]), List.toArray []⟩
noncomputable def o21 (_P : Params) : Obj := (fun (p : Arguments) (b : List Stmt) (s : Scope) (_ : (p, b, s) = fnP (nthS pW.main.body 0)) => (⟨.type "function", none, .func ⟨Str.ofString "_wall", Str.ofString "_wall", p, .stmts b, s, 3, [], .none, .none, .none, .str (Str.ofString "__main__") 164, none, .ref 20, .none, 0⟩, List.toArray []⟩ : Obj)) _ _ _ rfl
noncomputable def o22 (_P : Params) : Obj := ⟨.type "tuple", none, .seq (List.toArray [.type "ValueError"]) 0, List.toArray []⟩
noncomputable def o29 (_P : Params) : Obj := ⟨.type "tuple", none, .seq (List.toArray []) 0, List.toArray []⟩
noncomputable def o30 (P : Params) : Obj := ⟨.type "dict", none, .dict (List.toArray [⟨PyData.keyHash P (Str.ofString "__module__"), .str (Str.ofString "__module__") 203, .str (Str.ofString "crcgate.errors") 194⟩, ⟨PyData.keyHash P (Str.ofString "__firstlineno__"), .str (Str.ofString "__firstlineno__") 207, .int 5 206⟩, ⟨PyData.keyHash P (Str.ofString "__static_attributes__"), .str (Str.ofString "__static_attributes__") 208, .ref 29⟩, ⟨PyData.keyHash P (Str.ofString "__weakref__"), .str (Str.ofString "__weakref__") 210, .ref 32⟩, ⟨PyData.keyHash P (Str.ofString "__doc__"), .str (Str.ofString "__doc__") 211, .none⟩]) 3, List.toArray []⟩
noncomputable def o31 (_P : Params) : Obj := ⟨.type "type", none, .cls ⟨Str.ofString "GateError", [.type "ValueError"], [.ref 31, .type "ValueError", .type "Exception", .type "BaseException", .type "object"], 30, Str.ofString "GateError", true, [], [.ref 44, .ref 56, .ref 68, .ref 80, .ref 92, .ref 104, .ref 116, .ref 128, .ref 140], false, none, false⟩, List.toArray [some (.ref 22), none, some (.str (Str.ofString "GateError") 196), some (.str (Str.ofString "GateError") 204), some (.builtin "ValueError.__new__"), some (.bool true)]⟩
noncomputable def o32 (_P : Params) : Obj := ⟨.type "getset_descriptor", none, .fields (List.toArray [.str (Str.ofString "__weakref__") 209, .ref 31, .builtin "ExceptionGroup.__weakref__", .none]), List.toArray []⟩
noncomputable def o35 (_P : Params) : Obj := ⟨.type "tuple", none, .seq (List.toArray [.ref 31]) 0, List.toArray []⟩
noncomputable def o42 (_P : Params) : Obj := ⟨.type "tuple", none, .seq (List.toArray []) 0, List.toArray []⟩
noncomputable def o43 (P : Params) : Obj := ⟨.type "dict", none, .dict (List.toArray [⟨PyData.keyHash P (Str.ofString "__module__"), .str (Str.ofString "__module__") 221, .str (Str.ofString "crcgate.errors") 194⟩, ⟨PyData.keyHash P (Str.ofString "__firstlineno__"), .str (Str.ofString "__firstlineno__") 225, .int 7 224⟩, ⟨PyData.keyHash P (Str.ofString "__static_attributes__"), .str (Str.ofString "__static_attributes__") 226, .ref 42⟩, ⟨PyData.keyHash P (Str.ofString "__doc__"), .str (Str.ofString "__doc__") 227, .none⟩]) 2, List.toArray []⟩
noncomputable def o44 (_P : Params) : Obj := ⟨.type "type", none, .cls ⟨Str.ofString "NoRow", [.ref 31], [.ref 44, .ref 31, .type "ValueError", .type "Exception", .type "BaseException", .type "object"], 43, Str.ofString "NoRow", true, [], [], false, none, false⟩, List.toArray [some (.ref 35), none, some (.str (Str.ofString "NoRow") 214), some (.str (Str.ofString "NoRow") 222), some (.builtin "ValueError.__new__"), some (.bool true)]⟩
noncomputable def o47 (_P : Params) : Obj := ⟨.type "tuple", none, .seq (List.toArray [.ref 31]) 0, List.toArray []⟩
noncomputable def o54 (_P : Params) : Obj := ⟨.type "tuple", none, .seq (List.toArray []) 0, List.toArray []⟩
noncomputable def o55 (P : Params) : Obj := ⟨.type "dict", none, .dict (List.toArray [⟨PyData.keyHash P (Str.ofString "__module__"), .str (Str.ofString "__module__") 237, .str (Str.ofString "crcgate.errors") 194⟩, ⟨PyData.keyHash P (Str.ofString "__firstlineno__"), .str (Str.ofString "__firstlineno__") 241, .int 9 240⟩, ⟨PyData.keyHash P (Str.ofString "__static_attributes__"), .str (Str.ofString "__static_attributes__") 242, .ref 54⟩, ⟨PyData.keyHash P (Str.ofString "__doc__"), .str (Str.ofString "__doc__") 243, .none⟩]) 2, List.toArray []⟩
noncomputable def o56 (_P : Params) : Obj := ⟨.type "type", none, .cls ⟨Str.ofString "NoSign", [.ref 31], [.ref 56, .ref 31, .type "ValueError", .type "Exception", .type "BaseException", .type "object"], 55, Str.ofString "NoSign", true, [], [], false, none, false⟩, List.toArray [some (.ref 47), none, some (.str (Str.ofString "NoSign") 230), some (.str (Str.ofString "NoSign") 238), some (.builtin "ValueError.__new__"), some (.bool true)]⟩
noncomputable def o59 (_P : Params) : Obj := ⟨.type "tuple", none, .seq (List.toArray [.ref 31]) 0, List.toArray []⟩
noncomputable def o66 (_P : Params) : Obj := ⟨.type "tuple", none, .seq (List.toArray []) 0, List.toArray []⟩
noncomputable def o67 (P : Params) : Obj := ⟨.type "dict", none, .dict (List.toArray [⟨PyData.keyHash P (Str.ofString "__module__"), .str (Str.ofString "__module__") 253, .str (Str.ofString "crcgate.errors") 194⟩, ⟨PyData.keyHash P (Str.ofString "__firstlineno__"), .str (Str.ofString "__firstlineno__") 257, .int 11 256⟩, ⟨PyData.keyHash P (Str.ofString "__static_attributes__"), .str (Str.ofString "__static_attributes__") 258, .ref 66⟩, ⟨PyData.keyHash P (Str.ofString "__doc__"), .str (Str.ofString "__doc__") 259, .none⟩]) 2, List.toArray []⟩
noncomputable def o68 (_P : Params) : Obj := ⟨.type "type", none, .cls ⟨Str.ofString "NoDivisor", [.ref 31], [.ref 68, .ref 31, .type "ValueError", .type "Exception", .type "BaseException", .type "object"], 67, Str.ofString "NoDivisor", true, [], [], false, none, false⟩, List.toArray [some (.ref 59), none, some (.str (Str.ofString "NoDivisor") 246), some (.str (Str.ofString "NoDivisor") 254), some (.builtin "ValueError.__new__"), some (.bool true)]⟩
noncomputable def o71 (_P : Params) : Obj := ⟨.type "tuple", none, .seq (List.toArray [.ref 31]) 0, List.toArray []⟩
noncomputable def o78 (_P : Params) : Obj := ⟨.type "tuple", none, .seq (List.toArray []) 0, List.toArray []⟩
noncomputable def o79 (P : Params) : Obj := ⟨.type "dict", none, .dict (List.toArray [⟨PyData.keyHash P (Str.ofString "__module__"), .str (Str.ofString "__module__") 269, .str (Str.ofString "crcgate.errors") 194⟩, ⟨PyData.keyHash P (Str.ofString "__firstlineno__"), .str (Str.ofString "__firstlineno__") 273, .int 13 272⟩, ⟨PyData.keyHash P (Str.ofString "__static_attributes__"), .str (Str.ofString "__static_attributes__") 274, .ref 78⟩, ⟨PyData.keyHash P (Str.ofString "__doc__"), .str (Str.ofString "__doc__") 275, .none⟩]) 2, List.toArray []⟩
noncomputable def o80 (_P : Params) : Obj := ⟨.type "type", none, .cls ⟨Str.ofString "NoCount", [.ref 31], [.ref 80, .ref 31, .type "ValueError", .type "Exception", .type "BaseException", .type "object"], 79, Str.ofString "NoCount", true, [], [], false, none, false⟩, List.toArray [some (.ref 71), none, some (.str (Str.ofString "NoCount") 262), some (.str (Str.ofString "NoCount") 270), some (.builtin "ValueError.__new__"), some (.bool true)]⟩
noncomputable def o83 (_P : Params) : Obj := ⟨.type "tuple", none, .seq (List.toArray [.ref 31]) 0, List.toArray []⟩
noncomputable def o90 (_P : Params) : Obj := ⟨.type "tuple", none, .seq (List.toArray []) 0, List.toArray []⟩
noncomputable def o91 (P : Params) : Obj := ⟨.type "dict", none, .dict (List.toArray [⟨PyData.keyHash P (Str.ofString "__module__"), .str (Str.ofString "__module__") 285, .str (Str.ofString "crcgate.errors") 194⟩, ⟨PyData.keyHash P (Str.ofString "__firstlineno__"), .str (Str.ofString "__firstlineno__") 289, .int 15 288⟩, ⟨PyData.keyHash P (Str.ofString "__static_attributes__"), .str (Str.ofString "__static_attributes__") 290, .ref 90⟩, ⟨PyData.keyHash P (Str.ofString "__doc__"), .str (Str.ofString "__doc__") 291, .none⟩]) 2, List.toArray []⟩
noncomputable def o92 (_P : Params) : Obj := ⟨.type "type", none, .cls ⟨Str.ofString "TooLong", [.ref 31], [.ref 92, .ref 31, .type "ValueError", .type "Exception", .type "BaseException", .type "object"], 91, Str.ofString "TooLong", true, [], [], false, none, false⟩, List.toArray [some (.ref 83), none, some (.str (Str.ofString "TooLong") 278), some (.str (Str.ofString "TooLong") 286), some (.builtin "ValueError.__new__"), some (.bool true)]⟩
noncomputable def o95 (_P : Params) : Obj := ⟨.type "tuple", none, .seq (List.toArray [.ref 31]) 0, List.toArray []⟩
noncomputable def o102 (_P : Params) : Obj := ⟨.type "tuple", none, .seq (List.toArray []) 0, List.toArray []⟩
noncomputable def o103 (P : Params) : Obj := ⟨.type "dict", none, .dict (List.toArray [⟨PyData.keyHash P (Str.ofString "__module__"), .str (Str.ofString "__module__") 301, .str (Str.ofString "crcgate.errors") 194⟩, ⟨PyData.keyHash P (Str.ofString "__firstlineno__"), .str (Str.ofString "__firstlineno__") 305, .int 17 304⟩, ⟨PyData.keyHash P (Str.ofString "__static_attributes__"), .str (Str.ofString "__static_attributes__") 306, .ref 102⟩, ⟨PyData.keyHash P (Str.ofString "__doc__"), .str (Str.ofString "__doc__") 307, .none⟩]) 2, List.toArray []⟩
noncomputable def o104 (_P : Params) : Obj := ⟨.type "type", none, .cls ⟨Str.ofString "TooShort", [.ref 31], [.ref 104, .ref 31, .type "ValueError", .type "Exception", .type "BaseException", .type "object"], 103, Str.ofString "TooShort", true, [], [], false, none, false⟩, List.toArray [some (.ref 95), none, some (.str (Str.ofString "TooShort") 294), some (.str (Str.ofString "TooShort") 302), some (.builtin "ValueError.__new__"), some (.bool true)]⟩
noncomputable def o107 (_P : Params) : Obj := ⟨.type "tuple", none, .seq (List.toArray [.ref 31]) 0, List.toArray []⟩
noncomputable def o114 (_P : Params) : Obj := ⟨.type "tuple", none, .seq (List.toArray []) 0, List.toArray []⟩
noncomputable def o115 (P : Params) : Obj := ⟨.type "dict", none, .dict (List.toArray [⟨PyData.keyHash P (Str.ofString "__module__"), .str (Str.ofString "__module__") 317, .str (Str.ofString "crcgate.errors") 194⟩, ⟨PyData.keyHash P (Str.ofString "__firstlineno__"), .str (Str.ofString "__firstlineno__") 321, .int 19 320⟩, ⟨PyData.keyHash P (Str.ofString "__static_attributes__"), .str (Str.ofString "__static_attributes__") 322, .ref 114⟩, ⟨PyData.keyHash P (Str.ofString "__doc__"), .str (Str.ofString "__doc__") 323, .none⟩]) 2, List.toArray []⟩
noncomputable def o116 (_P : Params) : Obj := ⟨.type "type", none, .cls ⟨Str.ofString "Broken", [.ref 31], [.ref 116, .ref 31, .type "ValueError", .type "Exception", .type "BaseException", .type "object"], 115, Str.ofString "Broken", true, [], [], false, none, false⟩, List.toArray [some (.ref 107), none, some (.str (Str.ofString "Broken") 310), some (.str (Str.ofString "Broken") 318), some (.builtin "ValueError.__new__"), some (.bool true)]⟩
noncomputable def o119 (_P : Params) : Obj := ⟨.type "tuple", none, .seq (List.toArray [.ref 31]) 0, List.toArray []⟩
noncomputable def o126 (_P : Params) : Obj := ⟨.type "tuple", none, .seq (List.toArray []) 0, List.toArray []⟩
noncomputable def o127 (P : Params) : Obj := ⟨.type "dict", none, .dict (List.toArray [⟨PyData.keyHash P (Str.ofString "__module__"), .str (Str.ofString "__module__") 333, .str (Str.ofString "crcgate.errors") 194⟩, ⟨PyData.keyHash P (Str.ofString "__firstlineno__"), .str (Str.ofString "__firstlineno__") 337, .int 21 336⟩, ⟨PyData.keyHash P (Str.ofString "__static_attributes__"), .str (Str.ofString "__static_attributes__") 338, .ref 126⟩, ⟨PyData.keyHash P (Str.ofString "__doc__"), .str (Str.ofString "__doc__") 339, .none⟩]) 2, List.toArray []⟩
noncomputable def o128 (_P : Params) : Obj := ⟨.type "type", none, .cls ⟨Str.ofString "NoMate", [.ref 31], [.ref 128, .ref 31, .type "ValueError", .type "Exception", .type "BaseException", .type "object"], 127, Str.ofString "NoMate", true, [], [], false, none, false⟩, List.toArray [some (.ref 119), none, some (.str (Str.ofString "NoMate") 326), some (.str (Str.ofString "NoMate") 334), some (.builtin "ValueError.__new__"), some (.bool true)]⟩
noncomputable def o131 (_P : Params) : Obj := ⟨.type "tuple", none, .seq (List.toArray [.ref 31]) 0, List.toArray []⟩
noncomputable def o138 (_P : Params) : Obj := ⟨.type "tuple", none, .seq (List.toArray []) 0, List.toArray []⟩
noncomputable def o139 (P : Params) : Obj := ⟨.type "dict", none, .dict (List.toArray [⟨PyData.keyHash P (Str.ofString "__module__"), .str (Str.ofString "__module__") 349, .str (Str.ofString "crcgate.errors") 194⟩, ⟨PyData.keyHash P (Str.ofString "__firstlineno__"), .str (Str.ofString "__firstlineno__") 353, .int 23 352⟩, ⟨PyData.keyHash P (Str.ofString "__static_attributes__"), .str (Str.ofString "__static_attributes__") 354, .ref 138⟩, ⟨PyData.keyHash P (Str.ofString "__doc__"), .str (Str.ofString "__doc__") 355, .none⟩]) 2, List.toArray []⟩
noncomputable def o140 (_P : Params) : Obj := ⟨.type "type", none, .cls ⟨Str.ofString "NoText", [.ref 31], [.ref 140, .ref 31, .type "ValueError", .type "Exception", .type "BaseException", .type "object"], 139, Str.ofString "NoText", true, [], [], false, none, false⟩, List.toArray [some (.ref 131), none, some (.str (Str.ofString "NoText") 342), some (.str (Str.ofString "NoText") 350), some (.builtin "ValueError.__new__"), some (.bool true)]⟩
noncomputable def o143 (_P : Params) : Obj := ⟨.type "tuple", none, .seq (List.toArray []) 0, List.toArray []⟩
noncomputable def o145 (_P : Params) : Obj := ⟨.type "tuple", none, .seq (List.toArray [.str (Str.ofString "sign") 363]) 0, List.toArray []⟩
noncomputable def o146 (_P : Params) : Obj := ⟨.type "tuple", none, .seq (List.toArray []) 0, List.toArray []⟩
noncomputable def o148 (_P : Params) : Obj := ⟨.type "code", none, .fields (List.toArray [.str (Str.ofString "is_sign") 360, .str (Str.ofString "is_sign") 361, .str (Str.ofString "/claim/cut.py") 362, .int 26 0, .int 1 0, .int 0 0, .int 0 0, .int 3 0, .ref 143, .bool true, .int 181 0, .ref 144, .none, .ref 145, .ref 146, .ref 147, .int 364 0, .int 26 0, .str (Str.ofString "/claim/cut.py") 365]), List.toArray []⟩
noncomputable def o149 (_P : Params) : Obj := (fun (p : Arguments) (b : List Stmt) (s : Scope) (_ : (p, b, s) = fnP (nthS pW.main.body 13)) => (⟨.type "function", none, .func ⟨Str.ofString "is_sign", Str.ofString "is_sign", p, .stmts b, s, 3, [], .none, .none, .none, .str (Str.ofString "crcgate.rows") 358, none, .ref 148, .none, 0⟩, List.toArray []⟩ : Obj)) _ _ _ rfl
noncomputable def o150 (_P : Params) : Obj := ⟨.type "tuple", none, .seq (List.toArray []) 0, List.toArray []⟩
noncomputable def o152 (_P : Params) : Obj := ⟨.type "tuple", none, .seq (List.toArray [.str (Str.ofString "row") 370, .str (Str.ofString "sign") 371]) 0, List.toArray []⟩
noncomputable def o153 (_P : Params) : Obj := ⟨.type "tuple", none, .seq (List.toArray []) 0, List.toArray []⟩
noncomputable def o155 (_P : Params) : Obj := ⟨.type "code", none, .fields (List.toArray [.str (Str.ofString "need_row") 367, .str (Str.ofString "need_row") 368, .str (Str.ofString "/claim/cut.py") 369, .int 28 0, .int 1 0, .int 0 0, .int 0 0, .int 3 0, .ref 150, .bool true, .int 181 0, .ref 151, .none, .ref 152, .ref 153, .ref 154, .int 372 0, .int 28 0, .str (Str.ofString "/claim/cut.py") 373]), List.toArray []⟩
noncomputable def o156 (_P : Params) : Obj := (fun (p : Arguments) (b : List Stmt) (s : Scope) (_ : (p, b, s) = fnP (nthS pW.main.body 14)) => (⟨.type "function", none, .func ⟨Str.ofString "need_row", Str.ofString "need_row", p, .stmts b, s, 3, [], .none, .none, .none, .str (Str.ofString "crcgate.rows") 358, none, .ref 155, .none, 0⟩, List.toArray []⟩ : Obj)) _ _ _ rfl
noncomputable def o157 (_P : Params) : Obj := ⟨.type "tuple", none, .seq (List.toArray []) 0, List.toArray []⟩
noncomputable def o159 (_P : Params) : Obj := ⟨.type "tuple", none, .seq (List.toArray [.str (Str.ofString "row") 378, .str (Str.ofString "found") 379, .str (Str.ofString "sign") 380]) 0, List.toArray []⟩
noncomputable def o160 (_P : Params) : Obj := ⟨.type "tuple", none, .seq (List.toArray []) 0, List.toArray []⟩
noncomputable def o162 (_P : Params) : Obj := ⟨.type "code", none, .fields (List.toArray [.str (Str.ofString "value_of") 375, .str (Str.ofString "value_of") 376, .str (Str.ofString "/claim/cut.py") 377, .int 34 0, .int 1 0, .int 0 0, .int 0 0, .int 3 0, .ref 157, .bool true, .int 181 0, .ref 158, .none, .ref 159, .ref 160, .ref 161, .int 381 0, .int 34 0, .str (Str.ofString "/claim/cut.py") 382]), List.toArray []⟩
noncomputable def o163 (_P : Params) : Obj := (fun (p : Arguments) (b : List Stmt) (s : Scope) (_ : (p, b, s) = fnP (nthS pW.main.body 15)) => (⟨.type "function", none, .func ⟨Str.ofString "value_of", Str.ofString "value_of", p, .stmts b, s, 3, [], .none, .none, .none, .str (Str.ofString "crcgate.rows") 358, none, .ref 162, .none, 0⟩, List.toArray []⟩ : Obj)) _ _ _ rfl
noncomputable def o164 (_P : Params) : Obj := ⟨.type "tuple", none, .seq (List.toArray []) 0, List.toArray []⟩
noncomputable def o166 (_P : Params) : Obj := ⟨.type "tuple", none, .seq (List.toArray [.str (Str.ofString "value") 387, .str (Str.ofString "many") 388, .str (Str.ofString "found") 389, .str (Str.ofString "turn") 390]) 0, List.toArray []⟩
noncomputable def o167 (_P : Params) : Obj := ⟨.type "tuple", none, .seq (List.toArray []) 0, List.toArray []⟩
noncomputable def o169 (_P : Params) : Obj := ⟨.type "code", none, .fields (List.toArray [.str (Str.ofString "signs_of") 384, .str (Str.ofString "signs_of") 385, .str (Str.ofString "/claim/cut.py") 386, .int 39 0, .int 2 0, .int 0 0, .int 0 0, .int 3 0, .ref 164, .bool true, .int 181 0, .ref 165, .none, .ref 166, .ref 167, .ref 168, .int 391 0, .int 39 0, .str (Str.ofString "/claim/cut.py") 392]), List.toArray []⟩
noncomputable def o170 (_P : Params) : Obj := (fun (p : Arguments) (b : List Stmt) (s : Scope) (_ : (p, b, s) = fnP (nthS pW.main.body 16)) => (⟨.type "function", none, .func ⟨Str.ofString "signs_of", Str.ofString "signs_of", p, .stmts b, s, 3, [], .none, .none, .none, .str (Str.ofString "crcgate.rows") 358, none, .ref 169, .none, 0⟩, List.toArray []⟩ : Obj)) _ _ _ rfl
noncomputable def o171 (_P : Params) : Obj := ⟨.type "tuple", none, .seq (List.toArray []) 0, List.toArray []⟩
noncomputable def o174 (_P : Params) : Obj := ⟨.type "code", none, .fields (List.toArray [.str (Str.ofString "added") 394, .str (Str.ofString "added") 395, .str (Str.ofString "/claim/cut.py") 396, .int 45 0, .int 2 0, .int 0 0, .int 0 0, .int 3 0, .ref 171, .bool true, .int 181 0, .ref 172, .none, .none, .none, .ref 173, .int 397 0, .int 45 0, .str (Str.ofString "/claim/cut.py") 398]), List.toArray []⟩
noncomputable def o175 (_P : Params) : Obj := (fun (p : Arguments) (b : List Stmt) (s : Scope) (_ : (p, b, s) = fnP (nthS pW.main.body 17)) => (⟨.type "function", none, .func ⟨Str.ofString "added", Str.ofString "added", p, .stmts b, s, 3, [], .none, .none, .none, .str (Str.ofString "crcgate.rows") 358, none, .ref 174, .none, 0⟩, List.toArray []⟩ : Obj)) _ _ _ rfl
noncomputable def o176 (_P : Params) : Obj := ⟨.type "tuple", none, .seq (List.toArray []) 0, List.toArray []⟩
noncomputable def o178 (_P : Params) : Obj := ⟨.type "tuple", none, .seq (List.toArray [.str (Str.ofString "one") 403, .str (Str.ofString "other") 404, .str (Str.ofString "found") 405, .str (Str.ofString "place") 406, .str (Str.ofString "sign") 407, .str (Str.ofString "beside") 408, .str (Str.ofString "more") 409]) 0, List.toArray []⟩
noncomputable def o179 (_P : Params) : Obj := ⟨.type "tuple", none, .seq (List.toArray []) 0, List.toArray []⟩
noncomputable def o181 (_P : Params) : Obj := ⟨.type "code", none, .fields (List.toArray [.str (Str.ofString "times") 400, .str (Str.ofString "times") 401, .str (Str.ofString "/claim/cut.py") 402, .int 52 0, .int 2 0, .int 0 0, .int 0 0, .int 3 0, .ref 176, .bool true, .int 181 0, .ref 177, .none, .ref 178, .ref 179, .ref 180, .int 410 0, .int 52 0, .str (Str.ofString "/claim/cut.py") 411]), List.toArray []⟩
noncomputable def o182 (_P : Params) : Obj := (fun (p : Arguments) (b : List Stmt) (s : Scope) (_ : (p, b, s) = fnP (nthS pW.main.body 18)) => (⟨.type "function", none, .func ⟨Str.ofString "times", Str.ofString "times", p, .stmts b, s, 3, [], .none, .none, .none, .str (Str.ofString "crcgate.rows") 358, none, .ref 181, .none, 0⟩, List.toArray []⟩ : Obj)) _ _ _ rfl
noncomputable def o183 (_P : Params) : Obj := ⟨.type "tuple", none, .seq (List.toArray []) 0, List.toArray []⟩
noncomputable def o185 (_P : Params) : Obj := ⟨.type "tuple", none, .seq (List.toArray [.str (Str.ofString "row") 416, .str (Str.ofString "divisor") 417, .str (Str.ofString "width") 418, .str (Str.ofString "left") 419, .str (Str.ofString "quotient") 420, .str (Str.ofString "place") 421, .str (Str.ofString "sign") 422, .str (Str.ofString "beside") 423, .str (Str.ofString "more") 424]) 0, List.toArray []⟩
noncomputable def o186 (_P : Params) : Obj := ⟨.type "tuple", none, .seq (List.toArray []) 0, List.toArray []⟩
noncomputable def o188 (_P : Params) : Obj := ⟨.type "code", none, .fields (List.toArray [.str (Str.ofString "parted") 413, .str (Str.ofString "parted") 414, .str (Str.ofString "/claim/cut.py") 415, .int 63 0, .int 2 0, .int 0 0, .int 0 0, .int 3 0, .ref 183, .bool true, .int 181 0, .ref 184, .none, .ref 185, .ref 186, .ref 187, .int 425 0, .int 63 0, .str (Str.ofString "/claim/cut.py") 426]), List.toArray []⟩
noncomputable def o189 (_P : Params) : Obj := (fun (p : Arguments) (b : List Stmt) (s : Scope) (_ : (p, b, s) = fnP (nthS pW.main.body 19)) => (⟨.type "function", none, .func ⟨Str.ofString "parted", Str.ofString "parted", p, .stmts b, s, 3, [], .none, .none, .none, .str (Str.ofString "crcgate.rows") 358, none, .ref 188, .none, 0⟩, List.toArray []⟩ : Obj)) _ _ _ rfl
noncomputable def o190 (_P : Params) : Obj := ⟨.type "tuple", none, .seq (List.toArray []) 0, List.toArray []⟩
noncomputable def o192 (_P : Params) : Obj := ⟨.type "tuple", none, .seq (List.toArray [.str (Str.ofString "divisor") 437]) 0, List.toArray []⟩
noncomputable def o193 (_P : Params) : Obj := ⟨.type "tuple", none, .seq (List.toArray []) 0, List.toArray []⟩
noncomputable def o195 (_P : Params) : Obj := ⟨.type "code", none, .fields (List.toArray [.str (Str.ofString "need_divisor") 434, .str (Str.ofString "need_divisor") 435, .str (Str.ofString "/claim/cut.py") 436, .int 81 0, .int 1 0, .int 0 0, .int 0 0, .int 3 0, .ref 190, .bool true, .int 181 0, .ref 191, .none, .ref 192, .ref 193, .ref 194, .int 438 0, .int 81 0, .str (Str.ofString "/claim/cut.py") 439]), List.toArray []⟩
noncomputable def o196 (_P : Params) : Obj := (fun (p : Arguments) (b : List Stmt) (s : Scope) (_ : (p, b, s) = fnP (nthS pW.main.body 23)) => (⟨.type "function", none, .func ⟨Str.ofString "need_divisor", Str.ofString "need_divisor", p, .stmts b, s, 3, [], .none, .none, .none, .str (Str.ofString "crcgate.reaches") 428, none, .ref 195, .none, 0⟩, List.toArray []⟩ : Obj)) _ _ _ rfl
noncomputable def o197 (_P : Params) : Obj := ⟨.type "tuple", none, .seq (List.toArray []) 0, List.toArray []⟩
noncomputable def o199 (_P : Params) : Obj := ⟨.type "tuple", none, .seq (List.toArray [.str (Str.ofString "value") 444, .str (Str.ofString "divisor") 445, .str (Str.ofString "width") 446]) 0, List.toArray []⟩
noncomputable def o200 (_P : Params) : Obj := ⟨.type "tuple", none, .seq (List.toArray []) 0, List.toArray []⟩
noncomputable def o202 (_P : Params) : Obj := ⟨.type "code", none, .fields (List.toArray [.str (Str.ofString "onward") 441, .str (Str.ofString "onward") 442, .str (Str.ofString "/claim/cut.py") 443, .int 87 0, .int 3 0, .int 0 0, .int 0 0, .int 3 0, .ref 197, .bool true, .int 181 0, .ref 198, .none, .ref 199, .ref 200, .ref 201, .int 447 0, .int 87 0, .str (Str.ofString "/claim/cut.py") 448]), List.toArray []⟩
noncomputable def o203 (_P : Params) : Obj := (fun (p : Arguments) (b : List Stmt) (s : Scope) (_ : (p, b, s) = fnP (nthS pW.main.body 24)) => (⟨.type "function", none, .func ⟨Str.ofString "onward", Str.ofString "onward", p, .stmts b, s, 3, [], .none, .none, .none, .str (Str.ofString "crcgate.reaches") 428, none, .ref 202, .none, 0⟩, List.toArray []⟩ : Obj)) _ _ _ rfl
noncomputable def o204 (_P : Params) : Obj := ⟨.type "tuple", none, .seq (List.toArray []) 0, List.toArray []⟩
noncomputable def o206 (_P : Params) : Obj := ⟨.type "tuple", none, .seq (List.toArray [.str (Str.ofString "divisor") 453, .str (Str.ofString "number") 454, .str (Str.ofString "width") 455, .str (Str.ofString "value") 456, .str (Str.ofString "found") 457]) 0, List.toArray []⟩
noncomputable def o207 (_P : Params) : Obj := ⟨.type "tuple", none, .seq (List.toArray []) 0, List.toArray []⟩
noncomputable def o209 (_P : Params) : Obj := ⟨.type "code", none, .fields (List.toArray [.str (Str.ofString "reach") 450, .str (Str.ofString "reach") 451, .str (Str.ofString "/claim/cut.py") 452, .int 92 0, .int 1 0, .int 0 0, .int 0 0, .int 3 0, .ref 204, .bool true, .int 181 0, .ref 205, .none, .ref 206, .ref 207, .ref 208, .int 458 0, .int 92 0, .str (Str.ofString "/claim/cut.py") 459]), List.toArray []⟩
noncomputable def o210 (_P : Params) : Obj := (fun (p : Arguments) (b : List Stmt) (s : Scope) (_ : (p, b, s) = fnP (nthS pW.main.body 25)) => (⟨.type "function", none, .func ⟨Str.ofString "reach", Str.ofString "reach", p, .stmts b, s, 3, [], .none, .none, .none, .str (Str.ofString "crcgate.reaches") 428, none, .ref 209, .none, 0⟩, List.toArray []⟩ : Obj)) _ _ _ rfl
noncomputable def o218 (_P : Params) : Obj := ⟨.type "tuple", none, .seq (List.toArray []) 0, List.toArray []⟩
noncomputable def o220 (_P : Params) : Obj := ⟨.type "tuple", none, .seq (List.toArray [.str (Str.ofString "self") 482, .str (Str.ofString "divisor") 483]) 0, List.toArray []⟩
noncomputable def o221 (_P : Params) : Obj := ⟨.type "tuple", none, .seq (List.toArray []) 0, List.toArray []⟩
noncomputable def o223 (_P : Params) : Obj := ⟨.type "code", none, .fields (List.toArray [.str (Str.ofString "__init__") 479, .str (Str.ofString "Gate.__init__") 480, .str (Str.ofString "/claim/cut.py") 481, .int 106 0, .int 2 0, .int 0 0, .int 0 0, .int 3 0, .ref 218, .bool true, .int 181 0, .ref 219, .none, .ref 220, .ref 221, .ref 222, .int 484 0, .int 106 0, .str (Str.ofString "/claim/cut.py") 485]), List.toArray []⟩
noncomputable def o224 (_P : Params) : Obj := (fun (p : Arguments) (b : List Stmt) (s : Scope) (_ : (p, b, s) = fnP (inC (nthS pW.main.body 28) 0)) => (⟨.type "function", none, .func ⟨Str.ofString "__init__", Str.ofString "Gate.__init__", p, .stmts b, s, 3, [], .none, .none, .none, .str (Str.ofString "crcgate.gates") 461, none, .ref 223, .none, 0⟩, List.toArray []⟩ : Obj)) _ _ _ rfl
noncomputable def o225 (_P : Params) : Obj := ⟨.type "tuple", none, .seq (List.toArray []) 0, List.toArray []⟩
noncomputable def o227 (_P : Params) : Obj := ⟨.type "tuple", none, .seq (List.toArray [.str (Str.ofString "self") 490, .str (Str.ofString "row") 491]) 0, List.toArray []⟩
noncomputable def o228 (_P : Params) : Obj := ⟨.type "tuple", none, .seq (List.toArray []) 0, List.toArray []⟩
noncomputable def o230 (_P : Params) : Obj := ⟨.type "code", none, .fields (List.toArray [.str (Str.ofString "rest") 487, .str (Str.ofString "Gate.rest") 488, .str (Str.ofString "/claim/cut.py") 489, .int 112 0, .int 2 0, .int 0 0, .int 0 0, .int 3 0, .ref 225, .bool true, .int 181 0, .ref 226, .none, .ref 227, .ref 228, .ref 229, .int 492 0, .int 112 0, .str (Str.ofString "/claim/cut.py") 493]), List.toArray []⟩
noncomputable def o231 (_P : Params) : Obj := (fun (p : Arguments) (b : List Stmt) (s : Scope) (_ : (p, b, s) = fnP (inC (nthS pW.main.body 28) 1)) => (⟨.type "function", none, .func ⟨Str.ofString "rest", Str.ofString "Gate.rest", p, .stmts b, s, 3, [], .none, .none, .none, .str (Str.ofString "crcgate.gates") 461, none, .ref 230, .none, 0⟩, List.toArray []⟩ : Obj)) _ _ _ rfl
noncomputable def o232 (_P : Params) : Obj := ⟨.type "tuple", none, .seq (List.toArray []) 0, List.toArray []⟩
noncomputable def o234 (_P : Params) : Obj := ⟨.type "tuple", none, .seq (List.toArray [.str (Str.ofString "self") 498, .str (Str.ofString "rest") 499, .str (Str.ofString "many") 500, .str (Str.ofString "value") 501, .str (Str.ofString "number") 502, .str (Str.ofString "turn") 503]) 0, List.toArray []⟩
noncomputable def o235 (_P : Params) : Obj := ⟨.type "tuple", none, .seq (List.toArray []) 0, List.toArray []⟩
noncomputable def o237 (_P : Params) : Obj := ⟨.type "code", none, .fields (List.toArray [.str (Str.ofString "later") 495, .str (Str.ofString "Gate.later") 496, .str (Str.ofString "/claim/cut.py") 497, .int 115 0, .int 3 0, .int 0 0, .int 0 0, .int 3 0, .ref 232, .bool true, .int 181 0, .ref 233, .none, .ref 234, .ref 235, .ref 236, .int 504 0, .int 115 0, .str (Str.ofString "/claim/cut.py") 505]), List.toArray []⟩
noncomputable def o238 (_P : Params) : Obj := (fun (p : Arguments) (b : List Stmt) (s : Scope) (_ : (p, b, s) = fnP (inC (nthS pW.main.body 28) 2)) => (⟨.type "function", none, .func ⟨Str.ofString "later", Str.ofString "Gate.later", p, .stmts b, s, 3, [], .none, .none, .none, .str (Str.ofString "crcgate.gates") 461, none, .ref 237, .none, 0⟩, List.toArray []⟩ : Obj)) _ _ _ rfl
noncomputable def o239 (_P : Params) : Obj := ⟨.type "tuple", none, .seq (List.toArray []) 0, List.toArray []⟩
noncomputable def o241 (_P : Params) : Obj := ⟨.type "tuple", none, .seq (List.toArray [.str (Str.ofString "self") 510, .str (Str.ofString "row") 511]) 0, List.toArray []⟩
noncomputable def o242 (_P : Params) : Obj := ⟨.type "tuple", none, .seq (List.toArray []) 0, List.toArray []⟩
noncomputable def o244 (_P : Params) : Obj := ⟨.type "code", none, .fields (List.toArray [.str (Str.ofString "check") 507, .str (Str.ofString "Gate.check") 508, .str (Str.ofString "/claim/cut.py") 509, .int 127 0, .int 2 0, .int 0 0, .int 0 0, .int 3 0, .ref 239, .bool true, .int 181 0, .ref 240, .none, .ref 241, .ref 242, .ref 243, .int 512 0, .int 127 0, .str (Str.ofString "/claim/cut.py") 513]), List.toArray []⟩
noncomputable def o245 (_P : Params) : Obj := (fun (p : Arguments) (b : List Stmt) (s : Scope) (_ : (p, b, s) = fnP (inC (nthS pW.main.body 28) 3)) => (⟨.type "function", none, .func ⟨Str.ofString "check", Str.ofString "Gate.check", p, .stmts b, s, 3, [], .none, .none, .none, .str (Str.ofString "crcgate.gates") 461, none, .ref 244, .none, 0⟩, List.toArray []⟩ : Obj)) _ _ _ rfl
noncomputable def o246 (_P : Params) : Obj := ⟨.type "tuple", none, .seq (List.toArray []) 0, List.toArray []⟩
noncomputable def o248 (_P : Params) : Obj := ⟨.type "tuple", none, .seq (List.toArray [.str (Str.ofString "self") 518, .str (Str.ofString "row") 519]) 0, List.toArray []⟩
noncomputable def o249 (_P : Params) : Obj := ⟨.type "tuple", none, .seq (List.toArray []) 0, List.toArray []⟩
noncomputable def o251 (_P : Params) : Obj := ⟨.type "code", none, .fields (List.toArray [.str (Str.ofString "sealed") 515, .str (Str.ofString "Gate.sealed") 516, .str (Str.ofString "/claim/cut.py") 517, .int 130 0, .int 2 0, .int 0 0, .int 0 0, .int 3 0, .ref 246, .bool true, .int 181 0, .ref 247, .none, .ref 248, .ref 249, .ref 250, .int 520 0, .int 130 0, .str (Str.ofString "/claim/cut.py") 521]), List.toArray []⟩
noncomputable def o252 (_P : Params) : Obj := (fun (p : Arguments) (b : List Stmt) (s : Scope) (_ : (p, b, s) = fnP (inC (nthS pW.main.body 28) 4)) => (⟨.type "function", none, .func ⟨Str.ofString "sealed", Str.ofString "Gate.sealed", p, .stmts b, s, 3, [], .none, .none, .none, .str (Str.ofString "crcgate.gates") 461, none, .ref 251, .none, 0⟩, List.toArray []⟩ : Obj)) _ _ _ rfl
noncomputable def o253 (_P : Params) : Obj := ⟨.type "tuple", none, .seq (List.toArray []) 0, List.toArray []⟩
noncomputable def o255 (_P : Params) : Obj := ⟨.type "tuple", none, .seq (List.toArray [.str (Str.ofString "self") 526, .str (Str.ofString "row") 527]) 0, List.toArray []⟩
noncomputable def o256 (_P : Params) : Obj := ⟨.type "tuple", none, .seq (List.toArray []) 0, List.toArray []⟩
noncomputable def o258 (_P : Params) : Obj := ⟨.type "code", none, .fields (List.toArray [.str (Str.ofString "holds") 523, .str (Str.ofString "Gate.holds") 524, .str (Str.ofString "/claim/cut.py") 525, .int 136 0, .int 2 0, .int 0 0, .int 0 0, .int 3 0, .ref 253, .bool true, .int 181 0, .ref 254, .none, .ref 255, .ref 256, .ref 257, .int 528 0, .int 136 0, .str (Str.ofString "/claim/cut.py") 529]), List.toArray []⟩
noncomputable def o259 (_P : Params) : Obj := (fun (p : Arguments) (b : List Stmt) (s : Scope) (_ : (p, b, s) = fnP (inC (nthS pW.main.body 28) 5)) => (⟨.type "function", none, .func ⟨Str.ofString "holds", Str.ofString "Gate.holds", p, .stmts b, s, 3, [], .none, .none, .none, .str (Str.ofString "crcgate.gates") 461, none, .ref 258, .none, 0⟩, List.toArray []⟩ : Obj)) _ _ _ rfl
noncomputable def o260 (_P : Params) : Obj := ⟨.type "tuple", none, .seq (List.toArray []) 0, List.toArray []⟩
noncomputable def o262 (_P : Params) : Obj := ⟨.type "tuple", none, .seq (List.toArray [.str (Str.ofString "self") 534, .str (Str.ofString "row") 535]) 0, List.toArray []⟩
noncomputable def o263 (_P : Params) : Obj := ⟨.type "tuple", none, .seq (List.toArray []) 0, List.toArray []⟩
noncomputable def o265 (_P : Params) : Obj := ⟨.type "code", none, .fields (List.toArray [.str (Str.ofString "opened") 531, .str (Str.ofString "Gate.opened") 532, .str (Str.ofString "/claim/cut.py") 533, .int 144 0, .int 2 0, .int 0 0, .int 0 0, .int 3 0, .ref 260, .bool true, .int 181 0, .ref 261, .none, .ref 262, .ref 263, .ref 264, .int 536 0, .int 144 0, .str (Str.ofString "/claim/cut.py") 537]), List.toArray []⟩
noncomputable def o266 (_P : Params) : Obj := (fun (p : Arguments) (b : List Stmt) (s : Scope) (_ : (p, b, s) = fnP (inC (nthS pW.main.body 28) 6)) => (⟨.type "function", none, .func ⟨Str.ofString "opened", Str.ofString "Gate.opened", p, .stmts b, s, 3, [], .none, .none, .none, .str (Str.ofString "crcgate.gates") 461, none, .ref 265, .none, 0⟩, List.toArray []⟩ : Obj)) _ _ _ rfl
noncomputable def o267 (_P : Params) : Obj := ⟨.type "tuple", none, .seq (List.toArray []) 0, List.toArray []⟩
noncomputable def o269 (_P : Params) : Obj := ⟨.type "tuple", none, .seq (List.toArray [.str (Str.ofString "self") 542, .str (Str.ofString "row") 543, .str (Str.ofString "due") 544, .str (Str.ofString "number") 545, .str (Str.ofString "value") 546, .str (Str.ofString "power") 547, .str (Str.ofString "place") 548]) 0, List.toArray []⟩
noncomputable def o270 (_P : Params) : Obj := ⟨.type "tuple", none, .seq (List.toArray []) 0, List.toArray []⟩
noncomputable def o272 (_P : Params) : Obj := ⟨.type "code", none, .fields (List.toArray [.str (Str.ofString "mended") 539, .str (Str.ofString "Gate.mended") 540, .str (Str.ofString "/claim/cut.py") 541, .int 149 0, .int 2 0, .int 0 0, .int 0 0, .int 3 0, .ref 267, .bool true, .int 181 0, .ref 268, .none, .ref 269, .ref 270, .ref 271, .int 549 0, .int 149 0, .str (Str.ofString "/claim/cut.py") 550]), List.toArray []⟩
noncomputable def o273 (_P : Params) : Obj := (fun (p : Arguments) (b : List Stmt) (s : Scope) (_ : (p, b, s) = fnP (inC (nthS pW.main.body 28) 7)) => (⟨.type "function", none, .func ⟨Str.ofString "mended", Str.ofString "Gate.mended", p, .stmts b, s, 3, [], .none, .none, .none, .str (Str.ofString "crcgate.gates") 461, none, .ref 272, .none, 0⟩, List.toArray []⟩ : Obj)) _ _ _ rfl
noncomputable def o274 (_P : Params) : Obj := ⟨.type "tuple", none, .seq (List.toArray [.str (Str.ofString "divisor") 552, .str (Str.ofString "even") 553, .str (Str.ofString "reach") 554, .str (Str.ofString "width") 555]) 0, List.toArray []⟩
noncomputable def o275 (P : Params) : Obj := ⟨.type "dict", none, .dict (List.toArray [⟨PyData.keyHash P (Str.ofString "__module__"), .str (Str.ofString "__module__") 474, .str (Str.ofString "crcgate.gates") 461⟩, ⟨PyData.keyHash P (Str.ofString "__firstlineno__"), .str (Str.ofString "__firstlineno__") 478, .int 104 477⟩, ⟨PyData.keyHash P (Str.ofString "__init__"), .str (Str.ofString "__init__") 486, .ref 224⟩, ⟨PyData.keyHash P (Str.ofString "rest"), .str (Str.ofString "rest") 494, .ref 231⟩, ⟨PyData.keyHash P (Str.ofString "later"), .str (Str.ofString "later") 506, .ref 238⟩, ⟨PyData.keyHash P (Str.ofString "check"), .str (Str.ofString "check") 514, .ref 245⟩, ⟨PyData.keyHash P (Str.ofString "sealed"), .str (Str.ofString "sealed") 522, .ref 252⟩, ⟨PyData.keyHash P (Str.ofString "holds"), .str (Str.ofString "holds") 530, .ref 259⟩, ⟨PyData.keyHash P (Str.ofString "opened"), .str (Str.ofString "opened") 538, .ref 266⟩, ⟨PyData.keyHash P (Str.ofString "mended"), .str (Str.ofString "mended") 551, .ref 273⟩, ⟨PyData.keyHash P (Str.ofString "__static_attributes__"), .str (Str.ofString "__static_attributes__") 556, .ref 274⟩, ⟨PyData.keyHash P (Str.ofString "__dict__"), .str (Str.ofString "__dict__") 558, .ref 277⟩, ⟨PyData.keyHash P (Str.ofString "__weakref__"), .str (Str.ofString "__weakref__") 560, .ref 278⟩, ⟨PyData.keyHash P (Str.ofString "__doc__"), .str (Str.ofString "__doc__") 561, .none⟩]) 4, List.toArray []⟩
noncomputable def o276 (_P : Params) : Obj := ⟨.type "type", none, .cls ⟨Str.ofString "Gate", [.type "object"], [.ref 276, .type "object"], 275, Str.ofString "Gate", true, [], [], false, none, false⟩, List.toArray [none, none, some (.str (Str.ofString "Gate") 467), some (.str (Str.ofString "Gate") 475), some (.builtin "object.__new__"), some (.bool true)]⟩
noncomputable def o277 (_P : Params) : Obj := ⟨.type "getset_descriptor", none, .fields (List.toArray [.str (Str.ofString "__dict__") 557, .ref 276, .builtin "function.__dict__", .builtin "function.__dict__#set"]), List.toArray []⟩
noncomputable def o278 (_P : Params) : Obj := ⟨.type "getset_descriptor", none, .fields (List.toArray [.str (Str.ofString "__weakref__") 559, .ref 276, .builtin "ExceptionGroup.__weakref__", .none]), List.toArray []⟩
noncomputable def o281 (_P : Params) : Obj := ⟨.type "tuple", none, .seq (List.toArray []) 0, List.toArray []⟩
noncomputable def o283 (_P : Params) : Obj := ⟨.type "tuple", none, .seq (List.toArray [.str (Str.ofString "number") 579]) 0, List.toArray []⟩
noncomputable def o284 (_P : Params) : Obj := ⟨.type "tuple", none, .seq (List.toArray []) 0, List.toArray []⟩
noncomputable def o286 (_P : Params) : Obj := ⟨.type "code", none, .fields (List.toArray [.str (Str.ofString "is_letter") 576, .str (Str.ofString "is_letter") 577, .str (Str.ofString "/claim/cut.py") 578, .int 167 0, .int 1 0, .int 0 0, .int 0 0, .int 3 0, .ref 281, .bool true, .int 181 0, .ref 282, .none, .ref 283, .ref 284, .ref 285, .int 580 0, .int 167 0, .str (Str.ofString "/claim/cut.py") 581]), List.toArray []⟩
noncomputable def o287 (_P : Params) : Obj := (fun (p : Arguments) (b : List Stmt) (s : Scope) (_ : (p, b, s) = fnP (nthS pW.main.body 35)) => (⟨.type "function", none, .func ⟨Str.ofString "is_letter", Str.ofString "is_letter", p, .stmts b, s, 3, [], .none, .none, .none, .str (Str.ofString "crcgate.letters") 564, none, .ref 286, .none, 0⟩, List.toArray []⟩ : Obj)) _ _ _ rfl
noncomputable def o288 (_P : Params) : Obj := ⟨.type "tuple", none, .seq (List.toArray []) 0, List.toArray []⟩
noncomputable def o290 (_P : Params) : Obj := ⟨.type "tuple", none, .seq (List.toArray [.str (Str.ofString "number") 586]) 0, List.toArray []⟩
noncomputable def o291 (_P : Params) : Obj := ⟨.type "tuple", none, .seq (List.toArray []) 0, List.toArray []⟩
noncomputable def o293 (_P : Params) : Obj := ⟨.type "code", none, .fields (List.toArray [.str (Str.ofString "letter_of") 583, .str (Str.ofString "letter_of") 584, .str (Str.ofString "/claim/cut.py") 585, .int 169 0, .int 1 0, .int 0 0, .int 0 0, .int 3 0, .ref 288, .bool true, .int 181 0, .ref 289, .none, .ref 290, .ref 291, .ref 292, .int 587 0, .int 169 0, .str (Str.ofString "/claim/cut.py") 588]), List.toArray []⟩
noncomputable def o294 (_P : Params) : Obj := (fun (p : Arguments) (b : List Stmt) (s : Scope) (_ : (p, b, s) = fnP (nthS pW.main.body 36)) => (⟨.type "function", none, .func ⟨Str.ofString "letter_of", Str.ofString "letter_of", p, .stmts b, s, 3, [], .none, .none, .none, .str (Str.ofString "crcgate.letters") 564, none, .ref 293, .none, 0⟩, List.toArray []⟩ : Obj)) _ _ _ rfl
noncomputable def o295 (_P : Params) : Obj := ⟨.type "tuple", none, .seq (List.toArray []) 0, List.toArray []⟩
noncomputable def o297 (_P : Params) : Obj := ⟨.type "tuple", none, .seq (List.toArray [.str (Str.ofString "text") 593, .str (Str.ofString "found") 594, .str (Str.ofString "letter") 595]) 0, List.toArray []⟩
noncomputable def o298 (_P : Params) : Obj := ⟨.type "tuple", none, .seq (List.toArray []) 0, List.toArray []⟩
noncomputable def o300 (_P : Params) : Obj := ⟨.type "code", none, .fields (List.toArray [.str (Str.ofString "row_of") 590, .str (Str.ofString "row_of") 591, .str (Str.ofString "/claim/cut.py") 592, .int 173 0, .int 1 0, .int 0 0, .int 0 0, .int 3 0, .ref 295, .bool true, .int 181 0, .ref 296, .none, .ref 297, .ref 298, .ref 299, .int 596 0, .int 173 0, .str (Str.ofString "/claim/cut.py") 597]), List.toArray []⟩
noncomputable def o301 (_P : Params) : Obj := (fun (p : Arguments) (b : List Stmt) (s : Scope) (_ : (p, b, s) = fnP (nthS pW.main.body 37)) => (⟨.type "function", none, .func ⟨Str.ofString "row_of", Str.ofString "row_of", p, .stmts b, s, 3, [], .none, .none, .none, .str (Str.ofString "crcgate.letters") 564, none, .ref 300, .none, 0⟩, List.toArray []⟩ : Obj)) _ _ _ rfl
noncomputable def o302 (_P : Params) : Obj := ⟨.type "tuple", none, .seq (List.toArray []) 0, List.toArray []⟩
noncomputable def o304 (_P : Params) : Obj := ⟨.type "tuple", none, .seq (List.toArray [.str (Str.ofString "row") 602, .str (Str.ofString "found") 603, .str (Str.ofString "place") 604, .str (Str.ofString "number") 605]) 0, List.toArray []⟩
noncomputable def o305 (_P : Params) : Obj := ⟨.type "tuple", none, .seq (List.toArray []) 0, List.toArray []⟩
noncomputable def o307 (_P : Params) : Obj := ⟨.type "code", none, .fields (List.toArray [.str (Str.ofString "text_of") 599, .str (Str.ofString "text_of") 600, .str (Str.ofString "/claim/cut.py") 601, .int 182 0, .int 1 0, .int 0 0, .int 0 0, .int 3 0, .ref 302, .bool true, .int 181 0, .ref 303, .none, .ref 304, .ref 305, .ref 306, .int 606 0, .int 182 0, .str (Str.ofString "/claim/cut.py") 607]), List.toArray []⟩
noncomputable def o308 (_P : Params) : Obj := (fun (p : Arguments) (b : List Stmt) (s : Scope) (_ : (p, b, s) = fnP (nthS pW.main.body 38)) => (⟨.type "function", none, .func ⟨Str.ofString "text_of", Str.ofString "text_of", p, .stmts b, s, 3, [], .none, .none, .none, .str (Str.ofString "crcgate.letters") 564, none, .ref 307, .none, 0⟩, List.toArray []⟩ : Obj)) _ _ _ rfl
noncomputable def o316 (_P : Params) : Obj := ⟨.type "tuple", none, .seq (List.toArray []) 0, List.toArray []⟩
noncomputable def o318 (_P : Params) : Obj := ⟨.type "tuple", none, .seq (List.toArray [.str (Str.ofString "self") 630, .str (Str.ofString "gate") 631]) 0, List.toArray []⟩
noncomputable def o319 (_P : Params) : Obj := ⟨.type "tuple", none, .seq (List.toArray []) 0, List.toArray []⟩
noncomputable def o321 (_P : Params) : Obj := ⟨.type "code", none, .fields (List.toArray [.str (Str.ofString "__init__") 627, .str (Str.ofString "Register.__init__") 628, .str (Str.ofString "/claim/cut.py") 629, .int 197 0, .int 2 0, .int 0 0, .int 0 0, .int 3 0, .ref 316, .bool true, .int 181 0, .ref 317, .none, .ref 318, .ref 319, .ref 320, .int 632 0, .int 197 0, .str (Str.ofString "/claim/cut.py") 633]), List.toArray []⟩
noncomputable def o322 (_P : Params) : Obj := (fun (p : Arguments) (b : List Stmt) (s : Scope) (_ : (p, b, s) = fnP (inC (nthS pW.main.body 41) 0)) => (⟨.type "function", none, .func ⟨Str.ofString "__init__", Str.ofString "Register.__init__", p, .stmts b, s, 3, [], .none, .none, .none, .str (Str.ofString "crcgate.registers") 609, none, .ref 321, .none, 0⟩, List.toArray []⟩ : Obj)) _ _ _ rfl
noncomputable def o323 (_P : Params) : Obj := ⟨.type "tuple", none, .seq (List.toArray []) 0, List.toArray []⟩
noncomputable def o325 (_P : Params) : Obj := ⟨.type "tuple", none, .seq (List.toArray [.str (Str.ofString "self") 638, .str (Str.ofString "sign") 639]) 0, List.toArray []⟩
noncomputable def o326 (_P : Params) : Obj := ⟨.type "tuple", none, .seq (List.toArray []) 0, List.toArray []⟩
noncomputable def o328 (_P : Params) : Obj := ⟨.type "code", none, .fields (List.toArray [.str (Str.ofString "put") 635, .str (Str.ofString "Register.put") 636, .str (Str.ofString "/claim/cut.py") 637, .int 202 0, .int 2 0, .int 0 0, .int 0 0, .int 3 0, .ref 323, .bool true, .int 181 0, .ref 324, .none, .ref 325, .ref 326, .ref 327, .int 640 0, .int 202 0, .str (Str.ofString "/claim/cut.py") 641]), List.toArray []⟩
noncomputable def o329 (_P : Params) : Obj := (fun (p : Arguments) (b : List Stmt) (s : Scope) (_ : (p, b, s) = fnP (inC (nthS pW.main.body 41) 1)) => (⟨.type "function", none, .func ⟨Str.ofString "put", Str.ofString "Register.put", p, .stmts b, s, 3, [], .none, .none, .none, .str (Str.ofString "crcgate.registers") 609, none, .ref 328, .none, 0⟩, List.toArray []⟩ : Obj)) _ _ _ rfl
noncomputable def o330 (_P : Params) : Obj := ⟨.type "tuple", none, .seq (List.toArray []) 0, List.toArray []⟩
noncomputable def o332 (_P : Params) : Obj := ⟨.type "tuple", none, .seq (List.toArray [.str (Str.ofString "self") 646]) 0, List.toArray []⟩
noncomputable def o333 (_P : Params) : Obj := ⟨.type "tuple", none, .seq (List.toArray []) 0, List.toArray []⟩
noncomputable def o335 (_P : Params) : Obj := ⟨.type "code", none, .fields (List.toArray [.str (Str.ofString "anew") 643, .str (Str.ofString "Register.anew") 644, .str (Str.ofString "/claim/cut.py") 645, .int 208 0, .int 1 0, .int 0 0, .int 0 0, .int 3 0, .ref 330, .bool true, .int 181 0, .ref 331, .none, .ref 332, .ref 333, .ref 334, .int 647 0, .int 208 0, .str (Str.ofString "/claim/cut.py") 648]), List.toArray []⟩
noncomputable def o336 (_P : Params) : Obj := (fun (p : Arguments) (b : List Stmt) (s : Scope) (_ : (p, b, s) = fnP (inC (nthS pW.main.body 41) 2)) => (⟨.type "function", none, .func ⟨Str.ofString "anew", Str.ofString "Register.anew", p, .stmts b, s, 3, [], .none, .none, .none, .str (Str.ofString "crcgate.registers") 609, none, .ref 335, .none, 0⟩, List.toArray []⟩ : Obj)) _ _ _ rfl
noncomputable def o337 (_P : Params) : Obj := ⟨.type "tuple", none, .seq (List.toArray []) 0, List.toArray []⟩
noncomputable def o339 (_P : Params) : Obj := ⟨.type "tuple", none, .seq (List.toArray [.str (Str.ofString "self") 653]) 0, List.toArray []⟩
noncomputable def o340 (_P : Params) : Obj := ⟨.type "tuple", none, .seq (List.toArray []) 0, List.toArray []⟩
noncomputable def o342 (_P : Params) : Obj := ⟨.type "code", none, .fields (List.toArray [.str (Str.ofString "rest") 650, .str (Str.ofString "Register.rest") 651, .str (Str.ofString "/claim/cut.py") 652, .int 211 0, .int 1 0, .int 0 0, .int 0 0, .int 3 0, .ref 337, .bool true, .int 181 0, .ref 338, .none, .ref 339, .ref 340, .ref 341, .int 654 0, .int 211 0, .str (Str.ofString "/claim/cut.py") 655]), List.toArray []⟩
noncomputable def o343 (_P : Params) : Obj := (fun (p : Arguments) (b : List Stmt) (s : Scope) (_ : (p, b, s) = fnP (inC (nthS pW.main.body 41) 3)) => (⟨.type "function", none, .func ⟨Str.ofString "rest", Str.ofString "Register.rest", p, .stmts b, s, 3, [], .none, .none, .none, .str (Str.ofString "crcgate.registers") 609, none, .ref 342, .none, 0⟩, List.toArray []⟩ : Obj)) _ _ _ rfl
noncomputable def o344 (_P : Params) : Obj := ⟨.type "tuple", none, .seq (List.toArray []) 0, List.toArray []⟩
noncomputable def o346 (_P : Params) : Obj := ⟨.type "tuple", none, .seq (List.toArray [.str (Str.ofString "self") 660]) 0, List.toArray []⟩
noncomputable def o347 (_P : Params) : Obj := ⟨.type "tuple", none, .seq (List.toArray []) 0, List.toArray []⟩
noncomputable def o349 (_P : Params) : Obj := ⟨.type "code", none, .fields (List.toArray [.str (Str.ofString "check") 657, .str (Str.ofString "Register.check") 658, .str (Str.ofString "/claim/cut.py") 659, .int 214 0, .int 1 0, .int 0 0, .int 0 0, .int 3 0, .ref 344, .bool true, .int 181 0, .ref 345, .none, .ref 346, .ref 347, .ref 348, .int 661 0, .int 214 0, .str (Str.ofString "/claim/cut.py") 662]), List.toArray []⟩
noncomputable def o350 (_P : Params) : Obj := (fun (p : Arguments) (b : List Stmt) (s : Scope) (_ : (p, b, s) = fnP (inC (nthS pW.main.body 41) 4)) => (⟨.type "function", none, .func ⟨Str.ofString "check", Str.ofString "Register.check", p, .stmts b, s, 3, [], .none, .none, .none, .str (Str.ofString "crcgate.registers") 609, none, .ref 349, .none, 0⟩, List.toArray []⟩ : Obj)) _ _ _ rfl
noncomputable def o351 (_P : Params) : Obj := ⟨.type "tuple", none, .seq (List.toArray []) 0, List.toArray []⟩
noncomputable def o353 (_P : Params) : Obj := ⟨.type "tuple", none, .seq (List.toArray [.str (Str.ofString "self") 667, .str (Str.ofString "other") 668, .str (Str.ofString "many") 669]) 0, List.toArray []⟩
noncomputable def o354 (_P : Params) : Obj := ⟨.type "tuple", none, .seq (List.toArray []) 0, List.toArray []⟩
noncomputable def o356 (_P : Params) : Obj := ⟨.type "code", none, .fields (List.toArray [.str (Str.ofString "joined") 664, .str (Str.ofString "Register.joined") 665, .str (Str.ofString "/claim/cut.py") 666, .int 217 0, .int 2 0, .int 0 0, .int 0 0, .int 3 0, .ref 351, .bool true, .int 181 0, .ref 352, .none, .ref 353, .ref 354, .ref 355, .int 670 0, .int 217 0, .str (Str.ofString "/claim/cut.py") 671]), List.toArray []⟩
noncomputable def o357 (_P : Params) : Obj := (fun (p : Arguments) (b : List Stmt) (s : Scope) (_ : (p, b, s) = fnP (inC (nthS pW.main.body 41) 5)) => (⟨.type "function", none, .func ⟨Str.ofString "joined", Str.ofString "Register.joined", p, .stmts b, s, 3, [], .none, .none, .none, .str (Str.ofString "crcgate.registers") 609, none, .ref 356, .none, 0⟩, List.toArray []⟩ : Obj)) _ _ _ rfl
noncomputable def o358 (_P : Params) : Obj := ⟨.type "tuple", none, .seq (List.toArray [.str (Str.ofString "gate") 673, .str (Str.ofString "kept") 674, .str (Str.ofString "many") 675]) 0, List.toArray []⟩
noncomputable def o359 (P : Params) : Obj := ⟨.type "dict", none, .dict (List.toArray [⟨PyData.keyHash P (Str.ofString "__module__"), .str (Str.ofString "__module__") 622, .str (Str.ofString "crcgate.registers") 609⟩, ⟨PyData.keyHash P (Str.ofString "__firstlineno__"), .str (Str.ofString "__firstlineno__") 626, .int 195 625⟩, ⟨PyData.keyHash P (Str.ofString "__init__"), .str (Str.ofString "__init__") 634, .ref 322⟩, ⟨PyData.keyHash P (Str.ofString "put"), .str (Str.ofString "put") 642, .ref 329⟩, ⟨PyData.keyHash P (Str.ofString "anew"), .str (Str.ofString "anew") 649, .ref 336⟩, ⟨PyData.keyHash P (Str.ofString "rest"), .str (Str.ofString "rest") 656, .ref 343⟩, ⟨PyData.keyHash P (Str.ofString "check"), .str (Str.ofString "check") 663, .ref 350⟩, ⟨PyData.keyHash P (Str.ofString "joined"), .str (Str.ofString "joined") 672, .ref 357⟩, ⟨PyData.keyHash P (Str.ofString "__static_attributes__"), .str (Str.ofString "__static_attributes__") 676, .ref 358⟩, ⟨PyData.keyHash P (Str.ofString "__dict__"), .str (Str.ofString "__dict__") 678, .ref 361⟩, ⟨PyData.keyHash P (Str.ofString "__weakref__"), .str (Str.ofString "__weakref__") 680, .ref 362⟩, ⟨PyData.keyHash P (Str.ofString "__doc__"), .str (Str.ofString "__doc__") 681, .none⟩]) 4, List.toArray []⟩
noncomputable def o360 (_P : Params) : Obj := ⟨.type "type", none, .cls ⟨Str.ofString "Register", [.type "object"], [.ref 360, .type "object"], 359, Str.ofString "Register", true, [], [], false, none, false⟩, List.toArray [none, none, some (.str (Str.ofString "Register") 615), some (.str (Str.ofString "Register") 623), some (.builtin "object.__new__"), some (.bool true)]⟩
noncomputable def o361 (_P : Params) : Obj := ⟨.type "getset_descriptor", none, .fields (List.toArray [.str (Str.ofString "__dict__") 677, .ref 360, .builtin "function.__dict__", .builtin "function.__dict__#set"]), List.toArray []⟩
noncomputable def o362 (_P : Params) : Obj := ⟨.type "getset_descriptor", none, .fields (List.toArray [.str (Str.ofString "__weakref__") 679, .ref 360, .builtin "ExceptionGroup.__weakref__", .none]), List.toArray []⟩
noncomputable def o365 (_P : Params) : Obj := ⟨.type "tuple", none, .seq (List.toArray []) 0, List.toArray []⟩
noncomputable def o367 (_P : Params) : Obj := ⟨.type "tuple", none, .seq (List.toArray [.str (Str.ofString "_law_script") 689, .str (Str.ofString "_law_k") 690]) 0, List.toArray []⟩
noncomputable def o368 (_P : Params) : Obj := ⟨.type "tuple", none, .seq (List.toArray []) 0, List.toArray []⟩
noncomputable def o370 (_P : Params) : Obj := ⟨.type "code", none, .fields (List.toArray [.str (Str.ofString "_law_cell_at") 686, .str (Str.ofString "_law_cell_at") 687, .str (Str.ofString "/claim/cut.py") 688, .int 226 0, .int 2 0, .int 0 0, .int 0 0, .int 3 0, .ref 365, .bool true, .int 181 0, .ref 366, .none, .ref 367, .ref 368, .ref 369, .int 691 0, .int 226 0, .str (Str.ofString "/claim/cut.py") 692]), List.toArray []⟩
noncomputable def o371 (_P : Params) : Obj := (fun (p : Arguments) (b : List Stmt) (s : Scope) (_ : (p, b, s) = fnP (nthS pW.main.body 43)) => (⟨.type "function", none, .func ⟨Str.ofString "_law_cell_at", Str.ofString "_law_cell_at", p, .stmts b, s, 3, [], .none, .none, .none, .str (Str.ofString "law_uf040037_06") 684, none, .ref 370, .none, 0⟩, List.toArray []⟩ : Obj)) _ _ _ rfl
noncomputable def o372 (_P : Params) : Obj := ⟨.type "tuple", none, .seq (List.toArray []) 0, List.toArray []⟩
noncomputable def o375 (_P : Params) : Obj := ⟨.type "code", none, .fields (List.toArray [.str (Str.ofString "_law_row_by") 694, .str (Str.ofString "_law_row_by") 695, .str (Str.ofString "/claim/cut.py") 696, .int 230 0, .int 2 0, .int 0 0, .int 0 0, .int 3 0, .ref 372, .bool true, .int 181 0, .ref 373, .none, .none, .none, .ref 374, .int 697 0, .int 230 0, .str (Str.ofString "/claim/cut.py") 698]), List.toArray []⟩
noncomputable def o376 (_P : Params) : Obj := (fun (p : Arguments) (b : List Stmt) (s : Scope) (_ : (p, b, s) = fnP (nthS pW.main.body 44)) => (⟨.type "function", none, .func ⟨Str.ofString "_law_row_by", Str.ofString "_law_row_by", p, .stmts b, s, 3, [], .none, .none, .none, .str (Str.ofString "law_uf040037_06") 684, none, .ref 375, .none, 0⟩, List.toArray []⟩ : Obj)) _ _ _ rfl
noncomputable def o377 (_P : Params) : Obj := ⟨.type "tuple", none, .seq (List.toArray []) 0, List.toArray []⟩
noncomputable def o379 (_P : Params) : Obj := ⟨.type "tuple", none, .seq (List.toArray [.str (Str.ofString "_law_cell") 703, .str (Str.ofString "_law_row") 704, .str (Str.ofString "_law_at") 705]) 0, List.toArray []⟩
noncomputable def o380 (_P : Params) : Obj := ⟨.type "tuple", none, .seq (List.toArray []) 0, List.toArray []⟩
noncomputable def o382 (_P : Params) : Obj := ⟨.type "code", none, .fields (List.toArray [.str (Str.ofString "_law_bad") 700, .str (Str.ofString "_law_bad") 701, .str (Str.ofString "/claim/cut.py") 702, .int 243 0, .int 2 0, .int 0 0, .int 0 0, .int 3 0, .ref 377, .bool true, .int 181 0, .ref 378, .none, .ref 379, .ref 380, .ref 381, .int 706 0, .int 243 0, .str (Str.ofString "/claim/cut.py") 707]), List.toArray []⟩
noncomputable def o383 (_P : Params) : Obj := (fun (p : Arguments) (b : List Stmt) (s : Scope) (_ : (p, b, s) = fnP (nthS pW.main.body 45)) => (⟨.type "function", none, .func ⟨Str.ofString "_law_bad", Str.ofString "_law_bad", p, .stmts b, s, 3, [], .none, .none, .none, .str (Str.ofString "law_uf040037_06") 684, none, .ref 382, .none, 0⟩, List.toArray []⟩ : Obj)) _ _ _ rfl
noncomputable def o384 (_P : Params) : Obj := ⟨.type "tuple", none, .seq (List.toArray []) 0, List.toArray []⟩
noncomputable def o386 (_P : Params) : Obj := ⟨.type "tuple", none, .seq (List.toArray [.str (Str.ofString "_law_which") 712, .str (Str.ofString "_law_bad_here") 713, .str (Str.ofString "_law_row") 714]) 0, List.toArray []⟩
noncomputable def o387 (_P : Params) : Obj := ⟨.type "tuple", none, .seq (List.toArray []) 0, List.toArray []⟩
noncomputable def o389 (_P : Params) : Obj := ⟨.type "code", none, .fields (List.toArray [.str (Str.ofString "_law_rows_called") 709, .str (Str.ofString "_law_rows_called") 710, .str (Str.ofString "/claim/cut.py") 711, .int 248 0, .int 3 0, .int 0 0, .int 0 0, .int 3 0, .ref 384, .bool true, .int 181 0, .ref 385, .none, .ref 386, .ref 387, .ref 388, .int 715 0, .int 248 0, .str (Str.ofString "/claim/cut.py") 716]), List.toArray []⟩
noncomputable def o390 (_P : Params) : Obj := (fun (p : Arguments) (b : List Stmt) (s : Scope) (_ : (p, b, s) = fnP (nthS pW.main.body 46)) => (⟨.type "function", none, .func ⟨Str.ofString "_law_rows_called", Str.ofString "_law_rows_called", p, .stmts b, s, 3, [], .none, .none, .none, .str (Str.ofString "law_uf040037_06") 684, none, .ref 389, .none, 0⟩, List.toArray []⟩ : Obj)) _ _ _ rfl
noncomputable def o391 (_P : Params) : Obj := ⟨.type "tuple", none, .seq (List.toArray []) 0, List.toArray []⟩
noncomputable def o393 (_P : Params) : Obj := ⟨.type "tuple", none, .seq (List.toArray [.str (Str.ofString "_law_which") 721, .str (Str.ofString "_law_bad_here") 722, .str (Str.ofString "_law_gate") 723]) 0, List.toArray []⟩
noncomputable def o394 (_P : Params) : Obj := ⟨.type "tuple", none, .seq (List.toArray []) 0, List.toArray []⟩
noncomputable def o396 (_P : Params) : Obj := ⟨.type "code", none, .fields (List.toArray [.str (Str.ofString "_law_gate_called") 718, .str (Str.ofString "_law_gate_called") 719, .str (Str.ofString "/claim/cut.py") 720, .int 266 0, .int 3 0, .int 0 0, .int 0 0, .int 3 0, .ref 391, .bool true, .int 181 0, .ref 392, .none, .ref 393, .ref 394, .ref 395, .int 724 0, .int 266 0, .str (Str.ofString "/claim/cut.py") 725]), List.toArray []⟩
noncomputable def o397 (_P : Params) : Obj := (fun (p : Arguments) (b : List Stmt) (s : Scope) (_ : (p, b, s) = fnP (nthS pW.main.body 47)) => (⟨.type "function", none, .func ⟨Str.ofString "_law_gate_called", Str.ofString "_law_gate_called", p, .stmts b, s, 3, [], .none, .none, .none, .str (Str.ofString "law_uf040037_06") 684, none, .ref 396, .none, 0⟩, List.toArray []⟩ : Obj)) _ _ _ rfl
noncomputable def o398 (_P : Params) : Obj := ⟨.type "tuple", none, .seq (List.toArray []) 0, List.toArray []⟩
noncomputable def o400 (_P : Params) : Obj := ⟨.type "tuple", none, .seq (List.toArray [.str (Str.ofString "_law_which") 730, .str (Str.ofString "_law_row") 731, .str (Str.ofString "_law_gate") 732]) 0, List.toArray []⟩
noncomputable def o401 (_P : Params) : Obj := ⟨.type "tuple", none, .seq (List.toArray []) 0, List.toArray []⟩
noncomputable def o403 (_P : Params) : Obj := ⟨.type "code", none, .fields (List.toArray [.str (Str.ofString "_law_else_called") 727, .str (Str.ofString "_law_else_called") 728, .str (Str.ofString "/claim/cut.py") 729, .int 280 0, .int 3 0, .int 0 0, .int 0 0, .int 3 0, .ref 398, .bool true, .int 181 0, .ref 399, .none, .ref 400, .ref 401, .ref 402, .int 733 0, .int 280 0, .str (Str.ofString "/claim/cut.py") 734]), List.toArray []⟩
noncomputable def o404 (_P : Params) : Obj := (fun (p : Arguments) (b : List Stmt) (s : Scope) (_ : (p, b, s) = fnP (nthS pW.main.body 48)) => (⟨.type "function", none, .func ⟨Str.ofString "_law_else_called", Str.ofString "_law_else_called", p, .stmts b, s, 3, [], .none, .none, .none, .str (Str.ofString "law_uf040037_06") 684, none, .ref 403, .none, 0⟩, List.toArray []⟩ : Obj)) _ _ _ rfl
noncomputable def o405 (_P : Params) : Obj := ⟨.type "tuple", none, .seq (List.toArray []) 0, List.toArray []⟩
noncomputable def o407 (_P : Params) : Obj := ⟨.type "tuple", none, .seq (List.toArray [.str (Str.ofString "_law_which") 739, .str (Str.ofString "_law_bad_here") 740, .str (Str.ofString "_law_row") 741, .str (Str.ofString "_law_gate") 742, .str (Str.ofString "e") 743, .str (Str.ofString "_law_words_here") 744]) 0, List.toArray []⟩
noncomputable def o408 (_P : Params) : Obj := ⟨.type "tuple", none, .seq (List.toArray []) 0, List.toArray []⟩
noncomputable def o410 (_P : Params) : Obj := ⟨.type "code", none, .fields (List.toArray [.str (Str.ofString "_law_words") 736, .str (Str.ofString "_law_words") 737, .str (Str.ofString "/claim/cut.py") 738, .int 304 0, .int 4 0, .int 0 0, .int 0 0, .int 3 0, .ref 405, .bool true, .int 181 0, .ref 406, .none, .ref 407, .ref 408, .ref 409, .int 745 0, .int 304 0, .str (Str.ofString "/claim/cut.py") 746]), List.toArray []⟩
noncomputable def o411 (_P : Params) : Obj := (fun (p : Arguments) (b : List Stmt) (s : Scope) (_ : (p, b, s) = fnP (nthS pW.main.body 49)) => (⟨.type "function", none, .func ⟨Str.ofString "_law_words", Str.ofString "_law_words", p, .stmts b, s, 3, [], .none, .none, .none, .str (Str.ofString "law_uf040037_06") 684, none, .ref 410, .none, 0⟩, List.toArray []⟩ : Obj)) _ _ _ rfl
noncomputable def o412 (_P : Params) : Obj := ⟨.type "tuple", none, .seq (List.toArray []) 0, List.toArray []⟩
noncomputable def o414 (_P : Params) : Obj := ⟨.type "tuple", none, .seq (List.toArray [.str (Str.ofString "_law_script") 751, .str (Str.ofString "_law_size") 752, .str (Str.ofString "_law_row") 753, .str (Str.ofString "_law_which") 754, .str (Str.ofString "_law_gate") 755, .str (Str.ofString "_law_bad_here") 756, .str (Str.ofString "_law_due") 757]) 0, List.toArray []⟩
noncomputable def o415 (_P : Params) : Obj := ⟨.type "tuple", none, .seq (List.toArray []) 0, List.toArray []⟩
noncomputable def o417 (_P : Params) : Obj := ⟨.type "code", none, .fields (List.toArray [.str (Str.ofString "law") 748, .str (Str.ofString "law") 749, .str (Str.ofString "/claim/cut.py") 750, .int 319 0, .int 1 0, .int 0 0, .int 0 0, .int 3 0, .ref 412, .bool true, .int 181 0, .ref 413, .none, .ref 414, .ref 415, .ref 416, .int 758 0, .int 319 0, .str (Str.ofString "/claim/cut.py") 759]), List.toArray []⟩
noncomputable def o418 (_P : Params) : Obj := (fun (p : Arguments) (b : List Stmt) (s : Scope) (_ : (p, b, s) = fnP (nthS pW.main.body 50)) => (⟨.type "function", none, .func ⟨Str.ofString "law", Str.ofString "law", p, .stmts b, s, 3, [], .none, .none, .none, .str (Str.ofString "law_uf040037_06") 684, none, .ref 417, .none, 0⟩, List.toArray []⟩ : Obj)) _ _ _ rfl
noncomputable def KK : Params → Frag := fun P => (nat_lit 2, o2 P) :: (nat_lit 3, o3 P) :: (nat_lit 15, o15 P) :: (nat_lit 17, o17 P) :: (nat_lit 18, o18 P) :: (nat_lit 20, o20 P) :: (nat_lit 21, o21 P) :: (nat_lit 22, o22 P) :: (nat_lit 29, o29 P) :: (nat_lit 30, o30 P) :: (nat_lit 31, o31 P) :: (nat_lit 32, o32 P) :: (nat_lit 35, o35 P) :: (nat_lit 42, o42 P) :: (nat_lit 43, o43 P) :: (nat_lit 44, o44 P) :: (nat_lit 47, o47 P) :: (nat_lit 54, o54 P) :: (nat_lit 55, o55 P) :: (nat_lit 56, o56 P) :: (nat_lit 59, o59 P) :: (nat_lit 66, o66 P) :: (nat_lit 67, o67 P) :: (nat_lit 68, o68 P) :: (nat_lit 71, o71 P) :: (nat_lit 78, o78 P) :: (nat_lit 79, o79 P) :: (nat_lit 80, o80 P) :: (nat_lit 83, o83 P) :: (nat_lit 90, o90 P) :: (nat_lit 91, o91 P) :: (nat_lit 92, o92 P) :: (nat_lit 95, o95 P) :: (nat_lit 102, o102 P) :: (nat_lit 103, o103 P) :: (nat_lit 104, o104 P) :: (nat_lit 107, o107 P) :: (nat_lit 114, o114 P) :: (nat_lit 115, o115 P) :: (nat_lit 116, o116 P) :: (nat_lit 119, o119 P) :: (nat_lit 126, o126 P) :: (nat_lit 127, o127 P) :: (nat_lit 128, o128 P) :: (nat_lit 131, o131 P) :: (nat_lit 138, o138 P) :: (nat_lit 139, o139 P) :: (nat_lit 140, o140 P) :: (nat_lit 143, o143 P) :: (nat_lit 145, o145 P) :: (nat_lit 146, o146 P) :: (nat_lit 148, o148 P) :: (nat_lit 149, o149 P) :: (nat_lit 150, o150 P) :: (nat_lit 152, o152 P) :: (nat_lit 153, o153 P) :: (nat_lit 155, o155 P) :: (nat_lit 156, o156 P) :: (nat_lit 157, o157 P) :: (nat_lit 159, o159 P) :: (nat_lit 160, o160 P) :: (nat_lit 162, o162 P) :: (nat_lit 163, o163 P) :: (nat_lit 164, o164 P) :: (nat_lit 166, o166 P) :: (nat_lit 167, o167 P) :: (nat_lit 169, o169 P) :: (nat_lit 170, o170 P) :: (nat_lit 171, o171 P) :: (nat_lit 174, o174 P) :: (nat_lit 175, o175 P) :: (nat_lit 176, o176 P) :: (nat_lit 178, o178 P) :: (nat_lit 179, o179 P) :: (nat_lit 181, o181 P) :: (nat_lit 182, o182 P) :: (nat_lit 183, o183 P) :: (nat_lit 185, o185 P) :: (nat_lit 186, o186 P) :: (nat_lit 188, o188 P) :: (nat_lit 189, o189 P) :: (nat_lit 190, o190 P) :: (nat_lit 192, o192 P) :: (nat_lit 193, o193 P) :: (nat_lit 195, o195 P) :: (nat_lit 196, o196 P) :: (nat_lit 197, o197 P) :: (nat_lit 199, o199 P) :: (nat_lit 200, o200 P) :: (nat_lit 202, o202 P) :: (nat_lit 203, o203 P) :: (nat_lit 204, o204 P) :: (nat_lit 206, o206 P) :: (nat_lit 207, o207 P) :: (nat_lit 209, o209 P) :: (nat_lit 210, o210 P) :: (nat_lit 218, o218 P) :: (nat_lit 220, o220 P) :: (nat_lit 221, o221 P) :: (nat_lit 223, o223 P) :: (nat_lit 224, o224 P) :: (nat_lit 225, o225 P) :: (nat_lit 227, o227 P) :: (nat_lit 228, o228 P) :: (nat_lit 230, o230 P) :: (nat_lit 231, o231 P) :: (nat_lit 232, o232 P) :: (nat_lit 234, o234 P) :: (nat_lit 235, o235 P) :: (nat_lit 237, o237 P) :: (nat_lit 238, o238 P) :: (nat_lit 239, o239 P) :: (nat_lit 241, o241 P) :: (nat_lit 242, o242 P) :: (nat_lit 244, o244 P) :: (nat_lit 245, o245 P) :: (nat_lit 246, o246 P) :: (nat_lit 248, o248 P) :: (nat_lit 249, o249 P) :: (nat_lit 251, o251 P) :: (nat_lit 252, o252 P) :: (nat_lit 253, o253 P) :: (nat_lit 255, o255 P) :: (nat_lit 256, o256 P) :: (nat_lit 258, o258 P) :: (nat_lit 259, o259 P) :: (nat_lit 260, o260 P) :: (nat_lit 262, o262 P) :: (nat_lit 263, o263 P) :: (nat_lit 265, o265 P) :: (nat_lit 266, o266 P) :: (nat_lit 267, o267 P) :: (nat_lit 269, o269 P) :: (nat_lit 270, o270 P) :: (nat_lit 272, o272 P) :: (nat_lit 273, o273 P) :: (nat_lit 274, o274 P) :: (nat_lit 275, o275 P) :: (nat_lit 276, o276 P) :: (nat_lit 277, o277 P) :: (nat_lit 278, o278 P) :: (nat_lit 281, o281 P) :: (nat_lit 283, o283 P) :: (nat_lit 284, o284 P) :: (nat_lit 286, o286 P) :: (nat_lit 287, o287 P) :: (nat_lit 288, o288 P) :: (nat_lit 290, o290 P) :: (nat_lit 291, o291 P) :: (nat_lit 293, o293 P) :: (nat_lit 294, o294 P) :: (nat_lit 295, o295 P) :: (nat_lit 297, o297 P) :: (nat_lit 298, o298 P) :: (nat_lit 300, o300 P) :: (nat_lit 301, o301 P) :: (nat_lit 302, o302 P) :: (nat_lit 304, o304 P) :: (nat_lit 305, o305 P) :: (nat_lit 307, o307 P) :: (nat_lit 308, o308 P) :: (nat_lit 316, o316 P) :: (nat_lit 318, o318 P) :: (nat_lit 319, o319 P) :: (nat_lit 321, o321 P) :: (nat_lit 322, o322 P) :: (nat_lit 323, o323 P) :: (nat_lit 325, o325 P) :: (nat_lit 326, o326 P) :: (nat_lit 328, o328 P) :: (nat_lit 329, o329 P) :: (nat_lit 330, o330 P) :: (nat_lit 332, o332 P) :: (nat_lit 333, o333 P) :: (nat_lit 335, o335 P) :: (nat_lit 336, o336 P) :: (nat_lit 337, o337 P) :: (nat_lit 339, o339 P) :: (nat_lit 340, o340 P) :: (nat_lit 342, o342 P) :: (nat_lit 343, o343 P) :: (nat_lit 344, o344 P) :: (nat_lit 346, o346 P) :: (nat_lit 347, o347 P) :: (nat_lit 349, o349 P) :: (nat_lit 350, o350 P) :: (nat_lit 351, o351 P) :: (nat_lit 353, o353 P) :: (nat_lit 354, o354 P) :: (nat_lit 356, o356 P) :: (nat_lit 357, o357 P) :: (nat_lit 358, o358 P) :: (nat_lit 359, o359 P) :: (nat_lit 360, o360 P) :: (nat_lit 361, o361 P) :: (nat_lit 362, o362 P) :: (nat_lit 365, o365 P) :: (nat_lit 367, o367 P) :: (nat_lit 368, o368 P) :: (nat_lit 370, o370 P) :: (nat_lit 371, o371 P) :: (nat_lit 372, o372 P) :: (nat_lit 375, o375 P) :: (nat_lit 376, o376 P) :: (nat_lit 377, o377 P) :: (nat_lit 379, o379 P) :: (nat_lit 380, o380 P) :: (nat_lit 382, o382 P) :: (nat_lit 383, o383 P) :: (nat_lit 384, o384 P) :: (nat_lit 386, o386 P) :: (nat_lit 387, o387 P) :: (nat_lit 389, o389 P) :: (nat_lit 390, o390 P) :: (nat_lit 391, o391 P) :: (nat_lit 393, o393 P) :: (nat_lit 394, o394 P) :: (nat_lit 396, o396 P) :: (nat_lit 397, o397 P) :: (nat_lit 398, o398 P) :: (nat_lit 400, o400 P) :: (nat_lit 401, o401 P) :: (nat_lit 403, o403 P) :: (nat_lit 404, o404 P) :: (nat_lit 405, o405 P) :: (nat_lit 407, o407 P) :: (nat_lit 408, o408 P) :: (nat_lit 410, o410 P) :: (nat_lit 411, o411 P) :: (nat_lit 412, o412 P) :: (nat_lit 414, o414 P) :: (nat_lit 415, o415 P) :: (nat_lit 417, o417 P) :: (nat_lit 418, o418 P) :: []
noncomputable def KAs : List Nat := [2, 3, 15, 17, 18, 20, 21, 22, 29, 30, 31, 32, 35, 42, 43, 44, 47, 54, 55, 56, 59, 66, 67, 68, 71, 78, 79, 80, 83, 90, 91, 92, 95, 102, 103, 104, 107, 114, 115, 116, 119, 126, 127, 128, 131, 138, 139, 140, 143, 145, 146, 148, 149, 150, 152, 153, 155, 156, 157, 159, 160, 162, 163, 164, 166, 167, 169, 170, 171, 174, 175, 176, 178, 179, 181, 182, 183, 185, 186, 188, 189, 190, 192, 193, 195, 196, 197, 199, 200, 202, 203, 204, 206, 207, 209, 210, 218, 220, 221, 223, 224, 225, 227, 228, 230, 231, 232, 234, 235, 237, 238, 239, 241, 242, 244, 245, 246, 248, 249, 251, 252, 253, 255, 256, 258, 259, 260, 262, 263, 265, 266, 267, 269, 270, 272, 273, 274, 275, 276, 277, 278, 281, 283, 284, 286, 287, 288, 290, 291, 293, 294, 295, 297, 298, 300, 301, 302, 304, 305, 307, 308, 316, 318, 319, 321, 322, 323, 325, 326, 328, 329, 330, 332, 333, 335, 336, 337, 339, 340, 342, 343, 344, 346, 347, 349, 350, 351, 353, 354, 356, 357, 358, 359, 360, 361, 362, 365, 367, 368, 370, 371, 372, 375, 376, 377, 379, 380, 382, 383, 384, 386, 387, 389, 390, 391, 393, 394, 396, 397, 398, 400, 401, 403, 404, 405, 407, 408, 410, 411, 412, 414, 415, 417, 418]

noncomputable def view : Program := (fun (l : List Stmt) (_ : l = pickS pW.main.body [0, 2, 3, 4, 5, 6, 7, 8, 9, 10, 11, 13, 14, 15, 16, 17, 18, 19, 21, 22, 23, 24, 25, 27, 28, 30, 31, 32, 33, 34, 35, 36, 37, 38, 40, 41, 43, 44, 45, 46, 47, 48, 49, 50]) => ({ pW with main := { pW.main with body := l } } : Program)) [_, _, _, _, _, _, _, _, _, _, _, _, _, _, _, _, _, _, _, _, _, _, _, _, _, _, _, _, _, _, _, _, _, _, _, _, _, _, _, _, _, _, _, _] rfl
theorem kk_as : ∀ P, KAs = (KK P).map (·.1) := fun _ => by kernel_rfl
noncomputable abbrev kkHook : Hook := kHook KK KAs kk_as
noncomputable def ev41 : Env := ⟨PySem.Module.scope (PySem.Program.main PySem.Challenge.rw_uf040037_06.row.prog), PySem.mainNs, PySem.mainNs, [], PySem.Str.empty, none, .ref 13, some 14, 0⟩
noncomputable def v43 (_P : Params) : PySem.Obj := ⟨.type "tuple", none, .seq (List.toArray []) 0, List.toArray []⟩
noncomputable def v44 (_P : Params) : PySem.Obj := ⟨.none, none, .fields (List.toArray []), List.toArray []⟩
noncomputable def v45 (_P : Params) : PySem.Obj := ⟨.type "code", none, .fields (List.toArray [.str (Str.ofString "<module>") 182, .str (Str.ofString "<module>") 183, .str (Str.ofString "/claim/cut.py") 184, .int 1 0, .int 0 0, .int 0 0, .int 0 0, .int 0 0, .ref 11, .bool false, .int 181 0, .ref 12, .none, .none, .none, .none, .int 185 0, .int 1 0, .str (Str.ofString "/claim/cut.py") 186]), List.toArray []⟩
noncomputable def v46 (_P : Params) : PySem.Obj := ⟨.type "frame", none, .plain, List.toArray [some (.ref 13), some (.ref 3), some (.ref 3), none, some (.str (Str.ofString "__main__") 164), none, some (.ref 0)]⟩
noncomputable def hp46 (P : Params) : PySem.Heap := ⟨⟨[PySem.W.boot_o_0 P, PySem.W.boot_o_1 P, PySem.W.boot_o_2 P, PySem.W.boot_o_3 P, PySem.W.boot_o_4 P, PySem.W.boot_o_5 P, PySem.W.boot_o_6 P, PySem.W.boot_o_7 P, PySem.W.boot_o_8 P, PySem.W.boot_o_9 P, PySem.W.boot_o_10 P, v43 P, v44 P, v45 P, v46 P]⟩, ⟨[], [], [], 0, [], [], false, List.toArray [], [], 0, false, false, false, 0, [2000, 10, 10], false, 0, true, [], [], 0, false⟩⟩
noncomputable def tr47 (P : Params) : PySem.W.BT := .node (PySem.W.boot_o_0 P) (.node (PySem.W.boot_o_1 P) (.node (PySem.W.boot_o_3 P) (.node (PySem.W.boot_o_7 P) .nil .nil) (.node (v43 P) .nil .nil)) (.node (PySem.W.boot_o_5 P) (.node (PySem.W.boot_o_9 P) .nil .nil) (.node (v45 P) .nil .nil))) (.node (PySem.W.boot_o_2 P) (.node (PySem.W.boot_o_4 P) (.node (PySem.W.boot_o_8 P) .nil .nil) (.node (v44 P) .nil .nil)) (.node (PySem.W.boot_o_6 P) (.node (PySem.W.boot_o_10 P) .nil .nil) (.node (v46 P) .nil .nil)))
noncomputable def v49 (P : Params) : PySem.Obj := ⟨.type "dict", none, .dict (List.toArray [⟨PyData.keyHash P (Str.ofString "__name__"), .str (Str.ofString "__name__") 165, .str (Str.ofString "crcgate.errors") 194⟩, ⟨PyData.keyHash P (Str.ofString "__doc__"), .str (Str.ofString "__doc__") 166, .none⟩, ⟨PyData.keyHash P (Str.ofString "__package__"), .str (Str.ofString "__package__") 167, .none⟩, ⟨PyData.keyHash P (Str.ofString "__loader__"), .str (Str.ofString "__loader__") 168, .builtin "__main__.__loader__#opaque"⟩, ⟨PyData.keyHash P (Str.ofString "__spec__"), .str (Str.ofString "__spec__") 169, .none⟩, ⟨PyData.keyHash P (Str.ofString "__annotations__"), .str (Str.ofString "__annotations__") 170, .ref 6⟩, ⟨PyData.keyHash P (Str.ofString "__builtins__"), .str (Str.ofString "__builtins__") 171, .ref 4⟩, ⟨PyData.keyHash P (Str.ofString "__file__"), .str (Str.ofString "__file__") 173, .str (Str.ofString "/claim/cut.py") 172⟩, ⟨PyData.keyHash P (Str.ofString "__cached__"), .str (Str.ofString "__cached__") 174, .none⟩, ⟨PyData.keyHash P (Str.ofString "_wall"), .str (Str.ofString "_wall") 193, .ref 21⟩, ⟨PyData.keyHash P (Str.ofString "GateError"), .str (Str.ofString "GateError") 213, .ref 31⟩]) 11, List.toArray []⟩
noncomputable def v50 (_P : Params) : PySem.Obj := ⟨.none, none, .fields (List.toArray [.int 1 0, .int 0 0, .ref 20, .int 5 0, .int 0 0, .ref 27]), List.toArray []⟩
noncomputable def v51 (_P : Params) : PySem.Obj := ⟨.type "tuple", none, .seq (List.toArray []) 0, List.toArray []⟩
noncomputable def v52 (_P : Params) : PySem.Obj := ⟨.none, none, .fields (List.toArray []), List.toArray []⟩
noncomputable def v53 (_P : Params) : PySem.Obj := ⟨.type "tuple", none, .seq (List.toArray [.str (Str.ofString "k") 190]) 0, List.toArray []⟩
noncomputable def v54 (_P : Params) : PySem.Obj := ⟨.type "tuple", none, .seq (List.toArray []) 0, List.toArray []⟩
noncomputable def v55 (_P : Params) : PySem.Obj := (fun (p : Arguments) (b : List Stmt) (s : Scope) (_ : (p, b, s) = fnP (nthS pW.main.body 0)) => (⟨.none, none, .func ⟨Str.ofString "_wall", Str.ofString "_wall", p, .stmts b, s, 0, [], .none, .none, .none, .none, none, .none, .none, 0⟩, List.toArray []⟩ : Obj)) _ _ _ rfl
noncomputable def v56 (_P : Params) : PySem.Obj := ⟨.type "code", none, .fields (List.toArray [.str (Str.ofString "_wall") 187, .str (Str.ofString "_wall") 188, .str (Str.ofString "/claim/cut.py") 189, .int 1 0, .int 1 0, .int 0 0, .int 0 0, .int 3 0, .ref 15, .bool true, .int 181 0, .ref 16, .none, .ref 17, .ref 18, .ref 19, .int 191 0, .int 1 0, .str (Str.ofString "/claim/cut.py") 192]), List.toArray []⟩
noncomputable def v57 (_P : Params) : PySem.Obj := (fun (p : Arguments) (b : List Stmt) (s : Scope) (_ : (p, b, s) = fnP (nthS pW.main.body 0)) => (⟨.type "function", none, .func ⟨Str.ofString "_wall", Str.ofString "_wall", p, .stmts b, s, 3, [], .none, .none, .none, .str (Str.ofString "__main__") 164, none, .ref 20, .none, 0⟩, List.toArray []⟩ : Obj)) _ _ _ rfl
noncomputable def v58 (_P : Params) : PySem.Obj := ⟨.type "tuple", none, .seq (List.toArray [.type "ValueError"]) 0, List.toArray []⟩
noncomputable def v59 (_P : Params) : PySem.Obj := ⟨.type "builtin_function_or_method", none, .fields (List.toArray [.builtin "type.__prepare__", .type "type"]), List.toArray []⟩
noncomputable def v60 (P : Params) : PySem.Obj := ⟨.type "dict", none, .dict (List.toArray [⟨PyData.keyHash P (Str.ofString "__module__"), .str (Str.ofString "__module__") 203, .str (Str.ofString "crcgate.errors") 194⟩, ⟨PyData.keyHash P (Str.ofString "__qualname__"), .str (Str.ofString "__qualname__") 205, .str (Str.ofString "GateError") 204⟩, ⟨PyData.keyHash P (Str.ofString "__firstlineno__"), .str (Str.ofString "__firstlineno__") 207, .int 5 206⟩, ⟨PyData.keyHash P (Str.ofString "__static_attributes__"), .str (Str.ofString "__static_attributes__") 208, .ref 29⟩]) 4, List.toArray []⟩
noncomputable def v61 (_P : Params) : PySem.Obj := ⟨.type "tuple", none, .seq (List.toArray []) 0, List.toArray []⟩
noncomputable def v62 (_P : Params) : PySem.Obj := ⟨.none, none, .fields (List.toArray []), List.toArray []⟩
noncomputable def v63 (_P : Params) : PySem.Obj := ⟨.type "code", none, .fields (List.toArray [.str (Str.ofString "GateError") 198, .str (Str.ofString "GateError") 199, .str (Str.ofString "/claim/cut.py") 200, .int 5 0, .int 0 0, .int 0 0, .int 0 0, .int 0 0, .ref 25, .bool false, .int 181 0, .ref 26, .none, .none, .none, .none, .int 201 0, .int 5 0, .str (Str.ofString "/claim/cut.py") 202]), List.toArray []⟩
noncomputable def v64 (_P : Params) : PySem.Obj := ⟨.type "frame", none, .plain, List.toArray [some (.ref 27), some (.ref 3), some (.ref 24), none, some (.str (Str.ofString "crcgate.errors") 194), none, some (.ref 0)]⟩
noncomputable def v65 (_P : Params) : PySem.Obj := ⟨.type "tuple", none, .seq (List.toArray []) 0, List.toArray []⟩
noncomputable def v66 (P : Params) : PySem.Obj := ⟨.type "dict", none, .dict (List.toArray [⟨PyData.keyHash P (Str.ofString "__module__"), .str (Str.ofString "__module__") 203, .str (Str.ofString "crcgate.errors") 194⟩, ⟨PyData.keyHash P (Str.ofString "__firstlineno__"), .str (Str.ofString "__firstlineno__") 207, .int 5 206⟩, ⟨PyData.keyHash P (Str.ofString "__static_attributes__"), .str (Str.ofString "__static_attributes__") 208, .ref 29⟩, ⟨PyData.keyHash P (Str.ofString "__weakref__"), .str (Str.ofString "__weakref__") 210, .ref 32⟩, ⟨PyData.keyHash P (Str.ofString "__doc__"), .str (Str.ofString "__doc__") 211, .none⟩]) 3, List.toArray []⟩
noncomputable def v67 (_P : Params) : PySem.Obj := ⟨.type "type", none, .cls ⟨Str.ofString "GateError", [.type "ValueError"], [.ref 31, .type "ValueError", .type "Exception", .type "BaseException", .type "object"], 30, Str.ofString "GateError", true, [], [], false, none, false⟩, List.toArray [some (.ref 22), none, some (.str (Str.ofString "GateError") 196), some (.str (Str.ofString "GateError") 204), some (.builtin "ValueError.__new__"), some (.bool true)]⟩
noncomputable def v68 (_P : Params) : PySem.Obj := ⟨.type "getset_descriptor", none, .fields (List.toArray [.str (Str.ofString "__weakref__") 209, .ref 31, .builtin "ExceptionGroup.__weakref__", .none]), List.toArray []⟩
noncomputable def v69 (_P : Params) : PySem.Obj := ⟨.type "super", none, .fields (List.toArray [.ref 31, .ref 31, .ref 31]), List.toArray []⟩
noncomputable def v70 (_P : Params) : PySem.Obj := ⟨.type "builtin_function_or_method", none, .fields (List.toArray [.builtin "object.__init_subclass__", .ref 31]), List.toArray []⟩
noncomputable def tr70 (P : Params) : PySem.W.BT := .node (PySem.W.boot_o_0 P) (.node (PySem.W.boot_o_1 P) (.node (v49 P) (.node (PySem.W.boot_o_7 P) (.node (v51 P) (.node (v67 P) .nil .nil) .nil) (.node (v59 P) .nil .nil)) (.node (v43 P) (.node (v55 P) .nil .nil) (.node (v63 P) .nil .nil))) (.node (PySem.W.boot_o_5 P) (.node (PySem.W.boot_o_9 P) (.node (v53 P) (.node (v69 P) .nil .nil) .nil) (.node (v61 P) .nil .nil)) (.node (v45 P) (.node (v57 P) .nil .nil) (.node (v65 P) .nil .nil)))) (.node (PySem.W.boot_o_2 P) (.node (PySem.W.boot_o_4 P) (.node (PySem.W.boot_o_8 P) (.node (v52 P) (.node (v68 P) .nil .nil) .nil) (.node (v60 P) .nil .nil)) (.node (v50 P) (.node (v56 P) .nil .nil) (.node (v64 P) .nil .nil))) (.node (PySem.W.boot_o_6 P) (.node (PySem.W.boot_o_10 P) (.node (v54 P) (.node (v70 P) .nil .nil) .nil) (.node (v62 P) .nil .nil)) (.node (v46 P) (.node (v58 P) .nil .nil) (.node (v66 P) .nil .nil))))
noncomputable def v71 (P : Params) : PySem.Obj := ⟨.type "dict", none, .dict (List.toArray [⟨PyData.keyHash P (Str.ofString "__name__"), .str (Str.ofString "__name__") 165, .str (Str.ofString "crcgate.errors") 194⟩, ⟨PyData.keyHash P (Str.ofString "__doc__"), .str (Str.ofString "__doc__") 166, .none⟩, ⟨PyData.keyHash P (Str.ofString "__package__"), .str (Str.ofString "__package__") 167, .none⟩, ⟨PyData.keyHash P (Str.ofString "__loader__"), .str (Str.ofString "__loader__") 168, .builtin "__main__.__loader__#opaque"⟩, ⟨PyData.keyHash P (Str.ofString "__spec__"), .str (Str.ofString "__spec__") 169, .none⟩, ⟨PyData.keyHash P (Str.ofString "__annotations__"), .str (Str.ofString "__annotations__") 170, .ref 6⟩, ⟨PyData.keyHash P (Str.ofString "__builtins__"), .str (Str.ofString "__builtins__") 171, .ref 4⟩, ⟨PyData.keyHash P (Str.ofString "__file__"), .str (Str.ofString "__file__") 173, .str (Str.ofString "/claim/cut.py") 172⟩, ⟨PyData.keyHash P (Str.ofString "__cached__"), .str (Str.ofString "__cached__") 174, .none⟩, ⟨PyData.keyHash P (Str.ofString "_wall"), .str (Str.ofString "_wall") 193, .ref 21⟩, ⟨PyData.keyHash P (Str.ofString "GateError"), .str (Str.ofString "GateError") 213, .ref 31⟩, ⟨PyData.keyHash P (Str.ofString "NoRow"), .str (Str.ofString "NoRow") 229, .ref 44⟩]) 12, List.toArray []⟩
noncomputable def v72 (_P : Params) : PySem.Obj := ⟨.none, none, .fields (List.toArray [.int 1 0, .int 0 0, .ref 20, .int 5 0, .int 0 0, .ref 27, .int 7 0, .int 0 0, .ref 40]), List.toArray []⟩
noncomputable def v73 (_P : Params) : PySem.Obj := ⟨.type "type", none, .cls ⟨Str.ofString "GateError", [.type "ValueError"], [.ref 31, .type "ValueError", .type "Exception", .type "BaseException", .type "object"], 30, Str.ofString "GateError", true, [], [.ref 44], false, none, false⟩, List.toArray [some (.ref 22), none, some (.str (Str.ofString "GateError") 196), some (.str (Str.ofString "GateError") 204), some (.builtin "ValueError.__new__"), some (.bool true)]⟩
noncomputable def v74 (_P : Params) : PySem.Obj := ⟨.type "tuple", none, .seq (List.toArray [.ref 31]) 0, List.toArray []⟩
noncomputable def v75 (_P : Params) : PySem.Obj := ⟨.type "builtin_function_or_method", none, .fields (List.toArray [.builtin "type.__prepare__", .type "type"]), List.toArray []⟩
noncomputable def v76 (P : Params) : PySem.Obj := ⟨.type "dict", none, .dict (List.toArray [⟨PyData.keyHash P (Str.ofString "__module__"), .str (Str.ofString "__module__") 221, .str (Str.ofString "crcgate.errors") 194⟩, ⟨PyData.keyHash P (Str.ofString "__qualname__"), .str (Str.ofString "__qualname__") 223, .str (Str.ofString "NoRow") 222⟩, ⟨PyData.keyHash P (Str.ofString "__firstlineno__"), .str (Str.ofString "__firstlineno__") 225, .int 7 224⟩, ⟨PyData.keyHash P (Str.ofString "__static_attributes__"), .str (Str.ofString "__static_attributes__") 226, .ref 42⟩]) 4, List.toArray []⟩
noncomputable def v77 (_P : Params) : PySem.Obj := ⟨.type "tuple", none, .seq (List.toArray []) 0, List.toArray []⟩
noncomputable def v78 (_P : Params) : PySem.Obj := ⟨.none, none, .fields (List.toArray []), List.toArray []⟩
noncomputable def v79 (_P : Params) : PySem.Obj := ⟨.type "code", none, .fields (List.toArray [.str (Str.ofString "NoRow") 216, .str (Str.ofString "NoRow") 217, .str (Str.ofString "/claim/cut.py") 218, .int 7 0, .int 0 0, .int 0 0, .int 0 0, .int 0 0, .ref 38, .bool false, .int 181 0, .ref 39, .none, .none, .none, .none, .int 219 0, .int 7 0, .str (Str.ofString "/claim/cut.py") 220]), List.toArray []⟩
noncomputable def v80 (_P : Params) : PySem.Obj := ⟨.type "frame", none, .plain, List.toArray [some (.ref 40), some (.ref 3), some (.ref 37), none, some (.str (Str.ofString "crcgate.errors") 194), none, some (.ref 0)]⟩
noncomputable def v81 (_P : Params) : PySem.Obj := ⟨.type "tuple", none, .seq (List.toArray []) 0, List.toArray []⟩
noncomputable def v82 (P : Params) : PySem.Obj := ⟨.type "dict", none, .dict (List.toArray [⟨PyData.keyHash P (Str.ofString "__module__"), .str (Str.ofString "__module__") 221, .str (Str.ofString "crcgate.errors") 194⟩, ⟨PyData.keyHash P (Str.ofString "__firstlineno__"), .str (Str.ofString "__firstlineno__") 225, .int 7 224⟩, ⟨PyData.keyHash P (Str.ofString "__static_attributes__"), .str (Str.ofString "__static_attributes__") 226, .ref 42⟩, ⟨PyData.keyHash P (Str.ofString "__doc__"), .str (Str.ofString "__doc__") 227, .none⟩]) 2, List.toArray []⟩
noncomputable def v83 (_P : Params) : PySem.Obj := ⟨.type "type", none, .cls ⟨Str.ofString "NoRow", [.ref 31], [.ref 44, .ref 31, .type "ValueError", .type "Exception", .type "BaseException", .type "object"], 43, Str.ofString "NoRow", true, [], [], false, none, false⟩, List.toArray [some (.ref 35), none, some (.str (Str.ofString "NoRow") 214), some (.str (Str.ofString "NoRow") 222), some (.builtin "ValueError.__new__"), some (.bool true)]⟩
noncomputable def v84 (_P : Params) : PySem.Obj := ⟨.type "super", none, .fields (List.toArray [.ref 44, .ref 44, .ref 44]), List.toArray []⟩
noncomputable def v85 (_P : Params) : PySem.Obj := ⟨.type "builtin_function_or_method", none, .fields (List.toArray [.builtin "object.__init_subclass__", .ref 44]), List.toArray []⟩
noncomputable def tr85 (P : Params) : PySem.W.BT := .node (PySem.W.boot_o_0 P) (.node (PySem.W.boot_o_1 P) (.node (v71 P) (.node (PySem.W.boot_o_7 P) (.node (v51 P) (.node (v73 P) .nil .nil) .nil) (.node (v59 P) (.node (v78 P) .nil .nil) .nil)) (.node (v43 P) (.node (v55 P) (.node (v74 P) .nil .nil) .nil) (.node (v63 P) (.node (v82 P) .nil .nil) .nil))) (.node (PySem.W.boot_o_5 P) (.node (PySem.W.boot_o_9 P) (.node (v53 P) (.node (v69 P) .nil .nil) .nil) (.node (v61 P) (.node (v80 P) .nil .nil) .nil)) (.node (v45 P) (.node (v57 P) (.node (v76 P) .nil .nil) .nil) (.node (v65 P) (.node (v84 P) .nil .nil) .nil)))) (.node (PySem.W.boot_o_2 P) (.node (PySem.W.boot_o_4 P) (.node (PySem.W.boot_o_8 P) (.node (v52 P) (.node (v68 P) .nil .nil) .nil) (.node (v60 P) (.node (v79 P) .nil .nil) .nil)) (.node (v72 P) (.node (v56 P) (.node (v75 P) .nil .nil) .nil) (.node (v64 P) (.node (v83 P) .nil .nil) .nil))) (.node (PySem.W.boot_o_6 P) (.node (PySem.W.boot_o_10 P) (.node (v54 P) (.node (v70 P) .nil .nil) .nil) (.node (v62 P) (.node (v81 P) .nil .nil) .nil)) (.node (v46 P) (.node (v58 P) (.node (v77 P) .nil .nil) .nil) (.node (v66 P) (.node (v85 P) .nil .nil) .nil))))
noncomputable def v86 (P : Params) : PySem.Obj := ⟨.type "dict", none, .dict (List.toArray [⟨PyData.keyHash P (Str.ofString "__name__"), .str (Str.ofString "__name__") 165, .str (Str.ofString "crcgate.errors") 194⟩, ⟨PyData.keyHash P (Str.ofString "__doc__"), .str (Str.ofString "__doc__") 166, .none⟩, ⟨PyData.keyHash P (Str.ofString "__package__"), .str (Str.ofString "__package__") 167, .none⟩, ⟨PyData.keyHash P (Str.ofString "__loader__"), .str (Str.ofString "__loader__") 168, .builtin "__main__.__loader__#opaque"⟩, ⟨PyData.keyHash P (Str.ofString "__spec__"), .str (Str.ofString "__spec__") 169, .none⟩, ⟨PyData.keyHash P (Str.ofString "__annotations__"), .str (Str.ofString "__annotations__") 170, .ref 6⟩, ⟨PyData.keyHash P (Str.ofString "__builtins__"), .str (Str.ofString "__builtins__") 171, .ref 4⟩, ⟨PyData.keyHash P (Str.ofString "__file__"), .str (Str.ofString "__file__") 173, .str (Str.ofString "/claim/cut.py") 172⟩, ⟨PyData.keyHash P (Str.ofString "__cached__"), .str (Str.ofString "__cached__") 174, .none⟩, ⟨PyData.keyHash P (Str.ofString "_wall"), .str (Str.ofString "_wall") 193, .ref 21⟩, ⟨PyData.keyHash P (Str.ofString "GateError"), .str (Str.ofString "GateError") 213, .ref 31⟩, ⟨PyData.keyHash P (Str.ofString "NoRow"), .str (Str.ofString "NoRow") 229, .ref 44⟩, ⟨PyData.keyHash P (Str.ofString "NoSign"), .str (Str.ofString "NoSign") 245, .ref 56⟩]) 13, List.toArray []⟩
noncomputable def v87 (_P : Params) : PySem.Obj := ⟨.none, none, .fields (List.toArray [.int 1 0, .int 0 0, .ref 20, .int 5 0, .int 0 0, .ref 27, .int 7 0, .int 0 0, .ref 40, .int 9 0, .int 0 0, .ref 52]), List.toArray []⟩
noncomputable def v88 (_P : Params) : PySem.Obj := ⟨.type "type", none, .cls ⟨Str.ofString "GateError", [.type "ValueError"], [.ref 31, .type "ValueError", .type "Exception", .type "BaseException", .type "object"], 30, Str.ofString "GateError", true, [], [.ref 44, .ref 56], false, none, false⟩, List.toArray [some (.ref 22), none, some (.str (Str.ofString "GateError") 196), some (.str (Str.ofString "GateError") 204), some (.builtin "ValueError.__new__"), some (.bool true)]⟩
noncomputable def v89 (_P : Params) : PySem.Obj := ⟨.type "tuple", none, .seq (List.toArray [.ref 31]) 0, List.toArray []⟩
noncomputable def v90 (_P : Params) : PySem.Obj := ⟨.type "builtin_function_or_method", none, .fields (List.toArray [.builtin "type.__prepare__", .type "type"]), List.toArray []⟩
noncomputable def v91 (P : Params) : PySem.Obj := ⟨.type "dict", none, .dict (List.toArray [⟨PyData.keyHash P (Str.ofString "__module__"), .str (Str.ofString "__module__") 237, .str (Str.ofString "crcgate.errors") 194⟩, ⟨PyData.keyHash P (Str.ofString "__qualname__"), .str (Str.ofString "__qualname__") 239, .str (Str.ofString "NoSign") 238⟩, ⟨PyData.keyHash P (Str.ofString "__firstlineno__"), .str (Str.ofString "__firstlineno__") 241, .int 9 240⟩, ⟨PyData.keyHash P (Str.ofString "__static_attributes__"), .str (Str.ofString "__static_attributes__") 242, .ref 54⟩]) 4, List.toArray []⟩
noncomputable def v92 (_P : Params) : PySem.Obj := ⟨.type "tuple", none, .seq (List.toArray []) 0, List.toArray []⟩
noncomputable def v93 (_P : Params) : PySem.Obj := ⟨.none, none, .fields (List.toArray []), List.toArray []⟩
noncomputable def v94 (_P : Params) : PySem.Obj := ⟨.type "code", none, .fields (List.toArray [.str (Str.ofString "NoSign") 232, .str (Str.ofString "NoSign") 233, .str (Str.ofString "/claim/cut.py") 234, .int 9 0, .int 0 0, .int 0 0, .int 0 0, .int 0 0, .ref 50, .bool false, .int 181 0, .ref 51, .none, .none, .none, .none, .int 235 0, .int 9 0, .str (Str.ofString "/claim/cut.py") 236]), List.toArray []⟩
noncomputable def v95 (_P : Params) : PySem.Obj := ⟨.type "frame", none, .plain, List.toArray [some (.ref 52), some (.ref 3), some (.ref 49), none, some (.str (Str.ofString "crcgate.errors") 194), none, some (.ref 0)]⟩
noncomputable def v96 (_P : Params) : PySem.Obj := ⟨.type "tuple", none, .seq (List.toArray []) 0, List.toArray []⟩
noncomputable def v97 (P : Params) : PySem.Obj := ⟨.type "dict", none, .dict (List.toArray [⟨PyData.keyHash P (Str.ofString "__module__"), .str (Str.ofString "__module__") 237, .str (Str.ofString "crcgate.errors") 194⟩, ⟨PyData.keyHash P (Str.ofString "__firstlineno__"), .str (Str.ofString "__firstlineno__") 241, .int 9 240⟩, ⟨PyData.keyHash P (Str.ofString "__static_attributes__"), .str (Str.ofString "__static_attributes__") 242, .ref 54⟩, ⟨PyData.keyHash P (Str.ofString "__doc__"), .str (Str.ofString "__doc__") 243, .none⟩]) 2, List.toArray []⟩
noncomputable def v98 (_P : Params) : PySem.Obj := ⟨.type "type", none, .cls ⟨Str.ofString "NoSign", [.ref 31], [.ref 56, .ref 31, .type "ValueError", .type "Exception", .type "BaseException", .type "object"], 55, Str.ofString "NoSign", true, [], [], false, none, false⟩, List.toArray [some (.ref 47), none, some (.str (Str.ofString "NoSign") 230), some (.str (Str.ofString "NoSign") 238), some (.builtin "ValueError.__new__"), some (.bool true)]⟩
noncomputable def v99 (_P : Params) : PySem.Obj := ⟨.type "super", none, .fields (List.toArray [.ref 56, .ref 56, .ref 56]), List.toArray []⟩
noncomputable def v100 (_P : Params) : PySem.Obj := ⟨.type "builtin_function_or_method", none, .fields (List.toArray [.builtin "object.__init_subclass__", .ref 56]), List.toArray []⟩
noncomputable def tr100 (P : Params) : PySem.W.BT := .node (PySem.W.boot_o_0 P) (.node (PySem.W.boot_o_1 P) (.node (v86 P) (.node (PySem.W.boot_o_7 P) (.node (v51 P) (.node (v88 P) .nil .nil) (.node (v89 P) .nil .nil)) (.node (v59 P) (.node (v78 P) .nil .nil) (.node (v97 P) .nil .nil))) (.node (v43 P) (.node (v55 P) (.node (v74 P) .nil .nil) (.node (v93 P) .nil .nil)) (.node (v63 P) (.node (v82 P) .nil .nil) .nil))) (.node (PySem.W.boot_o_5 P) (.node (PySem.W.boot_o_9 P) (.node (v53 P) (.node (v69 P) .nil .nil) (.node (v91 P) .nil .nil)) (.node (v61 P) (.node (v80 P) .nil .nil) (.node (v99 P) .nil .nil))) (.node (v45 P) (.node (v57 P) (.node (v76 P) .nil .nil) (.node (v95 P) .nil .nil)) (.node (v65 P) (.node (v84 P) .nil .nil) .nil)))) (.node (PySem.W.boot_o_2 P) (.node (PySem.W.boot_o_4 P) (.node (PySem.W.boot_o_8 P) (.node (v52 P) (.node (v68 P) .nil .nil) (.node (v90 P) .nil .nil)) (.node (v60 P) (.node (v79 P) .nil .nil) (.node (v98 P) .nil .nil))) (.node (v87 P) (.node (v56 P) (.node (v75 P) .nil .nil) (.node (v94 P) .nil .nil)) (.node (v64 P) (.node (v83 P) .nil .nil) .nil))) (.node (PySem.W.boot_o_6 P) (.node (PySem.W.boot_o_10 P) (.node (v54 P) (.node (v70 P) .nil .nil) (.node (v92 P) .nil .nil)) (.node (v62 P) (.node (v81 P) .nil .nil) (.node (v100 P) .nil .nil))) (.node (v46 P) (.node (v58 P) (.node (v77 P) .nil .nil) (.node (v96 P) .nil .nil)) (.node (v66 P) (.node (v85 P) .nil .nil) .nil))))
noncomputable def v101 (P : Params) : PySem.Obj := ⟨.type "dict", none, .dict (List.toArray [⟨PyData.keyHash P (Str.ofString "__name__"), .str (Str.ofString "__name__") 165, .str (Str.ofString "crcgate.errors") 194⟩, ⟨PyData.keyHash P (Str.ofString "__doc__"), .str (Str.ofString "__doc__") 166, .none⟩, ⟨PyData.keyHash P (Str.ofString "__package__"), .str (Str.ofString "__package__") 167, .none⟩, ⟨PyData.keyHash P (Str.ofString "__loader__"), .str (Str.ofString "__loader__") 168, .builtin "__main__.__loader__#opaque"⟩, ⟨PyData.keyHash P (Str.ofString "__spec__"), .str (Str.ofString "__spec__") 169, .none⟩, ⟨PyData.keyHash P (Str.ofString "__annotations__"), .str (Str.ofString "__annotations__") 170, .ref 6⟩, ⟨PyData.keyHash P (Str.ofString "__builtins__"), .str (Str.ofString "__builtins__") 171, .ref 4⟩, ⟨PyData.keyHash P (Str.ofString "__file__"), .str (Str.ofString "__file__") 173, .str (Str.ofString "/claim/cut.py") 172⟩, ⟨PyData.keyHash P (Str.ofString "__cached__"), .str (Str.ofString "__cached__") 174, .none⟩, ⟨PyData.keyHash P (Str.ofString "_wall"), .str (Str.ofString "_wall") 193, .ref 21⟩, ⟨PyData.keyHash P (Str.ofString "GateError"), .str (Str.ofString "GateError") 213, .ref 31⟩, ⟨PyData.keyHash P (Str.ofString "NoRow"), .str (Str.ofString "NoRow") 229, .ref 44⟩, ⟨PyData.keyHash P (Str.ofString "NoSign"), .str (Str.ofString "NoSign") 245, .ref 56⟩, ⟨PyData.keyHash P (Str.ofString "NoDivisor"), .str (Str.ofString "NoDivisor") 261, .ref 68⟩]) 14, List.toArray []⟩
noncomputable def v102 (_P : Params) : PySem.Obj := ⟨.none, none, .fields (List.toArray [.int 1 0, .int 0 0, .ref 20, .int 5 0, .int 0 0, .ref 27, .int 7 0, .int 0 0, .ref 40, .int 9 0, .int 0 0, .ref 52, .int 11 0, .int 0 0, .ref 64]), List.toArray []⟩
noncomputable def v103 (_P : Params) : PySem.Obj := ⟨.type "type", none, .cls ⟨Str.ofString "GateError", [.type "ValueError"], [.ref 31, .type "ValueError", .type "Exception", .type "BaseException", .type "object"], 30, Str.ofString "GateError", true, [], [.ref 44, .ref 56, .ref 68], false, none, false⟩, List.toArray [some (.ref 22), none, some (.str (Str.ofString "GateError") 196), some (.str (Str.ofString "GateError") 204), some (.builtin "ValueError.__new__"), some (.bool true)]⟩
noncomputable def v104 (_P : Params) : PySem.Obj := ⟨.type "tuple", none, .seq (List.toArray [.ref 31]) 0, List.toArray []⟩
noncomputable def v105 (_P : Params) : PySem.Obj := ⟨.type "builtin_function_or_method", none, .fields (List.toArray [.builtin "type.__prepare__", .type "type"]), List.toArray []⟩
noncomputable def v106 (P : Params) : PySem.Obj := ⟨.type "dict", none, .dict (List.toArray [⟨PyData.keyHash P (Str.ofString "__module__"), .str (Str.ofString "__module__") 253, .str (Str.ofString "crcgate.errors") 194⟩, ⟨PyData.keyHash P (Str.ofString "__qualname__"), .str (Str.ofString "__qualname__") 255, .str (Str.ofString "NoDivisor") 254⟩, ⟨PyData.keyHash P (Str.ofString "__firstlineno__"), .str (Str.ofString "__firstlineno__") 257, .int 11 256⟩, ⟨PyData.keyHash P (Str.ofString "__static_attributes__"), .str (Str.ofString "__static_attributes__") 258, .ref 66⟩]) 4, List.toArray []⟩
noncomputable def v107 (_P : Params) : PySem.Obj := ⟨.type "tuple", none, .seq (List.toArray []) 0, List.toArray []⟩
noncomputable def v108 (_P : Params) : PySem.Obj := ⟨.none, none, .fields (List.toArray []), List.toArray []⟩
noncomputable def v109 (_P : Params) : PySem.Obj := ⟨.type "code", none, .fields (List.toArray [.str (Str.ofString "NoDivisor") 248, .str (Str.ofString "NoDivisor") 249, .str (Str.ofString "/claim/cut.py") 250, .int 11 0, .int 0 0, .int 0 0, .int 0 0, .int 0 0, .ref 62, .bool false, .int 181 0, .ref 63, .none, .none, .none, .none, .int 251 0, .int 11 0, .str (Str.ofString "/claim/cut.py") 252]), List.toArray []⟩
noncomputable def v110 (_P : Params) : PySem.Obj := ⟨.type "frame", none, .plain, List.toArray [some (.ref 64), some (.ref 3), some (.ref 61), none, some (.str (Str.ofString "crcgate.errors") 194), none, some (.ref 0)]⟩
noncomputable def v111 (_P : Params) : PySem.Obj := ⟨.type "tuple", none, .seq (List.toArray []) 0, List.toArray []⟩
noncomputable def v112 (P : Params) : PySem.Obj := ⟨.type "dict", none, .dict (List.toArray [⟨PyData.keyHash P (Str.ofString "__module__"), .str (Str.ofString "__module__") 253, .str (Str.ofString "crcgate.errors") 194⟩, ⟨PyData.keyHash P (Str.ofString "__firstlineno__"), .str (Str.ofString "__firstlineno__") 257, .int 11 256⟩, ⟨PyData.keyHash P (Str.ofString "__static_attributes__"), .str (Str.ofString "__static_attributes__") 258, .ref 66⟩, ⟨PyData.keyHash P (Str.ofString "__doc__"), .str (Str.ofString "__doc__") 259, .none⟩]) 2, List.toArray []⟩
noncomputable def v113 (_P : Params) : PySem.Obj := ⟨.type "type", none, .cls ⟨Str.ofString "NoDivisor", [.ref 31], [.ref 68, .ref 31, .type "ValueError", .type "Exception", .type "BaseException", .type "object"], 67, Str.ofString "NoDivisor", true, [], [], false, none, false⟩, List.toArray [some (.ref 59), none, some (.str (Str.ofString "NoDivisor") 246), some (.str (Str.ofString "NoDivisor") 254), some (.builtin "ValueError.__new__"), some (.bool true)]⟩
noncomputable def v114 (_P : Params) : PySem.Obj := ⟨.type "super", none, .fields (List.toArray [.ref 68, .ref 68, .ref 68]), List.toArray []⟩
noncomputable def v115 (_P : Params) : PySem.Obj := ⟨.type "builtin_function_or_method", none, .fields (List.toArray [.builtin "object.__init_subclass__", .ref 68]), List.toArray []⟩
noncomputable def tr115 (P : Params) : PySem.W.BT := .node (PySem.W.boot_o_0 P) (.node (PySem.W.boot_o_1 P) (.node (v101 P) (.node (PySem.W.boot_o_7 P) (.node (v51 P) (.node (v103 P) (.node (v108 P) .nil .nil) .nil) (.node (v89 P) .nil .nil)) (.node (v59 P) (.node (v78 P) .nil .nil) (.node (v97 P) .nil .nil))) (.node (v43 P) (.node (v55 P) (.node (v74 P) (.node (v112 P) .nil .nil) .nil) (.node (v93 P) .nil .nil)) (.node (v63 P) (.node (v82 P) .nil .nil) (.node (v104 P) .nil .nil)))) (.node (PySem.W.boot_o_5 P) (.node (PySem.W.boot_o_9 P) (.node (v53 P) (.node (v69 P) (.node (v110 P) .nil .nil) .nil) (.node (v91 P) .nil .nil)) (.node (v61 P) (.node (v80 P) .nil .nil) (.node (v99 P) .nil .nil))) (.node (v45 P) (.node (v57 P) (.node (v76 P) (.node (v114 P) .nil .nil) .nil) (.node (v95 P) .nil .nil)) (.node (v65 P) (.node (v84 P) .nil .nil) (.node (v106 P) .nil .nil))))) (.node (PySem.W.boot_o_2 P) (.node (PySem.W.boot_o_4 P) (.node (PySem.W.boot_o_8 P) (.node (v52 P) (.node (v68 P) (.node (v109 P) .nil .nil) .nil) (.node (v90 P) .nil .nil)) (.node (v60 P) (.node (v79 P) .nil .nil) (.node (v98 P) .nil .nil))) (.node (v102 P) (.node (v56 P) (.node (v75 P) (.node (v113 P) .nil .nil) .nil) (.node (v94 P) .nil .nil)) (.node (v64 P) (.node (v83 P) .nil .nil) (.node (v105 P) .nil .nil)))) (.node (PySem.W.boot_o_6 P) (.node (PySem.W.boot_o_10 P) (.node (v54 P) (.node (v70 P) (.node (v111 P) .nil .nil) .nil) (.node (v92 P) .nil .nil)) (.node (v62 P) (.node (v81 P) .nil .nil) (.node (v100 P) .nil .nil))) (.node (v46 P) (.node (v58 P) (.node (v77 P) (.node (v115 P) .nil .nil) .nil) (.node (v96 P) .nil .nil)) (.node (v66 P) (.node (v85 P) .nil .nil) (.node (v107 P) .nil .nil)))))
noncomputable def v116 (P : Params) : PySem.Obj := ⟨.type "dict", none, .dict (List.toArray [⟨PyData.keyHash P (Str.ofString "__name__"), .str (Str.ofString "__name__") 165, .str (Str.ofString "crcgate.errors") 194⟩, ⟨PyData.keyHash P (Str.ofString "__doc__"), .str (Str.ofString "__doc__") 166, .none⟩, ⟨PyData.keyHash P (Str.ofString "__package__"), .str (Str.ofString "__package__") 167, .none⟩, ⟨PyData.keyHash P (Str.ofString "__loader__"), .str (Str.ofString "__loader__") 168, .builtin "__main__.__loader__#opaque"⟩, ⟨PyData.keyHash P (Str.ofString "__spec__"), .str (Str.ofString "__spec__") 169, .none⟩, ⟨PyData.keyHash P (Str.ofString "__annotations__"), .str (Str.ofString "__annotations__") 170, .ref 6⟩, ⟨PyData.keyHash P (Str.ofString "__builtins__"), .str (Str.ofString "__builtins__") 171, .ref 4⟩, ⟨PyData.keyHash P (Str.ofString "__file__"), .str (Str.ofString "__file__") 173, .str (Str.ofString "/claim/cut.py") 172⟩, ⟨PyData.keyHash P (Str.ofString "__cached__"), .str (Str.ofString "__cached__") 174, .none⟩, ⟨PyData.keyHash P (Str.ofString "_wall"), .str (Str.ofString "_wall") 193, .ref 21⟩, ⟨PyData.keyHash P (Str.ofString "GateError"), .str (Str.ofString "GateError") 213, .ref 31⟩, ⟨PyData.keyHash P (Str.ofString "NoRow"), .str (Str.ofString "NoRow") 229, .ref 44⟩, ⟨PyData.keyHash P (Str.ofString "NoSign"), .str (Str.ofString "NoSign") 245, .ref 56⟩, ⟨PyData.keyHash P (Str.ofString "NoDivisor"), .str (Str.ofString "NoDivisor") 261, .ref 68⟩, ⟨PyData.keyHash P (Str.ofString "NoCount"), .str (Str.ofString "NoCount") 277, .ref 80⟩]) 15, List.toArray []⟩
noncomputable def v117 (_P : Params) : PySem.Obj := ⟨.none, none, .fields (List.toArray [.int 1 0, .int 0 0, .ref 20, .int 5 0, .int 0 0, .ref 27, .int 7 0, .int 0 0, .ref 40, .int 9 0, .int 0 0, .ref 52, .int 11 0, .int 0 0, .ref 64, .int 13 0, .int 0 0, .ref 76]), List.toArray []⟩
noncomputable def v118 (_P : Params) : PySem.Obj := ⟨.type "type", none, .cls ⟨Str.ofString "GateError", [.type "ValueError"], [.ref 31, .type "ValueError", .type "Exception", .type "BaseException", .type "object"], 30, Str.ofString "GateError", true, [], [.ref 44, .ref 56, .ref 68, .ref 80], false, none, false⟩, List.toArray [some (.ref 22), none, some (.str (Str.ofString "GateError") 196), some (.str (Str.ofString "GateError") 204), some (.builtin "ValueError.__new__"), some (.bool true)]⟩
noncomputable def v119 (_P : Params) : PySem.Obj := ⟨.type "tuple", none, .seq (List.toArray [.ref 31]) 0, List.toArray []⟩
noncomputable def v120 (_P : Params) : PySem.Obj := ⟨.type "builtin_function_or_method", none, .fields (List.toArray [.builtin "type.__prepare__", .type "type"]), List.toArray []⟩
noncomputable def v121 (P : Params) : PySem.Obj := ⟨.type "dict", none, .dict (List.toArray [⟨PyData.keyHash P (Str.ofString "__module__"), .str (Str.ofString "__module__") 269, .str (Str.ofString "crcgate.errors") 194⟩, ⟨PyData.keyHash P (Str.ofString "__qualname__"), .str (Str.ofString "__qualname__") 271, .str (Str.ofString "NoCount") 270⟩, ⟨PyData.keyHash P (Str.ofString "__firstlineno__"), .str (Str.ofString "__firstlineno__") 273, .int 13 272⟩, ⟨PyData.keyHash P (Str.ofString "__static_attributes__"), .str (Str.ofString "__static_attributes__") 274, .ref 78⟩]) 4, List.toArray []⟩
noncomputable def v122 (_P : Params) : PySem.Obj := ⟨.type "tuple", none, .seq (List.toArray []) 0, List.toArray []⟩
noncomputable def v123 (_P : Params) : PySem.Obj := ⟨.none, none, .fields (List.toArray []), List.toArray []⟩
noncomputable def v124 (_P : Params) : PySem.Obj := ⟨.type "code", none, .fields (List.toArray [.str (Str.ofString "NoCount") 264, .str (Str.ofString "NoCount") 265, .str (Str.ofString "/claim/cut.py") 266, .int 13 0, .int 0 0, .int 0 0, .int 0 0, .int 0 0, .ref 74, .bool false, .int 181 0, .ref 75, .none, .none, .none, .none, .int 267 0, .int 13 0, .str (Str.ofString "/claim/cut.py") 268]), List.toArray []⟩
noncomputable def v125 (_P : Params) : PySem.Obj := ⟨.type "frame", none, .plain, List.toArray [some (.ref 76), some (.ref 3), some (.ref 73), none, some (.str (Str.ofString "crcgate.errors") 194), none, some (.ref 0)]⟩
noncomputable def v126 (_P : Params) : PySem.Obj := ⟨.type "tuple", none, .seq (List.toArray []) 0, List.toArray []⟩
noncomputable def v127 (P : Params) : PySem.Obj := ⟨.type "dict", none, .dict (List.toArray [⟨PyData.keyHash P (Str.ofString "__module__"), .str (Str.ofString "__module__") 269, .str (Str.ofString "crcgate.errors") 194⟩, ⟨PyData.keyHash P (Str.ofString "__firstlineno__"), .str (Str.ofString "__firstlineno__") 273, .int 13 272⟩, ⟨PyData.keyHash P (Str.ofString "__static_attributes__"), .str (Str.ofString "__static_attributes__") 274, .ref 78⟩, ⟨PyData.keyHash P (Str.ofString "__doc__"), .str (Str.ofString "__doc__") 275, .none⟩]) 2, List.toArray []⟩
noncomputable def v128 (_P : Params) : PySem.Obj := ⟨.type "type", none, .cls ⟨Str.ofString "NoCount", [.ref 31], [.ref 80, .ref 31, .type "ValueError", .type "Exception", .type "BaseException", .type "object"], 79, Str.ofString "NoCount", true, [], [], false, none, false⟩, List.toArray [some (.ref 71), none, some (.str (Str.ofString "NoCount") 262), some (.str (Str.ofString "NoCount") 270), some (.builtin "ValueError.__new__"), some (.bool true)]⟩
noncomputable def v129 (_P : Params) : PySem.Obj := ⟨.type "super", none, .fields (List.toArray [.ref 80, .ref 80, .ref 80]), List.toArray []⟩
noncomputable def v130 (_P : Params) : PySem.Obj := ⟨.type "builtin_function_or_method", none, .fields (List.toArray [.builtin "object.__init_subclass__", .ref 80]), List.toArray []⟩
noncomputable def tr130 (P : Params) : PySem.W.BT := .node (PySem.W.boot_o_0 P) (.node (PySem.W.boot_o_1 P) (.node (v116 P) (.node (PySem.W.boot_o_7 P) (.node (v51 P) (.node (v118 P) (.node (v108 P) .nil .nil) .nil) (.node (v89 P) (.node (v127 P) .nil .nil) .nil)) (.node (v59 P) (.node (v78 P) (.node (v119 P) .nil .nil) .nil) (.node (v97 P) .nil .nil))) (.node (v43 P) (.node (v55 P) (.node (v74 P) (.node (v112 P) .nil .nil) .nil) (.node (v93 P) .nil .nil)) (.node (v63 P) (.node (v82 P) (.node (v123 P) .nil .nil) .nil) (.node (v104 P) .nil .nil)))) (.node (PySem.W.boot_o_5 P) (.node (PySem.W.boot_o_9 P) (.node (v53 P) (.node (v69 P) (.node (v110 P) .nil .nil) .nil) (.node (v91 P) (.node (v129 P) .nil .nil) .nil)) (.node (v61 P) (.node (v80 P) (.node (v121 P) .nil .nil) .nil) (.node (v99 P) .nil .nil))) (.node (v45 P) (.node (v57 P) (.node (v76 P) (.node (v114 P) .nil .nil) .nil) (.node (v95 P) .nil .nil)) (.node (v65 P) (.node (v84 P) (.node (v125 P) .nil .nil) .nil) (.node (v106 P) .nil .nil))))) (.node (PySem.W.boot_o_2 P) (.node (PySem.W.boot_o_4 P) (.node (PySem.W.boot_o_8 P) (.node (v52 P) (.node (v68 P) (.node (v109 P) .nil .nil) .nil) (.node (v90 P) (.node (v128 P) .nil .nil) .nil)) (.node (v60 P) (.node (v79 P) (.node (v120 P) .nil .nil) .nil) (.node (v98 P) .nil .nil))) (.node (v117 P) (.node (v56 P) (.node (v75 P) (.node (v113 P) .nil .nil) .nil) (.node (v94 P) .nil .nil)) (.node (v64 P) (.node (v83 P) (.node (v124 P) .nil .nil) .nil) (.node (v105 P) .nil .nil)))) (.node (PySem.W.boot_o_6 P) (.node (PySem.W.boot_o_10 P) (.node (v54 P) (.node (v70 P) (.node (v111 P) .nil .nil) .nil) (.node (v92 P) (.node (v130 P) .nil .nil) .nil)) (.node (v62 P) (.node (v81 P) (.node (v122 P) .nil .nil) .nil) (.node (v100 P) .nil .nil))) (.node (v46 P) (.node (v58 P) (.node (v77 P) (.node (v115 P) .nil .nil) .nil) (.node (v96 P) .nil .nil)) (.node (v66 P) (.node (v85 P) (.node (v126 P) .nil .nil) .nil) (.node (v107 P) .nil .nil)))))
noncomputable def v131 (P : Params) : PySem.Obj := ⟨.type "dict", none, .dict (List.toArray [⟨PyData.keyHash P (Str.ofString "__name__"), .str (Str.ofString "__name__") 165, .str (Str.ofString "crcgate.errors") 194⟩, ⟨PyData.keyHash P (Str.ofString "__doc__"), .str (Str.ofString "__doc__") 166, .none⟩, ⟨PyData.keyHash P (Str.ofString "__package__"), .str (Str.ofString "__package__") 167, .none⟩, ⟨PyData.keyHash P (Str.ofString "__loader__"), .str (Str.ofString "__loader__") 168, .builtin "__main__.__loader__#opaque"⟩, ⟨PyData.keyHash P (Str.ofString "__spec__"), .str (Str.ofString "__spec__") 169, .none⟩, ⟨PyData.keyHash P (Str.ofString "__annotations__"), .str (Str.ofString "__annotations__") 170, .ref 6⟩, ⟨PyData.keyHash P (Str.ofString "__builtins__"), .str (Str.ofString "__builtins__") 171, .ref 4⟩, ⟨PyData.keyHash P (Str.ofString "__file__"), .str (Str.ofString "__file__") 173, .str (Str.ofString "/claim/cut.py") 172⟩, ⟨PyData.keyHash P (Str.ofString "__cached__"), .str (Str.ofString "__cached__") 174, .none⟩, ⟨PyData.keyHash P (Str.ofString "_wall"), .str (Str.ofString "_wall") 193, .ref 21⟩, ⟨PyData.keyHash P (Str.ofString "GateError"), .str (Str.ofString "GateError") 213, .ref 31⟩, ⟨PyData.keyHash P (Str.ofString "NoRow"), .str (Str.ofString "NoRow") 229, .ref 44⟩, ⟨PyData.keyHash P (Str.ofString "NoSign"), .str (Str.ofString "NoSign") 245, .ref 56⟩, ⟨PyData.keyHash P (Str.ofString "NoDivisor"), .str (Str.ofString "NoDivisor") 261, .ref 68⟩, ⟨PyData.keyHash P (Str.ofString "NoCount"), .str (Str.ofString "NoCount") 277, .ref 80⟩, ⟨PyData.keyHash P (Str.ofString "TooLong"), .str (Str.ofString "TooLong") 293, .ref 92⟩]) 16, List.toArray []⟩
noncomputable def v132 (_P : Params) : PySem.Obj := ⟨.none, none, .fields (List.toArray [.int 1 0, .int 0 0, .ref 20, .int 5 0, .int 0 0, .ref 27, .int 7 0, .int 0 0, .ref 40, .int 9 0, .int 0 0, .ref 52, .int 11 0, .int 0 0, .ref 64, .int 13 0, .int 0 0, .ref 76, .int 15 0, .int 0 0, .ref 88]), List.toArray []⟩
noncomputable def v133 (_P : Params) : PySem.Obj := ⟨.type "type", none, .cls ⟨Str.ofString "GateError", [.type "ValueError"], [.ref 31, .type "ValueError", .type "Exception", .type "BaseException", .type "object"], 30, Str.ofString "GateError", true, [], [.ref 44, .ref 56, .ref 68, .ref 80, .ref 92], false, none, false⟩, List.toArray [some (.ref 22), none, some (.str (Str.ofString "GateError") 196), some (.str (Str.ofString "GateError") 204), some (.builtin "ValueError.__new__"), some (.bool true)]⟩
noncomputable def v134 (_P : Params) : PySem.Obj := ⟨.type "tuple", none, .seq (List.toArray [.ref 31]) 0, List.toArray []⟩
noncomputable def v135 (_P : Params) : PySem.Obj := ⟨.type "builtin_function_or_method", none, .fields (List.toArray [.builtin "type.__prepare__", .type "type"]), List.toArray []⟩
noncomputable def v136 (P : Params) : PySem.Obj := ⟨.type "dict", none, .dict (List.toArray [⟨PyData.keyHash P (Str.ofString "__module__"), .str (Str.ofString "__module__") 285, .str (Str.ofString "crcgate.errors") 194⟩, ⟨PyData.keyHash P (Str.ofString "__qualname__"), .str (Str.ofString "__qualname__") 287, .str (Str.ofString "TooLong") 286⟩, ⟨PyData.keyHash P (Str.ofString "__firstlineno__"), .str (Str.ofString "__firstlineno__") 289, .int 15 288⟩, ⟨PyData.keyHash P (Str.ofString "__static_attributes__"), .str (Str.ofString "__static_attributes__") 290, .ref 90⟩]) 4, List.toArray []⟩
noncomputable def v137 (_P : Params) : PySem.Obj := ⟨.type "tuple", none, .seq (List.toArray []) 0, List.toArray []⟩
noncomputable def v138 (_P : Params) : PySem.Obj := ⟨.none, none, .fields (List.toArray []), List.toArray []⟩
noncomputable def v139 (_P : Params) : PySem.Obj := ⟨.type "code", none, .fields (List.toArray [.str (Str.ofString "TooLong") 280, .str (Str.ofString "TooLong") 281, .str (Str.ofString "/claim/cut.py") 282, .int 15 0, .int 0 0, .int 0 0, .int 0 0, .int 0 0, .ref 86, .bool false, .int 181 0, .ref 87, .none, .none, .none, .none, .int 283 0, .int 15 0, .str (Str.ofString "/claim/cut.py") 284]), List.toArray []⟩
noncomputable def v140 (_P : Params) : PySem.Obj := ⟨.type "frame", none, .plain, List.toArray [some (.ref 88), some (.ref 3), some (.ref 85), none, some (.str (Str.ofString "crcgate.errors") 194), none, some (.ref 0)]⟩
noncomputable def v141 (_P : Params) : PySem.Obj := ⟨.type "tuple", none, .seq (List.toArray []) 0, List.toArray []⟩
noncomputable def v142 (P : Params) : PySem.Obj := ⟨.type "dict", none, .dict (List.toArray [⟨PyData.keyHash P (Str.ofString "__module__"), .str (Str.ofString "__module__") 285, .str (Str.ofString "crcgate.errors") 194⟩, ⟨PyData.keyHash P (Str.ofString "__firstlineno__"), .str (Str.ofString "__firstlineno__") 289, .int 15 288⟩, ⟨PyData.keyHash P (Str.ofString "__static_attributes__"), .str (Str.ofString "__static_attributes__") 290, .ref 90⟩, ⟨PyData.keyHash P (Str.ofString "__doc__"), .str (Str.ofString "__doc__") 291, .none⟩]) 2, List.toArray []⟩
noncomputable def v143 (_P : Params) : PySem.Obj := ⟨.type "type", none, .cls ⟨Str.ofString "TooLong", [.ref 31], [.ref 92, .ref 31, .type "ValueError", .type "Exception", .type "BaseException", .type "object"], 91, Str.ofString "TooLong", true, [], [], false, none, false⟩, List.toArray [some (.ref 83), none, some (.str (Str.ofString "TooLong") 278), some (.str (Str.ofString "TooLong") 286), some (.builtin "ValueError.__new__"), some (.bool true)]⟩
noncomputable def v144 (_P : Params) : PySem.Obj := ⟨.type "super", none, .fields (List.toArray [.ref 92, .ref 92, .ref 92]), List.toArray []⟩
noncomputable def v145 (_P : Params) : PySem.Obj := ⟨.type "builtin_function_or_method", none, .fields (List.toArray [.builtin "object.__init_subclass__", .ref 92]), List.toArray []⟩
noncomputable def tr145 (P : Params) : PySem.W.BT := .node (PySem.W.boot_o_0 P) (.node (PySem.W.boot_o_1 P) (.node (v131 P) (.node (PySem.W.boot_o_7 P) (.node (v51 P) (.node (v133 P) (.node (v108 P) .nil .nil) .nil) (.node (v89 P) (.node (v127 P) .nil .nil) .nil)) (.node (v59 P) (.node (v78 P) (.node (v119 P) .nil .nil) .nil) (.node (v97 P) (.node (v138 P) .nil .nil) .nil))) (.node (v43 P) (.node (v55 P) (.node (v74 P) (.node (v112 P) .nil .nil) .nil) (.node (v93 P) (.node (v134 P) .nil .nil) .nil)) (.node (v63 P) (.node (v82 P) (.node (v123 P) .nil .nil) .nil) (.node (v104 P) (.node (v142 P) .nil .nil) .nil)))) (.node (PySem.W.boot_o_5 P) (.node (PySem.W.boot_o_9 P) (.node (v53 P) (.node (v69 P) (.node (v110 P) .nil .nil) .nil) (.node (v91 P) (.node (v129 P) .nil .nil) .nil)) (.node (v61 P) (.node (v80 P) (.node (v121 P) .nil .nil) .nil) (.node (v99 P) (.node (v140 P) .nil .nil) .nil))) (.node (v45 P) (.node (v57 P) (.node (v76 P) (.node (v114 P) .nil .nil) .nil) (.node (v95 P) (.node (v136 P) .nil .nil) .nil)) (.node (v65 P) (.node (v84 P) (.node (v125 P) .nil .nil) .nil) (.node (v106 P) (.node (v144 P) .nil .nil) .nil))))) (.node (PySem.W.boot_o_2 P) (.node (PySem.W.boot_o_4 P) (.node (PySem.W.boot_o_8 P) (.node (v52 P) (.node (v68 P) (.node (v109 P) .nil .nil) .nil) (.node (v90 P) (.node (v128 P) .nil .nil) .nil)) (.node (v60 P) (.node (v79 P) (.node (v120 P) .nil .nil) .nil) (.node (v98 P) (.node (v139 P) .nil .nil) .nil))) (.node (v132 P) (.node (v56 P) (.node (v75 P) (.node (v113 P) .nil .nil) .nil) (.node (v94 P) (.node (v135 P) .nil .nil) .nil)) (.node (v64 P) (.node (v83 P) (.node (v124 P) .nil .nil) .nil) (.node (v105 P) (.node (v143 P) .nil .nil) .nil)))) (.node (PySem.W.boot_o_6 P) (.node (PySem.W.boot_o_10 P) (.node (v54 P) (.node (v70 P) (.node (v111 P) .nil .nil) .nil) (.node (v92 P) (.node (v130 P) .nil .nil) .nil)) (.node (v62 P) (.node (v81 P) (.node (v122 P) .nil .nil) .nil) (.node (v100 P) (.node (v141 P) .nil .nil) .nil))) (.node (v46 P) (.node (v58 P) (.node (v77 P) (.node (v115 P) .nil .nil) .nil) (.node (v96 P) (.node (v137 P) .nil .nil) .nil)) (.node (v66 P) (.node (v85 P) (.node (v126 P) .nil .nil) .nil) (.node (v107 P) (.node (v145 P) .nil .nil) .nil)))))
noncomputable def v146 (P : Params) : PySem.Obj := ⟨.type "dict", none, .dict (List.toArray [⟨PyData.keyHash P (Str.ofString "__name__"), .str (Str.ofString "__name__") 165, .str (Str.ofString "crcgate.errors") 194⟩, ⟨PyData.keyHash P (Str.ofString "__doc__"), .str (Str.ofString "__doc__") 166, .none⟩, ⟨PyData.keyHash P (Str.ofString "__package__"), .str (Str.ofString "__package__") 167, .none⟩, ⟨PyData.keyHash P (Str.ofString "__loader__"), .str (Str.ofString "__loader__") 168, .builtin "__main__.__loader__#opaque"⟩, ⟨PyData.keyHash P (Str.ofString "__spec__"), .str (Str.ofString "__spec__") 169, .none⟩, ⟨PyData.keyHash P (Str.ofString "__annotations__"), .str (Str.ofString "__annotations__") 170, .ref 6⟩, ⟨PyData.keyHash P (Str.ofString "__builtins__"), .str (Str.ofString "__builtins__") 171, .ref 4⟩, ⟨PyData.keyHash P (Str.ofString "__file__"), .str (Str.ofString "__file__") 173, .str (Str.ofString "/claim/cut.py") 172⟩, ⟨PyData.keyHash P (Str.ofString "__cached__"), .str (Str.ofString "__cached__") 174, .none⟩, ⟨PyData.keyHash P (Str.ofString "_wall"), .str (Str.ofString "_wall") 193, .ref 21⟩, ⟨PyData.keyHash P (Str.ofString "GateError"), .str (Str.ofString "GateError") 213, .ref 31⟩, ⟨PyData.keyHash P (Str.ofString "NoRow"), .str (Str.ofString "NoRow") 229, .ref 44⟩, ⟨PyData.keyHash P (Str.ofString "NoSign"), .str (Str.ofString "NoSign") 245, .ref 56⟩, ⟨PyData.keyHash P (Str.ofString "NoDivisor"), .str (Str.ofString "NoDivisor") 261, .ref 68⟩, ⟨PyData.keyHash P (Str.ofString "NoCount"), .str (Str.ofString "NoCount") 277, .ref 80⟩, ⟨PyData.keyHash P (Str.ofString "TooLong"), .str (Str.ofString "TooLong") 293, .ref 92⟩, ⟨PyData.keyHash P (Str.ofString "TooShort"), .str (Str.ofString "TooShort") 309, .ref 104⟩]) 17, List.toArray []⟩
noncomputable def v147 (_P : Params) : PySem.Obj := ⟨.none, none, .fields (List.toArray [.int 1 0, .int 0 0, .ref 20, .int 5 0, .int 0 0, .ref 27, .int 7 0, .int 0 0, .ref 40, .int 9 0, .int 0 0, .ref 52, .int 11 0, .int 0 0, .ref 64, .int 13 0, .int 0 0, .ref 76, .int 15 0, .int 0 0, .ref 88, .int 17 0, .int 0 0, .ref 100]), List.toArray []⟩
noncomputable def v148 (_P : Params) : PySem.Obj := ⟨.type "type", none, .cls ⟨Str.ofString "GateError", [.type "ValueError"], [.ref 31, .type "ValueError", .type "Exception", .type "BaseException", .type "object"], 30, Str.ofString "GateError", true, [], [.ref 44, .ref 56, .ref 68, .ref 80, .ref 92, .ref 104], false, none, false⟩, List.toArray [some (.ref 22), none, some (.str (Str.ofString "GateError") 196), some (.str (Str.ofString "GateError") 204), some (.builtin "ValueError.__new__"), some (.bool true)]⟩
noncomputable def v149 (_P : Params) : PySem.Obj := ⟨.type "tuple", none, .seq (List.toArray [.ref 31]) 0, List.toArray []⟩
noncomputable def v150 (_P : Params) : PySem.Obj := ⟨.type "builtin_function_or_method", none, .fields (List.toArray [.builtin "type.__prepare__", .type "type"]), List.toArray []⟩
noncomputable def v151 (P : Params) : PySem.Obj := ⟨.type "dict", none, .dict (List.toArray [⟨PyData.keyHash P (Str.ofString "__module__"), .str (Str.ofString "__module__") 301, .str (Str.ofString "crcgate.errors") 194⟩, ⟨PyData.keyHash P (Str.ofString "__qualname__"), .str (Str.ofString "__qualname__") 303, .str (Str.ofString "TooShort") 302⟩, ⟨PyData.keyHash P (Str.ofString "__firstlineno__"), .str (Str.ofString "__firstlineno__") 305, .int 17 304⟩, ⟨PyData.keyHash P (Str.ofString "__static_attributes__"), .str (Str.ofString "__static_attributes__") 306, .ref 102⟩]) 4, List.toArray []⟩
noncomputable def v152 (_P : Params) : PySem.Obj := ⟨.type "tuple", none, .seq (List.toArray []) 0, List.toArray []⟩
noncomputable def v153 (_P : Params) : PySem.Obj := ⟨.none, none, .fields (List.toArray []), List.toArray []⟩
noncomputable def v154 (_P : Params) : PySem.Obj := ⟨.type "code", none, .fields (List.toArray [.str (Str.ofString "TooShort") 296, .str (Str.ofString "TooShort") 297, .str (Str.ofString "/claim/cut.py") 298, .int 17 0, .int 0 0, .int 0 0, .int 0 0, .int 0 0, .ref 98, .bool false, .int 181 0, .ref 99, .none, .none, .none, .none, .int 299 0, .int 17 0, .str (Str.ofString "/claim/cut.py") 300]), List.toArray []⟩
noncomputable def v155 (_P : Params) : PySem.Obj := ⟨.type "frame", none, .plain, List.toArray [some (.ref 100), some (.ref 3), some (.ref 97), none, some (.str (Str.ofString "crcgate.errors") 194), none, some (.ref 0)]⟩
noncomputable def v156 (_P : Params) : PySem.Obj := ⟨.type "tuple", none, .seq (List.toArray []) 0, List.toArray []⟩
noncomputable def v157 (P : Params) : PySem.Obj := ⟨.type "dict", none, .dict (List.toArray [⟨PyData.keyHash P (Str.ofString "__module__"), .str (Str.ofString "__module__") 301, .str (Str.ofString "crcgate.errors") 194⟩, ⟨PyData.keyHash P (Str.ofString "__firstlineno__"), .str (Str.ofString "__firstlineno__") 305, .int 17 304⟩, ⟨PyData.keyHash P (Str.ofString "__static_attributes__"), .str (Str.ofString "__static_attributes__") 306, .ref 102⟩, ⟨PyData.keyHash P (Str.ofString "__doc__"), .str (Str.ofString "__doc__") 307, .none⟩]) 2, List.toArray []⟩
noncomputable def v158 (_P : Params) : PySem.Obj := ⟨.type "type", none, .cls ⟨Str.ofString "TooShort", [.ref 31], [.ref 104, .ref 31, .type "ValueError", .type "Exception", .type "BaseException", .type "object"], 103, Str.ofString "TooShort", true, [], [], false, none, false⟩, List.toArray [some (.ref 95), none, some (.str (Str.ofString "TooShort") 294), some (.str (Str.ofString "TooShort") 302), some (.builtin "ValueError.__new__"), some (.bool true)]⟩
noncomputable def v159 (_P : Params) : PySem.Obj := ⟨.type "super", none, .fields (List.toArray [.ref 104, .ref 104, .ref 104]), List.toArray []⟩
noncomputable def v160 (_P : Params) : PySem.Obj := ⟨.type "builtin_function_or_method", none, .fields (List.toArray [.builtin "object.__init_subclass__", .ref 104]), List.toArray []⟩
noncomputable def tr160 (P : Params) : PySem.W.BT := .node (PySem.W.boot_o_0 P) (.node (PySem.W.boot_o_1 P) (.node (v146 P) (.node (PySem.W.boot_o_7 P) (.node (v51 P) (.node (v148 P) (.node (v108 P) .nil .nil) (.node (v149 P) .nil .nil)) (.node (v89 P) (.node (v127 P) .nil .nil) .nil)) (.node (v59 P) (.node (v78 P) (.node (v119 P) .nil .nil) (.node (v157 P) .nil .nil)) (.node (v97 P) (.node (v138 P) .nil .nil) .nil))) (.node (v43 P) (.node (v55 P) (.node (v74 P) (.node (v112 P) .nil .nil) (.node (v153 P) .nil .nil)) (.node (v93 P) (.node (v134 P) .nil .nil) .nil)) (.node (v63 P) (.node (v82 P) (.node (v123 P) .nil .nil) .nil) (.node (v104 P) (.node (v142 P) .nil .nil) .nil)))) (.node (PySem.W.boot_o_5 P) (.node (PySem.W.boot_o_9 P) (.node (v53 P) (.node (v69 P) (.node (v110 P) .nil .nil) (.node (v151 P) .nil .nil)) (.node (v91 P) (.node (v129 P) .nil .nil) .nil)) (.node (v61 P) (.node (v80 P) (.node (v121 P) .nil .nil) (.node (v159 P) .nil .nil)) (.node (v99 P) (.node (v140 P) .nil .nil) .nil))) (.node (v45 P) (.node (v57 P) (.node (v76 P) (.node (v114 P) .nil .nil) (.node (v155 P) .nil .nil)) (.node (v95 P) (.node (v136 P) .nil .nil) .nil)) (.node (v65 P) (.node (v84 P) (.node (v125 P) .nil .nil) .nil) (.node (v106 P) (.node (v144 P) .nil .nil) .nil))))) (.node (PySem.W.boot_o_2 P) (.node (PySem.W.boot_o_4 P) (.node (PySem.W.boot_o_8 P) (.node (v52 P) (.node (v68 P) (.node (v109 P) .nil .nil) (.node (v150 P) .nil .nil)) (.node (v90 P) (.node (v128 P) .nil .nil) .nil)) (.node (v60 P) (.node (v79 P) (.node (v120 P) .nil .nil) (.node (v158 P) .nil .nil)) (.node (v98 P) (.node (v139 P) .nil .nil) .nil))) (.node (v147 P) (.node (v56 P) (.node (v75 P) (.node (v113 P) .nil .nil) (.node (v154 P) .nil .nil)) (.node (v94 P) (.node (v135 P) .nil .nil) .nil)) (.node (v64 P) (.node (v83 P) (.node (v124 P) .nil .nil) .nil) (.node (v105 P) (.node (v143 P) .nil .nil) .nil)))) (.node (PySem.W.boot_o_6 P) (.node (PySem.W.boot_o_10 P) (.node (v54 P) (.node (v70 P) (.node (v111 P) .nil .nil) (.node (v152 P) .nil .nil)) (.node (v92 P) (.node (v130 P) .nil .nil) .nil)) (.node (v62 P) (.node (v81 P) (.node (v122 P) .nil .nil) (.node (v160 P) .nil .nil)) (.node (v100 P) (.node (v141 P) .nil .nil) .nil))) (.node (v46 P) (.node (v58 P) (.node (v77 P) (.node (v115 P) .nil .nil) (.node (v156 P) .nil .nil)) (.node (v96 P) (.node (v137 P) .nil .nil) .nil)) (.node (v66 P) (.node (v85 P) (.node (v126 P) .nil .nil) .nil) (.node (v107 P) (.node (v145 P) .nil .nil) .nil)))))
noncomputable def v161 (P : Params) : PySem.Obj := ⟨.type "dict", none, .dict (List.toArray [⟨PyData.keyHash P (Str.ofString "__name__"), .str (Str.ofString "__name__") 165, .str (Str.ofString "crcgate.errors") 194⟩, ⟨PyData.keyHash P (Str.ofString "__doc__"), .str (Str.ofString "__doc__") 166, .none⟩, ⟨PyData.keyHash P (Str.ofString "__package__"), .str (Str.ofString "__package__") 167, .none⟩, ⟨PyData.keyHash P (Str.ofString "__loader__"), .str (Str.ofString "__loader__") 168, .builtin "__main__.__loader__#opaque"⟩, ⟨PyData.keyHash P (Str.ofString "__spec__"), .str (Str.ofString "__spec__") 169, .none⟩, ⟨PyData.keyHash P (Str.ofString "__annotations__"), .str (Str.ofString "__annotations__") 170, .ref 6⟩, ⟨PyData.keyHash P (Str.ofString "__builtins__"), .str (Str.ofString "__builtins__") 171, .ref 4⟩, ⟨PyData.keyHash P (Str.ofString "__file__"), .str (Str.ofString "__file__") 173, .str (Str.ofString "/claim/cut.py") 172⟩, ⟨PyData.keyHash P (Str.ofString "__cached__"), .str (Str.ofString "__cached__") 174, .none⟩, ⟨PyData.keyHash P (Str.ofString "_wall"), .str (Str.ofString "_wall") 193, .ref 21⟩, ⟨PyData.keyHash P (Str.ofString "GateError"), .str (Str.ofString "GateError") 213, .ref 31⟩, ⟨PyData.keyHash P (Str.ofString "NoRow"), .str (Str.ofString "NoRow") 229, .ref 44⟩, ⟨PyData.keyHash P (Str.ofString "NoSign"), .str (Str.ofString "NoSign") 245, .ref 56⟩, ⟨PyData.keyHash P (Str.ofString "NoDivisor"), .str (Str.ofString "NoDivisor") 261, .ref 68⟩, ⟨PyData.keyHash P (Str.ofString "NoCount"), .str (Str.ofString "NoCount") 277, .ref 80⟩, ⟨PyData.keyHash P (Str.ofString "TooLong"), .str (Str.ofString "TooLong") 293, .ref 92⟩, ⟨PyData.keyHash P (Str.ofString "TooShort"), .str (Str.ofString "TooShort") 309, .ref 104⟩, ⟨PyData.keyHash P (Str.ofString "Broken"), .str (Str.ofString "Broken") 325, .ref 116⟩]) 18, List.toArray []⟩
noncomputable def v162 (_P : Params) : PySem.Obj := ⟨.none, none, .fields (List.toArray [.int 1 0, .int 0 0, .ref 20, .int 5 0, .int 0 0, .ref 27, .int 7 0, .int 0 0, .ref 40, .int 9 0, .int 0 0, .ref 52, .int 11 0, .int 0 0, .ref 64, .int 13 0, .int 0 0, .ref 76, .int 15 0, .int 0 0, .ref 88, .int 17 0, .int 0 0, .ref 100, .int 19 0, .int 0 0, .ref 112]), List.toArray []⟩
noncomputable def v163 (_P : Params) : PySem.Obj := ⟨.type "type", none, .cls ⟨Str.ofString "GateError", [.type "ValueError"], [.ref 31, .type "ValueError", .type "Exception", .type "BaseException", .type "object"], 30, Str.ofString "GateError", true, [], [.ref 44, .ref 56, .ref 68, .ref 80, .ref 92, .ref 104, .ref 116], false, none, false⟩, List.toArray [some (.ref 22), none, some (.str (Str.ofString "GateError") 196), some (.str (Str.ofString "GateError") 204), some (.builtin "ValueError.__new__"), some (.bool true)]⟩
noncomputable def v164 (_P : Params) : PySem.Obj := ⟨.type "tuple", none, .seq (List.toArray [.ref 31]) 0, List.toArray []⟩
noncomputable def v165 (_P : Params) : PySem.Obj := ⟨.type "builtin_function_or_method", none, .fields (List.toArray [.builtin "type.__prepare__", .type "type"]), List.toArray []⟩
noncomputable def v166 (P : Params) : PySem.Obj := ⟨.type "dict", none, .dict (List.toArray [⟨PyData.keyHash P (Str.ofString "__module__"), .str (Str.ofString "__module__") 317, .str (Str.ofString "crcgate.errors") 194⟩, ⟨PyData.keyHash P (Str.ofString "__qualname__"), .str (Str.ofString "__qualname__") 319, .str (Str.ofString "Broken") 318⟩, ⟨PyData.keyHash P (Str.ofString "__firstlineno__"), .str (Str.ofString "__firstlineno__") 321, .int 19 320⟩, ⟨PyData.keyHash P (Str.ofString "__static_attributes__"), .str (Str.ofString "__static_attributes__") 322, .ref 114⟩]) 4, List.toArray []⟩
noncomputable def v167 (_P : Params) : PySem.Obj := ⟨.type "tuple", none, .seq (List.toArray []) 0, List.toArray []⟩
noncomputable def v168 (_P : Params) : PySem.Obj := ⟨.none, none, .fields (List.toArray []), List.toArray []⟩
noncomputable def v169 (_P : Params) : PySem.Obj := ⟨.type "code", none, .fields (List.toArray [.str (Str.ofString "Broken") 312, .str (Str.ofString "Broken") 313, .str (Str.ofString "/claim/cut.py") 314, .int 19 0, .int 0 0, .int 0 0, .int 0 0, .int 0 0, .ref 110, .bool false, .int 181 0, .ref 111, .none, .none, .none, .none, .int 315 0, .int 19 0, .str (Str.ofString "/claim/cut.py") 316]), List.toArray []⟩
noncomputable def v170 (_P : Params) : PySem.Obj := ⟨.type "frame", none, .plain, List.toArray [some (.ref 112), some (.ref 3), some (.ref 109), none, some (.str (Str.ofString "crcgate.errors") 194), none, some (.ref 0)]⟩
noncomputable def v171 (_P : Params) : PySem.Obj := ⟨.type "tuple", none, .seq (List.toArray []) 0, List.toArray []⟩
noncomputable def v172 (P : Params) : PySem.Obj := ⟨.type "dict", none, .dict (List.toArray [⟨PyData.keyHash P (Str.ofString "__module__"), .str (Str.ofString "__module__") 317, .str (Str.ofString "crcgate.errors") 194⟩, ⟨PyData.keyHash P (Str.ofString "__firstlineno__"), .str (Str.ofString "__firstlineno__") 321, .int 19 320⟩, ⟨PyData.keyHash P (Str.ofString "__static_attributes__"), .str (Str.ofString "__static_attributes__") 322, .ref 114⟩, ⟨PyData.keyHash P (Str.ofString "__doc__"), .str (Str.ofString "__doc__") 323, .none⟩]) 2, List.toArray []⟩
noncomputable def v173 (_P : Params) : PySem.Obj := ⟨.type "type", none, .cls ⟨Str.ofString "Broken", [.ref 31], [.ref 116, .ref 31, .type "ValueError", .type "Exception", .type "BaseException", .type "object"], 115, Str.ofString "Broken", true, [], [], false, none, false⟩, List.toArray [some (.ref 107), none, some (.str (Str.ofString "Broken") 310), some (.str (Str.ofString "Broken") 318), some (.builtin "ValueError.__new__"), some (.bool true)]⟩
noncomputable def v174 (_P : Params) : PySem.Obj := ⟨.type "super", none, .fields (List.toArray [.ref 116, .ref 116, .ref 116]), List.toArray []⟩
noncomputable def v175 (_P : Params) : PySem.Obj := ⟨.type "builtin_function_or_method", none, .fields (List.toArray [.builtin "object.__init_subclass__", .ref 116]), List.toArray []⟩
noncomputable def tr175 (P : Params) : PySem.W.BT := .node (PySem.W.boot_o_0 P) (.node (PySem.W.boot_o_1 P) (.node (v161 P) (.node (PySem.W.boot_o_7 P) (.node (v51 P) (.node (v163 P) (.node (v108 P) .nil .nil) (.node (v149 P) .nil .nil)) (.node (v89 P) (.node (v127 P) .nil .nil) (.node (v168 P) .nil .nil))) (.node (v59 P) (.node (v78 P) (.node (v119 P) .nil .nil) (.node (v157 P) .nil .nil)) (.node (v97 P) (.node (v138 P) .nil .nil) .nil))) (.node (v43 P) (.node (v55 P) (.node (v74 P) (.node (v112 P) .nil .nil) (.node (v153 P) .nil .nil)) (.node (v93 P) (.node (v134 P) .nil .nil) (.node (v172 P) .nil .nil))) (.node (v63 P) (.node (v82 P) (.node (v123 P) .nil .nil) (.node (v164 P) .nil .nil)) (.node (v104 P) (.node (v142 P) .nil .nil) .nil)))) (.node (PySem.W.boot_o_5 P) (.node (PySem.W.boot_o_9 P) (.node (v53 P) (.node (v69 P) (.node (v110 P) .nil .nil) (.node (v151 P) .nil .nil)) (.node (v91 P) (.node (v129 P) .nil .nil) (.node (v170 P) .nil .nil))) (.node (v61 P) (.node (v80 P) (.node (v121 P) .nil .nil) (.node (v159 P) .nil .nil)) (.node (v99 P) (.node (v140 P) .nil .nil) .nil))) (.node (v45 P) (.node (v57 P) (.node (v76 P) (.node (v114 P) .nil .nil) (.node (v155 P) .nil .nil)) (.node (v95 P) (.node (v136 P) .nil .nil) (.node (v174 P) .nil .nil))) (.node (v65 P) (.node (v84 P) (.node (v125 P) .nil .nil) (.node (v166 P) .nil .nil)) (.node (v106 P) (.node (v144 P) .nil .nil) .nil))))) (.node (PySem.W.boot_o_2 P) (.node (PySem.W.boot_o_4 P) (.node (PySem.W.boot_o_8 P) (.node (v52 P) (.node (v68 P) (.node (v109 P) .nil .nil) (.node (v150 P) .nil .nil)) (.node (v90 P) (.node (v128 P) .nil .nil) (.node (v169 P) .nil .nil))) (.node (v60 P) (.node (v79 P) (.node (v120 P) .nil .nil) (.node (v158 P) .nil .nil)) (.node (v98 P) (.node (v139 P) .nil .nil) .nil))) (.node (v162 P) (.node (v56 P) (.node (v75 P) (.node (v113 P) .nil .nil) (.node (v154 P) .nil .nil)) (.node (v94 P) (.node (v135 P) .nil .nil) (.node (v173 P) .nil .nil))) (.node (v64 P) (.node (v83 P) (.node (v124 P) .nil .nil) (.node (v165 P) .nil .nil)) (.node (v105 P) (.node (v143 P) .nil .nil) .nil)))) (.node (PySem.W.boot_o_6 P) (.node (PySem.W.boot_o_10 P) (.node (v54 P) (.node (v70 P) (.node (v111 P) .nil .nil) (.node (v152 P) .nil .nil)) (.node (v92 P) (.node (v130 P) .nil .nil) (.node (v171 P) .nil .nil))) (.node (v62 P) (.node (v81 P) (.node (v122 P) .nil .nil) (.node (v160 P) .nil .nil)) (.node (v100 P) (.node (v141 P) .nil .nil) .nil))) (.node (v46 P) (.node (v58 P) (.node (v77 P) (.node (v115 P) .nil .nil) (.node (v156 P) .nil .nil)) (.node (v96 P) (.node (v137 P) .nil .nil) (.node (v175 P) .nil .nil))) (.node (v66 P) (.node (v85 P) (.node (v126 P) .nil .nil) (.node (v167 P) .nil .nil)) (.node (v107 P) (.node (v145 P) .nil .nil) .nil)))))
noncomputable def v176 (P : Params) : PySem.Obj := ⟨.type "dict", none, .dict (List.toArray [⟨PyData.keyHash P (Str.ofString "__name__"), .str (Str.ofString "__name__") 165, .str (Str.ofString "crcgate.errors") 194⟩, ⟨PyData.keyHash P (Str.ofString "__doc__"), .str (Str.ofString "__doc__") 166, .none⟩, ⟨PyData.keyHash P (Str.ofString "__package__"), .str (Str.ofString "__package__") 167, .none⟩, ⟨PyData.keyHash P (Str.ofString "__loader__"), .str (Str.ofString "__loader__") 168, .builtin "__main__.__loader__#opaque"⟩, ⟨PyData.keyHash P (Str.ofString "__spec__"), .str (Str.ofString "__spec__") 169, .none⟩, ⟨PyData.keyHash P (Str.ofString "__annotations__"), .str (Str.ofString "__annotations__") 170, .ref 6⟩, ⟨PyData.keyHash P (Str.ofString "__builtins__"), .str (Str.ofString "__builtins__") 171, .ref 4⟩, ⟨PyData.keyHash P (Str.ofString "__file__"), .str (Str.ofString "__file__") 173, .str (Str.ofString "/claim/cut.py") 172⟩, ⟨PyData.keyHash P (Str.ofString "__cached__"), .str (Str.ofString "__cached__") 174, .none⟩, ⟨PyData.keyHash P (Str.ofString "_wall"), .str (Str.ofString "_wall") 193, .ref 21⟩, ⟨PyData.keyHash P (Str.ofString "GateError"), .str (Str.ofString "GateError") 213, .ref 31⟩, ⟨PyData.keyHash P (Str.ofString "NoRow"), .str (Str.ofString "NoRow") 229, .ref 44⟩, ⟨PyData.keyHash P (Str.ofString "NoSign"), .str (Str.ofString "NoSign") 245, .ref 56⟩, ⟨PyData.keyHash P (Str.ofString "NoDivisor"), .str (Str.ofString "NoDivisor") 261, .ref 68⟩, ⟨PyData.keyHash P (Str.ofString "NoCount"), .str (Str.ofString "NoCount") 277, .ref 80⟩, ⟨PyData.keyHash P (Str.ofString "TooLong"), .str (Str.ofString "TooLong") 293, .ref 92⟩, ⟨PyData.keyHash P (Str.ofString "TooShort"), .str (Str.ofString "TooShort") 309, .ref 104⟩, ⟨PyData.keyHash P (Str.ofString "Broken"), .str (Str.ofString "Broken") 325, .ref 116⟩, ⟨PyData.keyHash P (Str.ofString "NoMate"), .str (Str.ofString "NoMate") 341, .ref 128⟩]) 19, List.toArray []⟩
noncomputable def v177 (_P : Params) : PySem.Obj := ⟨.none, none, .fields (List.toArray [.int 1 0, .int 0 0, .ref 20, .int 5 0, .int 0 0, .ref 27, .int 7 0, .int 0 0, .ref 40, .int 9 0, .int 0 0, .ref 52, .int 11 0, .int 0 0, .ref 64, .int 13 0, .int 0 0, .ref 76, .int 15 0, .int 0 0, .ref 88, .int 17 0, .int 0 0, .ref 100, .int 19 0, .int 0 0, .ref 112, .int 21 0, .int 0 0, .ref 124]), List.toArray []⟩
noncomputable def v178 (_P : Params) : PySem.Obj := ⟨.type "type", none, .cls ⟨Str.ofString "GateError", [.type "ValueError"], [.ref 31, .type "ValueError", .type "Exception", .type "BaseException", .type "object"], 30, Str.ofString "GateError", true, [], [.ref 44, .ref 56, .ref 68, .ref 80, .ref 92, .ref 104, .ref 116, .ref 128], false, none, false⟩, List.toArray [some (.ref 22), none, some (.str (Str.ofString "GateError") 196), some (.str (Str.ofString "GateError") 204), some (.builtin "ValueError.__new__"), some (.bool true)]⟩
noncomputable def v179 (_P : Params) : PySem.Obj := ⟨.type "tuple", none, .seq (List.toArray [.ref 31]) 0, List.toArray []⟩
noncomputable def v180 (_P : Params) : PySem.Obj := ⟨.type "builtin_function_or_method", none, .fields (List.toArray [.builtin "type.__prepare__", .type "type"]), List.toArray []⟩
noncomputable def v181 (P : Params) : PySem.Obj := ⟨.type "dict", none, .dict (List.toArray [⟨PyData.keyHash P (Str.ofString "__module__"), .str (Str.ofString "__module__") 333, .str (Str.ofString "crcgate.errors") 194⟩, ⟨PyData.keyHash P (Str.ofString "__qualname__"), .str (Str.ofString "__qualname__") 335, .str (Str.ofString "NoMate") 334⟩, ⟨PyData.keyHash P (Str.ofString "__firstlineno__"), .str (Str.ofString "__firstlineno__") 337, .int 21 336⟩, ⟨PyData.keyHash P (Str.ofString "__static_attributes__"), .str (Str.ofString "__static_attributes__") 338, .ref 126⟩]) 4, List.toArray []⟩
noncomputable def v182 (_P : Params) : PySem.Obj := ⟨.type "tuple", none, .seq (List.toArray []) 0, List.toArray []⟩
noncomputable def v183 (_P : Params) : PySem.Obj := ⟨.none, none, .fields (List.toArray []), List.toArray []⟩
noncomputable def v184 (_P : Params) : PySem.Obj := ⟨.type "code", none, .fields (List.toArray [.str (Str.ofString "NoMate") 328, .str (Str.ofString "NoMate") 329, .str (Str.ofString "/claim/cut.py") 330, .int 21 0, .int 0 0, .int 0 0, .int 0 0, .int 0 0, .ref 122, .bool false, .int 181 0, .ref 123, .none, .none, .none, .none, .int 331 0, .int 21 0, .str (Str.ofString "/claim/cut.py") 332]), List.toArray []⟩
noncomputable def v185 (_P : Params) : PySem.Obj := ⟨.type "frame", none, .plain, List.toArray [some (.ref 124), some (.ref 3), some (.ref 121), none, some (.str (Str.ofString "crcgate.errors") 194), none, some (.ref 0)]⟩
noncomputable def v186 (_P : Params) : PySem.Obj := ⟨.type "tuple", none, .seq (List.toArray []) 0, List.toArray []⟩
noncomputable def v187 (P : Params) : PySem.Obj := ⟨.type "dict", none, .dict (List.toArray [⟨PyData.keyHash P (Str.ofString "__module__"), .str (Str.ofString "__module__") 333, .str (Str.ofString "crcgate.errors") 194⟩, ⟨PyData.keyHash P (Str.ofString "__firstlineno__"), .str (Str.ofString "__firstlineno__") 337, .int 21 336⟩, ⟨PyData.keyHash P (Str.ofString "__static_attributes__"), .str (Str.ofString "__static_attributes__") 338, .ref 126⟩, ⟨PyData.keyHash P (Str.ofString "__doc__"), .str (Str.ofString "__doc__") 339, .none⟩]) 2, List.toArray []⟩
noncomputable def v188 (_P : Params) : PySem.Obj := ⟨.type "type", none, .cls ⟨Str.ofString "NoMate", [.ref 31], [.ref 128, .ref 31, .type "ValueError", .type "Exception", .type "BaseException", .type "object"], 127, Str.ofString "NoMate", true, [], [], false, none, false⟩, List.toArray [some (.ref 119), none, some (.str (Str.ofString "NoMate") 326), some (.str (Str.ofString "NoMate") 334), some (.builtin "ValueError.__new__"), some (.bool true)]⟩
noncomputable def v189 (_P : Params) : PySem.Obj := ⟨.type "super", none, .fields (List.toArray [.ref 128, .ref 128, .ref 128]), List.toArray []⟩
noncomputable def v190 (_P : Params) : PySem.Obj := ⟨.type "builtin_function_or_method", none, .fields (List.toArray [.builtin "object.__init_subclass__", .ref 128]), List.toArray []⟩
noncomputable def tr190 (P : Params) : PySem.W.BT := .node (PySem.W.boot_o_0 P) (.node (PySem.W.boot_o_1 P) (.node (v176 P) (.node (PySem.W.boot_o_7 P) (.node (v51 P) (.node (v178 P) (.node (v108 P) (.node (v187 P) .nil .nil) .nil) (.node (v149 P) .nil .nil)) (.node (v89 P) (.node (v127 P) .nil .nil) (.node (v168 P) .nil .nil))) (.node (v59 P) (.node (v78 P) (.node (v119 P) .nil .nil) (.node (v157 P) .nil .nil)) (.node (v97 P) (.node (v138 P) .nil .nil) (.node (v179 P) .nil .nil)))) (.node (v43 P) (.node (v55 P) (.node (v74 P) (.node (v112 P) .nil .nil) (.node (v153 P) .nil .nil)) (.node (v93 P) (.node (v134 P) .nil .nil) (.node (v172 P) .nil .nil))) (.node (v63 P) (.node (v82 P) (.node (v123 P) .nil .nil) (.node (v164 P) .nil .nil)) (.node (v104 P) (.node (v142 P) .nil .nil) (.node (v183 P) .nil .nil))))) (.node (PySem.W.boot_o_5 P) (.node (PySem.W.boot_o_9 P) (.node (v53 P) (.node (v69 P) (.node (v110 P) (.node (v189 P) .nil .nil) .nil) (.node (v151 P) .nil .nil)) (.node (v91 P) (.node (v129 P) .nil .nil) (.node (v170 P) .nil .nil))) (.node (v61 P) (.node (v80 P) (.node (v121 P) .nil .nil) (.node (v159 P) .nil .nil)) (.node (v99 P) (.node (v140 P) .nil .nil) (.node (v181 P) .nil .nil)))) (.node (v45 P) (.node (v57 P) (.node (v76 P) (.node (v114 P) .nil .nil) (.node (v155 P) .nil .nil)) (.node (v95 P) (.node (v136 P) .nil .nil) (.node (v174 P) .nil .nil))) (.node (v65 P) (.node (v84 P) (.node (v125 P) .nil .nil) (.node (v166 P) .nil .nil)) (.node (v106 P) (.node (v144 P) .nil .nil) (.node (v185 P) .nil .nil)))))) (.node (PySem.W.boot_o_2 P) (.node (PySem.W.boot_o_4 P) (.node (PySem.W.boot_o_8 P) (.node (v52 P) (.node (v68 P) (.node (v109 P) (.node (v188 P) .nil .nil) .nil) (.node (v150 P) .nil .nil)) (.node (v90 P) (.node (v128 P) .nil .nil) (.node (v169 P) .nil .nil))) (.node (v60 P) (.node (v79 P) (.node (v120 P) .nil .nil) (.node (v158 P) .nil .nil)) (.node (v98 P) (.node (v139 P) .nil .nil) (.node (v180 P) .nil .nil)))) (.node (v177 P) (.node (v56 P) (.node (v75 P) (.node (v113 P) .nil .nil) (.node (v154 P) .nil .nil)) (.node (v94 P) (.node (v135 P) .nil .nil) (.node (v173 P) .nil .nil))) (.node (v64 P) (.node (v83 P) (.node (v124 P) .nil .nil) (.node (v165 P) .nil .nil)) (.node (v105 P) (.node (v143 P) .nil .nil) (.node (v184 P) .nil .nil))))) (.node (PySem.W.boot_o_6 P) (.node (PySem.W.boot_o_10 P) (.node (v54 P) (.node (v70 P) (.node (v111 P) (.node (v190 P) .nil .nil) .nil) (.node (v152 P) .nil .nil)) (.node (v92 P) (.node (v130 P) .nil .nil) (.node (v171 P) .nil .nil))) (.node (v62 P) (.node (v81 P) (.node (v122 P) .nil .nil) (.node (v160 P) .nil .nil)) (.node (v100 P) (.node (v141 P) .nil .nil) (.node (v182 P) .nil .nil)))) (.node (v46 P) (.node (v58 P) (.node (v77 P) (.node (v115 P) .nil .nil) (.node (v156 P) .nil .nil)) (.node (v96 P) (.node (v137 P) .nil .nil) (.node (v175 P) .nil .nil))) (.node (v66 P) (.node (v85 P) (.node (v126 P) .nil .nil) (.node (v167 P) .nil .nil)) (.node (v107 P) (.node (v145 P) .nil .nil) (.node (v186 P) .nil .nil))))))
noncomputable def v191 (P : Params) : PySem.Obj := ⟨.type "dict", none, .dict (List.toArray [⟨PyData.keyHash P (Str.ofString "__name__"), .str (Str.ofString "__name__") 165, .str (Str.ofString "crcgate.rows") 358⟩, ⟨PyData.keyHash P (Str.ofString "__doc__"), .str (Str.ofString "__doc__") 166, .none⟩, ⟨PyData.keyHash P (Str.ofString "__package__"), .str (Str.ofString "__package__") 167, .none⟩, ⟨PyData.keyHash P (Str.ofString "__loader__"), .str (Str.ofString "__loader__") 168, .builtin "__main__.__loader__#opaque"⟩, ⟨PyData.keyHash P (Str.ofString "__spec__"), .str (Str.ofString "__spec__") 169, .none⟩, ⟨PyData.keyHash P (Str.ofString "__annotations__"), .str (Str.ofString "__annotations__") 170, .ref 6⟩, ⟨PyData.keyHash P (Str.ofString "__builtins__"), .str (Str.ofString "__builtins__") 171, .ref 4⟩, ⟨PyData.keyHash P (Str.ofString "__file__"), .str (Str.ofString "__file__") 173, .str (Str.ofString "/claim/cut.py") 172⟩, ⟨PyData.keyHash P (Str.ofString "__cached__"), .str (Str.ofString "__cached__") 174, .none⟩, ⟨PyData.keyHash P (Str.ofString "_wall"), .str (Str.ofString "_wall") 193, .ref 21⟩, ⟨PyData.keyHash P (Str.ofString "GateError"), .str (Str.ofString "GateError") 213, .ref 31⟩, ⟨PyData.keyHash P (Str.ofString "NoRow"), .str (Str.ofString "NoRow") 229, .ref 44⟩, ⟨PyData.keyHash P (Str.ofString "NoSign"), .str (Str.ofString "NoSign") 245, .ref 56⟩, ⟨PyData.keyHash P (Str.ofString "NoDivisor"), .str (Str.ofString "NoDivisor") 261, .ref 68⟩, ⟨PyData.keyHash P (Str.ofString "NoCount"), .str (Str.ofString "NoCount") 277, .ref 80⟩, ⟨PyData.keyHash P (Str.ofString "TooLong"), .str (Str.ofString "TooLong") 293, .ref 92⟩, ⟨PyData.keyHash P (Str.ofString "TooShort"), .str (Str.ofString "TooShort") 309, .ref 104⟩, ⟨PyData.keyHash P (Str.ofString "Broken"), .str (Str.ofString "Broken") 325, .ref 116⟩, ⟨PyData.keyHash P (Str.ofString "NoMate"), .str (Str.ofString "NoMate") 341, .ref 128⟩, ⟨PyData.keyHash P (Str.ofString "NoText"), .str (Str.ofString "NoText") 357, .ref 140⟩, ⟨PyData.keyHash P (Str.ofString "is_sign"), .str (Str.ofString "is_sign") 366, .ref 149⟩, ⟨PyData.keyHash P (Str.ofString "need_row"), .str (Str.ofString "need_row") 374, .ref 156⟩, ⟨PyData.keyHash P (Str.ofString "value_of"), .str (Str.ofString "value_of") 383, .ref 163⟩, ⟨PyData.keyHash P (Str.ofString "signs_of"), .str (Str.ofString "signs_of") 393, .ref 170⟩, ⟨PyData.keyHash P (Str.ofString "added"), .str (Str.ofString "added") 399, .ref 175⟩]) 25, List.toArray []⟩
noncomputable def v192 (_P : Params) : PySem.Obj := ⟨.none, none, .fields (List.toArray [.int 1 0, .int 0 0, .ref 20, .int 5 0, .int 0 0, .ref 27, .int 7 0, .int 0 0, .ref 40, .int 9 0, .int 0 0, .ref 52, .int 11 0, .int 0 0, .ref 64, .int 13 0, .int 0 0, .ref 76, .int 15 0, .int 0 0, .ref 88, .int 17 0, .int 0 0, .ref 100, .int 19 0, .int 0 0, .ref 112, .int 21 0, .int 0 0, .ref 124, .int 23 0, .int 0 0, .ref 136, .int 26 0, .int 0 0, .ref 148, .int 28 0, .int 0 0, .ref 155, .int 34 0, .int 0 0, .ref 162, .int 39 0, .int 0 0, .ref 169, .int 45 0, .int 0 0, .ref 174]), List.toArray []⟩
noncomputable def v193 (_P : Params) : PySem.Obj := ⟨.type "type", none, .cls ⟨Str.ofString "GateError", [.type "ValueError"], [.ref 31, .type "ValueError", .type "Exception", .type "BaseException", .type "object"], 30, Str.ofString "GateError", true, [], [.ref 44, .ref 56, .ref 68, .ref 80, .ref 92, .ref 104, .ref 116, .ref 128, .ref 140], false, none, false⟩, List.toArray [some (.ref 22), none, some (.str (Str.ofString "GateError") 196), some (.str (Str.ofString "GateError") 204), some (.builtin "ValueError.__new__"), some (.bool true)]⟩
noncomputable def v194 (_P : Params) : PySem.Obj := ⟨.type "tuple", none, .seq (List.toArray [.ref 31]) 0, List.toArray []⟩
noncomputable def v195 (_P : Params) : PySem.Obj := ⟨.type "builtin_function_or_method", none, .fields (List.toArray [.builtin "type.__prepare__", .type "type"]), List.toArray []⟩
noncomputable def v196 (P : Params) : PySem.Obj := ⟨.type "dict", none, .dict (List.toArray [⟨PyData.keyHash P (Str.ofString "__module__"), .str (Str.ofString "__module__") 349, .str (Str.ofString "crcgate.errors") 194⟩, ⟨PyData.keyHash P (Str.ofString "__qualname__"), .str (Str.ofString "__qualname__") 351, .str (Str.ofString "NoText") 350⟩, ⟨PyData.keyHash P (Str.ofString "__firstlineno__"), .str (Str.ofString "__firstlineno__") 353, .int 23 352⟩, ⟨PyData.keyHash P (Str.ofString "__static_attributes__"), .str (Str.ofString "__static_attributes__") 354, .ref 138⟩]) 4, List.toArray []⟩
noncomputable def v197 (_P : Params) : PySem.Obj := ⟨.type "tuple", none, .seq (List.toArray []) 0, List.toArray []⟩
noncomputable def v198 (_P : Params) : PySem.Obj := ⟨.none, none, .fields (List.toArray []), List.toArray []⟩
noncomputable def v199 (_P : Params) : PySem.Obj := ⟨.type "code", none, .fields (List.toArray [.str (Str.ofString "NoText") 344, .str (Str.ofString "NoText") 345, .str (Str.ofString "/claim/cut.py") 346, .int 23 0, .int 0 0, .int 0 0, .int 0 0, .int 0 0, .ref 134, .bool false, .int 181 0, .ref 135, .none, .none, .none, .none, .int 347 0, .int 23 0, .str (Str.ofString "/claim/cut.py") 348]), List.toArray []⟩
noncomputable def v200 (_P : Params) : PySem.Obj := ⟨.type "frame", none, .plain, List.toArray [some (.ref 136), some (.ref 3), some (.ref 133), none, some (.str (Str.ofString "crcgate.errors") 194), none, some (.ref 0)]⟩
noncomputable def v201 (_P : Params) : PySem.Obj := ⟨.type "tuple", none, .seq (List.toArray []) 0, List.toArray []⟩
noncomputable def v202 (P : Params) : PySem.Obj := ⟨.type "dict", none, .dict (List.toArray [⟨PyData.keyHash P (Str.ofString "__module__"), .str (Str.ofString "__module__") 349, .str (Str.ofString "crcgate.errors") 194⟩, ⟨PyData.keyHash P (Str.ofString "__firstlineno__"), .str (Str.ofString "__firstlineno__") 353, .int 23 352⟩, ⟨PyData.keyHash P (Str.ofString "__static_attributes__"), .str (Str.ofString "__static_attributes__") 354, .ref 138⟩, ⟨PyData.keyHash P (Str.ofString "__doc__"), .str (Str.ofString "__doc__") 355, .none⟩]) 2, List.toArray []⟩
noncomputable def v203 (_P : Params) : PySem.Obj := ⟨.type "type", none, .cls ⟨Str.ofString "NoText", [.ref 31], [.ref 140, .ref 31, .type "ValueError", .type "Exception", .type "BaseException", .type "object"], 139, Str.ofString "NoText", true, [], [], false, none, false⟩, List.toArray [some (.ref 131), none, some (.str (Str.ofString "NoText") 342), some (.str (Str.ofString "NoText") 350), some (.builtin "ValueError.__new__"), some (.bool true)]⟩
noncomputable def v204 (_P : Params) : PySem.Obj := ⟨.type "super", none, .fields (List.toArray [.ref 140, .ref 140, .ref 140]), List.toArray []⟩
noncomputable def v205 (_P : Params) : PySem.Obj := ⟨.type "builtin_function_or_method", none, .fields (List.toArray [.builtin "object.__init_subclass__", .ref 140]), List.toArray []⟩
noncomputable def v206 (_P : Params) : PySem.Obj := ⟨.type "tuple", none, .seq (List.toArray []) 0, List.toArray []⟩
noncomputable def v207 (_P : Params) : PySem.Obj := ⟨.none, none, .fields (List.toArray []), List.toArray []⟩
noncomputable def v208 (_P : Params) : PySem.Obj := ⟨.type "tuple", none, .seq (List.toArray [.str (Str.ofString "sign") 363]) 0, List.toArray []⟩
noncomputable def v209 (_P : Params) : PySem.Obj := ⟨.type "tuple", none, .seq (List.toArray []) 0, List.toArray []⟩
noncomputable def v210 (_P : Params) : PySem.Obj := (fun (p : Arguments) (b : List Stmt) (s : Scope) (_ : (p, b, s) = fnP (nthS pW.main.body 13)) => (⟨.none, none, .func ⟨Str.ofString "is_sign", Str.ofString "is_sign", p, .stmts b, s, 0, [], .none, .none, .none, .none, none, .none, .none, 0⟩, List.toArray []⟩ : Obj)) _ _ _ rfl
noncomputable def v211 (_P : Params) : PySem.Obj := ⟨.type "code", none, .fields (List.toArray [.str (Str.ofString "is_sign") 360, .str (Str.ofString "is_sign") 361, .str (Str.ofString "/claim/cut.py") 362, .int 26 0, .int 1 0, .int 0 0, .int 0 0, .int 3 0, .ref 143, .bool true, .int 181 0, .ref 144, .none, .ref 145, .ref 146, .ref 147, .int 364 0, .int 26 0, .str (Str.ofString "/claim/cut.py") 365]), List.toArray []⟩
noncomputable def v212 (_P : Params) : PySem.Obj := (fun (p : Arguments) (b : List Stmt) (s : Scope) (_ : (p, b, s) = fnP (nthS pW.main.body 13)) => (⟨.type "function", none, .func ⟨Str.ofString "is_sign", Str.ofString "is_sign", p, .stmts b, s, 3, [], .none, .none, .none, .str (Str.ofString "crcgate.rows") 358, none, .ref 148, .none, 0⟩, List.toArray []⟩ : Obj)) _ _ _ rfl
noncomputable def v213 (_P : Params) : PySem.Obj := ⟨.type "tuple", none, .seq (List.toArray []) 0, List.toArray []⟩
noncomputable def v214 (_P : Params) : PySem.Obj := ⟨.none, none, .fields (List.toArray []), List.toArray []⟩
noncomputable def v215 (_P : Params) : PySem.Obj := ⟨.type "tuple", none, .seq (List.toArray [.str (Str.ofString "row") 370, .str (Str.ofString "sign") 371]) 0, List.toArray []⟩
noncomputable def v216 (_P : Params) : PySem.Obj := ⟨.type "tuple", none, .seq (List.toArray []) 0, List.toArray []⟩
noncomputable def v217 (_P : Params) : PySem.Obj := (fun (p : Arguments) (b : List Stmt) (s : Scope) (_ : (p, b, s) = fnP (nthS pW.main.body 14)) => (⟨.none, none, .func ⟨Str.ofString "need_row", Str.ofString "need_row", p, .stmts b, s, 0, [], .none, .none, .none, .none, none, .none, .none, 0⟩, List.toArray []⟩ : Obj)) _ _ _ rfl
noncomputable def v218 (_P : Params) : PySem.Obj := ⟨.type "code", none, .fields (List.toArray [.str (Str.ofString "need_row") 367, .str (Str.ofString "need_row") 368, .str (Str.ofString "/claim/cut.py") 369, .int 28 0, .int 1 0, .int 0 0, .int 0 0, .int 3 0, .ref 150, .bool true, .int 181 0, .ref 151, .none, .ref 152, .ref 153, .ref 154, .int 372 0, .int 28 0, .str (Str.ofString "/claim/cut.py") 373]), List.toArray []⟩
noncomputable def v219 (_P : Params) : PySem.Obj := (fun (p : Arguments) (b : List Stmt) (s : Scope) (_ : (p, b, s) = fnP (nthS pW.main.body 14)) => (⟨.type "function", none, .func ⟨Str.ofString "need_row", Str.ofString "need_row", p, .stmts b, s, 3, [], .none, .none, .none, .str (Str.ofString "crcgate.rows") 358, none, .ref 155, .none, 0⟩, List.toArray []⟩ : Obj)) _ _ _ rfl
noncomputable def v220 (_P : Params) : PySem.Obj := ⟨.type "tuple", none, .seq (List.toArray []) 0, List.toArray []⟩
noncomputable def v221 (_P : Params) : PySem.Obj := ⟨.none, none, .fields (List.toArray []), List.toArray []⟩
noncomputable def v222 (_P : Params) : PySem.Obj := ⟨.type "tuple", none, .seq (List.toArray [.str (Str.ofString "row") 378, .str (Str.ofString "found") 379, .str (Str.ofString "sign") 380]) 0, List.toArray []⟩
noncomputable def v223 (_P : Params) : PySem.Obj := ⟨.type "tuple", none, .seq (List.toArray []) 0, List.toArray []⟩
noncomputable def v224 (_P : Params) : PySem.Obj := (fun (p : Arguments) (b : List Stmt) (s : Scope) (_ : (p, b, s) = fnP (nthS pW.main.body 15)) => (⟨.none, none, .func ⟨Str.ofString "value_of", Str.ofString "value_of", p, .stmts b, s, 0, [], .none, .none, .none, .none, none, .none, .none, 0⟩, List.toArray []⟩ : Obj)) _ _ _ rfl
noncomputable def v225 (_P : Params) : PySem.Obj := ⟨.type "code", none, .fields (List.toArray [.str (Str.ofString "value_of") 375, .str (Str.ofString "value_of") 376, .str (Str.ofString "/claim/cut.py") 377, .int 34 0, .int 1 0, .int 0 0, .int 0 0, .int 3 0, .ref 157, .bool true, .int 181 0, .ref 158, .none, .ref 159, .ref 160, .ref 161, .int 381 0, .int 34 0, .str (Str.ofString "/claim/cut.py") 382]), List.toArray []⟩
noncomputable def v226 (_P : Params) : PySem.Obj := (fun (p : Arguments) (b : List Stmt) (s : Scope) (_ : (p, b, s) = fnP (nthS pW.main.body 15)) => (⟨.type "function", none, .func ⟨Str.ofString "value_of", Str.ofString "value_of", p, .stmts b, s, 3, [], .none, .none, .none, .str (Str.ofString "crcgate.rows") 358, none, .ref 162, .none, 0⟩, List.toArray []⟩ : Obj)) _ _ _ rfl
noncomputable def v227 (_P : Params) : PySem.Obj := ⟨.type "tuple", none, .seq (List.toArray []) 0, List.toArray []⟩
noncomputable def v228 (_P : Params) : PySem.Obj := ⟨.none, none, .fields (List.toArray []), List.toArray []⟩
noncomputable def v229 (_P : Params) : PySem.Obj := ⟨.type "tuple", none, .seq (List.toArray [.str (Str.ofString "value") 387, .str (Str.ofString "many") 388, .str (Str.ofString "found") 389, .str (Str.ofString "turn") 390]) 0, List.toArray []⟩
noncomputable def v230 (_P : Params) : PySem.Obj := ⟨.type "tuple", none, .seq (List.toArray []) 0, List.toArray []⟩
noncomputable def v231 (_P : Params) : PySem.Obj := (fun (p : Arguments) (b : List Stmt) (s : Scope) (_ : (p, b, s) = fnP (nthS pW.main.body 16)) => (⟨.none, none, .func ⟨Str.ofString "signs_of", Str.ofString "signs_of", p, .stmts b, s, 0, [], .none, .none, .none, .none, none, .none, .none, 0⟩, List.toArray []⟩ : Obj)) _ _ _ rfl
noncomputable def v232 (_P : Params) : PySem.Obj := ⟨.type "code", none, .fields (List.toArray [.str (Str.ofString "signs_of") 384, .str (Str.ofString "signs_of") 385, .str (Str.ofString "/claim/cut.py") 386, .int 39 0, .int 2 0, .int 0 0, .int 0 0, .int 3 0, .ref 164, .bool true, .int 181 0, .ref 165, .none, .ref 166, .ref 167, .ref 168, .int 391 0, .int 39 0, .str (Str.ofString "/claim/cut.py") 392]), List.toArray []⟩
noncomputable def v233 (_P : Params) : PySem.Obj := (fun (p : Arguments) (b : List Stmt) (s : Scope) (_ : (p, b, s) = fnP (nthS pW.main.body 16)) => (⟨.type "function", none, .func ⟨Str.ofString "signs_of", Str.ofString "signs_of", p, .stmts b, s, 3, [], .none, .none, .none, .str (Str.ofString "crcgate.rows") 358, none, .ref 169, .none, 0⟩, List.toArray []⟩ : Obj)) _ _ _ rfl
noncomputable def v234 (_P : Params) : PySem.Obj := ⟨.type "tuple", none, .seq (List.toArray []) 0, List.toArray []⟩
noncomputable def v235 (_P : Params) : PySem.Obj := ⟨.none, none, .fields (List.toArray []), List.toArray []⟩
noncomputable def v236 (_P : Params) : PySem.Obj := (fun (p : Arguments) (b : List Stmt) (s : Scope) (_ : (p, b, s) = fnP (nthS pW.main.body 17)) => (⟨.none, none, .func ⟨Str.ofString "added", Str.ofString "added", p, .stmts b, s, 0, [], .none, .none, .none, .none, none, .none, .none, 0⟩, List.toArray []⟩ : Obj)) _ _ _ rfl
noncomputable def v237 (_P : Params) : PySem.Obj := ⟨.type "code", none, .fields (List.toArray [.str (Str.ofString "added") 394, .str (Str.ofString "added") 395, .str (Str.ofString "/claim/cut.py") 396, .int 45 0, .int 2 0, .int 0 0, .int 0 0, .int 3 0, .ref 171, .bool true, .int 181 0, .ref 172, .none, .none, .none, .ref 173, .int 397 0, .int 45 0, .str (Str.ofString "/claim/cut.py") 398]), List.toArray []⟩
noncomputable def v238 (_P : Params) : PySem.Obj := (fun (p : Arguments) (b : List Stmt) (s : Scope) (_ : (p, b, s) = fnP (nthS pW.main.body 17)) => (⟨.type "function", none, .func ⟨Str.ofString "added", Str.ofString "added", p, .stmts b, s, 3, [], .none, .none, .none, .str (Str.ofString "crcgate.rows") 358, none, .ref 174, .none, 0⟩, List.toArray []⟩ : Obj)) _ _ _ rfl
noncomputable def tr238 (P : Params) : PySem.W.BT := .node (PySem.W.boot_o_0 P) (.node (PySem.W.boot_o_1 P) (.node (v191 P) (.node (PySem.W.boot_o_7 P) (.node (v51 P) (.node (v193 P) (.node (v108 P) (.node (v187 P) .nil .nil) .nil) (.node (v149 P) (.node (v222 P) .nil .nil) .nil)) (.node (v89 P) (.node (v127 P) (.node (v206 P) .nil .nil) .nil) (.node (v168 P) (.node (v238 P) .nil .nil) .nil))) (.node (v59 P) (.node (v78 P) (.node (v119 P) (.node (v198 P) .nil .nil) .nil) (.node (v157 P) (.node (v230 P) .nil .nil) .nil)) (.node (v97 P) (.node (v138 P) (.node (v214 P) .nil .nil) .nil) (.node (v179 P) .nil .nil)))) (.node (v43 P) (.node (v55 P) (.node (v74 P) (.node (v112 P) (.node (v194 P) .nil .nil) .nil) (.node (v153 P) (.node (v226 P) .nil .nil) .nil)) (.node (v93 P) (.node (v134 P) (.node (v210 P) .nil .nil) .nil) (.node (v172 P) .nil .nil))) (.node (v63 P) (.node (v82 P) (.node (v123 P) (.node (v202 P) .nil .nil) .nil) (.node (v164 P) (.node (v234 P) .nil .nil) .nil)) (.node (v104 P) (.node (v142 P) (.node (v218 P) .nil .nil) .nil) (.node (v183 P) .nil .nil))))) (.node (PySem.W.boot_o_5 P) (.node (PySem.W.boot_o_9 P) (.node (v53 P) (.node (v69 P) (.node (v110 P) (.node (v189 P) .nil .nil) .nil) (.node (v151 P) (.node (v224 P) .nil .nil) .nil)) (.node (v91 P) (.node (v129 P) (.node (v208 P) .nil .nil) .nil) (.node (v170 P) .nil .nil))) (.node (v61 P) (.node (v80 P) (.node (v121 P) (.node (v200 P) .nil .nil) .nil) (.node (v159 P) (.node (v232 P) .nil .nil) .nil)) (.node (v99 P) (.node (v140 P) (.node (v216 P) .nil .nil) .nil) (.node (v181 P) .nil .nil)))) (.node (v45 P) (.node (v57 P) (.node (v76 P) (.node (v114 P) (.node (v196 P) .nil .nil) .nil) (.node (v155 P) (.node (v228 P) .nil .nil) .nil)) (.node (v95 P) (.node (v136 P) (.node (v212 P) .nil .nil) .nil) (.node (v174 P) .nil .nil))) (.node (v65 P) (.node (v84 P) (.node (v125 P) (.node (v204 P) .nil .nil) .nil) (.node (v166 P) (.node (v236 P) .nil .nil) .nil)) (.node (v106 P) (.node (v144 P) (.node (v220 P) .nil .nil) .nil) (.node (v185 P) .nil .nil)))))) (.node (PySem.W.boot_o_2 P) (.node (PySem.W.boot_o_4 P) (.node (PySem.W.boot_o_8 P) (.node (v52 P) (.node (v68 P) (.node (v109 P) (.node (v188 P) .nil .nil) .nil) (.node (v150 P) (.node (v223 P) .nil .nil) .nil)) (.node (v90 P) (.node (v128 P) (.node (v207 P) .nil .nil) .nil) (.node (v169 P) .nil .nil))) (.node (v60 P) (.node (v79 P) (.node (v120 P) (.node (v199 P) .nil .nil) .nil) (.node (v158 P) (.node (v231 P) .nil .nil) .nil)) (.node (v98 P) (.node (v139 P) (.node (v215 P) .nil .nil) .nil) (.node (v180 P) .nil .nil)))) (.node (v192 P) (.node (v56 P) (.node (v75 P) (.node (v113 P) (.node (v195 P) .nil .nil) .nil) (.node (v154 P) (.node (v227 P) .nil .nil) .nil)) (.node (v94 P) (.node (v135 P) (.node (v211 P) .nil .nil) .nil) (.node (v173 P) .nil .nil))) (.node (v64 P) (.node (v83 P) (.node (v124 P) (.node (v203 P) .nil .nil) .nil) (.node (v165 P) (.node (v235 P) .nil .nil) .nil)) (.node (v105 P) (.node (v143 P) (.node (v219 P) .nil .nil) .nil) (.node (v184 P) .nil .nil))))) (.node (PySem.W.boot_o_6 P) (.node (PySem.W.boot_o_10 P) (.node (v54 P) (.node (v70 P) (.node (v111 P) (.node (v190 P) .nil .nil) .nil) (.node (v152 P) (.node (v225 P) .nil .nil) .nil)) (.node (v92 P) (.node (v130 P) (.node (v209 P) .nil .nil) .nil) (.node (v171 P) .nil .nil))) (.node (v62 P) (.node (v81 P) (.node (v122 P) (.node (v201 P) .nil .nil) .nil) (.node (v160 P) (.node (v233 P) .nil .nil) .nil)) (.node (v100 P) (.node (v141 P) (.node (v217 P) .nil .nil) .nil) (.node (v182 P) .nil .nil)))) (.node (v46 P) (.node (v58 P) (.node (v77 P) (.node (v115 P) (.node (v197 P) .nil .nil) .nil) (.node (v156 P) (.node (v229 P) .nil .nil) .nil)) (.node (v96 P) (.node (v137 P) (.node (v213 P) .nil .nil) .nil) (.node (v175 P) .nil .nil))) (.node (v66 P) (.node (v85 P) (.node (v126 P) (.node (v205 P) .nil .nil) .nil) (.node (v167 P) (.node (v237 P) .nil .nil) .nil)) (.node (v107 P) (.node (v145 P) (.node (v221 P) .nil .nil) .nil) (.node (v186 P) .nil .nil))))))
noncomputable def v239 (P : Params) : PySem.Obj := ⟨.type "dict", none, .dict (List.toArray [⟨PyData.keyHash P (Str.ofString "__name__"), .str (Str.ofString "__name__") 165, .str (Str.ofString "crcgate.gates") 461⟩, ⟨PyData.keyHash P (Str.ofString "__doc__"), .str (Str.ofString "__doc__") 166, .none⟩, ⟨PyData.keyHash P (Str.ofString "__package__"), .str (Str.ofString "__package__") 167, .none⟩, ⟨PyData.keyHash P (Str.ofString "__loader__"), .str (Str.ofString "__loader__") 168, .builtin "__main__.__loader__#opaque"⟩, ⟨PyData.keyHash P (Str.ofString "__spec__"), .str (Str.ofString "__spec__") 169, .none⟩, ⟨PyData.keyHash P (Str.ofString "__annotations__"), .str (Str.ofString "__annotations__") 170, .ref 6⟩, ⟨PyData.keyHash P (Str.ofString "__builtins__"), .str (Str.ofString "__builtins__") 171, .ref 4⟩, ⟨PyData.keyHash P (Str.ofString "__file__"), .str (Str.ofString "__file__") 173, .str (Str.ofString "/claim/cut.py") 172⟩, ⟨PyData.keyHash P (Str.ofString "__cached__"), .str (Str.ofString "__cached__") 174, .none⟩, ⟨PyData.keyHash P (Str.ofString "_wall"), .str (Str.ofString "_wall") 193, .ref 21⟩, ⟨PyData.keyHash P (Str.ofString "GateError"), .str (Str.ofString "GateError") 213, .ref 31⟩, ⟨PyData.keyHash P (Str.ofString "NoRow"), .str (Str.ofString "NoRow") 229, .ref 44⟩, ⟨PyData.keyHash P (Str.ofString "NoSign"), .str (Str.ofString "NoSign") 245, .ref 56⟩, ⟨PyData.keyHash P (Str.ofString "NoDivisor"), .str (Str.ofString "NoDivisor") 261, .ref 68⟩, ⟨PyData.keyHash P (Str.ofString "NoCount"), .str (Str.ofString "NoCount") 277, .ref 80⟩, ⟨PyData.keyHash P (Str.ofString "TooLong"), .str (Str.ofString "TooLong") 293, .ref 92⟩, ⟨PyData.keyHash P (Str.ofString "TooShort"), .str (Str.ofString "TooShort") 309, .ref 104⟩, ⟨PyData.keyHash P (Str.ofString "Broken"), .str (Str.ofString "Broken") 325, .ref 116⟩, ⟨PyData.keyHash P (Str.ofString "NoMate"), .str (Str.ofString "NoMate") 341, .ref 128⟩, ⟨PyData.keyHash P (Str.ofString "NoText"), .str (Str.ofString "NoText") 357, .ref 140⟩, ⟨PyData.keyHash P (Str.ofString "is_sign"), .str (Str.ofString "is_sign") 366, .ref 149⟩, ⟨PyData.keyHash P (Str.ofString "need_row"), .str (Str.ofString "need_row") 374, .ref 156⟩, ⟨PyData.keyHash P (Str.ofString "value_of"), .str (Str.ofString "value_of") 383, .ref 163⟩, ⟨PyData.keyHash P (Str.ofString "signs_of"), .str (Str.ofString "signs_of") 393, .ref 170⟩, ⟨PyData.keyHash P (Str.ofString "added"), .str (Str.ofString "added") 399, .ref 175⟩, ⟨PyData.keyHash P (Str.ofString "times"), .str (Str.ofString "times") 412, .ref 182⟩, ⟨PyData.keyHash P (Str.ofString "parted"), .str (Str.ofString "parted") 427, .ref 189⟩, ⟨PyData.keyHash P (Str.ofString "LEAST"), .str (Str.ofString "LEAST") 431, .int 2 430⟩, ⟨PyData.keyHash P (Str.ofString "MOST"), .str (Str.ofString "MOST") 433, .int 13 432⟩, ⟨PyData.keyHash P (Str.ofString "need_divisor"), .str (Str.ofString "need_divisor") 440, .ref 196⟩, ⟨PyData.keyHash P (Str.ofString "onward"), .str (Str.ofString "onward") 449, .ref 203⟩, ⟨PyData.keyHash P (Str.ofString "reach"), .str (Str.ofString "reach") 460, .ref 210⟩, ⟨PyData.keyHash P (Str.ofString "MOST_NOUGHTS"), .str (Str.ofString "MOST_NOUGHTS") 466, .int 1000000000000000000 465⟩]) 33, List.toArray []⟩
noncomputable def v240 (_P : Params) : PySem.Obj := ⟨.none, none, .fields (List.toArray [.int 1 0, .int 0 0, .ref 20, .int 5 0, .int 0 0, .ref 27, .int 7 0, .int 0 0, .ref 40, .int 9 0, .int 0 0, .ref 52, .int 11 0, .int 0 0, .ref 64, .int 13 0, .int 0 0, .ref 76, .int 15 0, .int 0 0, .ref 88, .int 17 0, .int 0 0, .ref 100, .int 19 0, .int 0 0, .ref 112, .int 21 0, .int 0 0, .ref 124, .int 23 0, .int 0 0, .ref 136, .int 26 0, .int 0 0, .ref 148, .int 28 0, .int 0 0, .ref 155, .int 34 0, .int 0 0, .ref 162, .int 39 0, .int 0 0, .ref 169, .int 45 0, .int 0 0, .ref 174, .int 52 0, .int 0 0, .ref 181, .int 63 0, .int 0 0, .ref 188, .int 81 0, .int 0 0, .ref 195, .int 87 0, .int 0 0, .ref 202, .int 92 0, .int 0 0, .ref 209]), List.toArray []⟩
noncomputable def v241 (_P : Params) : PySem.Obj := ⟨.type "tuple", none, .seq (List.toArray []) 0, List.toArray []⟩
noncomputable def v242 (_P : Params) : PySem.Obj := ⟨.none, none, .fields (List.toArray []), List.toArray []⟩
noncomputable def v243 (_P : Params) : PySem.Obj := ⟨.type "tuple", none, .seq (List.toArray [.str (Str.ofString "one") 403, .str (Str.ofString "other") 404, .str (Str.ofString "found") 405, .str (Str.ofString "place") 406, .str (Str.ofString "sign") 407, .str (Str.ofString "beside") 408, .str (Str.ofString "more") 409]) 0, List.toArray []⟩
noncomputable def v244 (_P : Params) : PySem.Obj := ⟨.type "tuple", none, .seq (List.toArray []) 0, List.toArray []⟩
noncomputable def v245 (_P : Params) : PySem.Obj := (fun (p : Arguments) (b : List Stmt) (s : Scope) (_ : (p, b, s) = fnP (nthS pW.main.body 18)) => (⟨.none, none, .func ⟨Str.ofString "times", Str.ofString "times", p, .stmts b, s, 0, [], .none, .none, .none, .none, none, .none, .none, 0⟩, List.toArray []⟩ : Obj)) _ _ _ rfl
noncomputable def v246 (_P : Params) : PySem.Obj := ⟨.type "code", none, .fields (List.toArray [.str (Str.ofString "times") 400, .str (Str.ofString "times") 401, .str (Str.ofString "/claim/cut.py") 402, .int 52 0, .int 2 0, .int 0 0, .int 0 0, .int 3 0, .ref 176, .bool true, .int 181 0, .ref 177, .none, .ref 178, .ref 179, .ref 180, .int 410 0, .int 52 0, .str (Str.ofString "/claim/cut.py") 411]), List.toArray []⟩
noncomputable def v247 (_P : Params) : PySem.Obj := (fun (p : Arguments) (b : List Stmt) (s : Scope) (_ : (p, b, s) = fnP (nthS pW.main.body 18)) => (⟨.type "function", none, .func ⟨Str.ofString "times", Str.ofString "times", p, .stmts b, s, 3, [], .none, .none, .none, .str (Str.ofString "crcgate.rows") 358, none, .ref 181, .none, 0⟩, List.toArray []⟩ : Obj)) _ _ _ rfl
noncomputable def v248 (_P : Params) : PySem.Obj := ⟨.type "tuple", none, .seq (List.toArray []) 0, List.toArray []⟩
noncomputable def v249 (_P : Params) : PySem.Obj := ⟨.none, none, .fields (List.toArray []), List.toArray []⟩
noncomputable def v250 (_P : Params) : PySem.Obj := ⟨.type "tuple", none, .seq (List.toArray [.str (Str.ofString "row") 416, .str (Str.ofString "divisor") 417, .str (Str.ofString "width") 418, .str (Str.ofString "left") 419, .str (Str.ofString "quotient") 420, .str (Str.ofString "place") 421, .str (Str.ofString "sign") 422, .str (Str.ofString "beside") 423, .str (Str.ofString "more") 424]) 0, List.toArray []⟩
noncomputable def v251 (_P : Params) : PySem.Obj := ⟨.type "tuple", none, .seq (List.toArray []) 0, List.toArray []⟩
noncomputable def v252 (_P : Params) : PySem.Obj := (fun (p : Arguments) (b : List Stmt) (s : Scope) (_ : (p, b, s) = fnP (nthS pW.main.body 19)) => (⟨.none, none, .func ⟨Str.ofString "parted", Str.ofString "parted", p, .stmts b, s, 0, [], .none, .none, .none, .none, none, .none, .none, 0⟩, List.toArray []⟩ : Obj)) _ _ _ rfl
noncomputable def v253 (_P : Params) : PySem.Obj := ⟨.type "code", none, .fields (List.toArray [.str (Str.ofString "parted") 413, .str (Str.ofString "parted") 414, .str (Str.ofString "/claim/cut.py") 415, .int 63 0, .int 2 0, .int 0 0, .int 0 0, .int 3 0, .ref 183, .bool true, .int 181 0, .ref 184, .none, .ref 185, .ref 186, .ref 187, .int 425 0, .int 63 0, .str (Str.ofString "/claim/cut.py") 426]), List.toArray []⟩
noncomputable def v254 (_P : Params) : PySem.Obj := (fun (p : Arguments) (b : List Stmt) (s : Scope) (_ : (p, b, s) = fnP (nthS pW.main.body 19)) => (⟨.type "function", none, .func ⟨Str.ofString "parted", Str.ofString "parted", p, .stmts b, s, 3, [], .none, .none, .none, .str (Str.ofString "crcgate.rows") 358, none, .ref 188, .none, 0⟩, List.toArray []⟩ : Obj)) _ _ _ rfl
noncomputable def v255 (_P : Params) : PySem.Obj := ⟨.type "tuple", none, .seq (List.toArray []) 0, List.toArray []⟩
noncomputable def v256 (_P : Params) : PySem.Obj := ⟨.none, none, .fields (List.toArray []), List.toArray []⟩
noncomputable def v257 (_P : Params) : PySem.Obj := ⟨.type "tuple", none, .seq (List.toArray [.str (Str.ofString "divisor") 437]) 0, List.toArray []⟩
noncomputable def v258 (_P : Params) : PySem.Obj := ⟨.type "tuple", none, .seq (List.toArray []) 0, List.toArray []⟩
noncomputable def v259 (_P : Params) : PySem.Obj := (fun (p : Arguments) (b : List Stmt) (s : Scope) (_ : (p, b, s) = fnP (nthS pW.main.body 23)) => (⟨.none, none, .func ⟨Str.ofString "need_divisor", Str.ofString "need_divisor", p, .stmts b, s, 0, [], .none, .none, .none, .none, none, .none, .none, 0⟩, List.toArray []⟩ : Obj)) _ _ _ rfl
noncomputable def v260 (_P : Params) : PySem.Obj := ⟨.type "code", none, .fields (List.toArray [.str (Str.ofString "need_divisor") 434, .str (Str.ofString "need_divisor") 435, .str (Str.ofString "/claim/cut.py") 436, .int 81 0, .int 1 0, .int 0 0, .int 0 0, .int 3 0, .ref 190, .bool true, .int 181 0, .ref 191, .none, .ref 192, .ref 193, .ref 194, .int 438 0, .int 81 0, .str (Str.ofString "/claim/cut.py") 439]), List.toArray []⟩
noncomputable def v261 (_P : Params) : PySem.Obj := (fun (p : Arguments) (b : List Stmt) (s : Scope) (_ : (p, b, s) = fnP (nthS pW.main.body 23)) => (⟨.type "function", none, .func ⟨Str.ofString "need_divisor", Str.ofString "need_divisor", p, .stmts b, s, 3, [], .none, .none, .none, .str (Str.ofString "crcgate.reaches") 428, none, .ref 195, .none, 0⟩, List.toArray []⟩ : Obj)) _ _ _ rfl
noncomputable def v262 (_P : Params) : PySem.Obj := ⟨.type "tuple", none, .seq (List.toArray []) 0, List.toArray []⟩
noncomputable def v263 (_P : Params) : PySem.Obj := ⟨.none, none, .fields (List.toArray []), List.toArray []⟩
noncomputable def v264 (_P : Params) : PySem.Obj := ⟨.type "tuple", none, .seq (List.toArray [.str (Str.ofString "value") 444, .str (Str.ofString "divisor") 445, .str (Str.ofString "width") 446]) 0, List.toArray []⟩
noncomputable def v265 (_P : Params) : PySem.Obj := ⟨.type "tuple", none, .seq (List.toArray []) 0, List.toArray []⟩
noncomputable def v266 (_P : Params) : PySem.Obj := (fun (p : Arguments) (b : List Stmt) (s : Scope) (_ : (p, b, s) = fnP (nthS pW.main.body 24)) => (⟨.none, none, .func ⟨Str.ofString "onward", Str.ofString "onward", p, .stmts b, s, 0, [], .none, .none, .none, .none, none, .none, .none, 0⟩, List.toArray []⟩ : Obj)) _ _ _ rfl
noncomputable def v267 (_P : Params) : PySem.Obj := ⟨.type "code", none, .fields (List.toArray [.str (Str.ofString "onward") 441, .str (Str.ofString "onward") 442, .str (Str.ofString "/claim/cut.py") 443, .int 87 0, .int 3 0, .int 0 0, .int 0 0, .int 3 0, .ref 197, .bool true, .int 181 0, .ref 198, .none, .ref 199, .ref 200, .ref 201, .int 447 0, .int 87 0, .str (Str.ofString "/claim/cut.py") 448]), List.toArray []⟩
noncomputable def v268 (_P : Params) : PySem.Obj := (fun (p : Arguments) (b : List Stmt) (s : Scope) (_ : (p, b, s) = fnP (nthS pW.main.body 24)) => (⟨.type "function", none, .func ⟨Str.ofString "onward", Str.ofString "onward", p, .stmts b, s, 3, [], .none, .none, .none, .str (Str.ofString "crcgate.reaches") 428, none, .ref 202, .none, 0⟩, List.toArray []⟩ : Obj)) _ _ _ rfl
noncomputable def v269 (_P : Params) : PySem.Obj := ⟨.type "tuple", none, .seq (List.toArray []) 0, List.toArray []⟩
noncomputable def v270 (_P : Params) : PySem.Obj := ⟨.none, none, .fields (List.toArray []), List.toArray []⟩
noncomputable def v271 (_P : Params) : PySem.Obj := ⟨.type "tuple", none, .seq (List.toArray [.str (Str.ofString "divisor") 453, .str (Str.ofString "number") 454, .str (Str.ofString "width") 455, .str (Str.ofString "value") 456, .str (Str.ofString "found") 457]) 0, List.toArray []⟩
noncomputable def v272 (_P : Params) : PySem.Obj := ⟨.type "tuple", none, .seq (List.toArray []) 0, List.toArray []⟩
noncomputable def v273 (_P : Params) : PySem.Obj := (fun (p : Arguments) (b : List Stmt) (s : Scope) (_ : (p, b, s) = fnP (nthS pW.main.body 25)) => (⟨.none, none, .func ⟨Str.ofString "reach", Str.ofString "reach", p, .stmts b, s, 0, [], .none, .none, .none, .none, none, .none, .none, 0⟩, List.toArray []⟩ : Obj)) _ _ _ rfl
noncomputable def v274 (_P : Params) : PySem.Obj := ⟨.type "code", none, .fields (List.toArray [.str (Str.ofString "reach") 450, .str (Str.ofString "reach") 451, .str (Str.ofString "/claim/cut.py") 452, .int 92 0, .int 1 0, .int 0 0, .int 0 0, .int 3 0, .ref 204, .bool true, .int 181 0, .ref 205, .none, .ref 206, .ref 207, .ref 208, .int 458 0, .int 92 0, .str (Str.ofString "/claim/cut.py") 459]), List.toArray []⟩
noncomputable def v275 (_P : Params) : PySem.Obj := (fun (p : Arguments) (b : List Stmt) (s : Scope) (_ : (p, b, s) = fnP (nthS pW.main.body 25)) => (⟨.type "function", none, .func ⟨Str.ofString "reach", Str.ofString "reach", p, .stmts b, s, 3, [], .none, .none, .none, .str (Str.ofString "crcgate.reaches") 428, none, .ref 209, .none, 0⟩, List.toArray []⟩ : Obj)) _ _ _ rfl
noncomputable def tr275 (P : Params) : PySem.W.BT := .node (PySem.W.boot_o_0 P) (.node (PySem.W.boot_o_1 P) (.node (v239 P) (.node (PySem.W.boot_o_7 P) (.node (v51 P) (.node (v193 P) (.node (v108 P) (.node (v187 P) .nil .nil) (.node (v256 P) .nil .nil)) (.node (v149 P) (.node (v222 P) .nil .nil) .nil)) (.node (v89 P) (.node (v127 P) (.node (v206 P) .nil .nil) (.node (v272 P) .nil .nil)) (.node (v168 P) (.node (v238 P) .nil .nil) .nil))) (.node (v59 P) (.node (v78 P) (.node (v119 P) (.node (v198 P) .nil .nil) (.node (v264 P) .nil .nil)) (.node (v157 P) (.node (v230 P) .nil .nil) .nil)) (.node (v97 P) (.node (v138 P) (.node (v214 P) .nil .nil) .nil) (.node (v179 P) (.node (v248 P) .nil .nil) .nil)))) (.node (v43 P) (.node (v55 P) (.node (v74 P) (.node (v112 P) (.node (v194 P) .nil .nil) (.node (v260 P) .nil .nil)) (.node (v153 P) (.node (v226 P) .nil .nil) .nil)) (.node (v93 P) (.node (v134 P) (.node (v210 P) .nil .nil) .nil) (.node (v172 P) (.node (v244 P) .nil .nil) .nil))) (.node (v63 P) (.node (v82 P) (.node (v123 P) (.node (v202 P) .nil .nil) (.node (v268 P) .nil .nil)) (.node (v164 P) (.node (v234 P) .nil .nil) .nil)) (.node (v104 P) (.node (v142 P) (.node (v218 P) .nil .nil) .nil) (.node (v183 P) (.node (v252 P) .nil .nil) .nil))))) (.node (PySem.W.boot_o_5 P) (.node (PySem.W.boot_o_9 P) (.node (v53 P) (.node (v69 P) (.node (v110 P) (.node (v189 P) .nil .nil) (.node (v258 P) .nil .nil)) (.node (v151 P) (.node (v224 P) .nil .nil) .nil)) (.node (v91 P) (.node (v129 P) (.node (v208 P) .nil .nil) (.node (v274 P) .nil .nil)) (.node (v170 P) (.node (v242 P) .nil .nil) .nil))) (.node (v61 P) (.node (v80 P) (.node (v121 P) (.node (v200 P) .nil .nil) (.node (v266 P) .nil .nil)) (.node (v159 P) (.node (v232 P) .nil .nil) .nil)) (.node (v99 P) (.node (v140 P) (.node (v216 P) .nil .nil) .nil) (.node (v181 P) (.node (v250 P) .nil .nil) .nil)))) (.node (v45 P) (.node (v57 P) (.node (v76 P) (.node (v114 P) (.node (v196 P) .nil .nil) (.node (v262 P) .nil .nil)) (.node (v155 P) (.node (v228 P) .nil .nil) .nil)) (.node (v95 P) (.node (v136 P) (.node (v212 P) .nil .nil) .nil) (.node (v174 P) (.node (v246 P) .nil .nil) .nil))) (.node (v65 P) (.node (v84 P) (.node (v125 P) (.node (v204 P) .nil .nil) (.node (v270 P) .nil .nil)) (.node (v166 P) (.node (v236 P) .nil .nil) .nil)) (.node (v106 P) (.node (v144 P) (.node (v220 P) .nil .nil) .nil) (.node (v185 P) (.node (v254 P) .nil .nil) .nil)))))) (.node (PySem.W.boot_o_2 P) (.node (PySem.W.boot_o_4 P) (.node (PySem.W.boot_o_8 P) (.node (v52 P) (.node (v68 P) (.node (v109 P) (.node (v188 P) .nil .nil) (.node (v257 P) .nil .nil)) (.node (v150 P) (.node (v223 P) .nil .nil) .nil)) (.node (v90 P) (.node (v128 P) (.node (v207 P) .nil .nil) (.node (v273 P) .nil .nil)) (.node (v169 P) (.node (v241 P) .nil .nil) .nil))) (.node (v60 P) (.node (v79 P) (.node (v120 P) (.node (v199 P) .nil .nil) (.node (v265 P) .nil .nil)) (.node (v158 P) (.node (v231 P) .nil .nil) .nil)) (.node (v98 P) (.node (v139 P) (.node (v215 P) .nil .nil) .nil) (.node (v180 P) (.node (v249 P) .nil .nil) .nil)))) (.node (v240 P) (.node (v56 P) (.node (v75 P) (.node (v113 P) (.node (v195 P) .nil .nil) (.node (v261 P) .nil .nil)) (.node (v154 P) (.node (v227 P) .nil .nil) .nil)) (.node (v94 P) (.node (v135 P) (.node (v211 P) .nil .nil) .nil) (.node (v173 P) (.node (v245 P) .nil .nil) .nil))) (.node (v64 P) (.node (v83 P) (.node (v124 P) (.node (v203 P) .nil .nil) (.node (v269 P) .nil .nil)) (.node (v165 P) (.node (v235 P) .nil .nil) .nil)) (.node (v105 P) (.node (v143 P) (.node (v219 P) .nil .nil) .nil) (.node (v184 P) (.node (v253 P) .nil .nil) .nil))))) (.node (PySem.W.boot_o_6 P) (.node (PySem.W.boot_o_10 P) (.node (v54 P) (.node (v70 P) (.node (v111 P) (.node (v190 P) .nil .nil) (.node (v259 P) .nil .nil)) (.node (v152 P) (.node (v225 P) .nil .nil) .nil)) (.node (v92 P) (.node (v130 P) (.node (v209 P) .nil .nil) (.node (v275 P) .nil .nil)) (.node (v171 P) (.node (v243 P) .nil .nil) .nil))) (.node (v62 P) (.node (v81 P) (.node (v122 P) (.node (v201 P) .nil .nil) (.node (v267 P) .nil .nil)) (.node (v160 P) (.node (v233 P) .nil .nil) .nil)) (.node (v100 P) (.node (v141 P) (.node (v217 P) .nil .nil) .nil) (.node (v182 P) (.node (v251 P) .nil .nil) .nil)))) (.node (v46 P) (.node (v58 P) (.node (v77 P) (.node (v115 P) (.node (v197 P) .nil .nil) (.node (v263 P) .nil .nil)) (.node (v156 P) (.node (v229 P) .nil .nil) .nil)) (.node (v96 P) (.node (v137 P) (.node (v213 P) .nil .nil) .nil) (.node (v175 P) (.node (v247 P) .nil .nil) .nil))) (.node (v66 P) (.node (v85 P) (.node (v126 P) (.node (v205 P) .nil .nil) (.node (v271 P) .nil .nil)) (.node (v167 P) (.node (v237 P) .nil .nil) .nil)) (.node (v107 P) (.node (v145 P) (.node (v221 P) .nil .nil) .nil) (.node (v186 P) (.node (v255 P) .nil .nil) .nil))))))
noncomputable def v276 (P : Params) : PySem.Obj := ⟨.type "dict", none, .dict (List.toArray [⟨PyData.keyHash P (Str.ofString "__name__"), .str (Str.ofString "__name__") 165, .str (Str.ofString "crcgate.gates") 461⟩, ⟨PyData.keyHash P (Str.ofString "__doc__"), .str (Str.ofString "__doc__") 166, .none⟩, ⟨PyData.keyHash P (Str.ofString "__package__"), .str (Str.ofString "__package__") 167, .none⟩, ⟨PyData.keyHash P (Str.ofString "__loader__"), .str (Str.ofString "__loader__") 168, .builtin "__main__.__loader__#opaque"⟩, ⟨PyData.keyHash P (Str.ofString "__spec__"), .str (Str.ofString "__spec__") 169, .none⟩, ⟨PyData.keyHash P (Str.ofString "__annotations__"), .str (Str.ofString "__annotations__") 170, .ref 6⟩, ⟨PyData.keyHash P (Str.ofString "__builtins__"), .str (Str.ofString "__builtins__") 171, .ref 4⟩, ⟨PyData.keyHash P (Str.ofString "__file__"), .str (Str.ofString "__file__") 173, .str (Str.ofString "/claim/cut.py") 172⟩, ⟨PyData.keyHash P (Str.ofString "__cached__"), .str (Str.ofString "__cached__") 174, .none⟩, ⟨PyData.keyHash P (Str.ofString "_wall"), .str (Str.ofString "_wall") 193, .ref 21⟩, ⟨PyData.keyHash P (Str.ofString "GateError"), .str (Str.ofString "GateError") 213, .ref 31⟩, ⟨PyData.keyHash P (Str.ofString "NoRow"), .str (Str.ofString "NoRow") 229, .ref 44⟩, ⟨PyData.keyHash P (Str.ofString "NoSign"), .str (Str.ofString "NoSign") 245, .ref 56⟩, ⟨PyData.keyHash P (Str.ofString "NoDivisor"), .str (Str.ofString "NoDivisor") 261, .ref 68⟩, ⟨PyData.keyHash P (Str.ofString "NoCount"), .str (Str.ofString "NoCount") 277, .ref 80⟩, ⟨PyData.keyHash P (Str.ofString "TooLong"), .str (Str.ofString "TooLong") 293, .ref 92⟩, ⟨PyData.keyHash P (Str.ofString "TooShort"), .str (Str.ofString "TooShort") 309, .ref 104⟩, ⟨PyData.keyHash P (Str.ofString "Broken"), .str (Str.ofString "Broken") 325, .ref 116⟩, ⟨PyData.keyHash P (Str.ofString "NoMate"), .str (Str.ofString "NoMate") 341, .ref 128⟩, ⟨PyData.keyHash P (Str.ofString "NoText"), .str (Str.ofString "NoText") 357, .ref 140⟩, ⟨PyData.keyHash P (Str.ofString "is_sign"), .str (Str.ofString "is_sign") 366, .ref 149⟩, ⟨PyData.keyHash P (Str.ofString "need_row"), .str (Str.ofString "need_row") 374, .ref 156⟩, ⟨PyData.keyHash P (Str.ofString "value_of"), .str (Str.ofString "value_of") 383, .ref 163⟩, ⟨PyData.keyHash P (Str.ofString "signs_of"), .str (Str.ofString "signs_of") 393, .ref 170⟩, ⟨PyData.keyHash P (Str.ofString "added"), .str (Str.ofString "added") 399, .ref 175⟩, ⟨PyData.keyHash P (Str.ofString "times"), .str (Str.ofString "times") 412, .ref 182⟩, ⟨PyData.keyHash P (Str.ofString "parted"), .str (Str.ofString "parted") 427, .ref 189⟩, ⟨PyData.keyHash P (Str.ofString "LEAST"), .str (Str.ofString "LEAST") 431, .int 2 430⟩, ⟨PyData.keyHash P (Str.ofString "MOST"), .str (Str.ofString "MOST") 433, .int 13 432⟩, ⟨PyData.keyHash P (Str.ofString "need_divisor"), .str (Str.ofString "need_divisor") 440, .ref 196⟩, ⟨PyData.keyHash P (Str.ofString "onward"), .str (Str.ofString "onward") 449, .ref 203⟩, ⟨PyData.keyHash P (Str.ofString "reach"), .str (Str.ofString "reach") 460, .ref 210⟩, ⟨PyData.keyHash P (Str.ofString "MOST_NOUGHTS"), .str (Str.ofString "MOST_NOUGHTS") 466, .int 1000000000000000000 465⟩, ⟨PyData.keyHash P (Str.ofString "Gate"), .str (Str.ofString "Gate") 563, .ref 276⟩]) 34, List.toArray []⟩
noncomputable def v277 (_P : Params) : PySem.Obj := ⟨.none, none, .fields (List.toArray [.int 1 0, .int 0 0, .ref 20, .int 5 0, .int 0 0, .ref 27, .int 7 0, .int 0 0, .ref 40, .int 9 0, .int 0 0, .ref 52, .int 11 0, .int 0 0, .ref 64, .int 13 0, .int 0 0, .ref 76, .int 15 0, .int 0 0, .ref 88, .int 17 0, .int 0 0, .ref 100, .int 19 0, .int 0 0, .ref 112, .int 21 0, .int 0 0, .ref 124, .int 23 0, .int 0 0, .ref 136, .int 26 0, .int 0 0, .ref 148, .int 28 0, .int 0 0, .ref 155, .int 34 0, .int 0 0, .ref 162, .int 39 0, .int 0 0, .ref 169, .int 45 0, .int 0 0, .ref 174, .int 52 0, .int 0 0, .ref 181, .int 63 0, .int 0 0, .ref 188, .int 81 0, .int 0 0, .ref 195, .int 87 0, .int 0 0, .ref 202, .int 92 0, .int 0 0, .ref 209, .int 104 0, .int 0 0, .ref 216]), List.toArray []⟩
noncomputable def v278 (_P : Params) : PySem.Obj := ⟨.type "tuple", none, .seq (List.toArray []) 0, List.toArray []⟩
noncomputable def v279 (_P : Params) : PySem.Obj := ⟨.type "builtin_function_or_method", none, .fields (List.toArray [.builtin "type.__prepare__", .type "type"]), List.toArray []⟩
noncomputable def v280 (P : Params) : PySem.Obj := ⟨.type "dict", none, .dict (List.toArray [⟨PyData.keyHash P (Str.ofString "__module__"), .str (Str.ofString "__module__") 474, .str (Str.ofString "crcgate.gates") 461⟩, ⟨PyData.keyHash P (Str.ofString "__qualname__"), .str (Str.ofString "__qualname__") 476, .str (Str.ofString "Gate") 475⟩, ⟨PyData.keyHash P (Str.ofString "__firstlineno__"), .str (Str.ofString "__firstlineno__") 478, .int 104 477⟩, ⟨PyData.keyHash P (Str.ofString "__init__"), .str (Str.ofString "__init__") 486, .ref 224⟩, ⟨PyData.keyHash P (Str.ofString "rest"), .str (Str.ofString "rest") 494, .ref 231⟩, ⟨PyData.keyHash P (Str.ofString "later"), .str (Str.ofString "later") 506, .ref 238⟩, ⟨PyData.keyHash P (Str.ofString "check"), .str (Str.ofString "check") 514, .ref 245⟩, ⟨PyData.keyHash P (Str.ofString "sealed"), .str (Str.ofString "sealed") 522, .ref 252⟩, ⟨PyData.keyHash P (Str.ofString "holds"), .str (Str.ofString "holds") 530, .ref 259⟩, ⟨PyData.keyHash P (Str.ofString "opened"), .str (Str.ofString "opened") 538, .ref 266⟩, ⟨PyData.keyHash P (Str.ofString "mended"), .str (Str.ofString "mended") 551, .ref 273⟩, ⟨PyData.keyHash P (Str.ofString "__static_attributes__"), .str (Str.ofString "__static_attributes__") 556, .ref 274⟩]) 12, List.toArray []⟩
noncomputable def v281 (_P : Params) : PySem.Obj := ⟨.type "tuple", none, .seq (List.toArray []) 0, List.toArray []⟩
noncomputable def v282 (_P : Params) : PySem.Obj := ⟨.none, none, .fields (List.toArray [.int 106 0, .int 4 0, .ref 223, .int 112 0, .int 4 0, .ref 230, .int 115 0, .int 4 0, .ref 237, .int 127 0, .int 4 0, .ref 244, .int 130 0, .int 4 0, .ref 251, .int 136 0, .int 4 0, .ref 258, .int 144 0, .int 4 0, .ref 265, .int 149 0, .int 4 0, .ref 272]), List.toArray []⟩
noncomputable def v283 (_P : Params) : PySem.Obj := ⟨.type "code", none, .fields (List.toArray [.str (Str.ofString "Gate") 469, .str (Str.ofString "Gate") 470, .str (Str.ofString "/claim/cut.py") 471, .int 104 0, .int 0 0, .int 0 0, .int 0 0, .int 0 0, .ref 214, .bool false, .int 181 0, .ref 215, .none, .none, .none, .none, .int 472 0, .int 104 0, .str (Str.ofString "/claim/cut.py") 473]), List.toArray []⟩
noncomputable def v284 (_P : Params) : PySem.Obj := ⟨.type "frame", none, .plain, List.toArray [some (.ref 216), some (.ref 3), some (.ref 213), none, some (.str (Str.ofString "crcgate.gates") 461), none, some (.ref 0)]⟩
noncomputable def v285 (_P : Params) : PySem.Obj := ⟨.type "tuple", none, .seq (List.toArray []) 0, List.toArray []⟩
noncomputable def v286 (_P : Params) : PySem.Obj := ⟨.none, none, .fields (List.toArray []), List.toArray []⟩
noncomputable def v287 (_P : Params) : PySem.Obj := ⟨.type "tuple", none, .seq (List.toArray [.str (Str.ofString "self") 482, .str (Str.ofString "divisor") 483]) 0, List.toArray []⟩
noncomputable def v288 (_P : Params) : PySem.Obj := ⟨.type "tuple", none, .seq (List.toArray []) 0, List.toArray []⟩
noncomputable def v289 (_P : Params) : PySem.Obj := (fun (p : Arguments) (b : List Stmt) (s : Scope) (_ : (p, b, s) = fnP (inC (nthS pW.main.body 28) 0)) => (⟨.none, none, .func ⟨Str.ofString "__init__", Str.ofString "Gate.__init__", p, .stmts b, s, 0, [], .none, .none, .none, .none, none, .none, .none, 0⟩, List.toArray []⟩ : Obj)) _ _ _ rfl
noncomputable def v290 (_P : Params) : PySem.Obj := ⟨.type "code", none, .fields (List.toArray [.str (Str.ofString "__init__") 479, .str (Str.ofString "Gate.__init__") 480, .str (Str.ofString "/claim/cut.py") 481, .int 106 0, .int 2 0, .int 0 0, .int 0 0, .int 3 0, .ref 218, .bool true, .int 181 0, .ref 219, .none, .ref 220, .ref 221, .ref 222, .int 484 0, .int 106 0, .str (Str.ofString "/claim/cut.py") 485]), List.toArray []⟩
noncomputable def v291 (_P : Params) : PySem.Obj := (fun (p : Arguments) (b : List Stmt) (s : Scope) (_ : (p, b, s) = fnP (inC (nthS pW.main.body 28) 0)) => (⟨.type "function", none, .func ⟨Str.ofString "__init__", Str.ofString "Gate.__init__", p, .stmts b, s, 3, [], .none, .none, .none, .str (Str.ofString "crcgate.gates") 461, none, .ref 223, .none, 0⟩, List.toArray []⟩ : Obj)) _ _ _ rfl
noncomputable def v292 (_P : Params) : PySem.Obj := ⟨.type "tuple", none, .seq (List.toArray []) 0, List.toArray []⟩
noncomputable def v293 (_P : Params) : PySem.Obj := ⟨.none, none, .fields (List.toArray []), List.toArray []⟩
noncomputable def v294 (_P : Params) : PySem.Obj := ⟨.type "tuple", none, .seq (List.toArray [.str (Str.ofString "self") 490, .str (Str.ofString "row") 491]) 0, List.toArray []⟩
noncomputable def v295 (_P : Params) : PySem.Obj := ⟨.type "tuple", none, .seq (List.toArray []) 0, List.toArray []⟩
noncomputable def v296 (_P : Params) : PySem.Obj := (fun (p : Arguments) (b : List Stmt) (s : Scope) (_ : (p, b, s) = fnP (inC (nthS pW.main.body 28) 1)) => (⟨.none, none, .func ⟨Str.ofString "rest", Str.ofString "Gate.rest", p, .stmts b, s, 0, [], .none, .none, .none, .none, none, .none, .none, 0⟩, List.toArray []⟩ : Obj)) _ _ _ rfl
noncomputable def v297 (_P : Params) : PySem.Obj := ⟨.type "code", none, .fields (List.toArray [.str (Str.ofString "rest") 487, .str (Str.ofString "Gate.rest") 488, .str (Str.ofString "/claim/cut.py") 489, .int 112 0, .int 2 0, .int 0 0, .int 0 0, .int 3 0, .ref 225, .bool true, .int 181 0, .ref 226, .none, .ref 227, .ref 228, .ref 229, .int 492 0, .int 112 0, .str (Str.ofString "/claim/cut.py") 493]), List.toArray []⟩
noncomputable def v298 (_P : Params) : PySem.Obj := (fun (p : Arguments) (b : List Stmt) (s : Scope) (_ : (p, b, s) = fnP (inC (nthS pW.main.body 28) 1)) => (⟨.type "function", none, .func ⟨Str.ofString "rest", Str.ofString "Gate.rest", p, .stmts b, s, 3, [], .none, .none, .none, .str (Str.ofString "crcgate.gates") 461, none, .ref 230, .none, 0⟩, List.toArray []⟩ : Obj)) _ _ _ rfl
noncomputable def v299 (_P : Params) : PySem.Obj := ⟨.type "tuple", none, .seq (List.toArray []) 0, List.toArray []⟩
noncomputable def v300 (_P : Params) : PySem.Obj := ⟨.none, none, .fields (List.toArray []), List.toArray []⟩
noncomputable def v301 (_P : Params) : PySem.Obj := ⟨.type "tuple", none, .seq (List.toArray [.str (Str.ofString "self") 498, .str (Str.ofString "rest") 499, .str (Str.ofString "many") 500, .str (Str.ofString "value") 501, .str (Str.ofString "number") 502, .str (Str.ofString "turn") 503]) 0, List.toArray []⟩
noncomputable def v302 (_P : Params) : PySem.Obj := ⟨.type "tuple", none, .seq (List.toArray []) 0, List.toArray []⟩
noncomputable def v303 (_P : Params) : PySem.Obj := (fun (p : Arguments) (b : List Stmt) (s : Scope) (_ : (p, b, s) = fnP (inC (nthS pW.main.body 28) 2)) => (⟨.none, none, .func ⟨Str.ofString "later", Str.ofString "Gate.later", p, .stmts b, s, 0, [], .none, .none, .none, .none, none, .none, .none, 0⟩, List.toArray []⟩ : Obj)) _ _ _ rfl
noncomputable def v304 (_P : Params) : PySem.Obj := ⟨.type "code", none, .fields (List.toArray [.str (Str.ofString "later") 495, .str (Str.ofString "Gate.later") 496, .str (Str.ofString "/claim/cut.py") 497, .int 115 0, .int 3 0, .int 0 0, .int 0 0, .int 3 0, .ref 232, .bool true, .int 181 0, .ref 233, .none, .ref 234, .ref 235, .ref 236, .int 504 0, .int 115 0, .str (Str.ofString "/claim/cut.py") 505]), List.toArray []⟩
noncomputable def v305 (_P : Params) : PySem.Obj := (fun (p : Arguments) (b : List Stmt) (s : Scope) (_ : (p, b, s) = fnP (inC (nthS pW.main.body 28) 2)) => (⟨.type "function", none, .func ⟨Str.ofString "later", Str.ofString "Gate.later", p, .stmts b, s, 3, [], .none, .none, .none, .str (Str.ofString "crcgate.gates") 461, none, .ref 237, .none, 0⟩, List.toArray []⟩ : Obj)) _ _ _ rfl
noncomputable def v306 (_P : Params) : PySem.Obj := ⟨.type "tuple", none, .seq (List.toArray []) 0, List.toArray []⟩
noncomputable def v307 (_P : Params) : PySem.Obj := ⟨.none, none, .fields (List.toArray []), List.toArray []⟩
noncomputable def v308 (_P : Params) : PySem.Obj := ⟨.type "tuple", none, .seq (List.toArray [.str (Str.ofString "self") 510, .str (Str.ofString "row") 511]) 0, List.toArray []⟩
noncomputable def v309 (_P : Params) : PySem.Obj := ⟨.type "tuple", none, .seq (List.toArray []) 0, List.toArray []⟩
noncomputable def v310 (_P : Params) : PySem.Obj := (fun (p : Arguments) (b : List Stmt) (s : Scope) (_ : (p, b, s) = fnP (inC (nthS pW.main.body 28) 3)) => (⟨.none, none, .func ⟨Str.ofString "check", Str.ofString "Gate.check", p, .stmts b, s, 0, [], .none, .none, .none, .none, none, .none, .none, 0⟩, List.toArray []⟩ : Obj)) _ _ _ rfl
noncomputable def v311 (_P : Params) : PySem.Obj := ⟨.type "code", none, .fields (List.toArray [.str (Str.ofString "check") 507, .str (Str.ofString "Gate.check") 508, .str (Str.ofString "/claim/cut.py") 509, .int 127 0, .int 2 0, .int 0 0, .int 0 0, .int 3 0, .ref 239, .bool true, .int 181 0, .ref 240, .none, .ref 241, .ref 242, .ref 243, .int 512 0, .int 127 0, .str (Str.ofString "/claim/cut.py") 513]), List.toArray []⟩
noncomputable def v312 (_P : Params) : PySem.Obj := (fun (p : Arguments) (b : List Stmt) (s : Scope) (_ : (p, b, s) = fnP (inC (nthS pW.main.body 28) 3)) => (⟨.type "function", none, .func ⟨Str.ofString "check", Str.ofString "Gate.check", p, .stmts b, s, 3, [], .none, .none, .none, .str (Str.ofString "crcgate.gates") 461, none, .ref 244, .none, 0⟩, List.toArray []⟩ : Obj)) _ _ _ rfl
noncomputable def v313 (_P : Params) : PySem.Obj := ⟨.type "tuple", none, .seq (List.toArray []) 0, List.toArray []⟩
noncomputable def v314 (_P : Params) : PySem.Obj := ⟨.none, none, .fields (List.toArray []), List.toArray []⟩
noncomputable def v315 (_P : Params) : PySem.Obj := ⟨.type "tuple", none, .seq (List.toArray [.str (Str.ofString "self") 518, .str (Str.ofString "row") 519]) 0, List.toArray []⟩
noncomputable def v316 (_P : Params) : PySem.Obj := ⟨.type "tuple", none, .seq (List.toArray []) 0, List.toArray []⟩
noncomputable def v317 (_P : Params) : PySem.Obj := (fun (p : Arguments) (b : List Stmt) (s : Scope) (_ : (p, b, s) = fnP (inC (nthS pW.main.body 28) 4)) => (⟨.none, none, .func ⟨Str.ofString "sealed", Str.ofString "Gate.sealed", p, .stmts b, s, 0, [], .none, .none, .none, .none, none, .none, .none, 0⟩, List.toArray []⟩ : Obj)) _ _ _ rfl
noncomputable def v318 (_P : Params) : PySem.Obj := ⟨.type "code", none, .fields (List.toArray [.str (Str.ofString "sealed") 515, .str (Str.ofString "Gate.sealed") 516, .str (Str.ofString "/claim/cut.py") 517, .int 130 0, .int 2 0, .int 0 0, .int 0 0, .int 3 0, .ref 246, .bool true, .int 181 0, .ref 247, .none, .ref 248, .ref 249, .ref 250, .int 520 0, .int 130 0, .str (Str.ofString "/claim/cut.py") 521]), List.toArray []⟩
noncomputable def v319 (_P : Params) : PySem.Obj := (fun (p : Arguments) (b : List Stmt) (s : Scope) (_ : (p, b, s) = fnP (inC (nthS pW.main.body 28) 4)) => (⟨.type "function", none, .func ⟨Str.ofString "sealed", Str.ofString "Gate.sealed", p, .stmts b, s, 3, [], .none, .none, .none, .str (Str.ofString "crcgate.gates") 461, none, .ref 251, .none, 0⟩, List.toArray []⟩ : Obj)) _ _ _ rfl
noncomputable def v320 (_P : Params) : PySem.Obj := ⟨.type "tuple", none, .seq (List.toArray []) 0, List.toArray []⟩
noncomputable def v321 (_P : Params) : PySem.Obj := ⟨.none, none, .fields (List.toArray []), List.toArray []⟩
noncomputable def v322 (_P : Params) : PySem.Obj := ⟨.type "tuple", none, .seq (List.toArray [.str (Str.ofString "self") 526, .str (Str.ofString "row") 527]) 0, List.toArray []⟩
noncomputable def v323 (_P : Params) : PySem.Obj := ⟨.type "tuple", none, .seq (List.toArray []) 0, List.toArray []⟩
noncomputable def v324 (_P : Params) : PySem.Obj := (fun (p : Arguments) (b : List Stmt) (s : Scope) (_ : (p, b, s) = fnP (inC (nthS pW.main.body 28) 5)) => (⟨.none, none, .func ⟨Str.ofString "holds", Str.ofString "Gate.holds", p, .stmts b, s, 0, [], .none, .none, .none, .none, none, .none, .none, 0⟩, List.toArray []⟩ : Obj)) _ _ _ rfl
noncomputable def v325 (_P : Params) : PySem.Obj := ⟨.type "code", none, .fields (List.toArray [.str (Str.ofString "holds") 523, .str (Str.ofString "Gate.holds") 524, .str (Str.ofString "/claim/cut.py") 525, .int 136 0, .int 2 0, .int 0 0, .int 0 0, .int 3 0, .ref 253, .bool true, .int 181 0, .ref 254, .none, .ref 255, .ref 256, .ref 257, .int 528 0, .int 136 0, .str (Str.ofString "/claim/cut.py") 529]), List.toArray []⟩
noncomputable def v326 (_P : Params) : PySem.Obj := (fun (p : Arguments) (b : List Stmt) (s : Scope) (_ : (p, b, s) = fnP (inC (nthS pW.main.body 28) 5)) => (⟨.type "function", none, .func ⟨Str.ofString "holds", Str.ofString "Gate.holds", p, .stmts b, s, 3, [], .none, .none, .none, .str (Str.ofString "crcgate.gates") 461, none, .ref 258, .none, 0⟩, List.toArray []⟩ : Obj)) _ _ _ rfl
noncomputable def v327 (_P : Params) : PySem.Obj := ⟨.type "tuple", none, .seq (List.toArray []) 0, List.toArray []⟩
noncomputable def v328 (_P : Params) : PySem.Obj := ⟨.none, none, .fields (List.toArray []), List.toArray []⟩
noncomputable def v329 (_P : Params) : PySem.Obj := ⟨.type "tuple", none, .seq (List.toArray [.str (Str.ofString "self") 534, .str (Str.ofString "row") 535]) 0, List.toArray []⟩
noncomputable def v330 (_P : Params) : PySem.Obj := ⟨.type "tuple", none, .seq (List.toArray []) 0, List.toArray []⟩
noncomputable def v331 (_P : Params) : PySem.Obj := (fun (p : Arguments) (b : List Stmt) (s : Scope) (_ : (p, b, s) = fnP (inC (nthS pW.main.body 28) 6)) => (⟨.none, none, .func ⟨Str.ofString "opened", Str.ofString "Gate.opened", p, .stmts b, s, 0, [], .none, .none, .none, .none, none, .none, .none, 0⟩, List.toArray []⟩ : Obj)) _ _ _ rfl
noncomputable def v332 (_P : Params) : PySem.Obj := ⟨.type "code", none, .fields (List.toArray [.str (Str.ofString "opened") 531, .str (Str.ofString "Gate.opened") 532, .str (Str.ofString "/claim/cut.py") 533, .int 144 0, .int 2 0, .int 0 0, .int 0 0, .int 3 0, .ref 260, .bool true, .int 181 0, .ref 261, .none, .ref 262, .ref 263, .ref 264, .int 536 0, .int 144 0, .str (Str.ofString "/claim/cut.py") 537]), List.toArray []⟩
noncomputable def v333 (_P : Params) : PySem.Obj := (fun (p : Arguments) (b : List Stmt) (s : Scope) (_ : (p, b, s) = fnP (inC (nthS pW.main.body 28) 6)) => (⟨.type "function", none, .func ⟨Str.ofString "opened", Str.ofString "Gate.opened", p, .stmts b, s, 3, [], .none, .none, .none, .str (Str.ofString "crcgate.gates") 461, none, .ref 265, .none, 0⟩, List.toArray []⟩ : Obj)) _ _ _ rfl
noncomputable def v334 (_P : Params) : PySem.Obj := ⟨.type "tuple", none, .seq (List.toArray []) 0, List.toArray []⟩
noncomputable def v335 (_P : Params) : PySem.Obj := ⟨.none, none, .fields (List.toArray []), List.toArray []⟩
noncomputable def v336 (_P : Params) : PySem.Obj := ⟨.type "tuple", none, .seq (List.toArray [.str (Str.ofString "self") 542, .str (Str.ofString "row") 543, .str (Str.ofString "due") 544, .str (Str.ofString "number") 545, .str (Str.ofString "value") 546, .str (Str.ofString "power") 547, .str (Str.ofString "place") 548]) 0, List.toArray []⟩
noncomputable def v337 (_P : Params) : PySem.Obj := ⟨.type "tuple", none, .seq (List.toArray []) 0, List.toArray []⟩
noncomputable def v338 (_P : Params) : PySem.Obj := (fun (p : Arguments) (b : List Stmt) (s : Scope) (_ : (p, b, s) = fnP (inC (nthS pW.main.body 28) 7)) => (⟨.none, none, .func ⟨Str.ofString "mended", Str.ofString "Gate.mended", p, .stmts b, s, 0, [], .none, .none, .none, .none, none, .none, .none, 0⟩, List.toArray []⟩ : Obj)) _ _ _ rfl
noncomputable def v339 (_P : Params) : PySem.Obj := ⟨.type "code", none, .fields (List.toArray [.str (Str.ofString "mended") 539, .str (Str.ofString "Gate.mended") 540, .str (Str.ofString "/claim/cut.py") 541, .int 149 0, .int 2 0, .int 0 0, .int 0 0, .int 3 0, .ref 267, .bool true, .int 181 0, .ref 268, .none, .ref 269, .ref 270, .ref 271, .int 549 0, .int 149 0, .str (Str.ofString "/claim/cut.py") 550]), List.toArray []⟩
noncomputable def v340 (_P : Params) : PySem.Obj := (fun (p : Arguments) (b : List Stmt) (s : Scope) (_ : (p, b, s) = fnP (inC (nthS pW.main.body 28) 7)) => (⟨.type "function", none, .func ⟨Str.ofString "mended", Str.ofString "Gate.mended", p, .stmts b, s, 3, [], .none, .none, .none, .str (Str.ofString "crcgate.gates") 461, none, .ref 272, .none, 0⟩, List.toArray []⟩ : Obj)) _ _ _ rfl
noncomputable def v341 (_P : Params) : PySem.Obj := ⟨.type "tuple", none, .seq (List.toArray [.str (Str.ofString "divisor") 552, .str (Str.ofString "even") 553, .str (Str.ofString "reach") 554, .str (Str.ofString "width") 555]) 0, List.toArray []⟩
noncomputable def v342 (P : Params) : PySem.Obj := ⟨.type "dict", none, .dict (List.toArray [⟨PyData.keyHash P (Str.ofString "__module__"), .str (Str.ofString "__module__") 474, .str (Str.ofString "crcgate.gates") 461⟩, ⟨PyData.keyHash P (Str.ofString "__firstlineno__"), .str (Str.ofString "__firstlineno__") 478, .int 104 477⟩, ⟨PyData.keyHash P (Str.ofString "__init__"), .str (Str.ofString "__init__") 486, .ref 224⟩, ⟨PyData.keyHash P (Str.ofString "rest"), .str (Str.ofString "rest") 494, .ref 231⟩, ⟨PyData.keyHash P (Str.ofString "later"), .str (Str.ofString "later") 506, .ref 238⟩, ⟨PyData.keyHash P (Str.ofString "check"), .str (Str.ofString "check") 514, .ref 245⟩, ⟨PyData.keyHash P (Str.ofString "sealed"), .str (Str.ofString "sealed") 522, .ref 252⟩, ⟨PyData.keyHash P (Str.ofString "holds"), .str (Str.ofString "holds") 530, .ref 259⟩, ⟨PyData.keyHash P (Str.ofString "opened"), .str (Str.ofString "opened") 538, .ref 266⟩, ⟨PyData.keyHash P (Str.ofString "mended"), .str (Str.ofString "mended") 551, .ref 273⟩, ⟨PyData.keyHash P (Str.ofString "__static_attributes__"), .str (Str.ofString "__static_attributes__") 556, .ref 274⟩, ⟨PyData.keyHash P (Str.ofString "__dict__"), .str (Str.ofString "__dict__") 558, .ref 277⟩, ⟨PyData.keyHash P (Str.ofString "__weakref__"), .str (Str.ofString "__weakref__") 560, .ref 278⟩, ⟨PyData.keyHash P (Str.ofString "__doc__"), .str (Str.ofString "__doc__") 561, .none⟩]) 4, List.toArray []⟩
noncomputable def v343 (_P : Params) : PySem.Obj := ⟨.type "type", none, .cls ⟨Str.ofString "Gate", [.type "object"], [.ref 276, .type "object"], 275, Str.ofString "Gate", true, [], [], false, none, false⟩, List.toArray [none, none, some (.str (Str.ofString "Gate") 467), some (.str (Str.ofString "Gate") 475), some (.builtin "object.__new__"), some (.bool true)]⟩
noncomputable def v344 (_P : Params) : PySem.Obj := ⟨.type "getset_descriptor", none, .fields (List.toArray [.str (Str.ofString "__dict__") 557, .ref 276, .builtin "function.__dict__", .builtin "function.__dict__#set"]), List.toArray []⟩
noncomputable def v345 (_P : Params) : PySem.Obj := ⟨.type "getset_descriptor", none, .fields (List.toArray [.str (Str.ofString "__weakref__") 559, .ref 276, .builtin "ExceptionGroup.__weakref__", .none]), List.toArray []⟩
noncomputable def v346 (_P : Params) : PySem.Obj := ⟨.type "super", none, .fields (List.toArray [.ref 276, .ref 276, .ref 276]), List.toArray []⟩
noncomputable def v347 (_P : Params) : PySem.Obj := ⟨.type "builtin_function_or_method", none, .fields (List.toArray [.builtin "object.__init_subclass__", .ref 276]), List.toArray []⟩
noncomputable def tr347 (P : Params) : PySem.W.BT := .node (PySem.W.boot_o_0 P) (.node (PySem.W.boot_o_1 P) (.node (v276 P) (.node (PySem.W.boot_o_7 P) (.node (v51 P) (.node (v193 P) (.node (v108 P) (.node (v187 P) (.node (v322 P) .nil .nil) .nil) (.node (v256 P) .nil .nil)) (.node (v149 P) (.node (v222 P) .nil .nil) (.node (v290 P) .nil .nil))) (.node (v89 P) (.node (v127 P) (.node (v206 P) (.node (v338 P) .nil .nil) .nil) (.node (v272 P) .nil .nil)) (.node (v168 P) (.node (v238 P) .nil .nil) (.node (v306 P) .nil .nil)))) (.node (v59 P) (.node (v78 P) (.node (v119 P) (.node (v198 P) (.node (v330 P) .nil .nil) .nil) (.node (v264 P) .nil .nil)) (.node (v157 P) (.node (v230 P) .nil .nil) (.node (v298 P) .nil .nil))) (.node (v97 P) (.node (v138 P) (.node (v214 P) (.node (v346 P) .nil .nil) .nil) (.node (v282 P) .nil .nil)) (.node (v179 P) (.node (v248 P) .nil .nil) (.node (v314 P) .nil .nil))))) (.node (v43 P) (.node (v55 P) (.node (v74 P) (.node (v112 P) (.node (v194 P) (.node (v326 P) .nil .nil) .nil) (.node (v260 P) .nil .nil)) (.node (v153 P) (.node (v226 P) .nil .nil) (.node (v294 P) .nil .nil))) (.node (v93 P) (.node (v134 P) (.node (v210 P) (.node (v342 P) .nil .nil) .nil) (.node (v278 P) .nil .nil)) (.node (v172 P) (.node (v244 P) .nil .nil) (.node (v310 P) .nil .nil)))) (.node (v63 P) (.node (v82 P) (.node (v123 P) (.node (v202 P) (.node (v334 P) .nil .nil) .nil) (.node (v268 P) .nil .nil)) (.node (v164 P) (.node (v234 P) .nil .nil) (.node (v302 P) .nil .nil))) (.node (v104 P) (.node (v142 P) (.node (v218 P) .nil .nil) (.node (v286 P) .nil .nil)) (.node (v183 P) (.node (v252 P) .nil .nil) (.node (v318 P) .nil .nil)))))) (.node (PySem.W.boot_o_5 P) (.node (PySem.W.boot_o_9 P) (.node (v53 P) (.node (v69 P) (.node (v110 P) (.node (v189 P) (.node (v324 P) .nil .nil) .nil) (.node (v258 P) .nil .nil)) (.node (v151 P) (.node (v224 P) .nil .nil) (.node (v292 P) .nil .nil))) (.node (v91 P) (.node (v129 P) (.node (v208 P) (.node (v340 P) .nil .nil) .nil) (.node (v274 P) .nil .nil)) (.node (v170 P) (.node (v242 P) .nil .nil) (.node (v308 P) .nil .nil)))) (.node (v61 P) (.node (v80 P) (.node (v121 P) (.node (v200 P) (.node (v332 P) .nil .nil) .nil) (.node (v266 P) .nil .nil)) (.node (v159 P) (.node (v232 P) .nil .nil) (.node (v300 P) .nil .nil))) (.node (v99 P) (.node (v140 P) (.node (v216 P) .nil .nil) (.node (v284 P) .nil .nil)) (.node (v181 P) (.node (v250 P) .nil .nil) (.node (v316 P) .nil .nil))))) (.node (v45 P) (.node (v57 P) (.node (v76 P) (.node (v114 P) (.node (v196 P) (.node (v328 P) .nil .nil) .nil) (.node (v262 P) .nil .nil)) (.node (v155 P) (.node (v228 P) .nil .nil) (.node (v296 P) .nil .nil))) (.node (v95 P) (.node (v136 P) (.node (v212 P) (.node (v344 P) .nil .nil) .nil) (.node (v280 P) .nil .nil)) (.node (v174 P) (.node (v246 P) .nil .nil) (.node (v312 P) .nil .nil)))) (.node (v65 P) (.node (v84 P) (.node (v125 P) (.node (v204 P) (.node (v336 P) .nil .nil) .nil) (.node (v270 P) .nil .nil)) (.node (v166 P) (.node (v236 P) .nil .nil) (.node (v304 P) .nil .nil))) (.node (v106 P) (.node (v144 P) (.node (v220 P) .nil .nil) (.node (v288 P) .nil .nil)) (.node (v185 P) (.node (v254 P) .nil .nil) (.node (v320 P) .nil .nil))))))) (.node (PySem.W.boot_o_2 P) (.node (PySem.W.boot_o_4 P) (.node (PySem.W.boot_o_8 P) (.node (v52 P) (.node (v68 P) (.node (v109 P) (.node (v188 P) (.node (v323 P) .nil .nil) .nil) (.node (v257 P) .nil .nil)) (.node (v150 P) (.node (v223 P) .nil .nil) (.node (v291 P) .nil .nil))) (.node (v90 P) (.node (v128 P) (.node (v207 P) (.node (v339 P) .nil .nil) .nil) (.node (v273 P) .nil .nil)) (.node (v169 P) (.node (v241 P) .nil .nil) (.node (v307 P) .nil .nil)))) (.node (v60 P) (.node (v79 P) (.node (v120 P) (.node (v199 P) (.node (v331 P) .nil .nil) .nil) (.node (v265 P) .nil .nil)) (.node (v158 P) (.node (v231 P) .nil .nil) (.node (v299 P) .nil .nil))) (.node (v98 P) (.node (v139 P) (.node (v215 P) (.node (v347 P) .nil .nil) .nil) (.node (v283 P) .nil .nil)) (.node (v180 P) (.node (v249 P) .nil .nil) (.node (v315 P) .nil .nil))))) (.node (v277 P) (.node (v56 P) (.node (v75 P) (.node (v113 P) (.node (v195 P) (.node (v327 P) .nil .nil) .nil) (.node (v261 P) .nil .nil)) (.node (v154 P) (.node (v227 P) .nil .nil) (.node (v295 P) .nil .nil))) (.node (v94 P) (.node (v135 P) (.node (v211 P) (.node (v343 P) .nil .nil) .nil) (.node (v279 P) .nil .nil)) (.node (v173 P) (.node (v245 P) .nil .nil) (.node (v311 P) .nil .nil)))) (.node (v64 P) (.node (v83 P) (.node (v124 P) (.node (v203 P) (.node (v335 P) .nil .nil) .nil) (.node (v269 P) .nil .nil)) (.node (v165 P) (.node (v235 P) .nil .nil) (.node (v303 P) .nil .nil))) (.node (v105 P) (.node (v143 P) (.node (v219 P) .nil .nil) (.node (v287 P) .nil .nil)) (.node (v184 P) (.node (v253 P) .nil .nil) (.node (v319 P) .nil .nil)))))) (.node (PySem.W.boot_o_6 P) (.node (PySem.W.boot_o_10 P) (.node (v54 P) (.node (v70 P) (.node (v111 P) (.node (v190 P) (.node (v325 P) .nil .nil) .nil) (.node (v259 P) .nil .nil)) (.node (v152 P) (.node (v225 P) .nil .nil) (.node (v293 P) .nil .nil))) (.node (v92 P) (.node (v130 P) (.node (v209 P) (.node (v341 P) .nil .nil) .nil) (.node (v275 P) .nil .nil)) (.node (v171 P) (.node (v243 P) .nil .nil) (.node (v309 P) .nil .nil)))) (.node (v62 P) (.node (v81 P) (.node (v122 P) (.node (v201 P) (.node (v333 P) .nil .nil) .nil) (.node (v267 P) .nil .nil)) (.node (v160 P) (.node (v233 P) .nil .nil) (.node (v301 P) .nil .nil))) (.node (v100 P) (.node (v141 P) (.node (v217 P) .nil .nil) (.node (v285 P) .nil .nil)) (.node (v182 P) (.node (v251 P) .nil .nil) (.node (v317 P) .nil .nil))))) (.node (v46 P) (.node (v58 P) (.node (v77 P) (.node (v115 P) (.node (v197 P) (.node (v329 P) .nil .nil) .nil) (.node (v263 P) .nil .nil)) (.node (v156 P) (.node (v229 P) .nil .nil) (.node (v297 P) .nil .nil))) (.node (v96 P) (.node (v137 P) (.node (v213 P) (.node (v345 P) .nil .nil) .nil) (.node (v281 P) .nil .nil)) (.node (v175 P) (.node (v247 P) .nil .nil) (.node (v313 P) .nil .nil)))) (.node (v66 P) (.node (v85 P) (.node (v126 P) (.node (v205 P) (.node (v337 P) .nil .nil) .nil) (.node (v271 P) .nil .nil)) (.node (v167 P) (.node (v237 P) .nil .nil) (.node (v305 P) .nil .nil))) (.node (v107 P) (.node (v145 P) (.node (v221 P) .nil .nil) (.node (v289 P) .nil .nil)) (.node (v186 P) (.node (v255 P) .nil .nil) (.node (v321 P) .nil .nil)))))))
noncomputable def v348 (P : Params) : PySem.Obj := ⟨.type "dict", none, .dict (List.toArray [⟨PyData.keyHash P (Str.ofString "__name__"), .str (Str.ofString "__name__") 165, .str (Str.ofString "crcgate.registers") 609⟩, ⟨PyData.keyHash P (Str.ofString "__doc__"), .str (Str.ofString "__doc__") 166, .none⟩, ⟨PyData.keyHash P (Str.ofString "__package__"), .str (Str.ofString "__package__") 167, .none⟩, ⟨PyData.keyHash P (Str.ofString "__loader__"), .str (Str.ofString "__loader__") 168, .builtin "__main__.__loader__#opaque"⟩, ⟨PyData.keyHash P (Str.ofString "__spec__"), .str (Str.ofString "__spec__") 169, .none⟩, ⟨PyData.keyHash P (Str.ofString "__annotations__"), .str (Str.ofString "__annotations__") 170, .ref 6⟩, ⟨PyData.keyHash P (Str.ofString "__builtins__"), .str (Str.ofString "__builtins__") 171, .ref 4⟩, ⟨PyData.keyHash P (Str.ofString "__file__"), .str (Str.ofString "__file__") 173, .str (Str.ofString "/claim/cut.py") 172⟩, ⟨PyData.keyHash P (Str.ofString "__cached__"), .str (Str.ofString "__cached__") 174, .none⟩, ⟨PyData.keyHash P (Str.ofString "_wall"), .str (Str.ofString "_wall") 193, .ref 21⟩, ⟨PyData.keyHash P (Str.ofString "GateError"), .str (Str.ofString "GateError") 213, .ref 31⟩, ⟨PyData.keyHash P (Str.ofString "NoRow"), .str (Str.ofString "NoRow") 229, .ref 44⟩, ⟨PyData.keyHash P (Str.ofString "NoSign"), .str (Str.ofString "NoSign") 245, .ref 56⟩, ⟨PyData.keyHash P (Str.ofString "NoDivisor"), .str (Str.ofString "NoDivisor") 261, .ref 68⟩, ⟨PyData.keyHash P (Str.ofString "NoCount"), .str (Str.ofString "NoCount") 277, .ref 80⟩, ⟨PyData.keyHash P (Str.ofString "TooLong"), .str (Str.ofString "TooLong") 293, .ref 92⟩, ⟨PyData.keyHash P (Str.ofString "TooShort"), .str (Str.ofString "TooShort") 309, .ref 104⟩, ⟨PyData.keyHash P (Str.ofString "Broken"), .str (Str.ofString "Broken") 325, .ref 116⟩, ⟨PyData.keyHash P (Str.ofString "NoMate"), .str (Str.ofString "NoMate") 341, .ref 128⟩, ⟨PyData.keyHash P (Str.ofString "NoText"), .str (Str.ofString "NoText") 357, .ref 140⟩, ⟨PyData.keyHash P (Str.ofString "is_sign"), .str (Str.ofString "is_sign") 366, .ref 149⟩, ⟨PyData.keyHash P (Str.ofString "need_row"), .str (Str.ofString "need_row") 374, .ref 156⟩, ⟨PyData.keyHash P (Str.ofString "value_of"), .str (Str.ofString "value_of") 383, .ref 163⟩, ⟨PyData.keyHash P (Str.ofString "signs_of"), .str (Str.ofString "signs_of") 393, .ref 170⟩, ⟨PyData.keyHash P (Str.ofString "added"), .str (Str.ofString "added") 399, .ref 175⟩, ⟨PyData.keyHash P (Str.ofString "times"), .str (Str.ofString "times") 412, .ref 182⟩, ⟨PyData.keyHash P (Str.ofString "parted"), .str (Str.ofString "parted") 427, .ref 189⟩, ⟨PyData.keyHash P (Str.ofString "LEAST"), .str (Str.ofString "LEAST") 431, .int 2 430⟩, ⟨PyData.keyHash P (Str.ofString "MOST"), .str (Str.ofString "MOST") 433, .int 13 432⟩, ⟨PyData.keyHash P (Str.ofString "need_divisor"), .str (Str.ofString "need_divisor") 440, .ref 196⟩, ⟨PyData.keyHash P (Str.ofString "onward"), .str (Str.ofString "onward") 449, .ref 203⟩, ⟨PyData.keyHash P (Str.ofString "reach"), .str (Str.ofString "reach") 460, .ref 210⟩, ⟨PyData.keyHash P (Str.ofString "MOST_NOUGHTS"), .str (Str.ofString "MOST_NOUGHTS") 466, .int 1000000000000000000 465⟩, ⟨PyData.keyHash P (Str.ofString "Gate"), .str (Str.ofString "Gate") 563, .ref 276⟩, ⟨PyData.keyHash P (Str.ofString "LETTERS"), .str (Str.ofString "LETTERS") 567, .str (Str.ofString " !\"#$&'()*+,-./0123456789:;<=>?@ABCDEFGHIJKLMNOPQRSTUVWXYZ[\\]^_`abcdefghijklmnopqrstuvwxyz{|}~") 566⟩, ⟨PyData.keyHash P (Str.ofString "WIDE"), .str (Str.ofString "WIDE") 569, .int 7 568⟩, ⟨PyData.keyHash P (Str.ofString "FIRST"), .str (Str.ofString "FIRST") 571, .int 32 570⟩, ⟨PyData.keyHash P (Str.ofString "LAST"), .str (Str.ofString "LAST") 573, .int 126 572⟩, ⟨PyData.keyHash P (Str.ofString "LEFT_OUT"), .str (Str.ofString "LEFT_OUT") 575, .int 37 574⟩, ⟨PyData.keyHash P (Str.ofString "is_letter"), .str (Str.ofString "is_letter") 582, .ref 287⟩, ⟨PyData.keyHash P (Str.ofString "letter_of"), .str (Str.ofString "letter_of") 589, .ref 294⟩, ⟨PyData.keyHash P (Str.ofString "row_of"), .str (Str.ofString "row_of") 598, .ref 301⟩, ⟨PyData.keyHash P (Str.ofString "text_of"), .str (Str.ofString "text_of") 608, .ref 308⟩, ⟨PyData.keyHash P (Str.ofString "MOST_SIGNS"), .str (Str.ofString "MOST_SIGNS") 614, .int 1000000000000000000 613⟩]) 44, List.toArray []⟩
noncomputable def v349 (_P : Params) : PySem.Obj := ⟨.none, none, .fields (List.toArray [.int 1 0, .int 0 0, .ref 20, .int 5 0, .int 0 0, .ref 27, .int 7 0, .int 0 0, .ref 40, .int 9 0, .int 0 0, .ref 52, .int 11 0, .int 0 0, .ref 64, .int 13 0, .int 0 0, .ref 76, .int 15 0, .int 0 0, .ref 88, .int 17 0, .int 0 0, .ref 100, .int 19 0, .int 0 0, .ref 112, .int 21 0, .int 0 0, .ref 124, .int 23 0, .int 0 0, .ref 136, .int 26 0, .int 0 0, .ref 148, .int 28 0, .int 0 0, .ref 155, .int 34 0, .int 0 0, .ref 162, .int 39 0, .int 0 0, .ref 169, .int 45 0, .int 0 0, .ref 174, .int 52 0, .int 0 0, .ref 181, .int 63 0, .int 0 0, .ref 188, .int 81 0, .int 0 0, .ref 195, .int 87 0, .int 0 0, .ref 202, .int 92 0, .int 0 0, .ref 209, .int 104 0, .int 0 0, .ref 216, .int 167 0, .int 0 0, .ref 286, .int 169 0, .int 0 0, .ref 293, .int 173 0, .int 0 0, .ref 300, .int 182 0, .int 0 0, .ref 307]), List.toArray []⟩
noncomputable def v350 (_P : Params) : PySem.Obj := ⟨.type "tuple", none, .seq (List.toArray []) 0, List.toArray []⟩
noncomputable def v351 (_P : Params) : PySem.Obj := ⟨.none, none, .fields (List.toArray []), List.toArray []⟩
noncomputable def v352 (_P : Params) : PySem.Obj := ⟨.type "tuple", none, .seq (List.toArray [.str (Str.ofString "number") 579]) 0, List.toArray []⟩
noncomputable def v353 (_P : Params) : PySem.Obj := ⟨.type "tuple", none, .seq (List.toArray []) 0, List.toArray []⟩
noncomputable def v354 (_P : Params) : PySem.Obj := (fun (p : Arguments) (b : List Stmt) (s : Scope) (_ : (p, b, s) = fnP (nthS pW.main.body 35)) => (⟨.none, none, .func ⟨Str.ofString "is_letter", Str.ofString "is_letter", p, .stmts b, s, 0, [], .none, .none, .none, .none, none, .none, .none, 0⟩, List.toArray []⟩ : Obj)) _ _ _ rfl
noncomputable def v355 (_P : Params) : PySem.Obj := ⟨.type "code", none, .fields (List.toArray [.str (Str.ofString "is_letter") 576, .str (Str.ofString "is_letter") 577, .str (Str.ofString "/claim/cut.py") 578, .int 167 0, .int 1 0, .int 0 0, .int 0 0, .int 3 0, .ref 281, .bool true, .int 181 0, .ref 282, .none, .ref 283, .ref 284, .ref 285, .int 580 0, .int 167 0, .str (Str.ofString "/claim/cut.py") 581]), List.toArray []⟩
noncomputable def v356 (_P : Params) : PySem.Obj := (fun (p : Arguments) (b : List Stmt) (s : Scope) (_ : (p, b, s) = fnP (nthS pW.main.body 35)) => (⟨.type "function", none, .func ⟨Str.ofString "is_letter", Str.ofString "is_letter", p, .stmts b, s, 3, [], .none, .none, .none, .str (Str.ofString "crcgate.letters") 564, none, .ref 286, .none, 0⟩, List.toArray []⟩ : Obj)) _ _ _ rfl
noncomputable def v357 (_P : Params) : PySem.Obj := ⟨.type "tuple", none, .seq (List.toArray []) 0, List.toArray []⟩
noncomputable def v358 (_P : Params) : PySem.Obj := ⟨.none, none, .fields (List.toArray []), List.toArray []⟩
noncomputable def v359 (_P : Params) : PySem.Obj := ⟨.type "tuple", none, .seq (List.toArray [.str (Str.ofString "number") 586]) 0, List.toArray []⟩
noncomputable def v360 (_P : Params) : PySem.Obj := ⟨.type "tuple", none, .seq (List.toArray []) 0, List.toArray []⟩
noncomputable def v361 (_P : Params) : PySem.Obj := (fun (p : Arguments) (b : List Stmt) (s : Scope) (_ : (p, b, s) = fnP (nthS pW.main.body 36)) => (⟨.none, none, .func ⟨Str.ofString "letter_of", Str.ofString "letter_of", p, .stmts b, s, 0, [], .none, .none, .none, .none, none, .none, .none, 0⟩, List.toArray []⟩ : Obj)) _ _ _ rfl
noncomputable def v362 (_P : Params) : PySem.Obj := ⟨.type "code", none, .fields (List.toArray [.str (Str.ofString "letter_of") 583, .str (Str.ofString "letter_of") 584, .str (Str.ofString "/claim/cut.py") 585, .int 169 0, .int 1 0, .int 0 0, .int 0 0, .int 3 0, .ref 288, .bool true, .int 181 0, .ref 289, .none, .ref 290, .ref 291, .ref 292, .int 587 0, .int 169 0, .str (Str.ofString "/claim/cut.py") 588]), List.toArray []⟩
noncomputable def v363 (_P : Params) : PySem.Obj := (fun (p : Arguments) (b : List Stmt) (s : Scope) (_ : (p, b, s) = fnP (nthS pW.main.body 36)) => (⟨.type "function", none, .func ⟨Str.ofString "letter_of", Str.ofString "letter_of", p, .stmts b, s, 3, [], .none, .none, .none, .str (Str.ofString "crcgate.letters") 564, none, .ref 293, .none, 0⟩, List.toArray []⟩ : Obj)) _ _ _ rfl
noncomputable def v364 (_P : Params) : PySem.Obj := ⟨.type "tuple", none, .seq (List.toArray []) 0, List.toArray []⟩
noncomputable def v365 (_P : Params) : PySem.Obj := ⟨.none, none, .fields (List.toArray []), List.toArray []⟩
noncomputable def v366 (_P : Params) : PySem.Obj := ⟨.type "tuple", none, .seq (List.toArray [.str (Str.ofString "text") 593, .str (Str.ofString "found") 594, .str (Str.ofString "letter") 595]) 0, List.toArray []⟩
noncomputable def v367 (_P : Params) : PySem.Obj := ⟨.type "tuple", none, .seq (List.toArray []) 0, List.toArray []⟩
noncomputable def v368 (_P : Params) : PySem.Obj := (fun (p : Arguments) (b : List Stmt) (s : Scope) (_ : (p, b, s) = fnP (nthS pW.main.body 37)) => (⟨.none, none, .func ⟨Str.ofString "row_of", Str.ofString "row_of", p, .stmts b, s, 0, [], .none, .none, .none, .none, none, .none, .none, 0⟩, List.toArray []⟩ : Obj)) _ _ _ rfl
noncomputable def v369 (_P : Params) : PySem.Obj := ⟨.type "code", none, .fields (List.toArray [.str (Str.ofString "row_of") 590, .str (Str.ofString "row_of") 591, .str (Str.ofString "/claim/cut.py") 592, .int 173 0, .int 1 0, .int 0 0, .int 0 0, .int 3 0, .ref 295, .bool true, .int 181 0, .ref 296, .none, .ref 297, .ref 298, .ref 299, .int 596 0, .int 173 0, .str (Str.ofString "/claim/cut.py") 597]), List.toArray []⟩
noncomputable def v370 (_P : Params) : PySem.Obj := (fun (p : Arguments) (b : List Stmt) (s : Scope) (_ : (p, b, s) = fnP (nthS pW.main.body 37)) => (⟨.type "function", none, .func ⟨Str.ofString "row_of", Str.ofString "row_of", p, .stmts b, s, 3, [], .none, .none, .none, .str (Str.ofString "crcgate.letters") 564, none, .ref 300, .none, 0⟩, List.toArray []⟩ : Obj)) _ _ _ rfl
noncomputable def v371 (_P : Params) : PySem.Obj := ⟨.type "tuple", none, .seq (List.toArray []) 0, List.toArray []⟩
noncomputable def v372 (_P : Params) : PySem.Obj := ⟨.none, none, .fields (List.toArray []), List.toArray []⟩
noncomputable def v373 (_P : Params) : PySem.Obj := ⟨.type "tuple", none, .seq (List.toArray [.str (Str.ofString "row") 602, .str (Str.ofString "found") 603, .str (Str.ofString "place") 604, .str (Str.ofString "number") 605]) 0, List.toArray []⟩
noncomputable def v374 (_P : Params) : PySem.Obj := ⟨.type "tuple", none, .seq (List.toArray []) 0, List.toArray []⟩
noncomputable def v375 (_P : Params) : PySem.Obj := (fun (p : Arguments) (b : List Stmt) (s : Scope) (_ : (p, b, s) = fnP (nthS pW.main.body 38)) => (⟨.none, none, .func ⟨Str.ofString "text_of", Str.ofString "text_of", p, .stmts b, s, 0, [], .none, .none, .none, .none, none, .none, .none, 0⟩, List.toArray []⟩ : Obj)) _ _ _ rfl
noncomputable def v376 (_P : Params) : PySem.Obj := ⟨.type "code", none, .fields (List.toArray [.str (Str.ofString "text_of") 599, .str (Str.ofString "text_of") 600, .str (Str.ofString "/claim/cut.py") 601, .int 182 0, .int 1 0, .int 0 0, .int 0 0, .int 3 0, .ref 302, .bool true, .int 181 0, .ref 303, .none, .ref 304, .ref 305, .ref 306, .int 606 0, .int 182 0, .str (Str.ofString "/claim/cut.py") 607]), List.toArray []⟩
noncomputable def v377 (_P : Params) : PySem.Obj := (fun (p : Arguments) (b : List Stmt) (s : Scope) (_ : (p, b, s) = fnP (nthS pW.main.body 38)) => (⟨.type "function", none, .func ⟨Str.ofString "text_of", Str.ofString "text_of", p, .stmts b, s, 3, [], .none, .none, .none, .str (Str.ofString "crcgate.letters") 564, none, .ref 307, .none, 0⟩, List.toArray []⟩ : Obj)) _ _ _ rfl
noncomputable def tr377 (P : Params) : PySem.W.BT := .node (PySem.W.boot_o_0 P) (.node (PySem.W.boot_o_1 P) (.node (v348 P) (.node (PySem.W.boot_o_7 P) (.node (v51 P) (.node (v193 P) (.node (v108 P) (.node (v187 P) (.node (v322 P) .nil .nil) .nil) (.node (v256 P) .nil .nil)) (.node (v149 P) (.node (v222 P) (.node (v356 P) .nil .nil) .nil) (.node (v290 P) .nil .nil))) (.node (v89 P) (.node (v127 P) (.node (v206 P) (.node (v338 P) .nil .nil) .nil) (.node (v272 P) .nil .nil)) (.node (v168 P) (.node (v238 P) (.node (v372 P) .nil .nil) .nil) (.node (v306 P) .nil .nil)))) (.node (v59 P) (.node (v78 P) (.node (v119 P) (.node (v198 P) (.node (v330 P) .nil .nil) .nil) (.node (v264 P) .nil .nil)) (.node (v157 P) (.node (v230 P) (.node (v364 P) .nil .nil) .nil) (.node (v298 P) .nil .nil))) (.node (v97 P) (.node (v138 P) (.node (v214 P) (.node (v346 P) .nil .nil) .nil) (.node (v282 P) .nil .nil)) (.node (v179 P) (.node (v248 P) .nil .nil) (.node (v314 P) .nil .nil))))) (.node (v43 P) (.node (v55 P) (.node (v74 P) (.node (v112 P) (.node (v194 P) (.node (v326 P) .nil .nil) .nil) (.node (v260 P) .nil .nil)) (.node (v153 P) (.node (v226 P) (.node (v360 P) .nil .nil) .nil) (.node (v294 P) .nil .nil))) (.node (v93 P) (.node (v134 P) (.node (v210 P) (.node (v342 P) .nil .nil) .nil) (.node (v278 P) .nil .nil)) (.node (v172 P) (.node (v244 P) (.node (v376 P) .nil .nil) .nil) (.node (v310 P) .nil .nil)))) (.node (v63 P) (.node (v82 P) (.node (v123 P) (.node (v202 P) (.node (v334 P) .nil .nil) .nil) (.node (v268 P) .nil .nil)) (.node (v164 P) (.node (v234 P) (.node (v368 P) .nil .nil) .nil) (.node (v302 P) .nil .nil))) (.node (v104 P) (.node (v142 P) (.node (v218 P) (.node (v352 P) .nil .nil) .nil) (.node (v286 P) .nil .nil)) (.node (v183 P) (.node (v252 P) .nil .nil) (.node (v318 P) .nil .nil)))))) (.node (PySem.W.boot_o_5 P) (.node (PySem.W.boot_o_9 P) (.node (v53 P) (.node (v69 P) (.node (v110 P) (.node (v189 P) (.node (v324 P) .nil .nil) .nil) (.node (v258 P) .nil .nil)) (.node (v151 P) (.node (v224 P) (.node (v358 P) .nil .nil) .nil) (.node (v292 P) .nil .nil))) (.node (v91 P) (.node (v129 P) (.node (v208 P) (.node (v340 P) .nil .nil) .nil) (.node (v274 P) .nil .nil)) (.node (v170 P) (.node (v242 P) (.node (v374 P) .nil .nil) .nil) (.node (v308 P) .nil .nil)))) (.node (v61 P) (.node (v80 P) (.node (v121 P) (.node (v200 P) (.node (v332 P) .nil .nil) .nil) (.node (v266 P) .nil .nil)) (.node (v159 P) (.node (v232 P) (.node (v366 P) .nil .nil) .nil) (.node (v300 P) .nil .nil))) (.node (v99 P) (.node (v140 P) (.node (v216 P) (.node (v350 P) .nil .nil) .nil) (.node (v284 P) .nil .nil)) (.node (v181 P) (.node (v250 P) .nil .nil) (.node (v316 P) .nil .nil))))) (.node (v45 P) (.node (v57 P) (.node (v76 P) (.node (v114 P) (.node (v196 P) (.node (v328 P) .nil .nil) .nil) (.node (v262 P) .nil .nil)) (.node (v155 P) (.node (v228 P) (.node (v362 P) .nil .nil) .nil) (.node (v296 P) .nil .nil))) (.node (v95 P) (.node (v136 P) (.node (v212 P) (.node (v344 P) .nil .nil) .nil) (.node (v280 P) .nil .nil)) (.node (v174 P) (.node (v246 P) .nil .nil) (.node (v312 P) .nil .nil)))) (.node (v65 P) (.node (v84 P) (.node (v125 P) (.node (v204 P) (.node (v336 P) .nil .nil) .nil) (.node (v270 P) .nil .nil)) (.node (v166 P) (.node (v236 P) (.node (v370 P) .nil .nil) .nil) (.node (v304 P) .nil .nil))) (.node (v106 P) (.node (v144 P) (.node (v220 P) (.node (v354 P) .nil .nil) .nil) (.node (v288 P) .nil .nil)) (.node (v185 P) (.node (v254 P) .nil .nil) (.node (v320 P) .nil .nil))))))) (.node (PySem.W.boot_o_2 P) (.node (PySem.W.boot_o_4 P) (.node (PySem.W.boot_o_8 P) (.node (v52 P) (.node (v68 P) (.node (v109 P) (.node (v188 P) (.node (v323 P) .nil .nil) .nil) (.node (v257 P) .nil .nil)) (.node (v150 P) (.node (v223 P) (.node (v357 P) .nil .nil) .nil) (.node (v291 P) .nil .nil))) (.node (v90 P) (.node (v128 P) (.node (v207 P) (.node (v339 P) .nil .nil) .nil) (.node (v273 P) .nil .nil)) (.node (v169 P) (.node (v241 P) (.node (v373 P) .nil .nil) .nil) (.node (v307 P) .nil .nil)))) (.node (v60 P) (.node (v79 P) (.node (v120 P) (.node (v199 P) (.node (v331 P) .nil .nil) .nil) (.node (v265 P) .nil .nil)) (.node (v158 P) (.node (v231 P) (.node (v365 P) .nil .nil) .nil) (.node (v299 P) .nil .nil))) (.node (v98 P) (.node (v139 P) (.node (v215 P) (.node (v347 P) .nil .nil) .nil) (.node (v283 P) .nil .nil)) (.node (v180 P) (.node (v249 P) .nil .nil) (.node (v315 P) .nil .nil))))) (.node (v349 P) (.node (v56 P) (.node (v75 P) (.node (v113 P) (.node (v195 P) (.node (v327 P) .nil .nil) .nil) (.node (v261 P) .nil .nil)) (.node (v154 P) (.node (v227 P) (.node (v361 P) .nil .nil) .nil) (.node (v295 P) .nil .nil))) (.node (v94 P) (.node (v135 P) (.node (v211 P) (.node (v343 P) .nil .nil) .nil) (.node (v279 P) .nil .nil)) (.node (v173 P) (.node (v245 P) (.node (v377 P) .nil .nil) .nil) (.node (v311 P) .nil .nil)))) (.node (v64 P) (.node (v83 P) (.node (v124 P) (.node (v203 P) (.node (v335 P) .nil .nil) .nil) (.node (v269 P) .nil .nil)) (.node (v165 P) (.node (v235 P) (.node (v369 P) .nil .nil) .nil) (.node (v303 P) .nil .nil))) (.node (v105 P) (.node (v143 P) (.node (v219 P) (.node (v353 P) .nil .nil) .nil) (.node (v287 P) .nil .nil)) (.node (v184 P) (.node (v253 P) .nil .nil) (.node (v319 P) .nil .nil)))))) (.node (PySem.W.boot_o_6 P) (.node (PySem.W.boot_o_10 P) (.node (v54 P) (.node (v70 P) (.node (v111 P) (.node (v190 P) (.node (v325 P) .nil .nil) .nil) (.node (v259 P) .nil .nil)) (.node (v152 P) (.node (v225 P) (.node (v359 P) .nil .nil) .nil) (.node (v293 P) .nil .nil))) (.node (v92 P) (.node (v130 P) (.node (v209 P) (.node (v341 P) .nil .nil) .nil) (.node (v275 P) .nil .nil)) (.node (v171 P) (.node (v243 P) (.node (v375 P) .nil .nil) .nil) (.node (v309 P) .nil .nil)))) (.node (v62 P) (.node (v81 P) (.node (v122 P) (.node (v201 P) (.node (v333 P) .nil .nil) .nil) (.node (v267 P) .nil .nil)) (.node (v160 P) (.node (v233 P) (.node (v367 P) .nil .nil) .nil) (.node (v301 P) .nil .nil))) (.node (v100 P) (.node (v141 P) (.node (v217 P) (.node (v351 P) .nil .nil) .nil) (.node (v285 P) .nil .nil)) (.node (v182 P) (.node (v251 P) .nil .nil) (.node (v317 P) .nil .nil))))) (.node (v46 P) (.node (v58 P) (.node (v77 P) (.node (v115 P) (.node (v197 P) (.node (v329 P) .nil .nil) .nil) (.node (v263 P) .nil .nil)) (.node (v156 P) (.node (v229 P) (.node (v363 P) .nil .nil) .nil) (.node (v297 P) .nil .nil))) (.node (v96 P) (.node (v137 P) (.node (v213 P) (.node (v345 P) .nil .nil) .nil) (.node (v281 P) .nil .nil)) (.node (v175 P) (.node (v247 P) .nil .nil) (.node (v313 P) .nil .nil)))) (.node (v66 P) (.node (v85 P) (.node (v126 P) (.node (v205 P) (.node (v337 P) .nil .nil) .nil) (.node (v271 P) .nil .nil)) (.node (v167 P) (.node (v237 P) (.node (v371 P) .nil .nil) .nil) (.node (v305 P) .nil .nil))) (.node (v107 P) (.node (v145 P) (.node (v221 P) (.node (v355 P) .nil .nil) .nil) (.node (v289 P) .nil .nil)) (.node (v186 P) (.node (v255 P) .nil .nil) (.node (v321 P) .nil .nil)))))))
noncomputable def v378 (P : Params) : PySem.Obj := ⟨.type "dict", none, .dict (List.toArray [⟨PyData.keyHash P (Str.ofString "__name__"), .str (Str.ofString "__name__") 165, .str (Str.ofString "law_uf040037_06") 684⟩, ⟨PyData.keyHash P (Str.ofString "__doc__"), .str (Str.ofString "__doc__") 166, .none⟩, ⟨PyData.keyHash P (Str.ofString "__package__"), .str (Str.ofString "__package__") 167, .none⟩, ⟨PyData.keyHash P (Str.ofString "__loader__"), .str (Str.ofString "__loader__") 168, .builtin "__main__.__loader__#opaque"⟩, ⟨PyData.keyHash P (Str.ofString "__spec__"), .str (Str.ofString "__spec__") 169, .none⟩, ⟨PyData.keyHash P (Str.ofString "__annotations__"), .str (Str.ofString "__annotations__") 170, .ref 6⟩, ⟨PyData.keyHash P (Str.ofString "__builtins__"), .str (Str.ofString "__builtins__") 171, .ref 4⟩, ⟨PyData.keyHash P (Str.ofString "__file__"), .str (Str.ofString "__file__") 173, .str (Str.ofString "/claim/cut.py") 172⟩, ⟨PyData.keyHash P (Str.ofString "__cached__"), .str (Str.ofString "__cached__") 174, .none⟩, ⟨PyData.keyHash P (Str.ofString "_wall"), .str (Str.ofString "_wall") 193, .ref 21⟩, ⟨PyData.keyHash P (Str.ofString "GateError"), .str (Str.ofString "GateError") 213, .ref 31⟩, ⟨PyData.keyHash P (Str.ofString "NoRow"), .str (Str.ofString "NoRow") 229, .ref 44⟩, ⟨PyData.keyHash P (Str.ofString "NoSign"), .str (Str.ofString "NoSign") 245, .ref 56⟩, ⟨PyData.keyHash P (Str.ofString "NoDivisor"), .str (Str.ofString "NoDivisor") 261, .ref 68⟩, ⟨PyData.keyHash P (Str.ofString "NoCount"), .str (Str.ofString "NoCount") 277, .ref 80⟩, ⟨PyData.keyHash P (Str.ofString "TooLong"), .str (Str.ofString "TooLong") 293, .ref 92⟩, ⟨PyData.keyHash P (Str.ofString "TooShort"), .str (Str.ofString "TooShort") 309, .ref 104⟩, ⟨PyData.keyHash P (Str.ofString "Broken"), .str (Str.ofString "Broken") 325, .ref 116⟩, ⟨PyData.keyHash P (Str.ofString "NoMate"), .str (Str.ofString "NoMate") 341, .ref 128⟩, ⟨PyData.keyHash P (Str.ofString "NoText"), .str (Str.ofString "NoText") 357, .ref 140⟩, ⟨PyData.keyHash P (Str.ofString "is_sign"), .str (Str.ofString "is_sign") 366, .ref 149⟩, ⟨PyData.keyHash P (Str.ofString "need_row"), .str (Str.ofString "need_row") 374, .ref 156⟩, ⟨PyData.keyHash P (Str.ofString "value_of"), .str (Str.ofString "value_of") 383, .ref 163⟩, ⟨PyData.keyHash P (Str.ofString "signs_of"), .str (Str.ofString "signs_of") 393, .ref 170⟩, ⟨PyData.keyHash P (Str.ofString "added"), .str (Str.ofString "added") 399, .ref 175⟩, ⟨PyData.keyHash P (Str.ofString "times"), .str (Str.ofString "times") 412, .ref 182⟩, ⟨PyData.keyHash P (Str.ofString "parted"), .str (Str.ofString "parted") 427, .ref 189⟩, ⟨PyData.keyHash P (Str.ofString "LEAST"), .str (Str.ofString "LEAST") 431, .int 2 430⟩, ⟨PyData.keyHash P (Str.ofString "MOST"), .str (Str.ofString "MOST") 433, .int 13 432⟩, ⟨PyData.keyHash P (Str.ofString "need_divisor"), .str (Str.ofString "need_divisor") 440, .ref 196⟩, ⟨PyData.keyHash P (Str.ofString "onward"), .str (Str.ofString "onward") 449, .ref 203⟩, ⟨PyData.keyHash P (Str.ofString "reach"), .str (Str.ofString "reach") 460, .ref 210⟩, ⟨PyData.keyHash P (Str.ofString "MOST_NOUGHTS"), .str (Str.ofString "MOST_NOUGHTS") 466, .int 1000000000000000000 465⟩, ⟨PyData.keyHash P (Str.ofString "Gate"), .str (Str.ofString "Gate") 563, .ref 276⟩, ⟨PyData.keyHash P (Str.ofString "LETTERS"), .str (Str.ofString "LETTERS") 567, .str (Str.ofString " !\"#$&'()*+,-./0123456789:;<=>?@ABCDEFGHIJKLMNOPQRSTUVWXYZ[\\]^_`abcdefghijklmnopqrstuvwxyz{|}~") 566⟩, ⟨PyData.keyHash P (Str.ofString "WIDE"), .str (Str.ofString "WIDE") 569, .int 7 568⟩, ⟨PyData.keyHash P (Str.ofString "FIRST"), .str (Str.ofString "FIRST") 571, .int 32 570⟩, ⟨PyData.keyHash P (Str.ofString "LAST"), .str (Str.ofString "LAST") 573, .int 126 572⟩, ⟨PyData.keyHash P (Str.ofString "LEFT_OUT"), .str (Str.ofString "LEFT_OUT") 575, .int 37 574⟩, ⟨PyData.keyHash P (Str.ofString "is_letter"), .str (Str.ofString "is_letter") 582, .ref 287⟩, ⟨PyData.keyHash P (Str.ofString "letter_of"), .str (Str.ofString "letter_of") 589, .ref 294⟩, ⟨PyData.keyHash P (Str.ofString "row_of"), .str (Str.ofString "row_of") 598, .ref 301⟩, ⟨PyData.keyHash P (Str.ofString "text_of"), .str (Str.ofString "text_of") 608, .ref 308⟩, ⟨PyData.keyHash P (Str.ofString "MOST_SIGNS"), .str (Str.ofString "MOST_SIGNS") 614, .int 1000000000000000000 613⟩, ⟨PyData.keyHash P (Str.ofString "Register"), .str (Str.ofString "Register") 683, .ref 360⟩]) 45, List.toArray []⟩
noncomputable def v379 (_P : Params) : PySem.Obj := ⟨.none, none, .fields (List.toArray [.int 1 0, .int 0 0, .ref 20, .int 5 0, .int 0 0, .ref 27, .int 7 0, .int 0 0, .ref 40, .int 9 0, .int 0 0, .ref 52, .int 11 0, .int 0 0, .ref 64, .int 13 0, .int 0 0, .ref 76, .int 15 0, .int 0 0, .ref 88, .int 17 0, .int 0 0, .ref 100, .int 19 0, .int 0 0, .ref 112, .int 21 0, .int 0 0, .ref 124, .int 23 0, .int 0 0, .ref 136, .int 26 0, .int 0 0, .ref 148, .int 28 0, .int 0 0, .ref 155, .int 34 0, .int 0 0, .ref 162, .int 39 0, .int 0 0, .ref 169, .int 45 0, .int 0 0, .ref 174, .int 52 0, .int 0 0, .ref 181, .int 63 0, .int 0 0, .ref 188, .int 81 0, .int 0 0, .ref 195, .int 87 0, .int 0 0, .ref 202, .int 92 0, .int 0 0, .ref 209, .int 104 0, .int 0 0, .ref 216, .int 167 0, .int 0 0, .ref 286, .int 169 0, .int 0 0, .ref 293, .int 173 0, .int 0 0, .ref 300, .int 182 0, .int 0 0, .ref 307, .int 195 0, .int 0 0, .ref 314]), List.toArray []⟩
noncomputable def v380 (_P : Params) : PySem.Obj := ⟨.type "tuple", none, .seq (List.toArray []) 0, List.toArray []⟩
noncomputable def v381 (_P : Params) : PySem.Obj := ⟨.type "builtin_function_or_method", none, .fields (List.toArray [.builtin "type.__prepare__", .type "type"]), List.toArray []⟩
noncomputable def v382 (P : Params) : PySem.Obj := ⟨.type "dict", none, .dict (List.toArray [⟨PyData.keyHash P (Str.ofString "__module__"), .str (Str.ofString "__module__") 622, .str (Str.ofString "crcgate.registers") 609⟩, ⟨PyData.keyHash P (Str.ofString "__qualname__"), .str (Str.ofString "__qualname__") 624, .str (Str.ofString "Register") 623⟩, ⟨PyData.keyHash P (Str.ofString "__firstlineno__"), .str (Str.ofString "__firstlineno__") 626, .int 195 625⟩, ⟨PyData.keyHash P (Str.ofString "__init__"), .str (Str.ofString "__init__") 634, .ref 322⟩, ⟨PyData.keyHash P (Str.ofString "put"), .str (Str.ofString "put") 642, .ref 329⟩, ⟨PyData.keyHash P (Str.ofString "anew"), .str (Str.ofString "anew") 649, .ref 336⟩, ⟨PyData.keyHash P (Str.ofString "rest"), .str (Str.ofString "rest") 656, .ref 343⟩, ⟨PyData.keyHash P (Str.ofString "check"), .str (Str.ofString "check") 663, .ref 350⟩, ⟨PyData.keyHash P (Str.ofString "joined"), .str (Str.ofString "joined") 672, .ref 357⟩, ⟨PyData.keyHash P (Str.ofString "__static_attributes__"), .str (Str.ofString "__static_attributes__") 676, .ref 358⟩]) 10, List.toArray []⟩
noncomputable def v383 (_P : Params) : PySem.Obj := ⟨.type "tuple", none, .seq (List.toArray []) 0, List.toArray []⟩
noncomputable def v384 (_P : Params) : PySem.Obj := ⟨.none, none, .fields (List.toArray [.int 197 0, .int 4 0, .ref 321, .int 202 0, .int 4 0, .ref 328, .int 208 0, .int 4 0, .ref 335, .int 211 0, .int 4 0, .ref 342, .int 214 0, .int 4 0, .ref 349, .int 217 0, .int 4 0, .ref 356]), List.toArray []⟩
noncomputable def v385 (_P : Params) : PySem.Obj := ⟨.type "code", none, .fields (List.toArray [.str (Str.ofString "Register") 617, .str (Str.ofString "Register") 618, .str (Str.ofString "/claim/cut.py") 619, .int 195 0, .int 0 0, .int 0 0, .int 0 0, .int 0 0, .ref 312, .bool false, .int 181 0, .ref 313, .none, .none, .none, .none, .int 620 0, .int 195 0, .str (Str.ofString "/claim/cut.py") 621]), List.toArray []⟩
noncomputable def v386 (_P : Params) : PySem.Obj := ⟨.type "frame", none, .plain, List.toArray [some (.ref 314), some (.ref 3), some (.ref 311), none, some (.str (Str.ofString "crcgate.registers") 609), none, some (.ref 0)]⟩
noncomputable def v387 (_P : Params) : PySem.Obj := ⟨.type "tuple", none, .seq (List.toArray []) 0, List.toArray []⟩
noncomputable def v388 (_P : Params) : PySem.Obj := ⟨.none, none, .fields (List.toArray []), List.toArray []⟩
noncomputable def v389 (_P : Params) : PySem.Obj := ⟨.type "tuple", none, .seq (List.toArray [.str (Str.ofString "self") 630, .str (Str.ofString "gate") 631]) 0, List.toArray []⟩
noncomputable def v390 (_P : Params) : PySem.Obj := ⟨.type "tuple", none, .seq (List.toArray []) 0, List.toArray []⟩
noncomputable def v391 (_P : Params) : PySem.Obj := (fun (p : Arguments) (b : List Stmt) (s : Scope) (_ : (p, b, s) = fnP (inC (nthS pW.main.body 41) 0)) => (⟨.none, none, .func ⟨Str.ofString "__init__", Str.ofString "Register.__init__", p, .stmts b, s, 0, [], .none, .none, .none, .none, none, .none, .none, 0⟩, List.toArray []⟩ : Obj)) _ _ _ rfl
noncomputable def v392 (_P : Params) : PySem.Obj := ⟨.type "code", none, .fields (List.toArray [.str (Str.ofString "__init__") 627, .str (Str.ofString "Register.__init__") 628, .str (Str.ofString "/claim/cut.py") 629, .int 197 0, .int 2 0, .int 0 0, .int 0 0, .int 3 0, .ref 316, .bool true, .int 181 0, .ref 317, .none, .ref 318, .ref 319, .ref 320, .int 632 0, .int 197 0, .str (Str.ofString "/claim/cut.py") 633]), List.toArray []⟩
noncomputable def v393 (_P : Params) : PySem.Obj := (fun (p : Arguments) (b : List Stmt) (s : Scope) (_ : (p, b, s) = fnP (inC (nthS pW.main.body 41) 0)) => (⟨.type "function", none, .func ⟨Str.ofString "__init__", Str.ofString "Register.__init__", p, .stmts b, s, 3, [], .none, .none, .none, .str (Str.ofString "crcgate.registers") 609, none, .ref 321, .none, 0⟩, List.toArray []⟩ : Obj)) _ _ _ rfl
noncomputable def v394 (_P : Params) : PySem.Obj := ⟨.type "tuple", none, .seq (List.toArray []) 0, List.toArray []⟩
noncomputable def v395 (_P : Params) : PySem.Obj := ⟨.none, none, .fields (List.toArray []), List.toArray []⟩
noncomputable def v396 (_P : Params) : PySem.Obj := ⟨.type "tuple", none, .seq (List.toArray [.str (Str.ofString "self") 638, .str (Str.ofString "sign") 639]) 0, List.toArray []⟩
noncomputable def v397 (_P : Params) : PySem.Obj := ⟨.type "tuple", none, .seq (List.toArray []) 0, List.toArray []⟩
noncomputable def v398 (_P : Params) : PySem.Obj := (fun (p : Arguments) (b : List Stmt) (s : Scope) (_ : (p, b, s) = fnP (inC (nthS pW.main.body 41) 1)) => (⟨.none, none, .func ⟨Str.ofString "put", Str.ofString "Register.put", p, .stmts b, s, 0, [], .none, .none, .none, .none, none, .none, .none, 0⟩, List.toArray []⟩ : Obj)) _ _ _ rfl
noncomputable def v399 (_P : Params) : PySem.Obj := ⟨.type "code", none, .fields (List.toArray [.str (Str.ofString "put") 635, .str (Str.ofString "Register.put") 636, .str (Str.ofString "/claim/cut.py") 637, .int 202 0, .int 2 0, .int 0 0, .int 0 0, .int 3 0, .ref 323, .bool true, .int 181 0, .ref 324, .none, .ref 325, .ref 326, .ref 327, .int 640 0, .int 202 0, .str (Str.ofString "/claim/cut.py") 641]), List.toArray []⟩
noncomputable def v400 (_P : Params) : PySem.Obj := (fun (p : Arguments) (b : List Stmt) (s : Scope) (_ : (p, b, s) = fnP (inC (nthS pW.main.body 41) 1)) => (⟨.type "function", none, .func ⟨Str.ofString "put", Str.ofString "Register.put", p, .stmts b, s, 3, [], .none, .none, .none, .str (Str.ofString "crcgate.registers") 609, none, .ref 328, .none, 0⟩, List.toArray []⟩ : Obj)) _ _ _ rfl
noncomputable def v401 (_P : Params) : PySem.Obj := ⟨.type "tuple", none, .seq (List.toArray []) 0, List.toArray []⟩
noncomputable def v402 (_P : Params) : PySem.Obj := ⟨.none, none, .fields (List.toArray []), List.toArray []⟩
noncomputable def v403 (_P : Params) : PySem.Obj := ⟨.type "tuple", none, .seq (List.toArray [.str (Str.ofString "self") 646]) 0, List.toArray []⟩
noncomputable def v404 (_P : Params) : PySem.Obj := ⟨.type "tuple", none, .seq (List.toArray []) 0, List.toArray []⟩
noncomputable def v405 (_P : Params) : PySem.Obj := (fun (p : Arguments) (b : List Stmt) (s : Scope) (_ : (p, b, s) = fnP (inC (nthS pW.main.body 41) 2)) => (⟨.none, none, .func ⟨Str.ofString "anew", Str.ofString "Register.anew", p, .stmts b, s, 0, [], .none, .none, .none, .none, none, .none, .none, 0⟩, List.toArray []⟩ : Obj)) _ _ _ rfl
noncomputable def v406 (_P : Params) : PySem.Obj := ⟨.type "code", none, .fields (List.toArray [.str (Str.ofString "anew") 643, .str (Str.ofString "Register.anew") 644, .str (Str.ofString "/claim/cut.py") 645, .int 208 0, .int 1 0, .int 0 0, .int 0 0, .int 3 0, .ref 330, .bool true, .int 181 0, .ref 331, .none, .ref 332, .ref 333, .ref 334, .int 647 0, .int 208 0, .str (Str.ofString "/claim/cut.py") 648]), List.toArray []⟩
noncomputable def v407 (_P : Params) : PySem.Obj := (fun (p : Arguments) (b : List Stmt) (s : Scope) (_ : (p, b, s) = fnP (inC (nthS pW.main.body 41) 2)) => (⟨.type "function", none, .func ⟨Str.ofString "anew", Str.ofString "Register.anew", p, .stmts b, s, 3, [], .none, .none, .none, .str (Str.ofString "crcgate.registers") 609, none, .ref 335, .none, 0⟩, List.toArray []⟩ : Obj)) _ _ _ rfl
noncomputable def v408 (_P : Params) : PySem.Obj := ⟨.type "tuple", none, .seq (List.toArray []) 0, List.toArray []⟩
noncomputable def v409 (_P : Params) : PySem.Obj := ⟨.none, none, .fields (List.toArray []), List.toArray []⟩
noncomputable def v410 (_P : Params) : PySem.Obj := ⟨.type "tuple", none, .seq (List.toArray [.str (Str.ofString "self") 653]) 0, List.toArray []⟩
noncomputable def v411 (_P : Params) : PySem.Obj := ⟨.type "tuple", none, .seq (List.toArray []) 0, List.toArray []⟩
noncomputable def v412 (_P : Params) : PySem.Obj := (fun (p : Arguments) (b : List Stmt) (s : Scope) (_ : (p, b, s) = fnP (inC (nthS pW.main.body 41) 3)) => (⟨.none, none, .func ⟨Str.ofString "rest", Str.ofString "Register.rest", p, .stmts b, s, 0, [], .none, .none, .none, .none, none, .none, .none, 0⟩, List.toArray []⟩ : Obj)) _ _ _ rfl
noncomputable def v413 (_P : Params) : PySem.Obj := ⟨.type "code", none, .fields (List.toArray [.str (Str.ofString "rest") 650, .str (Str.ofString "Register.rest") 651, .str (Str.ofString "/claim/cut.py") 652, .int 211 0, .int 1 0, .int 0 0, .int 0 0, .int 3 0, .ref 337, .bool true, .int 181 0, .ref 338, .none, .ref 339, .ref 340, .ref 341, .int 654 0, .int 211 0, .str (Str.ofString "/claim/cut.py") 655]), List.toArray []⟩
noncomputable def v414 (_P : Params) : PySem.Obj := (fun (p : Arguments) (b : List Stmt) (s : Scope) (_ : (p, b, s) = fnP (inC (nthS pW.main.body 41) 3)) => (⟨.type "function", none, .func ⟨Str.ofString "rest", Str.ofString "Register.rest", p, .stmts b, s, 3, [], .none, .none, .none, .str (Str.ofString "crcgate.registers") 609, none, .ref 342, .none, 0⟩, List.toArray []⟩ : Obj)) _ _ _ rfl
noncomputable def v415 (_P : Params) : PySem.Obj := ⟨.type "tuple", none, .seq (List.toArray []) 0, List.toArray []⟩
noncomputable def v416 (_P : Params) : PySem.Obj := ⟨.none, none, .fields (List.toArray []), List.toArray []⟩
noncomputable def v417 (_P : Params) : PySem.Obj := ⟨.type "tuple", none, .seq (List.toArray [.str (Str.ofString "self") 660]) 0, List.toArray []⟩
noncomputable def v418 (_P : Params) : PySem.Obj := ⟨.type "tuple", none, .seq (List.toArray []) 0, List.toArray []⟩
noncomputable def v419 (_P : Params) : PySem.Obj := (fun (p : Arguments) (b : List Stmt) (s : Scope) (_ : (p, b, s) = fnP (inC (nthS pW.main.body 41) 4)) => (⟨.none, none, .func ⟨Str.ofString "check", Str.ofString "Register.check", p, .stmts b, s, 0, [], .none, .none, .none, .none, none, .none, .none, 0⟩, List.toArray []⟩ : Obj)) _ _ _ rfl
noncomputable def v420 (_P : Params) : PySem.Obj := ⟨.type "code", none, .fields (List.toArray [.str (Str.ofString "check") 657, .str (Str.ofString "Register.check") 658, .str (Str.ofString "/claim/cut.py") 659, .int 214 0, .int 1 0, .int 0 0, .int 0 0, .int 3 0, .ref 344, .bool true, .int 181 0, .ref 345, .none, .ref 346, .ref 347, .ref 348, .int 661 0, .int 214 0, .str (Str.ofString "/claim/cut.py") 662]), List.toArray []⟩
noncomputable def v421 (_P : Params) : PySem.Obj := (fun (p : Arguments) (b : List Stmt) (s : Scope) (_ : (p, b, s) = fnP (inC (nthS pW.main.body 41) 4)) => (⟨.type "function", none, .func ⟨Str.ofString "check", Str.ofString "Register.check", p, .stmts b, s, 3, [], .none, .none, .none, .str (Str.ofString "crcgate.registers") 609, none, .ref 349, .none, 0⟩, List.toArray []⟩ : Obj)) _ _ _ rfl
noncomputable def v422 (_P : Params) : PySem.Obj := ⟨.type "tuple", none, .seq (List.toArray []) 0, List.toArray []⟩
noncomputable def v423 (_P : Params) : PySem.Obj := ⟨.none, none, .fields (List.toArray []), List.toArray []⟩
noncomputable def v424 (_P : Params) : PySem.Obj := ⟨.type "tuple", none, .seq (List.toArray [.str (Str.ofString "self") 667, .str (Str.ofString "other") 668, .str (Str.ofString "many") 669]) 0, List.toArray []⟩
noncomputable def v425 (_P : Params) : PySem.Obj := ⟨.type "tuple", none, .seq (List.toArray []) 0, List.toArray []⟩
noncomputable def v426 (_P : Params) : PySem.Obj := (fun (p : Arguments) (b : List Stmt) (s : Scope) (_ : (p, b, s) = fnP (inC (nthS pW.main.body 41) 5)) => (⟨.none, none, .func ⟨Str.ofString "joined", Str.ofString "Register.joined", p, .stmts b, s, 0, [], .none, .none, .none, .none, none, .none, .none, 0⟩, List.toArray []⟩ : Obj)) _ _ _ rfl
noncomputable def v427 (_P : Params) : PySem.Obj := ⟨.type "code", none, .fields (List.toArray [.str (Str.ofString "joined") 664, .str (Str.ofString "Register.joined") 665, .str (Str.ofString "/claim/cut.py") 666, .int 217 0, .int 2 0, .int 0 0, .int 0 0, .int 3 0, .ref 351, .bool true, .int 181 0, .ref 352, .none, .ref 353, .ref 354, .ref 355, .int 670 0, .int 217 0, .str (Str.ofString "/claim/cut.py") 671]), List.toArray []⟩
noncomputable def v428 (_P : Params) : PySem.Obj := (fun (p : Arguments) (b : List Stmt) (s : Scope) (_ : (p, b, s) = fnP (inC (nthS pW.main.body 41) 5)) => (⟨.type "function", none, .func ⟨Str.ofString "joined", Str.ofString "Register.joined", p, .stmts b, s, 3, [], .none, .none, .none, .str (Str.ofString "crcgate.registers") 609, none, .ref 356, .none, 0⟩, List.toArray []⟩ : Obj)) _ _ _ rfl
noncomputable def v429 (_P : Params) : PySem.Obj := ⟨.type "tuple", none, .seq (List.toArray [.str (Str.ofString "gate") 673, .str (Str.ofString "kept") 674, .str (Str.ofString "many") 675]) 0, List.toArray []⟩
noncomputable def v430 (P : Params) : PySem.Obj := ⟨.type "dict", none, .dict (List.toArray [⟨PyData.keyHash P (Str.ofString "__module__"), .str (Str.ofString "__module__") 622, .str (Str.ofString "crcgate.registers") 609⟩, ⟨PyData.keyHash P (Str.ofString "__firstlineno__"), .str (Str.ofString "__firstlineno__") 626, .int 195 625⟩, ⟨PyData.keyHash P (Str.ofString "__init__"), .str (Str.ofString "__init__") 634, .ref 322⟩, ⟨PyData.keyHash P (Str.ofString "put"), .str (Str.ofString "put") 642, .ref 329⟩, ⟨PyData.keyHash P (Str.ofString "anew"), .str (Str.ofString "anew") 649, .ref 336⟩, ⟨PyData.keyHash P (Str.ofString "rest"), .str (Str.ofString "rest") 656, .ref 343⟩, ⟨PyData.keyHash P (Str.ofString "check"), .str (Str.ofString "check") 663, .ref 350⟩, ⟨PyData.keyHash P (Str.ofString "joined"), .str (Str.ofString "joined") 672, .ref 357⟩, ⟨PyData.keyHash P (Str.ofString "__static_attributes__"), .str (Str.ofString "__static_attributes__") 676, .ref 358⟩, ⟨PyData.keyHash P (Str.ofString "__dict__"), .str (Str.ofString "__dict__") 678, .ref 361⟩, ⟨PyData.keyHash P (Str.ofString "__weakref__"), .str (Str.ofString "__weakref__") 680, .ref 362⟩, ⟨PyData.keyHash P (Str.ofString "__doc__"), .str (Str.ofString "__doc__") 681, .none⟩]) 4, List.toArray []⟩
noncomputable def v431 (_P : Params) : PySem.Obj := ⟨.type "type", none, .cls ⟨Str.ofString "Register", [.type "object"], [.ref 360, .type "object"], 359, Str.ofString "Register", true, [], [], false, none, false⟩, List.toArray [none, none, some (.str (Str.ofString "Register") 615), some (.str (Str.ofString "Register") 623), some (.builtin "object.__new__"), some (.bool true)]⟩
noncomputable def v432 (_P : Params) : PySem.Obj := ⟨.type "getset_descriptor", none, .fields (List.toArray [.str (Str.ofString "__dict__") 677, .ref 360, .builtin "function.__dict__", .builtin "function.__dict__#set"]), List.toArray []⟩
noncomputable def v433 (_P : Params) : PySem.Obj := ⟨.type "getset_descriptor", none, .fields (List.toArray [.str (Str.ofString "__weakref__") 679, .ref 360, .builtin "ExceptionGroup.__weakref__", .none]), List.toArray []⟩
noncomputable def v434 (_P : Params) : PySem.Obj := ⟨.type "super", none, .fields (List.toArray [.ref 360, .ref 360, .ref 360]), List.toArray []⟩
noncomputable def v435 (_P : Params) : PySem.Obj := ⟨.type "builtin_function_or_method", none, .fields (List.toArray [.builtin "object.__init_subclass__", .ref 360]), List.toArray []⟩
noncomputable def tr435 (P : Params) : PySem.W.BT := .node (PySem.W.boot_o_0 P) (.node (PySem.W.boot_o_1 P) (.node (v378 P) (.node (PySem.W.boot_o_7 P) (.node (v51 P) (.node (v193 P) (.node (v108 P) (.node (v187 P) (.node (v322 P) .nil .nil) .nil) (.node (v256 P) (.node (v390 P) .nil .nil) .nil)) (.node (v149 P) (.node (v222 P) (.node (v356 P) .nil .nil) .nil) (.node (v290 P) (.node (v422 P) .nil .nil) .nil))) (.node (v89 P) (.node (v127 P) (.node (v206 P) (.node (v338 P) .nil .nil) .nil) (.node (v272 P) (.node (v406 P) .nil .nil) .nil)) (.node (v168 P) (.node (v238 P) (.node (v372 P) .nil .nil) .nil) (.node (v306 P) .nil .nil)))) (.node (v59 P) (.node (v78 P) (.node (v119 P) (.node (v198 P) (.node (v330 P) .nil .nil) .nil) (.node (v264 P) (.node (v398 P) .nil .nil) .nil)) (.node (v157 P) (.node (v230 P) (.node (v364 P) .nil .nil) .nil) (.node (v298 P) (.node (v430 P) .nil .nil) .nil))) (.node (v97 P) (.node (v138 P) (.node (v214 P) (.node (v346 P) .nil .nil) .nil) (.node (v282 P) (.node (v414 P) .nil .nil) .nil)) (.node (v179 P) (.node (v248 P) (.node (v382 P) .nil .nil) .nil) (.node (v314 P) .nil .nil))))) (.node (v43 P) (.node (v55 P) (.node (v74 P) (.node (v112 P) (.node (v194 P) (.node (v326 P) .nil .nil) .nil) (.node (v260 P) (.node (v394 P) .nil .nil) .nil)) (.node (v153 P) (.node (v226 P) (.node (v360 P) .nil .nil) .nil) (.node (v294 P) (.node (v426 P) .nil .nil) .nil))) (.node (v93 P) (.node (v134 P) (.node (v210 P) (.node (v342 P) .nil .nil) .nil) (.node (v278 P) (.node (v410 P) .nil .nil) .nil)) (.node (v172 P) (.node (v244 P) (.node (v376 P) .nil .nil) .nil) (.node (v310 P) .nil .nil)))) (.node (v63 P) (.node (v82 P) (.node (v123 P) (.node (v202 P) (.node (v334 P) .nil .nil) .nil) (.node (v268 P) (.node (v402 P) .nil .nil) .nil)) (.node (v164 P) (.node (v234 P) (.node (v368 P) .nil .nil) .nil) (.node (v302 P) (.node (v434 P) .nil .nil) .nil))) (.node (v104 P) (.node (v142 P) (.node (v218 P) (.node (v352 P) .nil .nil) .nil) (.node (v286 P) (.node (v418 P) .nil .nil) .nil)) (.node (v183 P) (.node (v252 P) (.node (v386 P) .nil .nil) .nil) (.node (v318 P) .nil .nil)))))) (.node (PySem.W.boot_o_5 P) (.node (PySem.W.boot_o_9 P) (.node (v53 P) (.node (v69 P) (.node (v110 P) (.node (v189 P) (.node (v324 P) .nil .nil) .nil) (.node (v258 P) (.node (v392 P) .nil .nil) .nil)) (.node (v151 P) (.node (v224 P) (.node (v358 P) .nil .nil) .nil) (.node (v292 P) (.node (v424 P) .nil .nil) .nil))) (.node (v91 P) (.node (v129 P) (.node (v208 P) (.node (v340 P) .nil .nil) .nil) (.node (v274 P) (.node (v408 P) .nil .nil) .nil)) (.node (v170 P) (.node (v242 P) (.node (v374 P) .nil .nil) .nil) (.node (v308 P) .nil .nil)))) (.node (v61 P) (.node (v80 P) (.node (v121 P) (.node (v200 P) (.node (v332 P) .nil .nil) .nil) (.node (v266 P) (.node (v400 P) .nil .nil) .nil)) (.node (v159 P) (.node (v232 P) (.node (v366 P) .nil .nil) .nil) (.node (v300 P) (.node (v432 P) .nil .nil) .nil))) (.node (v99 P) (.node (v140 P) (.node (v216 P) (.node (v350 P) .nil .nil) .nil) (.node (v284 P) (.node (v416 P) .nil .nil) .nil)) (.node (v181 P) (.node (v250 P) (.node (v384 P) .nil .nil) .nil) (.node (v316 P) .nil .nil))))) (.node (v45 P) (.node (v57 P) (.node (v76 P) (.node (v114 P) (.node (v196 P) (.node (v328 P) .nil .nil) .nil) (.node (v262 P) (.node (v396 P) .nil .nil) .nil)) (.node (v155 P) (.node (v228 P) (.node (v362 P) .nil .nil) .nil) (.node (v296 P) (.node (v428 P) .nil .nil) .nil))) (.node (v95 P) (.node (v136 P) (.node (v212 P) (.node (v344 P) .nil .nil) .nil) (.node (v280 P) (.node (v412 P) .nil .nil) .nil)) (.node (v174 P) (.node (v246 P) (.node (v380 P) .nil .nil) .nil) (.node (v312 P) .nil .nil)))) (.node (v65 P) (.node (v84 P) (.node (v125 P) (.node (v204 P) (.node (v336 P) .nil .nil) .nil) (.node (v270 P) (.node (v404 P) .nil .nil) .nil)) (.node (v166 P) (.node (v236 P) (.node (v370 P) .nil .nil) .nil) (.node (v304 P) .nil .nil))) (.node (v106 P) (.node (v144 P) (.node (v220 P) (.node (v354 P) .nil .nil) .nil) (.node (v288 P) (.node (v420 P) .nil .nil) .nil)) (.node (v185 P) (.node (v254 P) (.node (v388 P) .nil .nil) .nil) (.node (v320 P) .nil .nil))))))) (.node (PySem.W.boot_o_2 P) (.node (PySem.W.boot_o_4 P) (.node (PySem.W.boot_o_8 P) (.node (v52 P) (.node (v68 P) (.node (v109 P) (.node (v188 P) (.node (v323 P) .nil .nil) .nil) (.node (v257 P) (.node (v391 P) .nil .nil) .nil)) (.node (v150 P) (.node (v223 P) (.node (v357 P) .nil .nil) .nil) (.node (v291 P) (.node (v423 P) .nil .nil) .nil))) (.node (v90 P) (.node (v128 P) (.node (v207 P) (.node (v339 P) .nil .nil) .nil) (.node (v273 P) (.node (v407 P) .nil .nil) .nil)) (.node (v169 P) (.node (v241 P) (.node (v373 P) .nil .nil) .nil) (.node (v307 P) .nil .nil)))) (.node (v60 P) (.node (v79 P) (.node (v120 P) (.node (v199 P) (.node (v331 P) .nil .nil) .nil) (.node (v265 P) (.node (v399 P) .nil .nil) .nil)) (.node (v158 P) (.node (v231 P) (.node (v365 P) .nil .nil) .nil) (.node (v299 P) (.node (v431 P) .nil .nil) .nil))) (.node (v98 P) (.node (v139 P) (.node (v215 P) (.node (v347 P) .nil .nil) .nil) (.node (v283 P) (.node (v415 P) .nil .nil) .nil)) (.node (v180 P) (.node (v249 P) (.node (v383 P) .nil .nil) .nil) (.node (v315 P) .nil .nil))))) (.node (v379 P) (.node (v56 P) (.node (v75 P) (.node (v113 P) (.node (v195 P) (.node (v327 P) .nil .nil) .nil) (.node (v261 P) (.node (v395 P) .nil .nil) .nil)) (.node (v154 P) (.node (v227 P) (.node (v361 P) .nil .nil) .nil) (.node (v295 P) (.node (v427 P) .nil .nil) .nil))) (.node (v94 P) (.node (v135 P) (.node (v211 P) (.node (v343 P) .nil .nil) .nil) (.node (v279 P) (.node (v411 P) .nil .nil) .nil)) (.node (v173 P) (.node (v245 P) (.node (v377 P) .nil .nil) .nil) (.node (v311 P) .nil .nil)))) (.node (v64 P) (.node (v83 P) (.node (v124 P) (.node (v203 P) (.node (v335 P) .nil .nil) .nil) (.node (v269 P) (.node (v403 P) .nil .nil) .nil)) (.node (v165 P) (.node (v235 P) (.node (v369 P) .nil .nil) .nil) (.node (v303 P) (.node (v435 P) .nil .nil) .nil))) (.node (v105 P) (.node (v143 P) (.node (v219 P) (.node (v353 P) .nil .nil) .nil) (.node (v287 P) (.node (v419 P) .nil .nil) .nil)) (.node (v184 P) (.node (v253 P) (.node (v387 P) .nil .nil) .nil) (.node (v319 P) .nil .nil)))))) (.node (PySem.W.boot_o_6 P) (.node (PySem.W.boot_o_10 P) (.node (v54 P) (.node (v70 P) (.node (v111 P) (.node (v190 P) (.node (v325 P) .nil .nil) .nil) (.node (v259 P) (.node (v393 P) .nil .nil) .nil)) (.node (v152 P) (.node (v225 P) (.node (v359 P) .nil .nil) .nil) (.node (v293 P) (.node (v425 P) .nil .nil) .nil))) (.node (v92 P) (.node (v130 P) (.node (v209 P) (.node (v341 P) .nil .nil) .nil) (.node (v275 P) (.node (v409 P) .nil .nil) .nil)) (.node (v171 P) (.node (v243 P) (.node (v375 P) .nil .nil) .nil) (.node (v309 P) .nil .nil)))) (.node (v62 P) (.node (v81 P) (.node (v122 P) (.node (v201 P) (.node (v333 P) .nil .nil) .nil) (.node (v267 P) (.node (v401 P) .nil .nil) .nil)) (.node (v160 P) (.node (v233 P) (.node (v367 P) .nil .nil) .nil) (.node (v301 P) (.node (v433 P) .nil .nil) .nil))) (.node (v100 P) (.node (v141 P) (.node (v217 P) (.node (v351 P) .nil .nil) .nil) (.node (v285 P) (.node (v417 P) .nil .nil) .nil)) (.node (v182 P) (.node (v251 P) (.node (v385 P) .nil .nil) .nil) (.node (v317 P) .nil .nil))))) (.node (v46 P) (.node (v58 P) (.node (v77 P) (.node (v115 P) (.node (v197 P) (.node (v329 P) .nil .nil) .nil) (.node (v263 P) (.node (v397 P) .nil .nil) .nil)) (.node (v156 P) (.node (v229 P) (.node (v363 P) .nil .nil) .nil) (.node (v297 P) (.node (v429 P) .nil .nil) .nil))) (.node (v96 P) (.node (v137 P) (.node (v213 P) (.node (v345 P) .nil .nil) .nil) (.node (v281 P) (.node (v413 P) .nil .nil) .nil)) (.node (v175 P) (.node (v247 P) (.node (v381 P) .nil .nil) .nil) (.node (v313 P) .nil .nil)))) (.node (v66 P) (.node (v85 P) (.node (v126 P) (.node (v205 P) (.node (v337 P) .nil .nil) .nil) (.node (v271 P) (.node (v405 P) .nil .nil) .nil)) (.node (v167 P) (.node (v237 P) (.node (v371 P) .nil .nil) .nil) (.node (v305 P) .nil .nil))) (.node (v107 P) (.node (v145 P) (.node (v221 P) (.node (v355 P) .nil .nil) .nil) (.node (v289 P) (.node (v421 P) .nil .nil) .nil)) (.node (v186 P) (.node (v255 P) (.node (v389 P) .nil .nil) .nil) (.node (v321 P) .nil .nil)))))))
noncomputable def v436 (P : Params) : PySem.Obj := ⟨.type "dict", none, .dict (List.toArray [⟨PyData.keyHash P (Str.ofString "__name__"), .str (Str.ofString "__name__") 165, .str (Str.ofString "law_uf040037_06") 684⟩, ⟨PyData.keyHash P (Str.ofString "__doc__"), .str (Str.ofString "__doc__") 166, .none⟩, ⟨PyData.keyHash P (Str.ofString "__package__"), .str (Str.ofString "__package__") 167, .none⟩, ⟨PyData.keyHash P (Str.ofString "__loader__"), .str (Str.ofString "__loader__") 168, .builtin "__main__.__loader__#opaque"⟩, ⟨PyData.keyHash P (Str.ofString "__spec__"), .str (Str.ofString "__spec__") 169, .none⟩, ⟨PyData.keyHash P (Str.ofString "__annotations__"), .str (Str.ofString "__annotations__") 170, .ref 6⟩, ⟨PyData.keyHash P (Str.ofString "__builtins__"), .str (Str.ofString "__builtins__") 171, .ref 4⟩, ⟨PyData.keyHash P (Str.ofString "__file__"), .str (Str.ofString "__file__") 173, .str (Str.ofString "/claim/cut.py") 172⟩, ⟨PyData.keyHash P (Str.ofString "__cached__"), .str (Str.ofString "__cached__") 174, .none⟩, ⟨PyData.keyHash P (Str.ofString "_wall"), .str (Str.ofString "_wall") 193, .ref 21⟩, ⟨PyData.keyHash P (Str.ofString "GateError"), .str (Str.ofString "GateError") 213, .ref 31⟩, ⟨PyData.keyHash P (Str.ofString "NoRow"), .str (Str.ofString "NoRow") 229, .ref 44⟩, ⟨PyData.keyHash P (Str.ofString "NoSign"), .str (Str.ofString "NoSign") 245, .ref 56⟩, ⟨PyData.keyHash P (Str.ofString "NoDivisor"), .str (Str.ofString "NoDivisor") 261, .ref 68⟩, ⟨PyData.keyHash P (Str.ofString "NoCount"), .str (Str.ofString "NoCount") 277, .ref 80⟩, ⟨PyData.keyHash P (Str.ofString "TooLong"), .str (Str.ofString "TooLong") 293, .ref 92⟩, ⟨PyData.keyHash P (Str.ofString "TooShort"), .str (Str.ofString "TooShort") 309, .ref 104⟩, ⟨PyData.keyHash P (Str.ofString "Broken"), .str (Str.ofString "Broken") 325, .ref 116⟩, ⟨PyData.keyHash P (Str.ofString "NoMate"), .str (Str.ofString "NoMate") 341, .ref 128⟩, ⟨PyData.keyHash P (Str.ofString "NoText"), .str (Str.ofString "NoText") 357, .ref 140⟩, ⟨PyData.keyHash P (Str.ofString "is_sign"), .str (Str.ofString "is_sign") 366, .ref 149⟩, ⟨PyData.keyHash P (Str.ofString "need_row"), .str (Str.ofString "need_row") 374, .ref 156⟩, ⟨PyData.keyHash P (Str.ofString "value_of"), .str (Str.ofString "value_of") 383, .ref 163⟩, ⟨PyData.keyHash P (Str.ofString "signs_of"), .str (Str.ofString "signs_of") 393, .ref 170⟩, ⟨PyData.keyHash P (Str.ofString "added"), .str (Str.ofString "added") 399, .ref 175⟩, ⟨PyData.keyHash P (Str.ofString "times"), .str (Str.ofString "times") 412, .ref 182⟩, ⟨PyData.keyHash P (Str.ofString "parted"), .str (Str.ofString "parted") 427, .ref 189⟩, ⟨PyData.keyHash P (Str.ofString "LEAST"), .str (Str.ofString "LEAST") 431, .int 2 430⟩, ⟨PyData.keyHash P (Str.ofString "MOST"), .str (Str.ofString "MOST") 433, .int 13 432⟩, ⟨PyData.keyHash P (Str.ofString "need_divisor"), .str (Str.ofString "need_divisor") 440, .ref 196⟩, ⟨PyData.keyHash P (Str.ofString "onward"), .str (Str.ofString "onward") 449, .ref 203⟩, ⟨PyData.keyHash P (Str.ofString "reach"), .str (Str.ofString "reach") 460, .ref 210⟩, ⟨PyData.keyHash P (Str.ofString "MOST_NOUGHTS"), .str (Str.ofString "MOST_NOUGHTS") 466, .int 1000000000000000000 465⟩, ⟨PyData.keyHash P (Str.ofString "Gate"), .str (Str.ofString "Gate") 563, .ref 276⟩, ⟨PyData.keyHash P (Str.ofString "LETTERS"), .str (Str.ofString "LETTERS") 567, .str (Str.ofString " !\"#$&'()*+,-./0123456789:;<=>?@ABCDEFGHIJKLMNOPQRSTUVWXYZ[\\]^_`abcdefghijklmnopqrstuvwxyz{|}~") 566⟩, ⟨PyData.keyHash P (Str.ofString "WIDE"), .str (Str.ofString "WIDE") 569, .int 7 568⟩, ⟨PyData.keyHash P (Str.ofString "FIRST"), .str (Str.ofString "FIRST") 571, .int 32 570⟩, ⟨PyData.keyHash P (Str.ofString "LAST"), .str (Str.ofString "LAST") 573, .int 126 572⟩, ⟨PyData.keyHash P (Str.ofString "LEFT_OUT"), .str (Str.ofString "LEFT_OUT") 575, .int 37 574⟩, ⟨PyData.keyHash P (Str.ofString "is_letter"), .str (Str.ofString "is_letter") 582, .ref 287⟩, ⟨PyData.keyHash P (Str.ofString "letter_of"), .str (Str.ofString "letter_of") 589, .ref 294⟩, ⟨PyData.keyHash P (Str.ofString "row_of"), .str (Str.ofString "row_of") 598, .ref 301⟩, ⟨PyData.keyHash P (Str.ofString "text_of"), .str (Str.ofString "text_of") 608, .ref 308⟩, ⟨PyData.keyHash P (Str.ofString "MOST_SIGNS"), .str (Str.ofString "MOST_SIGNS") 614, .int 1000000000000000000 613⟩, ⟨PyData.keyHash P (Str.ofString "Register"), .str (Str.ofString "Register") 683, .ref 360⟩, ⟨PyData.keyHash P (Str.ofString "_law_cell_at"), .str (Str.ofString "_law_cell_at") 693, .ref 371⟩, ⟨PyData.keyHash P (Str.ofString "_law_row_by"), .str (Str.ofString "_law_row_by") 699, .ref 376⟩, ⟨PyData.keyHash P (Str.ofString "_law_bad"), .str (Str.ofString "_law_bad") 708, .ref 383⟩, ⟨PyData.keyHash P (Str.ofString "_law_rows_called"), .str (Str.ofString "_law_rows_called") 717, .ref 390⟩, ⟨PyData.keyHash P (Str.ofString "_law_gate_called"), .str (Str.ofString "_law_gate_called") 726, .ref 397⟩, ⟨PyData.keyHash P (Str.ofString "_law_else_called"), .str (Str.ofString "_law_else_called") 735, .ref 404⟩, ⟨PyData.keyHash P (Str.ofString "_law_words"), .str (Str.ofString "_law_words") 747, .ref 411⟩, ⟨PyData.keyHash P (Str.ofString "law"), .str (Str.ofString "law") 760, .ref 418⟩]) 53, List.toArray []⟩
noncomputable def v437 (_P : Params) : PySem.Obj := ⟨.none, none, .fields (List.toArray [.int 1 0, .int 0 0, .ref 20, .int 5 0, .int 0 0, .ref 27, .int 7 0, .int 0 0, .ref 40, .int 9 0, .int 0 0, .ref 52, .int 11 0, .int 0 0, .ref 64, .int 13 0, .int 0 0, .ref 76, .int 15 0, .int 0 0, .ref 88, .int 17 0, .int 0 0, .ref 100, .int 19 0, .int 0 0, .ref 112, .int 21 0, .int 0 0, .ref 124, .int 23 0, .int 0 0, .ref 136, .int 26 0, .int 0 0, .ref 148, .int 28 0, .int 0 0, .ref 155, .int 34 0, .int 0 0, .ref 162, .int 39 0, .int 0 0, .ref 169, .int 45 0, .int 0 0, .ref 174, .int 52 0, .int 0 0, .ref 181, .int 63 0, .int 0 0, .ref 188, .int 81 0, .int 0 0, .ref 195, .int 87 0, .int 0 0, .ref 202, .int 92 0, .int 0 0, .ref 209, .int 104 0, .int 0 0, .ref 216, .int 167 0, .int 0 0, .ref 286, .int 169 0, .int 0 0, .ref 293, .int 173 0, .int 0 0, .ref 300, .int 182 0, .int 0 0, .ref 307, .int 195 0, .int 0 0, .ref 314, .int 226 0, .int 0 0, .ref 370, .int 230 0, .int 0 0, .ref 375, .int 243 0, .int 0 0, .ref 382, .int 248 0, .int 0 0, .ref 389, .int 266 0, .int 0 0, .ref 396, .int 280 0, .int 0 0, .ref 403, .int 304 0, .int 0 0, .ref 410, .int 319 0, .int 0 0, .ref 417]), List.toArray []⟩
noncomputable def v438 (_P : Params) : PySem.Obj := ⟨.type "tuple", none, .seq (List.toArray []) 0, List.toArray []⟩
noncomputable def v439 (_P : Params) : PySem.Obj := ⟨.none, none, .fields (List.toArray []), List.toArray []⟩
noncomputable def v440 (_P : Params) : PySem.Obj := ⟨.type "tuple", none, .seq (List.toArray [.str (Str.ofString "_law_script") 689, .str (Str.ofString "_law_k") 690]) 0, List.toArray []⟩
noncomputable def v441 (_P : Params) : PySem.Obj := ⟨.type "tuple", none, .seq (List.toArray []) 0, List.toArray []⟩
noncomputable def v442 (_P : Params) : PySem.Obj := (fun (p : Arguments) (b : List Stmt) (s : Scope) (_ : (p, b, s) = fnP (nthS pW.main.body 43)) => (⟨.none, none, .func ⟨Str.ofString "_law_cell_at", Str.ofString "_law_cell_at", p, .stmts b, s, 0, [], .none, .none, .none, .none, none, .none, .none, 0⟩, List.toArray []⟩ : Obj)) _ _ _ rfl
noncomputable def v443 (_P : Params) : PySem.Obj := ⟨.type "code", none, .fields (List.toArray [.str (Str.ofString "_law_cell_at") 686, .str (Str.ofString "_law_cell_at") 687, .str (Str.ofString "/claim/cut.py") 688, .int 226 0, .int 2 0, .int 0 0, .int 0 0, .int 3 0, .ref 365, .bool true, .int 181 0, .ref 366, .none, .ref 367, .ref 368, .ref 369, .int 691 0, .int 226 0, .str (Str.ofString "/claim/cut.py") 692]), List.toArray []⟩
noncomputable def v444 (_P : Params) : PySem.Obj := (fun (p : Arguments) (b : List Stmt) (s : Scope) (_ : (p, b, s) = fnP (nthS pW.main.body 43)) => (⟨.type "function", none, .func ⟨Str.ofString "_law_cell_at", Str.ofString "_law_cell_at", p, .stmts b, s, 3, [], .none, .none, .none, .str (Str.ofString "law_uf040037_06") 684, none, .ref 370, .none, 0⟩, List.toArray []⟩ : Obj)) _ _ _ rfl
noncomputable def v445 (_P : Params) : PySem.Obj := ⟨.type "tuple", none, .seq (List.toArray []) 0, List.toArray []⟩
noncomputable def v446 (_P : Params) : PySem.Obj := ⟨.none, none, .fields (List.toArray []), List.toArray []⟩
noncomputable def v447 (_P : Params) : PySem.Obj := (fun (p : Arguments) (b : List Stmt) (s : Scope) (_ : (p, b, s) = fnP (nthS pW.main.body 44)) => (⟨.none, none, .func ⟨Str.ofString "_law_row_by", Str.ofString "_law_row_by", p, .stmts b, s, 0, [], .none, .none, .none, .none, none, .none, .none, 0⟩, List.toArray []⟩ : Obj)) _ _ _ rfl
noncomputable def v448 (_P : Params) : PySem.Obj := ⟨.type "code", none, .fields (List.toArray [.str (Str.ofString "_law_row_by") 694, .str (Str.ofString "_law_row_by") 695, .str (Str.ofString "/claim/cut.py") 696, .int 230 0, .int 2 0, .int 0 0, .int 0 0, .int 3 0, .ref 372, .bool true, .int 181 0, .ref 373, .none, .none, .none, .ref 374, .int 697 0, .int 230 0, .str (Str.ofString "/claim/cut.py") 698]), List.toArray []⟩
noncomputable def v449 (_P : Params) : PySem.Obj := (fun (p : Arguments) (b : List Stmt) (s : Scope) (_ : (p, b, s) = fnP (nthS pW.main.body 44)) => (⟨.type "function", none, .func ⟨Str.ofString "_law_row_by", Str.ofString "_law_row_by", p, .stmts b, s, 3, [], .none, .none, .none, .str (Str.ofString "law_uf040037_06") 684, none, .ref 375, .none, 0⟩, List.toArray []⟩ : Obj)) _ _ _ rfl
noncomputable def v450 (_P : Params) : PySem.Obj := ⟨.type "tuple", none, .seq (List.toArray []) 0, List.toArray []⟩
noncomputable def v451 (_P : Params) : PySem.Obj := ⟨.none, none, .fields (List.toArray []), List.toArray []⟩
noncomputable def v452 (_P : Params) : PySem.Obj := ⟨.type "tuple", none, .seq (List.toArray [.str (Str.ofString "_law_cell") 703, .str (Str.ofString "_law_row") 704, .str (Str.ofString "_law_at") 705]) 0, List.toArray []⟩
noncomputable def v453 (_P : Params) : PySem.Obj := ⟨.type "tuple", none, .seq (List.toArray []) 0, List.toArray []⟩
noncomputable def v454 (_P : Params) : PySem.Obj := (fun (p : Arguments) (b : List Stmt) (s : Scope) (_ : (p, b, s) = fnP (nthS pW.main.body 45)) => (⟨.none, none, .func ⟨Str.ofString "_law_bad", Str.ofString "_law_bad", p, .stmts b, s, 0, [], .none, .none, .none, .none, none, .none, .none, 0⟩, List.toArray []⟩ : Obj)) _ _ _ rfl
noncomputable def v455 (_P : Params) : PySem.Obj := ⟨.type "code", none, .fields (List.toArray [.str (Str.ofString "_law_bad") 700, .str (Str.ofString "_law_bad") 701, .str (Str.ofString "/claim/cut.py") 702, .int 243 0, .int 2 0, .int 0 0, .int 0 0, .int 3 0, .ref 377, .bool true, .int 181 0, .ref 378, .none, .ref 379, .ref 380, .ref 381, .int 706 0, .int 243 0, .str (Str.ofString "/claim/cut.py") 707]), List.toArray []⟩
noncomputable def v456 (_P : Params) : PySem.Obj := (fun (p : Arguments) (b : List Stmt) (s : Scope) (_ : (p, b, s) = fnP (nthS pW.main.body 45)) => (⟨.type "function", none, .func ⟨Str.ofString "_law_bad", Str.ofString "_law_bad", p, .stmts b, s, 3, [], .none, .none, .none, .str (Str.ofString "law_uf040037_06") 684, none, .ref 382, .none, 0⟩, List.toArray []⟩ : Obj)) _ _ _ rfl
noncomputable def v457 (_P : Params) : PySem.Obj := ⟨.type "tuple", none, .seq (List.toArray []) 0, List.toArray []⟩
noncomputable def v458 (_P : Params) : PySem.Obj := ⟨.none, none, .fields (List.toArray []), List.toArray []⟩
noncomputable def v459 (_P : Params) : PySem.Obj := ⟨.type "tuple", none, .seq (List.toArray [.str (Str.ofString "_law_which") 712, .str (Str.ofString "_law_bad_here") 713, .str (Str.ofString "_law_row") 714]) 0, List.toArray []⟩
noncomputable def v460 (_P : Params) : PySem.Obj := ⟨.type "tuple", none, .seq (List.toArray []) 0, List.toArray []⟩
noncomputable def v461 (_P : Params) : PySem.Obj := (fun (p : Arguments) (b : List Stmt) (s : Scope) (_ : (p, b, s) = fnP (nthS pW.main.body 46)) => (⟨.none, none, .func ⟨Str.ofString "_law_rows_called", Str.ofString "_law_rows_called", p, .stmts b, s, 0, [], .none, .none, .none, .none, none, .none, .none, 0⟩, List.toArray []⟩ : Obj)) _ _ _ rfl
noncomputable def v462 (_P : Params) : PySem.Obj := ⟨.type "code", none, .fields (List.toArray [.str (Str.ofString "_law_rows_called") 709, .str (Str.ofString "_law_rows_called") 710, .str (Str.ofString "/claim/cut.py") 711, .int 248 0, .int 3 0, .int 0 0, .int 0 0, .int 3 0, .ref 384, .bool true, .int 181 0, .ref 385, .none, .ref 386, .ref 387, .ref 388, .int 715 0, .int 248 0, .str (Str.ofString "/claim/cut.py") 716]), List.toArray []⟩
noncomputable def v463 (_P : Params) : PySem.Obj := (fun (p : Arguments) (b : List Stmt) (s : Scope) (_ : (p, b, s) = fnP (nthS pW.main.body 46)) => (⟨.type "function", none, .func ⟨Str.ofString "_law_rows_called", Str.ofString "_law_rows_called", p, .stmts b, s, 3, [], .none, .none, .none, .str (Str.ofString "law_uf040037_06") 684, none, .ref 389, .none, 0⟩, List.toArray []⟩ : Obj)) _ _ _ rfl
noncomputable def v464 (_P : Params) : PySem.Obj := ⟨.type "tuple", none, .seq (List.toArray []) 0, List.toArray []⟩
noncomputable def v465 (_P : Params) : PySem.Obj := ⟨.none, none, .fields (List.toArray []), List.toArray []⟩
noncomputable def v466 (_P : Params) : PySem.Obj := ⟨.type "tuple", none, .seq (List.toArray [.str (Str.ofString "_law_which") 721, .str (Str.ofString "_law_bad_here") 722, .str (Str.ofString "_law_gate") 723]) 0, List.toArray []⟩
noncomputable def v467 (_P : Params) : PySem.Obj := ⟨.type "tuple", none, .seq (List.toArray []) 0, List.toArray []⟩
noncomputable def v468 (_P : Params) : PySem.Obj := (fun (p : Arguments) (b : List Stmt) (s : Scope) (_ : (p, b, s) = fnP (nthS pW.main.body 47)) => (⟨.none, none, .func ⟨Str.ofString "_law_gate_called", Str.ofString "_law_gate_called", p, .stmts b, s, 0, [], .none, .none, .none, .none, none, .none, .none, 0⟩, List.toArray []⟩ : Obj)) _ _ _ rfl
noncomputable def v469 (_P : Params) : PySem.Obj := ⟨.type "code", none, .fields (List.toArray [.str (Str.ofString "_law_gate_called") 718, .str (Str.ofString "_law_gate_called") 719, .str (Str.ofString "/claim/cut.py") 720, .int 266 0, .int 3 0, .int 0 0, .int 0 0, .int 3 0, .ref 391, .bool true, .int 181 0, .ref 392, .none, .ref 393, .ref 394, .ref 395, .int 724 0, .int 266 0, .str (Str.ofString "/claim/cut.py") 725]), List.toArray []⟩
noncomputable def v470 (_P : Params) : PySem.Obj := (fun (p : Arguments) (b : List Stmt) (s : Scope) (_ : (p, b, s) = fnP (nthS pW.main.body 47)) => (⟨.type "function", none, .func ⟨Str.ofString "_law_gate_called", Str.ofString "_law_gate_called", p, .stmts b, s, 3, [], .none, .none, .none, .str (Str.ofString "law_uf040037_06") 684, none, .ref 396, .none, 0⟩, List.toArray []⟩ : Obj)) _ _ _ rfl
noncomputable def v471 (_P : Params) : PySem.Obj := ⟨.type "tuple", none, .seq (List.toArray []) 0, List.toArray []⟩
noncomputable def v472 (_P : Params) : PySem.Obj := ⟨.none, none, .fields (List.toArray []), List.toArray []⟩
noncomputable def v473 (_P : Params) : PySem.Obj := ⟨.type "tuple", none, .seq (List.toArray [.str (Str.ofString "_law_which") 730, .str (Str.ofString "_law_row") 731, .str (Str.ofString "_law_gate") 732]) 0, List.toArray []⟩
noncomputable def v474 (_P : Params) : PySem.Obj := ⟨.type "tuple", none, .seq (List.toArray []) 0, List.toArray []⟩
noncomputable def v475 (_P : Params) : PySem.Obj := (fun (p : Arguments) (b : List Stmt) (s : Scope) (_ : (p, b, s) = fnP (nthS pW.main.body 48)) => (⟨.none, none, .func ⟨Str.ofString "_law_else_called", Str.ofString "_law_else_called", p, .stmts b, s, 0, [], .none, .none, .none, .none, none, .none, .none, 0⟩, List.toArray []⟩ : Obj)) _ _ _ rfl
noncomputable def v476 (_P : Params) : PySem.Obj := ⟨.type "code", none, .fields (List.toArray [.str (Str.ofString "_law_else_called") 727, .str (Str.ofString "_law_else_called") 728, .str (Str.ofString "/claim/cut.py") 729, .int 280 0, .int 3 0, .int 0 0, .int 0 0, .int 3 0, .ref 398, .bool true, .int 181 0, .ref 399, .none, .ref 400, .ref 401, .ref 402, .int 733 0, .int 280 0, .str (Str.ofString "/claim/cut.py") 734]), List.toArray []⟩
noncomputable def v477 (_P : Params) : PySem.Obj := (fun (p : Arguments) (b : List Stmt) (s : Scope) (_ : (p, b, s) = fnP (nthS pW.main.body 48)) => (⟨.type "function", none, .func ⟨Str.ofString "_law_else_called", Str.ofString "_law_else_called", p, .stmts b, s, 3, [], .none, .none, .none, .str (Str.ofString "law_uf040037_06") 684, none, .ref 403, .none, 0⟩, List.toArray []⟩ : Obj)) _ _ _ rfl
noncomputable def v478 (_P : Params) : PySem.Obj := ⟨.type "tuple", none, .seq (List.toArray []) 0, List.toArray []⟩
noncomputable def v479 (_P : Params) : PySem.Obj := ⟨.none, none, .fields (List.toArray []), List.toArray []⟩
noncomputable def v480 (_P : Params) : PySem.Obj := ⟨.type "tuple", none, .seq (List.toArray [.str (Str.ofString "_law_which") 739, .str (Str.ofString "_law_bad_here") 740, .str (Str.ofString "_law_row") 741, .str (Str.ofString "_law_gate") 742, .str (Str.ofString "e") 743, .str (Str.ofString "_law_words_here") 744]) 0, List.toArray []⟩
noncomputable def v481 (_P : Params) : PySem.Obj := ⟨.type "tuple", none, .seq (List.toArray []) 0, List.toArray []⟩
noncomputable def v482 (_P : Params) : PySem.Obj := (fun (p : Arguments) (b : List Stmt) (s : Scope) (_ : (p, b, s) = fnP (nthS pW.main.body 49)) => (⟨.none, none, .func ⟨Str.ofString "_law_words", Str.ofString "_law_words", p, .stmts b, s, 0, [], .none, .none, .none, .none, none, .none, .none, 0⟩, List.toArray []⟩ : Obj)) _ _ _ rfl
noncomputable def v483 (_P : Params) : PySem.Obj := ⟨.type "code", none, .fields (List.toArray [.str (Str.ofString "_law_words") 736, .str (Str.ofString "_law_words") 737, .str (Str.ofString "/claim/cut.py") 738, .int 304 0, .int 4 0, .int 0 0, .int 0 0, .int 3 0, .ref 405, .bool true, .int 181 0, .ref 406, .none, .ref 407, .ref 408, .ref 409, .int 745 0, .int 304 0, .str (Str.ofString "/claim/cut.py") 746]), List.toArray []⟩
noncomputable def v484 (_P : Params) : PySem.Obj := (fun (p : Arguments) (b : List Stmt) (s : Scope) (_ : (p, b, s) = fnP (nthS pW.main.body 49)) => (⟨.type "function", none, .func ⟨Str.ofString "_law_words", Str.ofString "_law_words", p, .stmts b, s, 3, [], .none, .none, .none, .str (Str.ofString "law_uf040037_06") 684, none, .ref 410, .none, 0⟩, List.toArray []⟩ : Obj)) _ _ _ rfl
noncomputable def v485 (_P : Params) : PySem.Obj := ⟨.type "tuple", none, .seq (List.toArray []) 0, List.toArray []⟩
noncomputable def v486 (_P : Params) : PySem.Obj := ⟨.none, none, .fields (List.toArray []), List.toArray []⟩
noncomputable def v487 (_P : Params) : PySem.Obj := ⟨.type "tuple", none, .seq (List.toArray [.str (Str.ofString "_law_script") 751, .str (Str.ofString "_law_size") 752, .str (Str.ofString "_law_row") 753, .str (Str.ofString "_law_which") 754, .str (Str.ofString "_law_gate") 755, .str (Str.ofString "_law_bad_here") 756, .str (Str.ofString "_law_due") 757]) 0, List.toArray []⟩
noncomputable def v488 (_P : Params) : PySem.Obj := ⟨.type "tuple", none, .seq (List.toArray []) 0, List.toArray []⟩
noncomputable def v489 (_P : Params) : PySem.Obj := (fun (p : Arguments) (b : List Stmt) (s : Scope) (_ : (p, b, s) = fnP (nthS pW.main.body 50)) => (⟨.none, none, .func ⟨Str.ofString "law", Str.ofString "law", p, .stmts b, s, 0, [], .none, .none, .none, .none, none, .none, .none, 0⟩, List.toArray []⟩ : Obj)) _ _ _ rfl
noncomputable def v490 (_P : Params) : PySem.Obj := ⟨.type "code", none, .fields (List.toArray [.str (Str.ofString "law") 748, .str (Str.ofString "law") 749, .str (Str.ofString "/claim/cut.py") 750, .int 319 0, .int 1 0, .int 0 0, .int 0 0, .int 3 0, .ref 412, .bool true, .int 181 0, .ref 413, .none, .ref 414, .ref 415, .ref 416, .int 758 0, .int 319 0, .str (Str.ofString "/claim/cut.py") 759]), List.toArray []⟩
noncomputable def v491 (_P : Params) : PySem.Obj := (fun (p : Arguments) (b : List Stmt) (s : Scope) (_ : (p, b, s) = fnP (nthS pW.main.body 50)) => (⟨.type "function", none, .func ⟨Str.ofString "law", Str.ofString "law", p, .stmts b, s, 3, [], .none, .none, .none, .str (Str.ofString "law_uf040037_06") 684, none, .ref 417, .none, 0⟩, List.toArray []⟩ : Obj)) _ _ _ rfl
noncomputable def tr491 (P : Params) : PySem.W.BT := .node (PySem.W.boot_o_0 P) (.node (PySem.W.boot_o_1 P) (.node (v436 P) (.node (PySem.W.boot_o_7 P) (.node (v51 P) (.node (v193 P) (.node (v108 P) (.node (v187 P) (.node (v322 P) .nil .nil) (.node (v456 P) .nil .nil)) (.node (v256 P) (.node (v390 P) .nil .nil) .nil)) (.node (v149 P) (.node (v222 P) (.node (v356 P) .nil .nil) (.node (v488 P) .nil .nil)) (.node (v290 P) (.node (v422 P) .nil .nil) .nil))) (.node (v89 P) (.node (v127 P) (.node (v206 P) (.node (v338 P) .nil .nil) (.node (v472 P) .nil .nil)) (.node (v272 P) (.node (v406 P) .nil .nil) .nil)) (.node (v168 P) (.node (v238 P) (.node (v372 P) .nil .nil) .nil) (.node (v306 P) (.node (v440 P) .nil .nil) .nil)))) (.node (v59 P) (.node (v78 P) (.node (v119 P) (.node (v198 P) (.node (v330 P) .nil .nil) (.node (v464 P) .nil .nil)) (.node (v264 P) (.node (v398 P) .nil .nil) .nil)) (.node (v157 P) (.node (v230 P) (.node (v364 P) .nil .nil) .nil) (.node (v298 P) (.node (v430 P) .nil .nil) .nil))) (.node (v97 P) (.node (v138 P) (.node (v214 P) (.node (v346 P) .nil .nil) (.node (v480 P) .nil .nil)) (.node (v282 P) (.node (v414 P) .nil .nil) .nil)) (.node (v179 P) (.node (v248 P) (.node (v382 P) .nil .nil) .nil) (.node (v314 P) (.node (v448 P) .nil .nil) .nil))))) (.node (v43 P) (.node (v55 P) (.node (v74 P) (.node (v112 P) (.node (v194 P) (.node (v326 P) .nil .nil) (.node (v460 P) .nil .nil)) (.node (v260 P) (.node (v394 P) .nil .nil) .nil)) (.node (v153 P) (.node (v226 P) (.node (v360 P) .nil .nil) .nil) (.node (v294 P) (.node (v426 P) .nil .nil) .nil))) (.node (v93 P) (.node (v134 P) (.node (v210 P) (.node (v342 P) .nil .nil) (.node (v476 P) .nil .nil)) (.node (v278 P) (.node (v410 P) .nil .nil) .nil)) (.node (v172 P) (.node (v244 P) (.node (v376 P) .nil .nil) .nil) (.node (v310 P) (.node (v444 P) .nil .nil) .nil)))) (.node (v63 P) (.node (v82 P) (.node (v123 P) (.node (v202 P) (.node (v334 P) .nil .nil) (.node (v468 P) .nil .nil)) (.node (v268 P) (.node (v402 P) .nil .nil) .nil)) (.node (v164 P) (.node (v234 P) (.node (v368 P) .nil .nil) .nil) (.node (v302 P) (.node (v434 P) .nil .nil) .nil))) (.node (v104 P) (.node (v142 P) (.node (v218 P) (.node (v352 P) .nil .nil) (.node (v484 P) .nil .nil)) (.node (v286 P) (.node (v418 P) .nil .nil) .nil)) (.node (v183 P) (.node (v252 P) (.node (v386 P) .nil .nil) .nil) (.node (v318 P) (.node (v452 P) .nil .nil) .nil)))))) (.node (PySem.W.boot_o_5 P) (.node (PySem.W.boot_o_9 P) (.node (v53 P) (.node (v69 P) (.node (v110 P) (.node (v189 P) (.node (v324 P) .nil .nil) (.node (v458 P) .nil .nil)) (.node (v258 P) (.node (v392 P) .nil .nil) .nil)) (.node (v151 P) (.node (v224 P) (.node (v358 P) .nil .nil) (.node (v490 P) .nil .nil)) (.node (v292 P) (.node (v424 P) .nil .nil) .nil))) (.node (v91 P) (.node (v129 P) (.node (v208 P) (.node (v340 P) .nil .nil) (.node (v474 P) .nil .nil)) (.node (v274 P) (.node (v408 P) .nil .nil) .nil)) (.node (v170 P) (.node (v242 P) (.node (v374 P) .nil .nil) .nil) (.node (v308 P) (.node (v442 P) .nil .nil) .nil)))) (.node (v61 P) (.node (v80 P) (.node (v121 P) (.node (v200 P) (.node (v332 P) .nil .nil) (.node (v466 P) .nil .nil)) (.node (v266 P) (.node (v400 P) .nil .nil) .nil)) (.node (v159 P) (.node (v232 P) (.node (v366 P) .nil .nil) .nil) (.node (v300 P) (.node (v432 P) .nil .nil) .nil))) (.node (v99 P) (.node (v140 P) (.node (v216 P) (.node (v350 P) .nil .nil) (.node (v482 P) .nil .nil)) (.node (v284 P) (.node (v416 P) .nil .nil) .nil)) (.node (v181 P) (.node (v250 P) (.node (v384 P) .nil .nil) .nil) (.node (v316 P) (.node (v450 P) .nil .nil) .nil))))) (.node (v45 P) (.node (v57 P) (.node (v76 P) (.node (v114 P) (.node (v196 P) (.node (v328 P) .nil .nil) (.node (v462 P) .nil .nil)) (.node (v262 P) (.node (v396 P) .nil .nil) .nil)) (.node (v155 P) (.node (v228 P) (.node (v362 P) .nil .nil) .nil) (.node (v296 P) (.node (v428 P) .nil .nil) .nil))) (.node (v95 P) (.node (v136 P) (.node (v212 P) (.node (v344 P) .nil .nil) (.node (v478 P) .nil .nil)) (.node (v280 P) (.node (v412 P) .nil .nil) .nil)) (.node (v174 P) (.node (v246 P) (.node (v380 P) .nil .nil) .nil) (.node (v312 P) (.node (v446 P) .nil .nil) .nil)))) (.node (v65 P) (.node (v84 P) (.node (v125 P) (.node (v204 P) (.node (v336 P) .nil .nil) (.node (v470 P) .nil .nil)) (.node (v270 P) (.node (v404 P) .nil .nil) .nil)) (.node (v166 P) (.node (v236 P) (.node (v370 P) .nil .nil) .nil) (.node (v304 P) (.node (v438 P) .nil .nil) .nil))) (.node (v106 P) (.node (v144 P) (.node (v220 P) (.node (v354 P) .nil .nil) (.node (v486 P) .nil .nil)) (.node (v288 P) (.node (v420 P) .nil .nil) .nil)) (.node (v185 P) (.node (v254 P) (.node (v388 P) .nil .nil) .nil) (.node (v320 P) (.node (v454 P) .nil .nil) .nil))))))) (.node (PySem.W.boot_o_2 P) (.node (PySem.W.boot_o_4 P) (.node (PySem.W.boot_o_8 P) (.node (v52 P) (.node (v68 P) (.node (v109 P) (.node (v188 P) (.node (v323 P) .nil .nil) (.node (v457 P) .nil .nil)) (.node (v257 P) (.node (v391 P) .nil .nil) .nil)) (.node (v150 P) (.node (v223 P) (.node (v357 P) .nil .nil) (.node (v489 P) .nil .nil)) (.node (v291 P) (.node (v423 P) .nil .nil) .nil))) (.node (v90 P) (.node (v128 P) (.node (v207 P) (.node (v339 P) .nil .nil) (.node (v473 P) .nil .nil)) (.node (v273 P) (.node (v407 P) .nil .nil) .nil)) (.node (v169 P) (.node (v241 P) (.node (v373 P) .nil .nil) .nil) (.node (v307 P) (.node (v441 P) .nil .nil) .nil)))) (.node (v60 P) (.node (v79 P) (.node (v120 P) (.node (v199 P) (.node (v331 P) .nil .nil) (.node (v465 P) .nil .nil)) (.node (v265 P) (.node (v399 P) .nil .nil) .nil)) (.node (v158 P) (.node (v231 P) (.node (v365 P) .nil .nil) .nil) (.node (v299 P) (.node (v431 P) .nil .nil) .nil))) (.node (v98 P) (.node (v139 P) (.node (v215 P) (.node (v347 P) .nil .nil) (.node (v481 P) .nil .nil)) (.node (v283 P) (.node (v415 P) .nil .nil) .nil)) (.node (v180 P) (.node (v249 P) (.node (v383 P) .nil .nil) .nil) (.node (v315 P) (.node (v449 P) .nil .nil) .nil))))) (.node (v437 P) (.node (v56 P) (.node (v75 P) (.node (v113 P) (.node (v195 P) (.node (v327 P) .nil .nil) (.node (v461 P) .nil .nil)) (.node (v261 P) (.node (v395 P) .nil .nil) .nil)) (.node (v154 P) (.node (v227 P) (.node (v361 P) .nil .nil) .nil) (.node (v295 P) (.node (v427 P) .nil .nil) .nil))) (.node (v94 P) (.node (v135 P) (.node (v211 P) (.node (v343 P) .nil .nil) (.node (v477 P) .nil .nil)) (.node (v279 P) (.node (v411 P) .nil .nil) .nil)) (.node (v173 P) (.node (v245 P) (.node (v377 P) .nil .nil) .nil) (.node (v311 P) (.node (v445 P) .nil .nil) .nil)))) (.node (v64 P) (.node (v83 P) (.node (v124 P) (.node (v203 P) (.node (v335 P) .nil .nil) (.node (v469 P) .nil .nil)) (.node (v269 P) (.node (v403 P) .nil .nil) .nil)) (.node (v165 P) (.node (v235 P) (.node (v369 P) .nil .nil) .nil) (.node (v303 P) (.node (v435 P) .nil .nil) .nil))) (.node (v105 P) (.node (v143 P) (.node (v219 P) (.node (v353 P) .nil .nil) (.node (v485 P) .nil .nil)) (.node (v287 P) (.node (v419 P) .nil .nil) .nil)) (.node (v184 P) (.node (v253 P) (.node (v387 P) .nil .nil) .nil) (.node (v319 P) (.node (v453 P) .nil .nil) .nil)))))) (.node (PySem.W.boot_o_6 P) (.node (PySem.W.boot_o_10 P) (.node (v54 P) (.node (v70 P) (.node (v111 P) (.node (v190 P) (.node (v325 P) .nil .nil) (.node (v459 P) .nil .nil)) (.node (v259 P) (.node (v393 P) .nil .nil) .nil)) (.node (v152 P) (.node (v225 P) (.node (v359 P) .nil .nil) (.node (v491 P) .nil .nil)) (.node (v293 P) (.node (v425 P) .nil .nil) .nil))) (.node (v92 P) (.node (v130 P) (.node (v209 P) (.node (v341 P) .nil .nil) (.node (v475 P) .nil .nil)) (.node (v275 P) (.node (v409 P) .nil .nil) .nil)) (.node (v171 P) (.node (v243 P) (.node (v375 P) .nil .nil) .nil) (.node (v309 P) (.node (v443 P) .nil .nil) .nil)))) (.node (v62 P) (.node (v81 P) (.node (v122 P) (.node (v201 P) (.node (v333 P) .nil .nil) (.node (v467 P) .nil .nil)) (.node (v267 P) (.node (v401 P) .nil .nil) .nil)) (.node (v160 P) (.node (v233 P) (.node (v367 P) .nil .nil) .nil) (.node (v301 P) (.node (v433 P) .nil .nil) .nil))) (.node (v100 P) (.node (v141 P) (.node (v217 P) (.node (v351 P) .nil .nil) (.node (v483 P) .nil .nil)) (.node (v285 P) (.node (v417 P) .nil .nil) .nil)) (.node (v182 P) (.node (v251 P) (.node (v385 P) .nil .nil) .nil) (.node (v317 P) (.node (v451 P) .nil .nil) .nil))))) (.node (v46 P) (.node (v58 P) (.node (v77 P) (.node (v115 P) (.node (v197 P) (.node (v329 P) .nil .nil) (.node (v463 P) .nil .nil)) (.node (v263 P) (.node (v397 P) .nil .nil) .nil)) (.node (v156 P) (.node (v229 P) (.node (v363 P) .nil .nil) .nil) (.node (v297 P) (.node (v429 P) .nil .nil) .nil))) (.node (v96 P) (.node (v137 P) (.node (v213 P) (.node (v345 P) .nil .nil) (.node (v479 P) .nil .nil)) (.node (v281 P) (.node (v413 P) .nil .nil) .nil)) (.node (v175 P) (.node (v247 P) (.node (v381 P) .nil .nil) .nil) (.node (v313 P) (.node (v447 P) .nil .nil) .nil)))) (.node (v66 P) (.node (v85 P) (.node (v126 P) (.node (v205 P) (.node (v337 P) .nil .nil) (.node (v471 P) .nil .nil)) (.node (v271 P) (.node (v405 P) .nil .nil) .nil)) (.node (v167 P) (.node (v237 P) (.node (v371 P) .nil .nil) .nil) (.node (v305 P) (.node (v439 P) .nil .nil) .nil))) (.node (v107 P) (.node (v145 P) (.node (v221 P) (.node (v355 P) .nil .nil) (.node (v487 P) .nil .nil)) (.node (v289 P) (.node (v421 P) .nil .nil) .nil)) (.node (v186 P) (.node (v255 P) (.node (v389 P) .nil .nil) .nil) (.node (v321 P) (.node (v455 P) .nil .nil) .nil)))))))
noncomputable def hp492 (P : Params) : PySem.Heap := ⟨⟨[PySem.W.boot_o_0 P, PySem.W.boot_o_1 P, PySem.W.boot_o_2 P, v436 P, PySem.W.boot_o_4 P, PySem.W.boot_o_5 P, PySem.W.boot_o_6 P, PySem.W.boot_o_7 P, PySem.W.boot_o_8 P, PySem.W.boot_o_9 P, PySem.W.boot_o_10 P, v43 P, v437 P, v45 P, v46 P, v51 P, v52 P, v53 P, v54 P, v55 P, v56 P, v57 P, v58 P, v59 P, v60 P, v61 P, v62 P, v63 P, v64 P, v65 P, v66 P, v193 P, v68 P, v69 P, v70 P, v74 P, v75 P, v76 P, v77 P, v78 P, v79 P, v80 P, v81 P, v82 P, v83 P, v84 P, v85 P, v89 P, v90 P, v91 P, v92 P, v93 P, v94 P, v95 P, v96 P, v97 P, v98 P, v99 P, v100 P, v104 P, v105 P, v106 P, v107 P, v108 P, v109 P, v110 P, v111 P, v112 P, v113 P, v114 P, v115 P, v119 P, v120 P, v121 P, v122 P, v123 P, v124 P, v125 P, v126 P, v127 P, v128 P, v129 P, v130 P, v134 P, v135 P, v136 P, v137 P, v138 P, v139 P, v140 P, v141 P, v142 P, v143 P, v144 P, v145 P, v149 P, v150 P, v151 P, v152 P, v153 P, v154 P, v155 P, v156 P, v157 P, v158 P, v159 P, v160 P, v164 P, v165 P, v166 P, v167 P, v168 P, v169 P, v170 P, v171 P, v172 P, v173 P, v174 P, v175 P, v179 P, v180 P, v181 P, v182 P, v183 P, v184 P, v185 P, v186 P, v187 P, v188 P, v189 P, v190 P, v194 P, v195 P, v196 P, v197 P, v198 P, v199 P, v200 P, v201 P, v202 P, v203 P, v204 P, v205 P, v206 P, v207 P, v208 P, v209 P, v210 P, v211 P, v212 P, v213 P, v214 P, v215 P, v216 P, v217 P, v218 P, v219 P, v220 P, v221 P, v222 P, v223 P, v224 P, v225 P, v226 P, v227 P, v228 P, v229 P, v230 P, v231 P, v232 P, v233 P, v234 P, v235 P, v236 P, v237 P, v238 P, v241 P, v242 P, v243 P, v244 P, v245 P, v246 P, v247 P, v248 P, v249 P, v250 P, v251 P, v252 P, v253 P, v254 P, v255 P, v256 P, v257 P, v258 P, v259 P, v260 P, v261 P, v262 P, v263 P, v264 P, v265 P, v266 P, v267 P, v268 P, v269 P, v270 P, v271 P, v272 P, v273 P, v274 P, v275 P, v278 P, v279 P, v280 P, v281 P, v282 P, v283 P, v284 P, v285 P, v286 P, v287 P, v288 P, v289 P, v290 P, v291 P, v292 P, v293 P, v294 P, v295 P, v296 P, v297 P, v298 P, v299 P, v300 P, v301 P, v302 P, v303 P, v304 P, v305 P, v306 P, v307 P, v308 P, v309 P, v310 P, v311 P, v312 P, v313 P, v314 P, v315 P, v316 P, v317 P, v318 P, v319 P, v320 P, v321 P, v322 P, v323 P, v324 P, v325 P, v326 P, v327 P, v328 P, v329 P, v330 P, v331 P, v332 P, v333 P, v334 P, v335 P, v336 P, v337 P, v338 P, v339 P, v340 P, v341 P, v342 P, v343 P, v344 P, v345 P, v346 P, v347 P, v350 P, v351 P, v352 P, v353 P, v354 P, v355 P, v356 P, v357 P, v358 P, v359 P, v360 P, v361 P, v362 P, v363 P, v364 P, v365 P, v366 P, v367 P, v368 P, v369 P, v370 P, v371 P, v372 P, v373 P, v374 P, v375 P, v376 P, v377 P, v380 P, v381 P, v382 P, v383 P, v384 P, v385 P, v386 P, v387 P, v388 P, v389 P, v390 P, v391 P, v392 P, v393 P, v394 P, v395 P, v396 P, v397 P, v398 P, v399 P, v400 P, v401 P, v402 P, v403 P, v404 P, v405 P, v406 P, v407 P, v408 P, v409 P, v410 P, v411 P, v412 P, v413 P, v414 P, v415 P, v416 P, v417 P, v418 P, v419 P, v420 P, v421 P, v422 P, v423 P, v424 P, v425 P, v426 P, v427 P, v428 P, v429 P, v430 P, v431 P, v432 P, v433 P, v434 P, v435 P, v438 P, v439 P, v440 P, v441 P, v442 P, v443 P, v444 P, v445 P, v446 P, v447 P, v448 P, v449 P, v450 P, v451 P, v452 P, v453 P, v454 P, v455 P, v456 P, v457 P, v458 P, v459 P, v460 P, v461 P, v462 P, v463 P, v464 P, v465 P, v466 P, v467 P, v468 P, v469 P, v470 P, v471 P, v472 P, v473 P, v474 P, v475 P, v476 P, v477 P, v478 P, v479 P, v480 P, v481 P, v482 P, v483 P, v484 P, v485 P, v486 P, v487 P, v488 P, v489 P, v490 P, v491 P]⟩, ⟨[], [], [], 0, [], [], false, List.toArray [], [], 0, false, false, false, 0, [2000, 10, 10], false, 0, true, [], [], 0, false⟩⟩
noncomputable def st49 : List Stmt := pickS pW.main.body [0, 1, 2]
noncomputable def st71 : List Stmt := pickS pW.main.body [3]
noncomputable def st86 : List Stmt := pickS pW.main.body [4]
noncomputable def st101 : List Stmt := pickS pW.main.body [5]
noncomputable def st116 : List Stmt := pickS pW.main.body [6]
noncomputable def st131 : List Stmt := pickS pW.main.body [7]
noncomputable def st146 : List Stmt := pickS pW.main.body [8]
noncomputable def st161 : List Stmt := pickS pW.main.body [9]
noncomputable def st176 : List Stmt := pickS pW.main.body [10]
noncomputable def st191 : List Stmt := pickS pW.main.body [11, 12, 13, 14, 15, 16, 17]
noncomputable def st239 : List Stmt := pickS pW.main.body [18, 19, 20, 21, 22, 23, 24, 25, 26, 27]
noncomputable def st276 : List Stmt := pickS pW.main.body [28]
noncomputable def st348 : List Stmt := pickS pW.main.body [29, 30, 31, 32, 33, 34, 35, 36, 37, 38, 39, 40]
noncomputable def st378 : List Stmt := pickS pW.main.body [41, 42]
noncomputable def st436 : List Stmt := pickS pW.main.body [43, 44, 45, 46, 47, 48, 49, 50]
noncomputable abbrev cdT : Code := .body (behindTheImports PySem.Challenge.rw_uf040037_06.row.prog) ev41
theorem sg_go : ∀ (w : World) (os : OsState), topGo treeTable PySem.Challenge.rw_uf040037_06.row.prog w 11 (some (.ref 6)) 12 ⟨boot_heap w.params, Array.mk [], boot_drawn, boot_toks, os⟩ (topStub PySem.Challenge.rw_uf040037_06.row.prog) = some (⟨hp46 w.params, Array.mk [], {}, 187, os⟩, ⟨denote treeTable cdT, cdT, ⟨0, 0, 0, 0⟩, [topFrame ⟨0, 0, 0, 0⟩]⟩) := fun _ _ => by kernel_rfl
theorem sg_block : ∀ (w : World) (os : OsState), segRun treeTable PySem.Challenge.rw_uf040037_06.row.prog w 11 (some (.ref 6)) 1 1 ⟨hp46 w.params, Array.mk [], {}, 187, os⟩ (blockOf (behindTheImports PySem.Challenge.rw_uf040037_06.row.prog) ev41 cdT ⟨0, 0, 0, 0⟩ [topFrame ⟨0, 0, 0, 0⟩]) = some (.next, SharedT.abs ⟨tr47 w.params, 15, {}, Array.mk [], {}, 187, os⟩, cdT, ⟨0, 0, 0, 0⟩) := fun _ _ => by kernel_rfl
theorem sg_49 : ∀ (w : World) (os : OsState), segRunT treeTable PySem.Challenge.rw_uf040037_06.row.prog w 11 (some (.ref 6)) 1 225 ⟨tr47 w.params, 15, {}, Array.mk [], {}, 187, os⟩ (piecesOf st49 ev41 cdT ⟨0, 0, 0, 0⟩ [topFrame ⟨0, 0, 0, 0⟩]) = some (.next, ⟨tr70 w.params, 35, {}, Array.mk [], {}, 214, os⟩, cdT, ⟨5, 0, 6, 8⟩) := fun _ _ => by kernel_rfl
theorem sg_71 : ∀ (w : World) (os : OsState), segRunT treeTable PySem.Challenge.rw_uf040037_06.row.prog w 11 (some (.ref 6)) 1 214 ⟨tr70 w.params, 35, {}, Array.mk [], {}, 214, os⟩ (piecesOf st71 ev41 cdT ⟨5, 0, 6, 8⟩ [topFrame ⟨0, 0, 0, 0⟩]) = some (.next, ⟨tr85 w.params, 47, {}, Array.mk [], {}, 230, os⟩, cdT, ⟨7, 0, 8, 8⟩) := fun _ _ => by kernel_rfl
theorem sg_86 : ∀ (w : World) (os : OsState), segRunT treeTable PySem.Challenge.rw_uf040037_06.row.prog w 11 (some (.ref 6)) 1 214 ⟨tr85 w.params, 47, {}, Array.mk [], {}, 230, os⟩ (piecesOf st86 ev41 cdT ⟨7, 0, 8, 8⟩ [topFrame ⟨0, 0, 0, 0⟩]) = some (.next, ⟨tr100 w.params, 59, {}, Array.mk [], {}, 246, os⟩, cdT, ⟨9, 0, 10, 8⟩) := fun _ _ => by kernel_rfl
theorem sg_101 : ∀ (w : World) (os : OsState), segRunT treeTable PySem.Challenge.rw_uf040037_06.row.prog w 11 (some (.ref 6)) 1 214 ⟨tr100 w.params, 59, {}, Array.mk [], {}, 246, os⟩ (piecesOf st101 ev41 cdT ⟨9, 0, 10, 8⟩ [topFrame ⟨0, 0, 0, 0⟩]) = some (.next, ⟨tr115 w.params, 71, {}, Array.mk [], {}, 262, os⟩, cdT, ⟨11, 0, 12, 8⟩) := fun _ _ => by kernel_rfl
theorem sg_116 : ∀ (w : World) (os : OsState), segRunT treeTable PySem.Challenge.rw_uf040037_06.row.prog w 11 (some (.ref 6)) 1 214 ⟨tr115 w.params, 71, {}, Array.mk [], {}, 262, os⟩ (piecesOf st116 ev41 cdT ⟨11, 0, 12, 8⟩ [topFrame ⟨0, 0, 0, 0⟩]) = some (.next, ⟨tr130 w.params, 83, {}, Array.mk [], {}, 278, os⟩, cdT, ⟨13, 0, 14, 8⟩) := fun _ _ => by kernel_rfl
theorem sg_131 : ∀ (w : World) (os : OsState), segRunT treeTable PySem.Challenge.rw_uf040037_06.row.prog w 11 (some (.ref 6)) 1 214 ⟨tr130 w.params, 83, {}, Array.mk [], {}, 278, os⟩ (piecesOf st131 ev41 cdT ⟨13, 0, 14, 8⟩ [topFrame ⟨0, 0, 0, 0⟩]) = some (.next, ⟨tr145 w.params, 95, {}, Array.mk [], {}, 294, os⟩, cdT, ⟨15, 0, 16, 8⟩) := fun _ _ => by kernel_rfl
theorem sg_146 : ∀ (w : World) (os : OsState), segRunT treeTable PySem.Challenge.rw_uf040037_06.row.prog w 11 (some (.ref 6)) 1 214 ⟨tr145 w.params, 95, {}, Array.mk [], {}, 294, os⟩ (piecesOf st146 ev41 cdT ⟨15, 0, 16, 8⟩ [topFrame ⟨0, 0, 0, 0⟩]) = some (.next, ⟨tr160 w.params, 107, {}, Array.mk [], {}, 310, os⟩, cdT, ⟨17, 0, 18, 8⟩) := fun _ _ => by kernel_rfl
theorem sg_161 : ∀ (w : World) (os : OsState), segRunT treeTable PySem.Challenge.rw_uf040037_06.row.prog w 11 (some (.ref 6)) 1 214 ⟨tr160 w.params, 107, {}, Array.mk [], {}, 310, os⟩ (piecesOf st161 ev41 cdT ⟨17, 0, 18, 8⟩ [topFrame ⟨0, 0, 0, 0⟩]) = some (.next, ⟨tr175 w.params, 119, {}, Array.mk [], {}, 326, os⟩, cdT, ⟨19, 0, 20, 8⟩) := fun _ _ => by kernel_rfl
theorem sg_176 : ∀ (w : World) (os : OsState), segRunT treeTable PySem.Challenge.rw_uf040037_06.row.prog w 11 (some (.ref 6)) 1 214 ⟨tr175 w.params, 119, {}, Array.mk [], {}, 326, os⟩ (piecesOf st176 ev41 cdT ⟨19, 0, 20, 8⟩ [topFrame ⟨0, 0, 0, 0⟩]) = some (.next, ⟨tr190 w.params, 131, {}, Array.mk [], {}, 342, os⟩, cdT, ⟨21, 0, 22, 8⟩) := fun _ _ => by kernel_rfl
theorem sg_191 : ∀ (w : World) (os : OsState), segRunT treeTable PySem.Challenge.rw_uf040037_06.row.prog w 11 (some (.ref 6)) 1 371 ⟨tr190 w.params, 131, {}, Array.mk [], {}, 342, os⟩ (piecesOf st191 ev41 cdT ⟨21, 0, 22, 8⟩ [topFrame ⟨0, 0, 0, 0⟩]) = some (.next, ⟨tr238 w.params, 176, {}, Array.mk [], {}, 400, os⟩, cdT, ⟨45, 0, 51, 70⟩) := fun _ _ => by kernel_rfl
theorem sg_239 : ∀ (w : World) (os : OsState), segRunT treeTable PySem.Challenge.rw_uf040037_06.row.prog w 11 (some (.ref 6)) 1 217 ⟨tr238 w.params, 176, {}, Array.mk [], {}, 400, os⟩ (piecesOf st239 ev41 cdT ⟨45, 0, 51, 70⟩ [topFrame ⟨0, 0, 0, 0⟩]) = some (.next, ⟨tr275 w.params, 211, {}, Array.mk [], {}, 467, os⟩, cdT, ⟨103, 0, 103, 12⟩) := fun _ _ => by kernel_rfl
theorem sg_276 : ∀ (w : World) (os : OsState), segRunT treeTable PySem.Challenge.rw_uf040037_06.row.prog w 11 (some (.ref 6)) 1 459 ⟨tr275 w.params, 211, {}, Array.mk [], {}, 467, os⟩ (piecesOf st276 ev41 cdT ⟨103, 0, 103, 12⟩ [topFrame ⟨0, 0, 0, 0⟩]) = some (.next, ⟨tr347 w.params, 281, {}, Array.mk [], {}, 564, os⟩, cdT, ⟨104, 0, 160, 39⟩) := fun _ _ => by kernel_rfl
theorem sg_348 : ∀ (w : World) (os : OsState), segRunT treeTable PySem.Challenge.rw_uf040037_06.row.prog w 11 (some (.ref 6)) 1 200 ⟨tr347 w.params, 281, {}, Array.mk [], {}, 564, os⟩ (piecesOf st348 ev41 cdT ⟨104, 0, 160, 39⟩ [topFrame ⟨0, 0, 0, 0⟩]) = some (.next, ⟨tr377 w.params, 309, {}, Array.mk [], {}, 615, os⟩, cdT, ⟨194, 0, 194, 10⟩) := fun _ _ => by kernel_rfl
theorem sg_378 : ∀ (w : World) (os : OsState), segRunT treeTable PySem.Challenge.rw_uf040037_06.row.prog w 11 (some (.ref 6)) 1 392 ⟨tr377 w.params, 309, {}, Array.mk [], {}, 615, os⟩ (piecesOf st378 ev41 cdT ⟨194, 0, 194, 10⟩ [topFrame ⟨0, 0, 0, 0⟩]) = some (.next, ⟨tr435 w.params, 365, {}, Array.mk [], {}, 686, os⟩, cdT, ⟨225, 0, 225, 8⟩) := fun _ _ => by kernel_rfl
theorem sg_436 : ∀ (w : World) (os : OsState), segRunT treeTable PySem.Challenge.rw_uf040037_06.row.prog w 11 (some (.ref 6)) 1 250 ⟨tr435 w.params, 365, {}, Array.mk [], {}, 686, os⟩ (piecesOf st436 ev41 cdT ⟨225, 0, 225, 8⟩ [topFrame ⟨0, 0, 0, 0⟩]) = some (.next, ⟨tr491 w.params, 419, {}, Array.mk [], {}, 761, os⟩, cdT, ⟨319, 0, 330, 87⟩) := fun _ _ => by kernel_rfl
theorem sg_last : ∀ (w : World) (os : OsState), topRun treeTable PySem.Challenge.rw_uf040037_06.row.prog w 11 (some (.ref 6)) 2 (SharedT.abs ⟨tr491 w.params, 419, {}, Array.mk [], {}, 761, os⟩) ⟨doneF .next, cdT, ⟨319, 0, 330, 87⟩, [topFrame ⟨0, 0, 0, 0⟩]⟩ = some ⟨hp492 w.params, Array.mk [], {}, 761, os⟩ := fun _ _ => by kernel_rfl
theorem body_is : behindTheImports PySem.Challenge.rw_uf040037_06.row.prog = (st49 ++ (st71 ++ (st86 ++ (st101 ++ (st116 ++ (st131 ++ (st146 ++ (st161 ++ (st176 ++ (st191 ++ (st239 ++ (st276 ++ (st348 ++ (st378 ++ (st436 ++ []))))))))))))))) := by kernel_rfl
theorem run_ : ∀ (w : World) (os : OsState), topRun treeTable PySem.Challenge.rw_uf040037_06.row.prog w 11 (some (.ref 6)) (12 + (1 + (225 + (214 + (214 + (214 + (214 + (214 + (214 + (214 + (214 + (371 + (217 + (459 + (200 + (392 + (250 + 2))))))))))))))))) ⟨boot_heap w.params, Array.mk [], boot_drawn, boot_toks, os⟩ (topStub PySem.Challenge.rw_uf040037_06.row.prog) = some ⟨hp492 w.params, Array.mk [], {}, 761, os⟩ := fun w os => by
  have h : topRun treeTable PySem.Challenge.rw_uf040037_06.row.prog w 11 (some (.ref 6)) (225 + (214 + (214 + (214 + (214 + (214 + (214 + (214 + (214 + (371 + (217 + (459 + (200 + (392 + (250 + 2))))))))))))))) (SharedT.abs ⟨tr47 w.params, 15, {}, Array.mk [], {}, 187, os⟩) (restOf (st49 ++ (st71 ++ (st86 ++ (st101 ++ (st116 ++ (st131 ++ (st146 ++ (st161 ++ (st176 ++ (st191 ++ (st239 ++ (st276 ++ (st348 ++ (st378 ++ (st436 ++ []))))))))))))))) ev41 cdT ⟨0, 0, 0, 0⟩ [topFrame ⟨0, 0, 0, 0⟩]) = some ⟨hp492 w.params, Array.mk [], {}, 761, os⟩ := (piece_app (segRun_of (sg_49 w os)) (piece_app (segRun_of (sg_71 w os)) (piece_app (segRun_of (sg_86 w os)) (piece_app (segRun_of (sg_101 w os)) (piece_app (segRun_of (sg_116 w os)) (piece_app (segRun_of (sg_131 w os)) (piece_app (segRun_of (sg_146 w os)) (piece_app (segRun_of (sg_161 w os)) (piece_app (segRun_of (sg_176 w os)) (piece_app (segRun_of (sg_191 w os)) (piece_app (segRun_of (sg_239 w os)) (piece_app (segRun_of (sg_276 w os)) (piece_app (segRun_of (sg_348 w os)) (piece_app (segRun_of (sg_378 w os)) (piece_app (segRun_of (sg_436 w os)) (piece_nil (sg_last w os)))))))))))))))))
  rw [← body_is] at h
  exact go_top (sg_go w os) (piece_block (sg_block w os) h)
theorem size_ : ∀ w : World, ((boot_heap w.params).isNs mainGlobals && (Array.mk [] : Array GenState).size == 0, (boot_heap w.params).objs.size, (boot_heap w.params).nsMap mainGlobals "__annotations__") = (true, 11, some (.ref 6)) := fun _ => by kernel_rfl
noncomputable abbrev endS (w : World) (os : OsState) : Shared := ⟨hp492 w.params, Array.mk [], {}, 761, os⟩
theorem look1 : ∀ (w : World) (os : OsState), (staticsOk (importedModules (PySem.Challenge.rw_uf040037_06.row.prog).main.body) (boot_heap w.params) (hp492 w.params) && namesBound PySem.Challenge.rw_uf040037_06.row.prog (hp492 w.params) && gensDone (endS w os) && laidKept (boot_heap w.params) (hp492 w.params)) = true := fun _ _ => by kernel_rfl
theorem look2 : ∀ (w : World) (os : OsState), openSeen view [Str.ofString "MOST_NOUGHTS", Str.ofString "MOST_SIGNS"] (importedModules (PySem.Challenge.rw_uf040037_06.row.prog).main.body) (fun s => xlAt view [(PySem.Str.ofString "MOST_NOUGHTS", .int 1000000000000000000), (PySem.Str.ofString "MOST_SIGNS", .int 1000000000000000000)] s && recOk (RowW.records PySem.Challenge.rw_uf040037_06.row.toRowW) s) true (endS w os) = openGood view [Str.ofString "MOST_NOUGHTS", Str.ofString "MOST_SIGNS"] := fun _ _ => by kernel_rfl
theorem look3 : ∀ (w : World) (os : OsState), Hook.obs kkHook (endS w os) = Hook.val kkHook w := fun _ _ => by kernel_rfl
/-- what the top leaves: a run in pieces -/
theorem left_ : LeftO PySem.Challenge.rw_uf040037_06.row.prog view [Str.ofString "MOST_NOUGHTS", Str.ofString "MOST_SIGNS"] (fun s => xlAt view [(PySem.Str.ofString "MOST_NOUGHTS", .int 1000000000000000000), (PySem.Str.ofString "MOST_SIGNS", .int 1000000000000000000)] s && recOk (RowW.records PySem.Challenge.rw_uf040037_06.row.toRowW) s) (Hook.obs kkHook) (Hook.val kkHook) 7748 :=
  LeftO.of_pieces (M := 3841) (boot_open (by kernel_rfl) (by decide) (fun _ => rfl)) size_ run_ (by decide) (fun w => funext fun os => Prod.ext (look1 w os) (Prod.ext (look2 w os) (look3 w os)))
end Mine

section

namespace Mine

def IsRow (r : List Int) : Prop := ∀ x ∈ r, x = 0 ∨ x = 1

theorem isRow_nil : IsRow [] := fun _ h => nomatch h
theorem isRow_cons {x : Int} {r : List Int} : IsRow (x :: r) ↔ (x = 0 ∨ x = 1) ∧ IsRow r := by
  simp [IsRow]
theorem isRow_append {a b : List Int} : IsRow (a ++ b) ↔ IsRow a ∧ IsRow b := by
  simp only [IsRow, List.mem_append]
  exact ⟨fun h => ⟨fun x hx => h x (.inl hx), fun x hx => h x (.inr hx)⟩, fun h x hx => hx.elim (h.1 x) (h.2 x)⟩
theorem isRow_single {x : Int} (h : x = 0 ∨ x = 1) : IsRow [x] := by simpa [IsRow] using h
theorem isRow_replicate0 (n : Nat) : IsRow (List.replicate n 0) := fun _ hx => .inl (List.eq_of_mem_replicate hx)
theorem IsRow.take {r : List Int} (h : IsRow r) (n : Nat) : IsRow (r.take n) := fun x hx => h x (List.mem_of_mem_take hx)
theorem IsRow.drop {r : List Int} (h : IsRow r) (n : Nat) : IsRow (r.drop n) := fun x hx => h x (List.mem_of_mem_drop hx)
theorem IsRow.tail {r : List Int} (h : IsRow r) : IsRow r.tail := fun x hx => h x (List.mem_of_mem_tail hx)
theorem IsRow.getElem {r : List Int} (h : IsRow r) {i : Nat} (hi : i < r.length) : r[i] = 0 ∨ r[i] = 1 := h _ (List.getElem_mem hi)
theorem IsRow.getD {r : List Int} (h : IsRow r) (i : Nat) : r.getD i 0 = 0 ∨ r.getD i 0 = 1 := by
  rw [List.getD_eq_getElem?_getD]
  by_cases hi : i < r.length
  · rw [List.getElem?_eq_getElem hi]; exact h.getElem hi
  · rw [List.getElem?_eq_none (by omega)]; exact .inl rfl
theorem IsRow.set {r : List Int} (h : IsRow r) {x : Int} (hx : x = 0 ∨ x = 1) (i : Nat) : IsRow (r.set i x) := fun y hy => by
  rcases List.mem_or_eq_of_mem_set hy with h1 | h1
  · exact h y h1
  · exact h1 ▸ hx

/-- the number of a row -/
def val (r : List Int) : Nat := r.foldl (fun v s => 2 * v + s.toNat) 0
theorem val_nil : val [] = 0 := rfl
theorem val_snoc (r : List Int) (s : Int) : val (r ++ [s]) = 2 * val r + s.toNat := by simp [val, List.foldl_append]
theorem val_foldl (r : List Int) (v : Nat) : r.foldl (fun v s => 2 * v + s.toNat) v = v * 2 ^ r.length + val r := by
  induction r generalizing v with
  | nil => simp [val]
  | cons x r ih =>
    have e : val (x :: r) = List.foldl (fun v s => 2 * v + s.toNat) (2 * 0 + x.toNat) r := rfl
    rw [List.foldl_cons, ih, e, ih]
    simp only [List.length_cons, Nat.pow_succ, Nat.add_mul, Nat.mul_zero, Nat.zero_add]
    have : 2 * v * 2 ^ r.length = v * (2 ^ r.length * 2) := by
      rw [Nat.mul_comm 2 v, Nat.mul_assoc, Nat.mul_comm 2]
    omega
theorem val_append (a b : List Int) : val (a ++ b) = val a * 2 ^ b.length + val b := by
  rw [val, List.foldl_append, val_foldl]; rfl
theorem val_cons (x : Int) (r : List Int) : val (x :: r) = x.toNat * 2 ^ r.length + val r := by
  have := val_append [x] r
  simpa [val] using this
theorem val_lt {r : List Int} (h : IsRow r) : val r < 2 ^ r.length := by
  induction r with
  | nil => simp [val]
  | cons x r ih =>
    rw [val_cons, List.length_cons, Nat.pow_succ]
    have h1 := isRow_cons.mp h
    have := ih h1.2
    rcases h1.1 with rfl | rfl <;> simp <;> omega
theorem val_replicate0 (n : Nat) : val (List.replicate n 0) = 0 := by
  induction n with
  | zero => rfl
  | succ n ih => rw [List.replicate_succ, val_cons, ih]; simp
theorem val_inj {a b : List Int} (ha : IsRow a) (hb : IsRow b) (hl : a.length = b.length) (hv : val a = val b) : a = b := by
  induction a generalizing b with
  | nil => cases b with
    | nil => rfl
    | cons y b => simp at hl
  | cons x a ih =>
    cases b with
    | nil => simp at hl
    | cons y b =>
      have h1 := isRow_cons.mp ha
      have h2 := isRow_cons.mp hb
      have hl' : a.length = b.length := by simpa using hl
      rw [val_cons, val_cons, hl'] at hv
      have l1 := val_lt h1.2
      have l2 := val_lt h2.2
      rw [hl'] at l1
      have key : x = y ∧ val a = val b := by
        rcases h1.1 with rfl | rfl <;> rcases h2.1 with rfl | rfl <;> simp at hv ⊢ <;> omega
      rw [key.1, ih h1.2 h2.2 hl' key.2]
theorem two_xor (a b x y : Nat) (hx : x < 2) (hy : y < 2) : (2 * a + x) ^^^ (2 * b + y) = 2 * (a ^^^ b) + (x + y) % 2 := by
  apply Nat.eq_of_testBit_eq
  intro i
  rw [Nat.testBit_xor]
  cases i with
  | zero =>
    simp only [Nat.testBit_zero]
    have h1 : x = 0 ∨ x = 1 := by omega
    have h2 : y = 0 ∨ y = 1 := by omega
    rcases h1 with rfl | rfl <;> rcases h2 with rfl | rfl <;> simp <;> omega
  | succ i =>
    simp only [Nat.testBit_succ]
    rw [show (2 * a + x) / 2 = a by omega, show (2 * b + y) / 2 = b by omega, show (2 * (a ^^^ b) + (x + y) % 2) / 2 = a ^^^ b by omega, Nat.testBit_xor]

theorem two_xor0 (a b : Nat) : 2 * (a ^^^ b) = (2 * a) ^^^ (2 * b) := by
  have := two_xor a b 0 0 (by omega) (by omega)
  simpa using this.symm

theorem eq_of_xor {a b : Nat} (h : a ^^^ b = 0) : a = b := by
  have : a ^^^ (b ^^^ b) = b := by rw [← Nat.xor_assoc, h, Nat.zero_xor]
  rwa [Nat.xor_self, Nat.xor_zero] at this

/-- the sum of two rows of one length -/
def sum2 (a b : List Int) : List Int := List.zipWith (fun x y => (x + y) % 2) a b
theorem sum2_length {a b : List Int} (h : a.length = b.length) : (sum2 a b).length = a.length := by simp [sum2, h]
theorem sum2_isRow (a b : List Int) : IsRow (sum2 a b) := by
  intro x hx
  obtain ⟨i, hi, rfl⟩ := List.mem_iff_getElem.mp hx
  simp only [sum2, List.getElem_zipWith]
  omega
theorem sum2_snoc {a b : List Int} (h : a.length = b.length) (x y : Int) : sum2 (a ++ [x]) (b ++ [y]) = sum2 a b ++ [(x + y) % 2] := by
  simp [sum2, List.zipWith_append h]
theorem val_sum2 {a b : List Int} (ha : IsRow a) (hb : IsRow b) (h : a.length = b.length) : val (sum2 a b) = val a ^^^ val b := by
  generalize hn : a.length = n
  induction n generalizing a b with
  | zero =>
    have : a = [] := List.length_eq_zero_iff.mp hn
    have : b = [] := List.length_eq_zero_iff.mp (h ▸ hn)
    subst_vars; rfl
  | succ n ih =>
    have hb' : b.length = n + 1 := by omega
    obtain ⟨a', x, rfl⟩ : ∃ a' x, a = a' ++ [x] := ⟨a.dropLast, a.getLast (by intro e; simp [e] at hn), (List.dropLast_concat_getLast _).symm⟩
    obtain ⟨b', y, rfl⟩ : ∃ b' y, b = b' ++ [y] := ⟨b.dropLast, b.getLast (by intro e; simp [e] at hb'), (List.dropLast_concat_getLast _).symm⟩
    have hl : a'.length = b'.length := by simpa using h
    have r1 := isRow_append.mp ha
    have r2 := isRow_append.mp hb
    rw [sum2_snoc hl, val_snoc, val_snoc, val_snoc, ih r1.1 r2.1 hl (by simpa using hn)]
    have hx := r1.2 x (by simp)
    have hy := r2.2 y (by simp)
    rw [two_xor _ _ _ _ (by rcases hx with rfl | rfl <;> decide) (by rcases hy with rfl | rfl <;> decide)]
    rcases hx with rfl | rfl <;> rcases hy with rfl | rfl <;> rfl

/-- bit w struck by n -/
def red (n w v : Nat) : Nat := if v.testBit w then v ^^^ n else v
def onw (n w v : Nat) : Nat := red n w (2 * v)
theorem red_xor (n w a b : Nat) : red n w (a ^^^ b) = red n w a ^^^ red n w b := by
  unfold red
  rw [Nat.testBit_xor]
  cases h1 : a.testBit w <;> cases h2 : b.testBit w
  · simp
  · simp [Nat.xor_assoc]
  · simp only [Bool.xor_false, if_true, Bool.false_eq_true, if_false]
    rw [Nat.xor_assoc, Nat.xor_assoc, Nat.xor_comm b n]
  · simp only [Bool.xor_true, Bool.not_true, Bool.false_eq_true, if_false, if_true]
    rw [Nat.xor_assoc, ← Nat.xor_assoc n b n, Nat.xor_comm n b, Nat.xor_assoc b n n, Nat.xor_self, Nat.xor_zero]
theorem onw_xor (n w a b : Nat) : onw n w (a ^^^ b) = onw n w a ^^^ onw n w b := by
  unfold onw; rw [two_xor0, red_xor]
theorem red_zero (n w : Nat) : red n w 0 = 0 := by simp [red]
theorem onw_zero (n w : Nat) : onw n w 0 = 0 := by simp [onw, red_zero]
theorem testBit_top {w v : Nat} (h1 : 2 ^ w ≤ v) (h2 : v < 2 ^ (w + 1)) : v.testBit w = true := by
  rw [Nat.testBit_eq_decide_div_mod_eq]
  have hp : 0 < 2 ^ w := Nat.two_pow_pos w
  have : v / 2 ^ w = 1 := by
    rw [Nat.pow_succ] at h2
    apply Nat.div_eq_of_lt_le <;> omega
  rw [this]; rfl
theorem testBit_top_iff {w v : Nat} (h2 : v < 2 ^ (w + 1)) : v.testBit w = true ↔ 2 ^ w ≤ v := by
  constructor
  · intro h
    exact Nat.ge_two_pow_of_testBit h
  · exact fun h => testBit_top h h2
/-- the divisor's number: its highest bit is w -/
structure IsDivN (n w : Nat) : Prop where
  lo : 2 ^ w ≤ n
  hi : n < 2 ^ (w + 1)
  odd : n % 2 = 1
theorem IsDivN.bit {n w : Nat} (h : IsDivN n w) : n.testBit w = true := testBit_top h.lo h.hi
theorem lt_of_bits {w v : Nat} (h : v < 2 ^ (w + 1)) (hb : v.testBit w = false) : v < 2 ^ w := by
  rcases Nat.lt_or_ge v (2 ^ w) with h1 | h1
  · exact h1
  · rw [testBit_top h1 h] at hb; cases hb
theorem red_lt {n w v : Nat} (h : 2 ^ w ≤ n ∧ n < 2 ^ (w + 1)) (hv : v < 2 ^ (w + 1)) : red n w v < 2 ^ w := by
  unfold red
  cases hb : v.testBit w with
  | false => simpa using lt_of_bits hv hb
  | true =>
    simp only [if_true]
    refine lt_of_bits (Nat.xor_lt_two_pow hv h.2) ?_
    rw [Nat.testBit_xor, hb, testBit_top h.1 h.2]; rfl
theorem onw_lt {n w v : Nat} (h : 2 ^ w ≤ n ∧ n < 2 ^ (w + 1)) (hv : v < 2 ^ w) : onw n w v < 2 ^ w :=
  red_lt h (by rw [Nat.pow_succ]; omega)
theorem red_of_lt {n w v : Nat} (hv : v < 2 ^ w) : red n w v = v := by
  unfold red
  rw [Nat.testBit_lt_two_pow hv]; rfl
theorem onw_ne_zero {n w v : Nat} (h : IsDivN n w) (hv : v < 2 ^ w) (h0 : v ≠ 0) : onw n w v ≠ 0 := by
  unfold onw red
  split
  · intro e
    have e2 : 2 * v = n := eq_of_xor e
    have := h.odd
    omega
  · omega
theorem onw_inj {n w a b : Nat} (h : IsDivN n w) (ha : a < 2 ^ w) (hb : b < 2 ^ w) (e : onw n w a = onw n w b) : a = b := by
  have h1 : onw n w (a ^^^ b) = 0 := by rw [onw_xor, e, Nat.xor_self]
  by_cases h2 : a ^^^ b = 0
  · exact eq_of_xor h2
  · exact absurd h1 (onw_ne_zero h (Nat.xor_lt_two_pow ha hb) h2)

/-- k times onward -/
def pow (n w : Nat) : Nat → Nat → Nat
  | 0, v => v
  | k + 1, v => onw n w (pow n w k v)
theorem pow_succ' (n w k v : Nat) : pow n w (k + 1) v = pow n w k (onw n w v) := by
  induction k with
  | zero => rfl
  | succ k ih => rw [pow, ih]; rfl
theorem pow_add (n w j k v : Nat) : pow n w (j + k) v = pow n w j (pow n w k v) := by
  induction j with
  | zero => simp [pow]
  | succ j ih => rw [Nat.succ_add, pow, ih]; rfl
theorem pow_xor (n w k a b : Nat) : pow n w k (a ^^^ b) = pow n w k a ^^^ pow n w k b := by
  induction k with
  | zero => rfl
  | succ k ih => rw [pow, ih, onw_xor]; rfl
theorem pow_zero' (n w k : Nat) : pow n w k 0 = 0 := by
  induction k with
  | zero => rfl
  | succ k ih => rw [pow, ih, onw_zero]
theorem pow_lt {n w v : Nat} (h : 2 ^ w ≤ n ∧ n < 2 ^ (w + 1)) (hv : v < 2 ^ w) (k : Nat) : pow n w k v < 2 ^ w := by
  induction k with
  | zero => exact hv
  | succ k ih => exact onw_lt h ih
theorem pow_inj {n w a b : Nat} (h : IsDivN n w) (ha : a < 2 ^ w) (hb : b < 2 ^ w) {k : Nat} (e : pow n w k a = pow n w k b) : a = b := by
  induction k with
  | zero => exact e
  | succ k ih => exact ih (onw_inj h (pow_lt ⟨h.lo, h.hi⟩ ha k) (pow_lt ⟨h.lo, h.hi⟩ hb k) e)
theorem pow_ne_zero {n w v : Nat} (h : IsDivN n w) (hv : v < 2 ^ w) (h0 : v ≠ 0) (k : Nat) : pow n w k v ≠ 0 := fun e =>
  h0 (pow_inj h hv (Nat.two_pow_pos w) (k := k) (e.trans (pow_zero' n w k).symm))

/-! the reach -/
theorem php : ∀ (k : Nat) (l : List Nat), l.Nodup → (∀ x ∈ l, x < k) → l.length ≤ k
  | 0, [], _, _ => Nat.le_refl 0
  | 0, x :: _, _, h => absurd (h x (.head _)) (Nat.not_lt_zero x)
  | k + 1, l, hn, h => by
    by_cases hk : k ∈ l
    · have h1 := php k (l.erase k) (hn.erase k) (fun x hx => by
        have := (hn.mem_erase_iff).mp hx
        have := h x this.2
        omega)
      rw [List.length_erase_of_mem hk] at h1
      omega
    · have := php k l hn (fun x hx => by
        have h1 := h x hx
        have : x ≠ k := fun e => hk (e ▸ hx)
        omega)
      omega
theorem exists_least {p : Nat → Prop} : ∀ k, p k → ∃ k, p k ∧ ∀ j, j < k → ¬ p j := by
  intro k
  induction k using Nat.strongRecOn with
  | ind k ih =>
    intro hk
    by_cases h : ∃ j, j < k ∧ p j
    · obtain ⟨j, h1, h2⟩ := h
      exact ih j h1 h2
    · exact ⟨k, hk, fun j h1 h2 => h ⟨j, h1, h2⟩⟩

structure IsReach (n w P : Nat) : Prop where
  pos : 1 ≤ P
  back : pow n w P 1 = 1
  least : ∀ k, 1 ≤ k → k < P → pow n w k 1 ≠ 1
theorem one_lt_pow {w : Nat} (hw : 1 ≤ w) : 1 < 2 ^ w := Nat.one_lt_two_pow (by omega)
theorem exists_back {n w : Nat} (h : IsDivN n w) (hw : 1 ≤ w) : ∃ k, 1 ≤ k ∧ k ≤ 2 ^ w - 1 ∧ pow n w k 1 = 1 := by
  false_or_by_contra
  rename_i hno
  have hno' : ∀ k, 1 ≤ k → k ≤ 2 ^ w - 1 → pow n w k 1 ≠ 1 := fun k h1 h2 h3 => hno ⟨k, h1, h2, h3⟩
  have h1 := one_lt_pow hw
  have hlt := fun k => pow_lt (n := n) (w := w) (v := 1) ⟨h.lo, h.hi⟩ h1 k
  have hne := fun k => pow_ne_zero h h1 (by decide) k
  have hnd : ((List.range (2 ^ w)).map (fun i => pow n w i 1 - 1)).Nodup := by
    unfold List.Nodup
    rw [List.pairwise_map]
    refine List.Pairwise.imp_of_mem ?_ List.pairwise_lt_range
    intro a b ha hb hab e
    have ha' := List.mem_range.mp ha
    have hb' := List.mem_range.mp hb
    have e2 : pow n w a 1 = pow n w b 1 := by
      have := hne a; have := hne b; omega
    have e3 : pow n w a 1 = pow n w a (pow n w (b - a) 1) := by
      rw [← pow_add, show a + (b - a) = b by omega]; exact e2
    have e4 := pow_inj h h1 (hlt (b - a)) e3
    exact hno' (b - a) (by omega) (by omega) e4.symm
  have := php (2 ^ w - 1) _ hnd (fun x hx => by
    obtain ⟨i, _, rfl⟩ := List.mem_map.mp hx
    have := hlt i; have := hne i; omega)
  rw [List.length_map, List.length_range] at this
  omega
theorem exists_reach {n w : Nat} (h : IsDivN n w) (hw : 1 ≤ w) : ∃ P, IsReach n w P ∧ P ≤ 2 ^ w - 1 := by
  obtain ⟨k, h1, h2, h3⟩ := exists_back h hw
  obtain ⟨P, ⟨p1, p2, p3⟩, hl⟩ := exists_least (p := fun k => 1 ≤ k ∧ k ≤ 2 ^ w - 1 ∧ pow n w k 1 = 1) k ⟨h1, h2, h3⟩
  exact ⟨P, ⟨p1, p3, fun k q1 q2 q3 => hl k q2 ⟨q1, by omega, q3⟩⟩, p2⟩
theorem IsReach.unique {n w P P' : Nat} (h : IsReach n w P) (h' : IsReach n w P') : P = P' := by
  rcases Nat.lt_trichotomy P P' with e | e | e
  · exact absurd h.back (h'.least P h.pos e)
  · exact e
  · exact absurd h'.back (h.least P' h'.pos e)
theorem onw_two_pow {n w k : Nat} (hk : k + 1 < w) : onw n w (2 ^ k) = 2 ^ (k + 1) := by
  unfold onw
  rw [show 2 * 2 ^ k = 2 ^ (k + 1) by rw [Nat.pow_succ]; omega]
  exact red_of_lt (Nat.pow_lt_pow_right (by decide) hk)
theorem pow_one {n w k : Nat} (hk : k < w) : pow n w k 1 = 2 ^ k := by
  induction k with
  | zero => rfl
  | succ k ih => rw [pow, ih (by omega), onw_two_pow hk]
theorem IsReach.id {n w P : Nat} (h : IsReach n w P) : ∀ m, m ≤ w → ∀ v, v < 2 ^ m → pow n w P v = v := by
  intro m
  induction m with
  | zero => intro _ v hv; have : v = 0 := by simpa using hv
            rw [this, pow_zero']
  | succ m ih =>
    intro hm v hv
    rcases Nat.lt_or_ge v (2 ^ m) with h1 | h1
    · exact ih (by omega) v h1
    · have hb := testBit_top h1 hv
      have h2 : v ^^^ 2 ^ m < 2 ^ m := lt_of_bits (Nat.xor_lt_two_pow hv (by rw [Nat.pow_succ]; have := Nat.two_pow_pos m; omega)) (by
        rw [Nat.testBit_xor, hb, Nat.testBit_two_pow_self]; rfl)
      have h3 : v = (v ^^^ 2 ^ m) ^^^ 2 ^ m := by rw [Nat.xor_assoc, Nat.xor_self, Nat.xor_zero]
      have h4 : pow n w P (2 ^ m) = 2 ^ m := by
        rw [← pow_one (n := n) (show m < w by omega), ← pow_add, Nat.add_comm, pow_add, h.back]
      have h5 := pow_xor n w P (v ^^^ 2 ^ m) (2 ^ m)
      rw [ih (by omega) _ h2, h4, ← h3] at h5
      exact h5
/-! the rest of a row, by numbers -/
def RF (n w v : Nat) (row : List Int) : Nat := row.foldl (fun v s => red n w (2 * v + s.toNat)) v
def R (n w : Nat) (row : List Int) : Nat := RF n w 0 row
theorem RF_append (n w v : Nat) (a b : List Int) : RF n w v (a ++ b) = RF n w (RF n w v a) b := by simp [RF, List.foldl_append]
theorem RF_cons (n w v : Nat) (x : Int) (r : List Int) : RF n w v (x :: r) = RF n w (red n w (2 * v + x.toNat)) r := rfl
theorem R_snoc (n w : Nat) (r : List Int) (s : Int) : R n w (r ++ [s]) = red n w (2 * R n w r + s.toNat) := by simp [R, RF_append]; rfl
theorem toNat_row {x : Int} (h : x = 0 ∨ x = 1) : x.toNat < 2 := by rcases h with rfl | rfl <;> decide
theorem RF_split (n w v : Nat) {row : List Int} (h : IsRow row) : RF n w v row = pow n w row.length v ^^^ R n w row := by
  have key : ∀ (row : List Int), IsRow row → ∀ a b, RF n w (a ^^^ b) row = pow n w row.length a ^^^ RF n w b row := by
    intro row
    induction row with
    | nil => intro _ a b; rfl
    | cons x r ih =>
      intro h a b
      have h' := isRow_cons.mp h
      have e : red n w (2 * (a ^^^ b) + x.toNat) = onw n w a ^^^ red n w (2 * b + x.toNat) := by
        have := two_xor a b 0 x.toNat (by decide) (toNat_row h'.1)
        rw [Nat.add_zero, Nat.zero_add, Nat.mod_eq_of_lt (toNat_row h'.1)] at this
        rw [← this, red_xor]; rfl
      rw [RF_cons, e, ih h'.2, RF_cons, List.length_cons, pow_succ']
  have := key row h v 0
  rw [Nat.xor_zero] at this
  exact this
theorem R_append (n w : Nat) (a : List Int) {b : List Int} (hb : IsRow b) : R n w (a ++ b) = pow n w b.length (R n w a) ^^^ R n w b := by
  rw [R, RF_append, RF_split n w _ hb]; rfl
theorem R_short (n : Nat) {w : Nat} {row : List Int} (hr : IsRow row) (hl : row.length ≤ w) : R n w row = val row := by
  generalize hn : row.length = k
  induction k generalizing row with
  | zero => rw [List.length_eq_zero_iff.mp hn]; rfl
  | succ k ih =>
    obtain ⟨a, x, rfl⟩ : ∃ a x, row = a ++ [x] := ⟨row.dropLast, row.getLast (by intro e; simp [e] at hn), (List.dropLast_concat_getLast _).symm⟩
    have h' := isRow_append.mp hr
    have hn' : a.length = k := by simpa using hn
    rw [R_snoc, ih h'.1 (by omega) hn', ← val_snoc]
    refine red_of_lt (Nat.lt_of_lt_of_le (val_lt hr) (Nat.pow_le_pow_right (by decide) (by omega)))
theorem R_zeros (n w k : Nat) : R n w (List.replicate k 0) = 0 := by
  induction k with
  | zero => rfl
  | succ k ih => rw [List.replicate_succ', R_snoc, ih]; simp [red_zero]
theorem R_zeros_append (n w k : Nat) {row : List Int} (h : IsRow row) : R n w (List.replicate k 0 ++ row) = R n w row := by
  rw [R_append _ _ _ h, R_zeros, pow_zero', Nat.zero_xor]
theorem R_behind (n w k : Nat) (row : List Int) : R n w (row ++ List.replicate k 0) = pow n w k (R n w row) := by
  rw [R_append _ _ _ (isRow_replicate0 k), R_zeros, Nat.xor_zero, List.length_replicate]
theorem R_sum2 (n w : Nat) {a b : List Int} (ha : IsRow a) (hb : IsRow b) (hl : a.length = b.length) : R n w (sum2 a b) = R n w a ^^^ R n w b := by
  generalize hn : a.length = k
  induction k generalizing a b with
  | zero =>
    have : a = [] := List.length_eq_zero_iff.mp hn
    have : b = [] := List.length_eq_zero_iff.mp (hl ▸ hn)
    subst_vars; simp [sum2, R, RF]
  | succ k ih =>
    have hb' : b.length = k + 1 := by omega
    obtain ⟨a', x, rfl⟩ : ∃ a' x, a = a' ++ [x] := ⟨a.dropLast, a.getLast (by intro e; simp [e] at hn), (List.dropLast_concat_getLast _).symm⟩
    obtain ⟨b', y, rfl⟩ : ∃ b' y, b = b' ++ [y] := ⟨b.dropLast, b.getLast (by intro e; simp [e] at hb'), (List.dropLast_concat_getLast _).symm⟩
    have hl' : a'.length = b'.length := by simpa using hl
    have r1 := isRow_append.mp ha
    have r2 := isRow_append.mp hb
    have hx := r1.2 x (by simp)
    have hy := r2.2 y (by simp)
    rw [sum2_snoc hl', R_snoc, R_snoc, R_snoc, ih r1.1 r2.1 hl' (by simpa using hn), ← red_xor, two_xor _ _ _ _ (toNat_row hx) (toNat_row hy)]
    rcases hx with rfl | rfl <;> rcases hy with rfl | rfl <;> rfl
theorem R_unit (n : Nat) {w : Nat} (hw : 1 ≤ w) (k p : Nat) : R n w (List.replicate k 0 ++ 1 :: List.replicate p 0) = pow n w p 1 := by
  have e : List.replicate k (0 : Int) ++ 1 :: List.replicate p 0 = (List.replicate k 0 ++ [1]) ++ List.replicate p 0 := by simp
  rw [e, R_behind, R_zeros_append _ _ _ (isRow_single (.inr rfl)), R_short n (isRow_single (.inr rfl)) (by simpa using hw)]
  rfl

/-! the rest of a row, as a row -/
def stepBy (rest : List Int) (sign : Int) (d : List Int) : List Int :=
  (if (rest ++ [sign]).head? = some 1 then sum2 (rest ++ [sign]) d else rest ++ [sign]).tail
def restBy (row d : List Int) : List Int := row.foldl (fun rest s => stepBy rest s d) (List.replicate (d.length - 1) 0)
structure IsDiv1 (d : List Int) : Prop where
  row : IsRow d
  head : d.head? = some 1
theorem IsDiv1.cons {d : List Int} (h : IsDiv1 d) : ∃ t, d = 1 :: t ∧ IsRow t := by
  cases d with
  | nil => cases h.head
  | cons x t =>
    have : x = 1 := by simpa using h.head
    exact ⟨t, by rw [this], (isRow_cons.mp h.row).2⟩
theorem IsDiv1.bounds {d : List Int} (h : IsDiv1 d) : 2 ^ (d.length - 1) ≤ val d ∧ val d < 2 ^ (d.length - 1 + 1) := by
  obtain ⟨t, rfl, ht⟩ := h.cons
  have := val_lt ht
  rw [val_cons]
  simp only [List.length_cons, Nat.add_sub_cancel, Nat.pow_succ]
  simp; omega
theorem head_bit {w : Nat} {l : List Int} (hl : l.length = w + 1) (hr : IsRow l) : l.head? = some 1 ↔ (val l).testBit w = true := by
  cases l with
  | nil => simp at hl
  | cons x t =>
    have ht : t.length = w := by simpa using hl
    have h' := isRow_cons.mp hr
    have h1 := val_lt h'.2
    rw [testBit_top_iff (by have := val_lt hr; rwa [hl] at this), val_cons, ht]
    rw [ht] at h1
    rcases h'.1 with rfl | rfl <;> simp <;> omega
theorem stepBy_spec {rest d : List Int} {s : Int} (hd : IsDiv1 d) (hr : IsRow rest) (hs : s = 0 ∨ s = 1) (hl : rest.length = d.length - 1) :
    IsRow (stepBy rest s d) ∧ (stepBy rest s d).length = d.length - 1 ∧ val (stepBy rest s d) = red (val d) (d.length - 1) (2 * val rest + s.toNat) := by
  obtain ⟨t, rfl, ht⟩ := hd.cons
  have hl1 : rest.length = t.length := by simpa using hl
  have hrow : IsRow (rest ++ [s]) := isRow_append.mpr ⟨hr, isRow_single hs⟩
  have hlen : (rest ++ [s]).length = t.length + 1 := by simp [hl1]
  have hb := head_bit hlen hrow
  have hw : (1 :: t : List Int).length - 1 = t.length := by simp
  rw [hw, ← val_snoc]
  unfold stepBy red
  by_cases h1 : (rest ++ [s]).head? = some 1
  · rw [if_pos h1, if_pos (hb.mp h1)]
    have hl2 : (rest ++ [s]).length = (1 :: t : List Int).length := by simp [hl1]
    have hlS := sum2_length hl2
    rw [hlen] at hlS
    have hrS := sum2_isRow (rest ++ [s]) (1 :: t)
    have hv := val_sum2 hrow hd.row hl2
    have hbt : (val (sum2 (rest ++ [s]) (1 :: t))).testBit t.length = false := by
      rw [hv, Nat.testBit_xor, hb.mp h1]
      have := hd.bounds
      rw [hw] at this
      rw [testBit_top this.1 this.2]; rfl
    cases hS : sum2 (rest ++ [s]) (1 :: t) with
    | nil => rw [hS] at hlS; simp at hlS
    | cons x u =>
      rw [hS] at hlS hrS hbt hv
      have hx : x = 0 := by
        rcases (isRow_cons.mp hrS).1 with e | e
        · exact e
        · have := (head_bit hlS hrS).mp (by simp [e])
          rw [this] at hbt; cases hbt
      subst hx
      rw [val_cons] at hv
      refine ⟨(isRow_cons.mp hrS).2, by simpa using hlS, ?_⟩
      rw [← hv]; simp
  · rw [if_neg h1, if_neg (fun h => h1 (hb.mpr h))]
    cases hS : rest ++ [s] with
    | nil => rw [hS] at hlen; simp at hlen
    | cons x u =>
      rw [hS] at hlen hrow h1
      have hx : x = 0 := by
        rcases (isRow_cons.mp hrow).1 with e | e
        · exact e
        · exact absurd (by simp [e]) h1
      subst hx
      refine ⟨(isRow_cons.mp hrow).2, by simpa using hlen, ?_⟩
      rw [val_cons]; simp
theorem restBy_snoc (row d : List Int) (s : Int) : restBy (row ++ [s]) d = stepBy (restBy row d) s d := by simp [restBy, List.foldl_append]
theorem restBy_spec {row d : List Int} (hd : IsDiv1 d) (hr : IsRow row) :
    IsRow (restBy row d) ∧ (restBy row d).length = d.length - 1 ∧ val (restBy row d) = R (val d) (d.length - 1) row := by
  generalize hn : row.length = k
  induction k generalizing row with
  | zero =>
    rw [List.length_eq_zero_iff.mp hn]
    exact ⟨isRow_replicate0 _, by simp [restBy], by simp [restBy, val_replicate0, R, RF]⟩
  | succ k ih =>
    obtain ⟨a, x, rfl⟩ : ∃ a x, row = a ++ [x] := ⟨row.dropLast, row.getLast (by intro e; simp [e] at hn), (List.dropLast_concat_getLast _).symm⟩
    have h' := isRow_append.mp hr
    obtain ⟨i1, i2, i3⟩ := ih h'.1 (by simpa using hn)
    have hx := h'.2 x (by simp)
    obtain ⟨s1, s2, s3⟩ := stepBy_spec hd i1 hx i2
    rw [restBy_snoc]
    exact ⟨s1, s2, by rw [s3, i3, R_snoc]⟩
theorem restBy_eq {row row' d : List Int} (hd : IsDiv1 d) (hr : IsRow row) (hr' : IsRow row') (h : R (val d) (d.length - 1) row = R (val d) (d.length - 1) row') : restBy row d = restBy row' d := by
  obtain ⟨a1, a2, a3⟩ := restBy_spec hd hr
  obtain ⟨b1, b2, b3⟩ := restBy_spec hd hr'
  exact val_inj a1 b1 (a2.trans b2.symm) (by rw [a3, b3, h])
theorem restBy_short {row d : List Int} (hd : IsDiv1 d) (hr : IsRow row) (hl : row.length = d.length - 1) : restBy row d = row := by
  obtain ⟨a1, a2, a3⟩ := restBy_spec hd hr
  exact val_inj a1 hr (a2.trans hl.symm) (by rw [a3, R_short _ hr (by omega)])
theorem restBy_zeros {row d : List Int} (hd : IsDiv1 d) (hr : IsRow row) (k : Nat) : restBy (List.replicate k 0 ++ row) d = restBy row d :=
  restBy_eq hd (isRow_append.mpr ⟨isRow_replicate0 k, hr⟩) hr (R_zeros_append _ _ _ hr)
end Mine

/-! adding a row into a list, place by place -/
namespace Mine
def xorFrom (left : List Int) (p : Nat) : List Int → List Int
  | [] => left
  | m :: ms => xorFrom (left.set p ((left.getD p 0 + m) % 2)) (p + 1) ms
theorem xorFrom_length (left : List Int) (p : Nat) (ms : List Int) : (xorFrom left p ms).length = left.length := by
  induction ms generalizing left p with
  | nil => rfl
  | cons m ms ih => rw [xorFrom, ih, List.length_set]
theorem xorFrom_snoc (left : List Int) (p : Nat) (ms : List Int) (m : Int) :
    xorFrom left p (ms ++ [m]) = (xorFrom left p ms).set (p + ms.length) (((xorFrom left p ms).getD (p + ms.length) 0 + m) % 2) := by
  induction ms generalizing left p with
  | nil => rfl
  | cons x ms ih => rw [List.cons_append, xorFrom, ih, xorFrom, List.length_cons, show p + 1 + ms.length = p + (ms.length + 1) by omega]
theorem xorFrom_isRow {left : List Int} (h : IsRow left) (p : Nat) (ms : List Int) : IsRow (xorFrom left p ms) := by
  induction ms generalizing left p with
  | nil => exact h
  | cons m ms ih => exact ih (h.set (by omega) p) (p + 1)
theorem xorFrom_split : ∀ (ms pre mid post : List Int), mid.length = ms.length → xorFrom (pre ++ mid ++ post) pre.length ms = pre ++ sum2 mid ms ++ post
  | [], pre, mid, post, h => by
    have : mid = [] := List.length_eq_zero_iff.mp h
    subst this; simp [xorFrom, sum2]
  | m :: ms, pre, mid, post, h => by
    cases mid with
    | nil => simp at h
    | cons x mid =>
      have hl : mid.length = ms.length := by simpa using h
      rw [xorFrom]
      have e1 : (pre ++ x :: mid ++ post).getD pre.length 0 = x := by simp [List.getD_eq_getElem?_getD]
      have e2 : (pre ++ x :: mid ++ post).set pre.length ((x + m) % 2) = (pre ++ [(x + m) % 2]) ++ mid ++ post := by simp [List.set_append]
      rw [e1, e2]
      have := xorFrom_split ms (pre ++ [(x + m) % 2]) mid post hl
      rw [List.length_append, List.length_singleton] at this
      rw [this]
      simp [sum2]
theorem getD_ext {a b : List Int} (hl : a.length = b.length) (h : ∀ i, i < a.length → a.getD i 0 = b.getD i 0) : a = b := by
  apply List.ext_getElem hl
  intro i h1 h2
  have := h i h1
  simpa [List.getD_eq_getElem?_getD, h1, h2] using this
/-- the long division's turn: the list and the quotient -/
def partTurn (d : List Int) (st : List Int × List Int) (k : Nat) : List Int × List Int :=
  (if st.1.getD k 0 = 1 then xorFrom st.1 k d else st.1, st.2 ++ [st.1.getD k 0])
def partLoop (d left : List Int) : Nat → List Int × List Int
  | 0 => (left, [])
  | n + 1 => partTurn d (partLoop d left n) n
theorem partLoop_len (d left : List Int) (n : Nat) : (partLoop d left n).1.length = left.length ∧ (partLoop d left n).2.length = n := by
  induction n with
  | zero => exact ⟨rfl, rfl⟩
  | succ n ih =>
    rw [partLoop, partTurn]
    refine ⟨?_, by simp [ih.2]⟩
    show (if _ then _ else _ : List Int).length = _
    split
    · rw [xorFrom_length, ih.1]
    · exact ih.1
theorem partLoop_isRow (d : List Int) {left : List Int} (h : IsRow left) (n : Nat) : IsRow (partLoop d left n).1 ∧ IsRow (partLoop d left n).2 := by
  induction n with
  | zero => exact ⟨h, isRow_nil⟩
  | succ n ih =>
    rw [partLoop, partTurn]
    refine ⟨?_, isRow_append.mpr ⟨ih.2, isRow_single (ih.1.getD n)⟩⟩
    show IsRow (if _ then _ else _)
    split
    · exact xorFrom_isRow ih.1 _ _
    · exact ih.1
theorem partLoop_rest {d left : List Int} (hd : IsDiv1 d) (hr : IsRow left) : ∀ n, n + (d.length - 1) ≤ left.length →
    (partLoop d left n).1 = List.replicate n 0 ++ restBy (left.take (n + (d.length - 1))) d ++ left.drop (n + (d.length - 1)) := by
  intro n
  induction n with
  | zero =>
    intro hn
    rw [Nat.zero_add] at hn ⊢
    rw [restBy_short hd (hr.take _) (by rw [List.length_take]; omega)]
    simp [partLoop]
  | succ n ih =>
    intro hn
    have ih' := ih (by omega)
    have hlt : n + (d.length - 1) < left.length := by omega
    obtain ⟨c1, c2, _⟩ := restBy_spec hd (hr.take (n + (d.length - 1)))
    have hsplit : left.drop (n + (d.length - 1)) = left[n + (d.length - 1)] :: left.drop (n + (d.length - 1) + 1) := List.drop_eq_getElem_cons hlt
    have hs := hr.getElem hlt
    generalize hS : left[n + (d.length - 1)] = s at hsplit hs
    have htake : left.take (n + 1 + (d.length - 1)) = left.take (n + (d.length - 1)) ++ [s] := by
      rw [show n + 1 + (d.length - 1) = (n + (d.length - 1)) + 1 by omega, List.take_add_one, List.getElem?_eq_getElem hlt, hS]; rfl
    rw [htake, restBy_snoc, show n + 1 + (d.length - 1) = (n + (d.length - 1)) + 1 by omega]
    generalize hC : restBy (left.take (n + (d.length - 1))) d = cur at *
    generalize left.drop (n + (d.length - 1) + 1) = more at *
    rw [hsplit] at ih'
    have eL : (partLoop d left n).1 = List.replicate n 0 ++ (cur ++ [s]) ++ more := by rw [ih']; simp
    have eg : (partLoop d left n).1.getD n 0 = (cur ++ [s]).head?.getD 0 := by
      rw [eL, List.getD_eq_getElem?_getD, List.append_assoc, List.getElem?_append_right (by simp)]
      cases cur <;> simp
    have hlen : (cur ++ [s]).length = d.length := by
      have h1 : 1 ≤ d.length := by obtain ⟨t, rfl, _⟩ := hd.cons; simp
      simp [c2]; omega
    obtain ⟨y, u, hyu⟩ : ∃ y u, cur ++ [s] = y :: u := by cases cur <;> simp
    have hy := (isRow_cons.mp (hyu ▸ isRow_append.mpr ⟨c1, isRow_single hs⟩ : IsRow (y :: u))).1
    rw [partLoop, partTurn]
    show (if (partLoop d left n).1.getD n 0 = 1 then xorFrom (partLoop d left n).1 n d else (partLoop d left n).1) = _
    rw [eg, eL]
    unfold stepBy
    rw [hyu]
    show (if y = 1 then _ else _) = _
    have hh : (y :: u).head? = some 1 ↔ y = 1 := by simp
    by_cases h1 : y = 1
    · rw [if_pos h1, if_pos (hh.mpr h1)]
      have hx := xorFrom_split d (List.replicate n 0) (y :: u) more (by rw [← hyu]; exact hlen)
      rw [List.length_replicate] at hx
      rw [hx]
      obtain ⟨t, rfl, ht⟩ := hd.cons
      subst h1
      simp [sum2, List.replicate_succ']
    · rw [if_neg h1, if_neg (fun h => h1 (hh.mp h))]
      have : y = 0 := by omega
      subst this
      simp [List.replicate_succ']

/-- what parted gives -/
def leftOf (row d : List Int) : List Int := List.replicate (d.length - 1 - row.length) 0 ++ row
def quotOf (row d : List Int) : List Int := (partLoop d (leftOf row d) ((leftOf row d).length - (d.length - 1))).2
theorem leftOf_length (row d : List Int) : (leftOf row d).length = max row.length (d.length - 1) := by simp [leftOf]; omega
theorem leftOf_isRow {row : List Int} (h : IsRow row) (d : List Int) : IsRow (leftOf row d) := isRow_append.mpr ⟨isRow_replicate0 _, h⟩
theorem parted_left {row d : List Int} (hd : IsDiv1 d) (hr : IsRow row) :
    (partLoop d (leftOf row d) ((leftOf row d).length - (d.length - 1))).1 = List.replicate ((leftOf row d).length - (d.length - 1)) 0 ++ restBy row d := by
  have hl := leftOf_length row d
  have h := partLoop_rest hd (leftOf_isRow hr d) ((leftOf row d).length - (d.length - 1)) (by omega)
  rw [h, show (leftOf row d).length - (d.length - 1) + (d.length - 1) = (leftOf row d).length by omega, List.take_length, List.drop_length, List.append_nil]
  congr 1
  exact restBy_zeros hd hr _
end Mine

namespace Mine
/-! numbers told as rows -/
/-! a gate's divisor, and what the gate does -/
structure IsDiv (d : List Int) : Prop where
  row : IsRow d
  head : d.head? = some 1
  last : d.getLast? = some 1
  least : 2 ≤ d.length
  most : d.length ≤ 13
theorem IsDiv.one {d : List Int} (h : IsDiv d) : IsDiv1 d := ⟨h.row, h.head⟩
theorem IsDiv.n {d : List Int} (h : IsDiv d) : IsDivN (val d) (d.length - 1) := by
  refine ⟨h.one.bounds.1, h.one.bounds.2, ?_⟩
  obtain ⟨a, rfl⟩ : ∃ a, d = a ++ [1] := by
    have := h.last
    exact ⟨d.dropLast, by
      have hne : d ≠ [] := by intro e; subst e; cases this
      rw [List.getLast?_eq_some_getLast hne] at this
      have h2 := List.dropLast_concat_getLast hne
      rw [Option.some.inj this] at h2
      exact h2.symm⟩
  rw [val_snoc]
  show (2 * val a + 1) % 2 = 1
  omega
theorem IsDiv.w1 {d : List Int} (h : IsDiv d) : 1 ≤ d.length - 1 := by have := h.least; omega
theorem IsDiv.reach {d : List Int} (h : IsDiv d) : ∃ P, IsReach (val d) (d.length - 1) P ∧ P ≤ 4095 := by
  obtain ⟨P, h1, h2⟩ := exists_reach h.n h.w1
  refine ⟨P, h1, Nat.le_trans h2 ?_⟩
  have : 2 ^ (d.length - 1) ≤ 2 ^ 12 := Nat.pow_le_pow_right (by decide) (by have := h.most; omega)
  have e : 2 ^ 12 = 4096 := by decide
  omega
abbrev Reach (d : List Int) (P : Nat) : Prop := IsReach (val d) (d.length - 1) P
theorem sum_zero_iff {r : List Int} (h : IsRow r) : r.sum = 0 ↔ val r = 0 := by
  have nonneg : ∀ {r : List Int}, IsRow r → 0 ≤ r.sum := by
    intro r
    induction r with
    | nil => intro _; exact Int.le_refl 0
    | cons x r ih => intro h; have h' := isRow_cons.mp h; have := ih h'.2; rw [List.sum_cons]; omega
  induction r with
  | nil => simp [val]
  | cons x r ih =>
    have h' := isRow_cons.mp h
    have := nonneg h'.2
    have ih' := ih h'.2
    rw [List.sum_cons, val_cons]
    rcases h'.1 with rfl | rfl
    · simp; omega
    · have := Nat.two_pow_pos r.length
      constructor
      · intro e; omega
      · intro e; simp at e
theorem holds_iff {row d : List Int} (hd : IsDiv1 d) (hr : IsRow row) : (restBy row d).sum = 0 ↔ R (val d) (d.length - 1) row = 0 := by
  obtain ⟨a, _, c⟩ := restBy_spec hd hr
  rw [sum_zero_iff a, c]
/-! turned signs -/
def flip (r : List Int) (i : Nat) : List Int := r.take i ++ [1 - r.getD i 0] ++ r.drop (i + 1)
theorem flip_isRow {r : List Int} (h : IsRow r) (i : Nat) : IsRow (flip r i) :=
  isRow_append.mpr ⟨isRow_append.mpr ⟨h.take i, isRow_single (by rcases h.getD i with e | e <;> rw [e] <;> simp)⟩, h.drop _⟩
theorem flip_length {r : List Int} {i : Nat} (h : i < r.length) : (flip r i).length = r.length := by simp [flip]; omega
theorem R_flip {d : List Int} (hd : IsDiv d) {r : List Int} (h : IsRow r) {i : Nat} (hi : i < r.length) :
    R (val d) (d.length - 1) (flip r i) = R (val d) (d.length - 1) r ^^^ pow (val d) (d.length - 1) (r.length - 1 - i) 1 := by
  have hu : IsRow (List.replicate i 0 ++ 1 :: List.replicate (r.length - 1 - i) 0) := isRow_append.mpr ⟨isRow_replicate0 _, isRow_cons.mpr ⟨.inr rfl, isRow_replicate0 _⟩⟩
  have hl : r.length = (List.replicate i (0 : Int) ++ 1 :: List.replicate (r.length - 1 - i) 0).length := by simp; omega
  have e : flip r i = sum2 r (List.replicate i 0 ++ 1 :: List.replicate (r.length - 1 - i) 0) := by
    refine getD_ext (by rw [flip_length hi, sum2_length hl]) fun j hj => ?_
    rw [flip_length hi] at hj
    have hjr : r[j]? = some r[j] := List.getElem?_eq_getElem hj
    have hrj := h.getElem hj
    simp only [sum2, flip, List.getD_eq_getElem?_getD]
    rw [List.getElem?_zipWith, hjr]
    rcases Nat.lt_trichotomy j i with c | c | c
    · rw [List.getElem?_append_left (by simp; omega), List.getElem?_append_left (by simp; omega), List.getElem?_append_left (by simp; omega)]
      simp [c, hjr, List.getElem?_take]
      omega
    · subst c
      rw [List.getElem?_append_left (by simp; omega), List.getElem?_append_right (by simp; omega), List.getElem?_append_right (by simp)]
      have : j - min j r.length = 0 := by omega
      simp [hjr, this]
      omega
    · rw [List.getElem?_append_right (by simp; omega), List.getElem?_append_right (by simp; omega)]
      have e1 : j - (List.replicate i (0 : Int)).length = (j - i - 1) + 1 := by simp; omega
      rw [e1, List.getElem?_cons_succ, List.getElem?_replicate, if_pos (by omega), List.getElem?_drop]
      have e2 : i + 1 + (j - (List.take i r ++ [1 - r[i]?.getD 0]).length) = j := by simp; omega
      rw [e2, hjr]
      simp
      omega
  rw [e, R_sum2 _ _ h hu hl, R_unit _ hd.w1]
theorem pow_one_inj {d : List Int} (hd : IsDiv d) {P : Nat} (hP : Reach d P) {a b : Nat} (ha : a < P) (hb : b < P) (e : pow (val d) (d.length - 1) a 1 = pow (val d) (d.length - 1) b 1) : a = b := by
  have key : ∀ a b, a < b → b < P → pow (val d) (d.length - 1) a 1 ≠ pow (val d) (d.length - 1) b 1 := by
    intro a b h1 h2 e
    have h3 : pow (val d) (d.length - 1) a 1 = pow (val d) (d.length - 1) a (pow (val d) (d.length - 1) (b - a) 1) := by
      rw [← pow_add, show a + (b - a) = b by omega]; exact e
    have h4 := pow_inj hd.n (one_lt_pow hd.w1) (pow_lt hd.one.bounds (one_lt_pow hd.w1) _) h3
    exact hP.least (b - a) (by omega) (by omega) h4.symm
  rcases Nat.lt_trichotomy a b with c | c | c
  · exact absurd e (key a b c hb)
  · exact c
  · exact absurd e.symm (key b a c ha)
/-! parity -/
end Mine

namespace Mine
theorem two_and (a b x y : Nat) (hx : x < 2) (hy : y < 2) : (2 * a + x) &&& (2 * b + y) = 2 * (a &&& b) + x * y := by
  apply Nat.eq_of_testBit_eq
  intro i
  rw [Nat.testBit_and]
  have hxy : x * y < 2 := by
    have h1 : x = 0 ∨ x = 1 := by omega
    rcases h1 with rfl | rfl <;> simp <;> omega
  cases i with
  | zero =>
    simp only [Nat.testBit_zero]
    have h1 : x = 0 ∨ x = 1 := by omega
    have h2 : y = 0 ∨ y = 1 := by omega
    rcases h1 with rfl | rfl <;> rcases h2 with rfl | rfl <;> simp <;> omega
  | succ i =>
    simp only [Nat.testBit_succ]
    rw [show (2 * a + x) / 2 = a by omega, show (2 * b + y) / 2 = b by omega, show (2 * (a &&& b) + x * y) / 2 = a &&& b by omega, Nat.testBit_and]
theorem add_eq_xor_and (a b : Nat) : a + b = (a ^^^ b) + 2 * (a &&& b) := by
  induction a using Nat.strongRecOn generalizing b with
  | ind a ih =>
    by_cases h0 : a = 0
    · subst h0; simp
    · have i := ih (a / 2) (by omega) (b / 2)
      have h1 := two_xor (a / 2) (b / 2) (a % 2) (b % 2) (by omega) (by omega)
      have h2 := two_and (a / 2) (b / 2) (a % 2) (b % 2) (by omega) (by omega)
      rw [show 2 * (a / 2) + a % 2 = a by omega, show 2 * (b / 2) + b % 2 = b by omega] at h1 h2
      have c1 : a % 2 = 0 ∨ a % 2 = 1 := by omega
      have c2 : b % 2 = 0 ∨ b % 2 = 1 := by omega
      rcases c1 with e1 | e1 <;> rcases c2 with e2 | e2 <;> rw [e1, e2] at h1 h2 <;> omega

/-! the program's readings, over whole numbers -/
theorem fdiv_pow (v k : Nat) : Int.fdiv (v : Int) (2 ^ k) = ((v >>> k : Nat) : Int) := by
  rw [Nat.shiftRight_eq_div_pow, Int.fdiv_eq_ediv_of_nonneg _ (by exact_mod_cast Nat.zero_le (2 ^ k))]
  simp
theorem testBit_shift (v k : Nat) : (v >>> k) % 2 = 1 ↔ v.testBit k = true := by
  rw [Nat.testBit_eq_decide_div_mod_eq, Nat.shiftRight_eq_div_pow]; simp
/-- a gate's mending -/
def Mends (d row out : List Int) : Prop :=
  (R (val d) (d.length - 1) row = 0 ∧ out = row) ∨ (R (val d) (d.length - 1) row ≠ 0 ∧ ∃ p, p < row.length ∧ pow (val d) (d.length - 1) p 1 = R (val d) (d.length - 1) row ∧ out = flip row (row.length - 1 - p))
def NoMend (d row : List Int) : Prop := R (val d) (d.length - 1) row ≠ 0 ∧ ∀ p, p < row.length → pow (val d) (d.length - 1) p 1 ≠ R (val d) (d.length - 1) row
theorem Mends.unique {d : List Int} (hd : IsDiv d) {P : Nat} (hP : Reach d P) {row o o' : List Int} (hl : row.length ≤ P) (h : Mends d row o) (h' : Mends d row o') : o = o' := by
  rcases h with ⟨a, b⟩ | ⟨a, p, b, c, e⟩ <;> rcases h' with ⟨a', b'⟩ | ⟨a', p', b', c', e'⟩
  · rw [b, b']
  · exact absurd a a'
  · exact absurd a' a
  · have := pow_one_inj hd hP (by omega) (by omega) (c.trans c'.symm)
    rw [e, e', this]
theorem Mends.not {d row o : List Int} (h : Mends d row o) (h' : NoMend d row) : False := by
  rcases h with ⟨a, _⟩ | ⟨_, p, b, c, _⟩
  · exact h'.1 a
  · exact h'.2 p b c
theorem Mends.holds {d : List Int} (hd : IsDiv d) {row o : List Int} (hr : IsRow row) (h : Mends d row o) : R (val d) (d.length - 1) o = 0 ∧ IsRow o ∧ o.length = row.length := by
  rcases h with ⟨a, rfl⟩ | ⟨_, p, b, c, rfl⟩
  · exact ⟨a, hr, rfl⟩
  · refine ⟨?_, flip_isRow hr _, flip_length (by omega)⟩
    rw [R_flip hd hr (by omega), show row.length - 1 - (row.length - 1 - p) = p by omega, c, Nat.xor_self]
end Mine

namespace Mine
/-! law 01 -/
def padTo (k : Nat) (r : List Int) : List Int := List.replicate (k - r.length) 0 ++ r
def addOf (a b : List Int) : List Int := sum2 (padTo (max a.length b.length) a) (padTo (max a.length b.length) b)
theorem flatten_replicate_single (n : Nat) (x : Int) : (List.replicate n [x]).flatten = List.replicate n x := by
  induction n with
  | zero => rfl
  | succ n ih => rw [List.replicate_succ, List.flatten_cons, ih]; rfl
theorem isRow_map_ite {α : Type} (p : α → Bool) (l : List α) : IsRow (l.map fun k => if p k = true then (1 : Int) else 0) := by
  intro x hx
  obtain ⟨k, _, rfl⟩ := List.mem_map.mp hx
  by_cases h : p k = true
  · rw [if_pos h]; exact .inr rfl
  · rw [if_neg h]; exact .inl rfl
theorem isRow_flat {n : Nat} {x : Int} (h : x = 0 ∨ x = 1) : IsRow (List.replicate n [x]).flatten := by
  rw [flatten_replicate_single]
  intro y hy
  rw [List.eq_of_mem_replicate hy]; exact h
theorem flat_length (n : Nat) (x : Int) : (List.replicate n [x]).flatten.length = n := by rw [flatten_replicate_single, List.length_replicate]
theorem padTo_length (k : Nat) {r : List Int} (h : r.length ≤ k) : (padTo k r).length = k := by simp [padTo]; omega
theorem addOf_length (a b : List Int) : (addOf a b).length = max a.length b.length := by
  rw [addOf, sum2_length (by rw [padTo_length _ (Nat.le_max_left ..), padTo_length _ (Nat.le_max_right ..)]), padTo_length _ (Nat.le_max_left ..)]
theorem addOf_isRow (a b : List Int) : IsRow (addOf a b) := sum2_isRow _ _
theorem fm_ge (a n : Int) (h : 0 < n) : 0 ≤ a.fmod n := by rw [Int.fmod_eq_emod_of_nonneg _ (Int.le_of_lt h)]; exact Int.emod_nonneg _ (by omega)
theorem fm_le (a n k : Int) (h : 0 < n) (hk : n ≤ k + 1) : a.fmod n ≤ k := by
  rw [Int.fmod_eq_emod_of_nonneg _ (Int.le_of_lt h)]
  have := Int.emod_lt_of_pos a h
  omega
end Mine

end

section

namespace Mine
theorem xor_next {rs rs' ms : List Int} {i j : Nat} {x : Int} (h : rs' = xorFrom rs i (ms.take j)) (hx : ms[j]? = some x) :
    rs'.set ((i : Int) + (j : Int)).toNat ((rs'.getD ((i : Int) + (j : Int)).toNat 0 + x).fmod 2) = xorFrom rs i (ms.take (j + 1)) := by
  have hj : j < ms.length := (List.getElem?_eq_some_iff.mp hx).1
  have e : ((i : Int) + (j : Int)).toNat = i + j := by omega
  have ht : ms.take (j + 1) = ms.take j ++ [x] := by rw [List.take_succ, hx]; rfl
  rw [e, ht, xorFrom_snoc, ← h, List.length_take, Nat.min_eq_left (by omega), Int.fmod_eq_emod_of_nonneg _ (by decide)]
end Mine
namespace Mine
end Mine

end

section

namespace Mine
theorem leftOf_eq (ns ms : List Int) (k : Nat) (hk : k = ms.length - 1 - ns.length) : (List.replicate k [(0 : Int)]).flatten ++ ns = leftOf ns ms := by
  rw [flatten_replicate_single, hk]; rfl
theorem isDiv1_of {ms : List Int} (hr : IsRow ms) (h : ¬ (ms.length = 0 ∨ ms.getD 0 0 = 0)) : IsDiv1 ms := by
  refine ⟨hr, ?_⟩
  cases ms with
  | nil => exact absurd (.inl rfl) h
  | cons x t =>
    have := hr x (.head _)
    rcases this with rfl | rfl
    · exact absurd (.inr rfl) h
    · rfl
theorem partLoop_succ (d left : List Int) (n : Nat) : partLoop d left (n + 1) = (if (partLoop d left n).1.getD n 0 = 1 then xorFrom (partLoop d left n).1 n d else (partLoop d left n).1, (partLoop d left n).2 ++ [(partLoop d left n).1.getD n 0]) := rfl
theorem parted_rest {row d : List Int} (hd : IsDiv1 d) (hr : IsRow row) : (partLoop d (leftOf row d) ((leftOf row d).length - (d.length - 1))).1.drop ((leftOf row d).length - (d.length - 1)) = restBy row d := by
  rw [parted_left hd hr, List.drop_append_of_le_length (by simp), List.drop_of_length_le (by simp)]; rfl
theorem restBy_len {row d : List Int} (hd : IsDiv1 d) (hr : IsRow row) : (restBy row d).length = d.length - 1 := (restBy_spec hd hr).2.1
theorem isDiv_of {ms : List Int} (hr : IsRow ms) (h2 : 2 ≤ ms.length) (h13 : ms.length ≤ 13) (h0 : ¬ ms.getD 0 0 = 0) (h1 : ¬ ms.getD (ms.length - 1) 0 = 0) : IsDiv ms := by
  refine ⟨hr, (isDiv1_of hr (by omega)).head, ?_, h2, h13⟩
  rw [List.getLast?_eq_getElem?, List.getElem?_eq_getElem (by omega)]
  have h3 : ms[ms.length - 1] = 0 ∨ ms[ms.length - 1] = 1 := hr.getElem (by omega)
  rw [List.getD_eq_getElem?_getD, List.getElem?_eq_getElem (by omega)] at h1
  rcases h3 with h3 | h3
  · exact absurd h3 h1
  · rw [h3]
theorem IsDiv.first {ms : List Int} (h : IsDiv ms) : ms.getD 0 0 = 1 := by
  have := h.head
  cases ms with
  | nil => cases this
  | cons x t => simpa using this
theorem IsDiv.final {ms : List Int} (h : IsDiv ms) : ms.getD (ms.length - 1) 0 = 1 := by
  have := h.last
  rw [List.getLast?_eq_getElem?] at this
  rw [List.getD_eq_getElem?_getD, this]; rfl
end Mine
namespace Mine
end Mine
namespace Mine
end Mine

end

section

namespace Mine
/-! law 12: signs turned one after another behind a place -/
/-! law 13: a divisor with an even sum, an odd number of marks -/
/-! the rest by steps, for a loop over the row -/
end Mine

end

section
open PySem PySem.W PySem.Calls PyProof.Rows
namespace Mine

/-- around a frame, nothing held -/
abbrev arA (dp un : Nat) (gd : Option (List Code)) (fr : List Env) : Around := { handled := none, depth := dp, frames := some fr, guards := gd, units := un }

/-- the ground at a call: the written part, the top, the frames below -/
structure Gd (K : Frag) (p : Program) (loose : List Str) (mean : ExcName → Option Value) (mg mb : Str → Option Value) (base : Heap) (fr : List Env) (h : Heap) : Prop where
  stays : base.StaysIn h
  frames : h.FunFrames base fr
  kin : K.In h
  top : Top p loose mean mg mb h
  kbase : K.In base
  tbase : Top p loose mean mg mb base
  dicts : KtsDicts (fr.filterMap (·.frame)) h

theorem dicts_push {h₀ h : Heap} {L : Addr} {m : Str → Option Value} {env : Env} {fr : List Env} (D : KtsDicts (fr.filterMap (·.frame)) h₀) (F : Fr h₀ L h m) (he : env.frame = some L) : KtsDicts ((env :: fr).filterMap (·.frame)) h := fun b hm => by
  obtain ⟨env', he', hf⟩ := List.mem_filterMap.mp hm
  rcases List.mem_cons.mp he' with rfl | he'
  · rw [he] at hf
    obtain rfl : L = b := Option.some.inj hf
    obtain ⟨o, es, ep, ho, hd, _⟩ := F.ns
    exact ⟨o, es, ep, ho, hd⟩
  · obtain ⟨o, es, n, ho, hd⟩ := D b (List.mem_filterMap.mpr ⟨env', he', hf⟩)
    exact ⟨o, es, n, F.keep _ _ ho, hd⟩

section
variable {prog : Program} {w : World} {K : Frag} {p : Program} {loose : List Str} {mean : ExcName → Option Value} {mg mb : Str → Option Value} {base : Heap} {fr : List Env}

theorem Gd.below {h : Heap} (G : Gd K p loose mean mg mb base fr h) (dp un : Nat) (gd : Option (List Code)) : Below (arA dp un gd fr) base fr h := ⟨rfl, G.stays, G.frames⟩

theorem enter0 {dp un : Nat} {gd : Option (List Code)} {s : Shared} {Q E : Value → Shared → Prop} {name qual : Str} {params : Arguments} {body : List Stmt} {scope : Scope} {dV kV doc pm cdv ct oc : Value} {an od : Option Addr} {osl : Array (Option Value)} {f : Addr} {args : List Value} {binds : List (Str × Value)}
    (G : Gd K p loose mean mg mb base fr s.heap)
    (ho : K.lookup f = some ⟨oc, od, .func (fnOf name qual params body scope dV kV doc pm an cdv ct), osl⟩) (hcd : codeIn K cdv qual = true) (hroom : dp < recursionLimit)
    (hbind : BindsTo s (fnOf name qual params body scope dV kV doc pm an cdv ct) ⟨args, []⟩ binds) (hloc : ∀ y ∈ binds, scope.names.lookup y.1 = some .local)
    (h : ∀ L' h₁ tk, Fr s.heap L' h₁ (fun y => binds.reverse.lookup y) →
      wpAny (model prog w) (arA (dp + 1) (un + 3) gd (envOf qual scope L' f cdv :: fr)) (execs body (envOf qual scope L' f cdv))
        (fun fl s' => Q (match fl with | .ret v => v | _ => .none) s')
        (fun e s' => wpAny (model prog w) (arA (dp + 1) (un + 3) gd (envOf qual scope L' f cdv :: fr)) (leaving (envOf qual scope L' f cdv) e) (fun _ s'' => E e s'') (fun e' s'' => E e' s'') s')
        { s with heap := h₁, toks := tk })
    (hco : scope.isCoroutine = false) (hgen : scope.isGenerator = false) (hk : scope.kind = .function) (hcell : ∀ x ∈ scope.names, x.2 ≠ .cell) :
    wpAny (model prog w) (arA dp un gd fr) (call (.ref f) args) Q E s := by
  refine wpAny_call ?_
  refine codeAny_call_def (fd := fnOf name qual params body scope dV kV doc pm an cdv ct) (body := body) (binds := binds) hroom (G.kin _ _ ho) rfl G.top.nolimit (codeRec_of G.kin hcd) rfl hbind hcell hloc (fun h₁ hns hk₁ => ?_) hco hgen hk
  exact h s.heap.objs.size h₁ _ ⟨hns, hk₁, Nat.le_refl _⟩

theorem Gd.push {h₀ h : Heap} {L a : Addr} {m : Str → Option Value} {name : Str} {scope : Scope} {cd : Value} (G : Gd K p loose mean mg mb base fr h₀) (F : Fr h₀ L h m) (hk : scope.kind = .function) :
    Gd K p loose mean mg mb base (envOf name scope L a cd :: fr) h :=
  let B := (G.below 0 0 none).push (name := name) (a := a) (cd := cd) F hk
  ⟨B.stays, B.frames, G.kin.keeps F.keep, G.top.keeps F.keep, G.kbase, G.tbase, dicts_push G.dicts F rfl⟩

theorem fr_on {h₀ h h' : Heap} {L : Addr} {m : Str → Option Value} (F : Fr h₀ L h m) (k : h.StaysIn h') : Fr h₀ L h' m :=
  ⟨F.ns.at' fun o e => k _ o e, fun b o e => k b o (F.keep b o e), F.above⟩
theorem news_on {h₀ h h' : Heap} {L : Addr} {news : List (Addr × Obj)} (N : News h₀ L h news) (k : h.StaysIn h') : News h₀ L h' news :=
  fun q hq => ⟨k _ _ (N q hq).1, (N q hq).2⟩
theorem news_more {h₀ h h' : Heap} {L : Addr} {m : Str → Option Value} {news : List (Addr × Obj)} (F : Fr h₀ L h m) (N : News h₀ L h news) (k : h.StaysIn h') {r : Addr} {o : Obj} (hn : h.get? r = none) (ho : h'.get? r = some o) :
    News h₀ L h' ((r, o) :: news) := fun q hq => by
  rcases List.mem_cons.mp hq with rfl | hq
  · refine ⟨ho, ?_, ?_⟩
    · rintro rfl
      obtain ⟨oL, _, _, e, _⟩ := F.ns
      rw [hn] at e; cases e
    · cases q : h₀.get? r with
      | none => rfl
      | some o' => have := F.keep r o' q; rw [hn] at this; cases this
  · exact news_on N k q hq
theorem news_ne {h₀ h : Heap} {L : Addr} {news : List (Addr × Obj)} (N : News h₀ L h news) {r : Addr} (hn : h.get? r = none) : ∀ q ∈ news, q.1 ≠ r := fun q hq e => by
  have := (N q hq).1
  rw [e, hn] at this; cases this
end
end Mine
namespace Mine
section
variable {M : Model} {A : Around} {E : Value → Shared → Prop} {s : Shared} {env : Env} {Q : Flow → Shared → Prop}
theorem hide1 {a : Stmt} {rest : List Stmt} (h : ∀ r, r = rest → wpAny M A (execs (a :: r) env) Q E s) : wpAny M A (execs (a :: rest) env) Q E s := h rest rfl
theorem hide2 {a b : Stmt} {rest : List Stmt} (h : ∀ r, r = rest → wpAny M A (execs (a :: b :: r) env) Q E s) : wpAny M A (execs (a :: b :: rest) env) Q E s := h rest rfl
end
section
variable {s : Shared} {Q : Value → Shared → Prop} {h' : Heap} {tk' : Nat}
theorem ret_val {v v' : Value} (ret : ∀ h' tk', s.heap.StaysIn h' → Q v { s with heap := h', toks := tk' }) (e : v' = v) (k : s.heap.StaysIn h') : Q v' { s with heap := h', toks := tk' } := e ▸ ret h' tk' k
end
end Mine
namespace Mine
/-- a turn's end: what the loop keeps, and the iterator's own objects -/
def TEnd (h₀ : Heap) (L : Addr) (P : (Str → Option Value) → List (Addr × Obj) → Prop) (own : List (Addr × Obj)) (adr : List Addr) (s₁ s₂ : Shared) : Prop := InvEndN h₀ L P own adr s₁ s₂
def TPost (h₀ : Heap) (L : Addr) (P : (Str → Option Value) → List (Addr × Obj) → Prop) (own : List (Addr × Obj)) (adr : List Addr) (s₁ : Shared) (Q : Flow → Shared → Prop) (f : Flow) (s₂ : Shared) : Prop :=
  match f with
  | .ret v => Q (.ret v) s₂
  | .brk => Q .next s₂
  | _ => TEnd h₀ L P own adr s₁ s₂
section
variable {prog : Program} {w : World} {A : Around} {E : Value → Shared → Prop} {s : Shared} {h₀ : Heap} {name : Str} {scope : Scope} {L a : Addr} {cd : Value} {m₀ : Str → Option Value} {news : List (Addr × Obj)} {x : Str} {px pos : Pos} {body : List Stmt} {Q : Flow → Shared → Prop}

theorem tpost_of {P : (Str → Option Value) → List (Addr × Obj) → Prop} {own : List (Addr × Obj)} {adr : List Addr} {s₁ : Shared} (f : Flow) (s₂ : Shared) (h : TPost h₀ L P own adr s₁ Q f s₂) : InvPostN h₀ L P own adr s₁ Q f s₂ := by
  cases f <;> exact h
theorem TEnd.intro {P : (Str → Option Value) → List (Addr × Obj) → Prop} {m' : Str → Option Value} {own news' nx : List (Addr × Obj)} {adr : List Addr} {s₁ : Shared} {h' : Heap} {tk : Nat} (F : Fr h₀ L h' m') (N : News h₀ L h' news')
    (hj : P m' nx) (ha : nx.map (·.1) = adr) (hn : ∀ p ∈ nx, p ∈ news') (ho : ∀ p ∈ own, p ∈ news') : TEnd h₀ L P own adr s₁ { s₁ with heap := h', toks := tk } := InvEndN.intro F N hj ha hn ho

theorem for_list {y : Str} {py : Pos} {l : Addr} {vs : List Value} {ns : List Int} (J : Nat → (Str → Option Value) → List (Addr × Obj) → Prop)
    (hh : A.handled = none) (F : Fr h₀ L s.heap m₀) (N : News h₀ L s.heap news) (hy : m₀ y = some (.ref l)) (hl : h₀.IsList l vs.toArray) (hi : IntsAre vs ns) (hj : J 0 m₀ news)
    (turn : ∀ i n t m₁ news₁ h tk own, ns[i]? = some n → news₁.map (·.1) = news.map (·.1) → OwnOff own (news.map (·.1)) → J i m₁ news₁ → Fr h₀ L h (fun y => if y = x then some (.int n t) else m₁ y) → News h₀ L h (news₁ ++ own) →
      wpAny (model prog w) A (execs body (envOf name scope L a cd)) (TPost h₀ L (J (i + 1)) own (news.map (·.1)) { s with heap := h, toks := tk } Q) E { s with heap := h, toks := tk })
    (done : ∀ m₁ news₁ h tk, J ns.length m₁ news₁ → Fr h₀ L h m₁ → News h₀ L h news₁ → Q .next { s with heap := h, toks := tk })
    (hx : scope.names.lookup x = some .local) (hy' : scope.names.lookup y = some .local) (hk : scope.kind = .function) (hd : (y == ("__debug__" : Str)) = false)
    (hE : PassesOwn (model prog w) A (envOf name scope L a cd) E) :
    wpAny (model prog w) A (exec (.For (.Name x px) (.Name y py) body [] pos) (envOf name scope L a cd)) Q E s := by
  refine For_invVF F hx (by show (scope.kind == .class || (scope.kind == .module && L != mainGlobals)) = false; rw [hk]; rfl) ?_ (fun _ => rfl) hE
  refine ld F hy ?_ hk hy' hd
  refine iter_invN J hh hl hi F N hj (fun i n t m₁ news₁ h tk own a b c d F' N' => ?_) done
  exact wpAny_mono (turn i n t m₁ news₁ h tk own a b c d F' N') (fun f s₂ q => tpost_of f s₂ q) fun _ _ e => e
end
end Mine
namespace Mine
def AllNe (d : Nat) : List (Addr × Obj) → Prop
  | [] => True
  | p :: r => (@Ne Nat p.1 d) ∧ AllNe d r
theorem allNe_of {d : Addr} : ∀ {l : List (Addr × Obj)}, (∀ p ∈ l, p.1 ≠ d) → AllNe d l
  | [], _ => trivial
  | p :: _, h => ⟨h p (.head _), allNe_of fun q hq => h q (.tail _ hq)⟩
section
variable {prog : Program} {w : World} {A : Around} {E : Value → Shared → Prop} {s : Shared} {h₀ : Heap} {L : Addr} {m : Str → Option Value} {news : List (Addr × Obj)} {Q : Value → Shared → Prop}
theorem lst_base {h : Heap} {l : Addr} {its : Array Value} (F : Fr h₀ L h m) (hl : h₀.IsList l its) : h.IsList l its := hl.at fun o e => F.keep l o e
theorem lst_led {h : Heap} {l : Addr} {its : Array Value} {n : Nat} (N : News h₀ L h news) (hm : (l, listOf its n) ∈ news) : h.IsList l its := ⟨_, (N _ hm).1, rfl, n, rfl⟩
/-- a new list of ints handed back -/
theorem ret_list {s : Shared} {Q : Value → Shared → Prop} {ns ms : List Int} {h' : Heap} {tk' : Nat} {D : Addr} {vs : List Value} {c : Nat} {L : Addr} {m : Str → Option Value} {news : List (Addr × Obj)}
    (ret : ∀ h' tk' D vs c, s.heap.StaysIn h' → s.heap.get? D = none → h'.get? D = some (listOf (List.toArray vs) c) → IntsAre vs ns → Q (.ref D) { s with heap := h', toks := tk' })
    (F : Fr s.heap L h' m) (N : News s.heap L h' news) (hm : (D, listOf vs.toArray c) ∈ news) (hi : IntsAre vs ms) (e : ms = ns) : Q (.ref D) { s with heap := h', toks := tk' } := by
  subst e
  exact ret h' tk' D vs c F.keep (N _ hm).2.2 (N _ hm).1 hi
end
end Mine
namespace Mine
section
variable {s : Shared} {Q : Value → Shared → Prop} {h' : Heap} {tk' : Nat}
theorem ret_int {x y : Int} {t : Tok} (ret : ∀ h' tk' t', s.heap.StaysIn h' → Q (.int x t') { s with heap := h', toks := tk' }) (e : y = x) (k : s.heap.StaysIn h') : Q (.int y t) { s with heap := h', toks := tk' } := e ▸ ret h' tk' t k
theorem ret_bool {x y : Bool} (ret : ∀ h' tk', s.heap.StaysIn h' → Q (.bool x) { s with heap := h', toks := tk' }) (e : y = x) (k : s.heap.StaysIn h') : Q (.bool y) { s with heap := h', toks := tk' } := e ▸ ret h' tk' k
end
end Mine
namespace Mine
/-- a place where the walk rests -/
def Stop (P : Prop) : Prop := P
theorem stop_of {P : Prop} (h : Stop P) : P := h
theorem go_on {P : Prop} (h : P) : Stop P := h
end Mine
namespace Mine
section
variable {prog : Program} {w : World} {K : Frag} {p : Program} {loose : List Str} {mean : ExcName → Option Value} {mg mb : Str → Option Value} {base : Heap} {fr : List Env}
/-- a def some of whose names are cells -/
theorem enter0C {dp un : Nat} {gd : Option (List Code)} {s : Shared} {Q E : Value → Shared → Prop} {name qual : Str} {params : Arguments} {body : List Stmt} {scope : Scope} {dV kV doc pm cdv ct oc : Value} {an od : Option Addr} {osl : Array (Option Value)} {f : Addr} {args : List Value} {binds : List (Str × Value)}
    (G : Gd K p loose mean mg mb base fr s.heap)
    (ho : K.lookup f = some ⟨oc, od, .func (fnOf name qual params body scope dV kV doc pm an cdv ct), osl⟩) (hcd : codeIn K cdv qual = true) (hroom : dp < recursionLimit)
    (hbind : BindsTo s (fnOf name qual params body scope dV kV doc pm an cdv ct) ⟨args, []⟩ binds) (hkind : (binds.all fun y => scope.names.lookup y.1 == some .local || scope.names.lookup y.1 == some .cell) = true)
    (hnd : ((cellsFrom 0 scope.names []).map (·.1)).Nodup)
    (h : ∀ L' h₁ tk cells, Fr s.heap L' h₁ (bindL (envOfC qual scope L' f cdv).kindOf binds fun _ => none) → News s.heap L' h₁ cells →
      CellsAre (bindC (envOfC qual scope L' f cdv).kindOf binds fun _ => none) (cellsFrom (L' + 1) scope.names []) cells →
      wpAny (model prog w) (arA (dp + 1) (un + 3) gd (envOfC qual scope L' f cdv :: fr)) (execs body (envOfC qual scope L' f cdv))
        (fun fl s' => Q (match fl with | .ret v => v | _ => .none) s')
        (fun e s' => wpAny (model prog w) (arA (dp + 1) (un + 3) gd (envOfC qual scope L' f cdv :: fr)) (leaving (envOfC qual scope L' f cdv) e) (fun _ s'' => E e s'') (fun e' s'' => E e' s'') s')
        { s with heap := h₁, toks := tk })
    (hco : scope.isCoroutine = false) (hgen : scope.isGenerator = false) (hk : scope.kind = .function) :
    wpAny (model prog w) (arA dp un gd fr) (call (.ref f) args) Q E s := by
  refine wpAny_call ?_
  refine codeAny_call_function (o := ⟨oc, od, .func (fnOf name qual params body scope dV kV doc pm an cdv ct), osl⟩) (fd := fnOf name qual params body scope dV kV doc pm an cdv ct) hroom (G.kin _ _ ho) rfl hco hgen rfl (codeRec_of G.kin hcd) (hbind _ _ _ _ ?_)
  refine wpAny_newFunctionEnv_cells hk (kindsX hkind _) fun env' he s' x => ?_
  subst he
  refine ⟨G.top.nolimit.keeps x.toInCall.keep, codeAny_func ?_⟩
  obtain ⟨h₁, tk, rfl, _⟩ := x.done
  have hk₁ := x.toInCall.keep
  obtain ⟨cells, NC, Y⟩ := Cl.news (h₀ := s.heap) (Nat.le_refl _) fun n c hm => ⟨x.cell n c (lookup_of_mem_nodup (cellsFrom_names scope.names 0 (s.heap.objs.size + 1) [] [] rfl ▸ hnd) hm), x.above n c hm⟩
  exact h s.heap.objs.size h₁ tk cells ⟨x.toInCall.ns, fun b o e => hk₁ b o e, Nat.le_refl _⟩ NC Y
end
end Mine
namespace Mine
section
variable {prog : Program} {w : World} {A : Around} {E : Value → Shared → Prop} {s : Shared} {h₀ : Heap} {env : Env} {L : Addr} {m₀ : Str → Option Value} {news : List (Addr × Obj)} {x : Str} {px pos : Pos} {body : List Stmt} {Q : Flow → Shared → Prop} {iter : Expr}

theorem for_range {n : Nat} {a₀ b₀ : Int} (J : Nat → (Str → Option Value) → List (Addr × Obj) → Prop) (hL : env.locals = L)
    (hh : A.handled = none) (F : Fr h₀ L s.heap m₀) (N : News h₀ L s.heap news) (hb : n = (b₀ - a₀).toNat) (ha : -1000000000 ≤ a₀ ∧ a₀ ≤ 1000000000 ∧ -1000000000 ≤ b₀ ∧ b₀ ≤ 1000000000)
    (hiter : ∀ Q' : Value → Shared → Prop, (∀ r h' tk t u v, IsRange h' r a₀ b₀ 1 t u v → Fr h₀ L h' m₀ → News h₀ L h' news → Q' (.ref r) { s with heap := h', toks := tk }) → wpAny (model prog w) A (eval iter env) Q' E s)
    (hj : J 0 m₀ news)
    (turn : ∀ i t m₁ news₁ h tk own, i < n → news₁.map (·.1) = news.map (·.1) → OwnOff own (news.map (·.1)) → J i m₁ news₁ → Fr h₀ L h (fun y => if y = x then some (.int (a₀ + (i : Int)) t) else m₁ y) → News h₀ L h (news₁ ++ own) →
      wpAny (model prog w) A (execs body env) (TPost h₀ L (J (i + 1)) own (news.map (·.1)) { s with heap := h, toks := tk } Q) E { s with heap := h, toks := tk })
    (done : ∀ m₁ news₁ h tk, J n m₁ news₁ → Fr h₀ L h m₁ → News h₀ L h news₁ → Q .next { s with heap := h, toks := tk })
    (hx : env.kindOf x = some .local) (hp : (env.scope.kind == .class || (env.scope.kind == .module && env.locals != env.globals)) = false) (hs : ∀ x, foldedSetIterable iter env x = pure x)
    (hE : PassesOwn (model prog w) A env E) :
    wpAny (model prog w) A (exec (.For (.Name x px) iter body [] pos) env) Q E s := by
  subst hL
  refine For_invVF F hx hp ?_ hs hE
  refine hiter _ fun r h₁ tk₁ t₁ u₁ v₁ hr F₁ N₁ => ?_
  refine wpAny_pyIter_range hr (small_one (by omega) (by omega) (by omega) (by omega)) ?_
  have hn : Builtin.Range.rangeSize a₀ b₀ 1 = (n : Int) := by rw [hb]; exact rangeSize_nat _ _
  have W : Walks prog w A h₁.objs.size [h₁.objs.size] [h₁.objs.size] n (fun i v => i < n ∧ ∃ t, v = .int (a₀ + i * 1) t)
      (fun i h => IsRangeIter h h₁.objs.size (a₀ + (i : Nat) * 1) ((n : Int) - (i : Nat)) 1) := (Walks.range hh _ a₀ 1 n).bound
  refine loop_invN (s := { s with heap := h₁.push _, toks := tk₁ }) J W ?_ ?_ ?_ ?_ (by show IsRangeIter _ _ _ _ _; rw [hn]; simpa using Heap.get?_push_size _ rfl) (F₁.push _) (fun p hp => ⟨Heap.get?_push_of_some _ (N₁ p hp).1, (N₁ p hp).2⟩) hj ?_ ?_
  · intro hm
    exact absurd F₁.ns.lt ((List.mem_singleton.mp hm) ▸ Nat.lt_irrefl _)
  · intro b hb
    rw [List.mem_singleton.mp hb]
    exact next_is_new F₁
  · intro p hp hI
    exact absurd (Heap.lt_size (N₁ p hp).1) ((List.mem_singleton.mp hI) ▸ Nat.lt_irrefl _)
  · intro p hp hI
    exact absurd (Heap.lt_size (N₁ p hp).1) ((List.mem_singleton.mp hI) ▸ Nat.lt_irrefl _)
  · rintro i v m₁ news₁ h tk own hi ⟨_, t, rfl⟩ hadr hoff hJ F' N'
    have e1 : a₀ + (i : Int) * 1 = a₀ + (i : Int) := by omega
    rw [e1] at F'
    exact wpAny_mono (turn i t m₁ news₁ h tk own hi hadr hoff hJ F' N') (fun f s₂ q => tpost_of f s₂ q) fun _ _ e => e
  · exact done
end
end Mine
namespace Mine
theorem fr_know {h₀ h : Heap} {L : Addr} {m : Str → Option Value} {v : Value} (x : Str) (F : Fr h₀ L h m) (e : m x = some v) : Fr h₀ L h (fun y => if y = x then some v else m y) := by
  have : (fun y => if y = x then some v else m y) = m := by
    funext y
    by_cases hy : y = x
    · rw [if_pos hy, hy, e]
    · rw [if_neg hy]
  rw [this]; exact F
end Mine
namespace Mine
def Cut (I : Shared → Prop) (f : Flow) (s : Shared) : Prop := f = .next ∧ I s
section
variable {M : Model} {A : Around} {E : Value → Shared → Prop} {s : Shared} {env : Env} {Q : Flow → Shared → Prop}
/-- a statement by what holds behind it -/
theorem cut {st : Stmt} {rest : List Stmt} (I : Shared → Prop) (h1 : wpAny M A (exec st env) (Cut I) E s) (h2 : ∀ s', I s' → wpAny M A (execs rest env) Q E s') : wpAny M A (execs (st :: rest) env) Q E s :=
  wpAny_execs_cons (wpAny_mono h1 (fun f s' h => by obtain ⟨rfl, h⟩ := h; exact h2 s' h) fun _ _ e => e)
end
/-- a list of signs under a name -/
def RowI (s₀ : Shared) (g : Heap) (L : Addr) (cs : List (Addr × Obj)) (x : Str) (n : Nat) (s' : Shared) : Prop :=
  ∃ h tk D vs cc rs m, s' = { s₀ with heap := h, toks := tk } ∧ Fr g L h m ∧ News g L h ((D, listOf (List.toArray vs) cc) :: cs) ∧ m x = some (.ref D) ∧ IntsAre vs rs ∧ (∀ y ∈ rs, y = 0 ∨ y = 1) ∧ rs.length = n
theorem RowI.of {s₀ : Shared} {g : Heap} {L : Addr} {cs news : List (Addr × Obj)} {x : Str} {n : Nat} {h : Heap} {tk : Nat} {D : Addr} {vs : List Value} {cc : Nat} {rs : List Int} {m : Str → Option Value} (F : Fr g L h m) (N : News g L h news) (hm : m x = some (.ref D)) (hD : (D, listOf (List.toArray vs) cc) ∈ news) (hc : ∀ p ∈ cs, p ∈ news)
    (hi : IntsAre vs rs) (hr : ∀ y ∈ rs, y = 0 ∨ y = 1) (hl : rs.length = n) : Cut (RowI s₀ g L cs x n) .next { s₀ with heap := h, toks := tk } :=
  ⟨rfl, h, tk, D, vs, cc, rs, m, rfl, F, fun p hp => by
    rcases List.mem_cons.mp hp with rfl | hp
    · exact N _ hD
    · exact N _ (hc p hp), hm, hi, hr, hl⟩
end Mine
namespace Mine
/-- a turn's end where the loop's own name alone was bound -/
def T0 (h₀ : Heap) (L : Addr) (x : Str) (m₀ : Str → Option Value) (led : List (Addr × Obj)) (s₁ s₂ : Shared) : Prop :=
  ∃ h' tk m', s₂ = { s₁ with heap := h', toks := tk } ∧ Fr h₀ L h' m' ∧ (∀ z, z ≠ x → m' z = m₀ z) ∧ News h₀ L h' led
theorem T0.intro {h₀ : Heap} {L : Addr} {x : Str} {m₀ m' : Str → Option Value} {led news' : List (Addr × Obj)} {s₁ : Shared} {h' : Heap} {tk : Nat} (F : Fr h₀ L h' m') (N : News h₀ L h' news') (hm : ∀ z, z ≠ x → m' z = m₀ z) (hs : ∀ p ∈ led, p ∈ news') : T0 h₀ L x m₀ led s₁ { s₁ with heap := h', toks := tk } :=
  ⟨h', tk, m', rfl, F, hm, fun p hp => N p (hs p hp)⟩
section
variable {prog : Program} {w : World} {A : Around} {E : Value → Shared → Prop} {s : Shared} {h₀ : Heap} {env : Env} {L : Addr} {m₀ : Str → Option Value} {news : List (Addr × Obj)} {x : Str} {px pos : Pos} {body : List Stmt} {Q : Flow → Shared → Prop} {iter : Expr}
end
end Mine

end

section
open PySem PySem.W PySem.Calls PyProof.Rows PyProof.V PySem.Spec PyProof.Rows.LCg
namespace Mine
section
variable {prog : Program} {w : World} {A : Around} {E : Value → Shared → Prop} {s₂ : Shared} {env : Env}

theorem get_none {h : Heap} {c : Addr} (hc : h.objs.size ≤ c) : h.get? c = none := by
  cases q : h.get? c with
  | none => rfl
  | some o => exact absurd (Heap.lt_size q) (Nat.not_lt.mpr hc)

end
section
variable {prog : Program} {w : World} {A : Around} {E : Value → Shared → Prop} {s : Shared} {env : Env}
end
end Mine

end

section
open PySem PySem.W PySem.Calls PyProof.Rows PyProof.V PySem.Spec PyProof.Rows.LCg
namespace Mine
section
variable {prog : Program} {w : World} {A : Around} {E : Value → Shared → Prop} {s₂ : Shared} {env : Env}
end
end Mine

end

section
open PySem PySem.W PySem.Calls PyProof.Rows
namespace Mine
section
variable {prog : Program} {w : World} {A : Around} {E : Value → Shared → Prop} {s : Shared} {h₀ : Heap} {env : Env} {L : Addr} {m₀ : Str → Option Value} {news : List (Addr × Obj)} {a b : Str} {pa pb tp pos : Pos} {kk : Nat} {body : List Stmt} {Q : Flow → Shared → Prop} {iter : Expr}

theorem tpost_step {J : (Str → Option Value) → List (Addr × Obj) → Prop} {own : List (Addr × Obj)} {wr : List Addr} {adr : List Addr} {s₁ : Shared} (hadr : ∀ b ∈ adr, b ∉ wr) (f : Flow) (s₂ : Shared) (h : TPost h₀ L J own adr s₁ Q f s₂) :
    LoopStepV h₀ L wr own (fun m nx => J m nx ∧ nx.map (·.1) = adr) s₁ (fun v s' => Q (.ret v) s') (fun s' => Q .next s') f s₂ := by
  have fin : TEnd h₀ L J own adr s₁ s₂ → LoopStepU h₀ L wr own (fun m nx => J m nx ∧ nx.map (·.1) = adr) s₁ .next s₂ := by
    rintro ⟨h', tk, m', news', nx, rfl, F, N, hn, ho, ha, hJ⟩
    refine ⟨rfl, h', tk, m', nx, rfl, F, fun p hp => ?_, fun p hp => ?_, hJ, ha⟩
    · rcases List.mem_append.mp hp with hp | hp
      · exact N p (ho p hp)
      · exact N p (hn p hp)
    · exact hadr _ (ha ▸ List.mem_map_of_mem hp)
  cases f with
  | ret v => exact h
  | brk => exact h
  | next => exact fin h
  | cont => exact fin h

theorem for_enum {l : Addr} {vs : List Value} {ns : List Int} (J : Nat → (Str → Option Value) → List (Addr × Obj) → Prop) (hL : env.locals = L)
    (hh : A.handled = none) (F : Fr h₀ L s.heap m₀) (N : News h₀ L s.heap news) (hl : h₀.IsList l vs.toArray) (hi : IntsAre vs ns)
    (hiter : ∀ Q' : Value → Shared → Prop, wpAny (model prog w) A (call (.type "enumerate") [.ref l]) Q' E s → wpAny (model prog w) A (eval iter env) Q' E s)
    (hj : J 0 m₀ news)
    (turn : ∀ i n t t' m₁ news₁ h tk own, ns[i]? = some n → news₁.map (·.1) = news.map (·.1) → OwnOff own (news.map (·.1)) → J i m₁ news₁ → Fr h₀ L h (fun y => if y = b then some (.int n t) else if y = a then some (.int (i : Int) t') else m₁ y) → News h₀ L h (news₁ ++ own) →
      wpAny (model prog w) A (execs body env) (TPost h₀ L (J (i + 1)) own (news.map (·.1)) { s with heap := h, toks := tk } Q) E { s with heap := h, toks := tk })
    (done : ∀ m₁ news₁ h tk, J ns.length m₁ news₁ → news₁.map (·.1) = news.map (·.1) → Fr h₀ L h m₁ → News h₀ L h news₁ → Q .next { s with heap := h, toks := tk })
    (ha : env.kindOf a = some .local) (hb : env.kindOf b = some .local) (hp : (env.scope.kind == .class || (env.scope.kind == .module && env.locals != env.globals)) = false) (hs : ∀ x, foldedSetIterable iter env x = pure x)
    (hE : PassesOwn (model prog w) A env E) :
    wpAny (model prog w) A (exec (.For (.Tuple [.Name a pa, .Name b pb] kk tp) iter body [] pos) env) Q E s := by
  subst hL
  have hls : s.heap.IsList l vs.toArray := lst_base F hl
  obtain ⟨ol, hol, _⟩ := id hls
  have hlt := ltN (Heap.lt_size hol)
  refine For_turns F (hiter _ (call_enumerate_list hls fun h₁ he hit hsz hk => ?_)) hs hE
  refine wpAny_pyIter_enum he ?_
  have hLl := ltN F.ns.lt
  have W := WalksT.enumerate (prog := prog) (w := w) (A := A) hh (s.heap.objs.size + 1) s.heap.objs.size l (neN (by omega)) (neN (by omega)) (neN (by omega)) vs.toArray
  have F₁ : Fr h₀ env.locals h₁ m₀ := fr_on F hk
  have N₁ : News h₀ env.locals h₁ news := news_on N hk
  have hnone : ∀ c : Addr, s.heap.objs.size ≤ c → h₀.get? c = none := fun c hc => by
    cases q : h₀.get? c with
    | none => rfl
    | some o => exact absurd (Heap.lt_size (F.keep _ _ q)) (Nat.not_lt.mpr hc)
  have hnwr : ∀ c : Addr, c < s.heap.objs.size → c ∉ [s.heap.objs.size + 1, s.heap.objs.size] := fun c hc hm => by
    have hc' := ltN hc
    simp only [List.mem_cons, List.not_mem_nil, or_false] at hm
    rcases hm with rfl | rfl <;> omega
  have hadr : ∀ c ∈ news.map (·.1), c < s.heap.objs.size := fun c hc => by
    obtain ⟨p, hp, rfl⟩ := List.mem_map.mp hc
    exact Heap.lt_size (N p hp).1
  refine ⟨_, _, _, _, _, _, _, m₀, news, fun i m nx => J i m nx ∧ nx.map (·.1) = news.map (·.1), rfl, KTurns.ofWalksU W.toU, ?_, ?_, ?_, ⟨⟨_, he⟩, hit, hls.at fun o e => hk l o e⟩, F₁, N₁, ⟨hj, rfl⟩, ?_, ?_⟩
  · intro hm
    simp only [List.mem_cons, List.not_mem_nil, or_false] at hm
    rcases hm with e | e | e
    · have := e ▸ hLl; omega
    · have := e ▸ hLl; omega
    · obtain ⟨o', ho', _⟩ := hl
      exact absurd (Heap.lt_size ho') (Nat.not_lt.mpr (e ▸ F.above))
  · intro c hc
    simp only [List.mem_cons, List.not_mem_nil, or_false] at hc
    rcases hc with rfl | rfl
    · exact hnone _ (Nat.le_succ _)
    · exact hnone _ (Nat.le_refl _)
  · intro p hp
    exact hnwr _ (Heap.lt_size (N p hp).1)
  · rintro i v m₁ news₁ h₂ tk₂ own hin ⟨T, vals, rfl, ⟨t, x, hx, rfl⟩, hT⟩ ⟨hJ, hma⟩ hnw hown hget _ _ F₂ N₂
    have hx' : vs[i]? = some x := by simpa using hx
    have hlt' : i < ns.length := by rw [← hi.length]; exact (List.getElem?_eq_some_iff.mp hx').1
    obtain ⟨t₂, e₂⟩ := hi.get i ns[i] (List.getElem?_eq_getElem hlt')
    obtain rfl : x = .int ns[i] t₂ := Option.some.inj (hx'.symm.trans e₂)
    refine kcp_assign hh hT ha hb hp F₂.ns fun h₃ tk₃ hn₃ hs₃ => ?_
    have F₃ : Fr h₀ env.locals h₃ (fun z => if z = b then some (.int ns[i] t₂) else if z = a then some (.int (i : Int) t) else m₁ z) := ⟨hn₃, fun c o e => hs₃ c o (fun q => by subst q; exact absurd (Heap.lt_size e) (Nat.not_lt.mpr F₂.above)) (F₂.keep c o e), F₂.above⟩
    have N₃ : News h₀ env.locals h₃ (news₁ ++ own) := fun p hp => by
      have hp' : p ∈ own ++ news₁ := by
        rcases List.mem_append.mp hp with h | h
        · exact List.mem_append_right _ h
        · exact List.mem_append_left _ h
      exact ⟨hs₃ _ _ (N₂ p hp').2.1 (N₂ p hp').1, (N₂ p hp').2⟩
    refine wpAny_mono (turn i ns[i] t₂ t m₁ news₁ h₃ tk₃ own (List.getElem?_eq_getElem hlt') hma ?_ hJ F₃ N₃) (fun f s₂ q => tpost_step (fun c hc => hnwr c (hadr c hc)) f s₂ q) fun _ _ e => e
    intro p hp c hc e
    have h1 := hown p hp
    have h2 := (N₂ p (List.mem_append_left _ hp)).2.2
    have h3 := ltN (hadr c hc)
    simp only [List.mem_cons, List.not_mem_nil, or_false] at h1
    rcases h1 with q | q | q
    · have := (e.symm.trans q) ▸ h3; omega
    · have := (e.symm.trans q) ▸ h3; omega
    · obtain ⟨o', ho', _⟩ := hl
      rw [q, ho'] at h2; cases h2
  · rintro h' tk m' news' F' N' _ ⟨hJ, hma⟩
    rw [List.size_toArray, hi.length] at hJ
    exact done m' news' h' tk hJ hma F' N'

theorem keep_turn {J : (Str → Option Value) → List (Addr × Obj) → Prop} {own keep : List (Addr × Obj)} {adr : List Addr} {s₁ : Shared} (f : Flow) (s₂ : Shared) (h : TPost h₀ L J (keep ++ own) adr s₁ Q f s₂) :
    TPost h₀ L (fun m nx => ∃ n1, nx = n1 ++ keep ∧ J m n1 ∧ n1.map (·.1) = adr) own (adr ++ keep.map (·.1)) s₁ Q f s₂ := by
  have fin : TEnd h₀ L J (keep ++ own) adr s₁ s₂ → TEnd h₀ L (fun m nx => ∃ n1, nx = n1 ++ keep ∧ J m n1 ∧ n1.map (·.1) = adr) own (adr ++ keep.map (·.1)) s₁ s₂ := by
    rintro ⟨h', tk, m', news', nx, rfl, F, N, hn, ho, ha, hJ⟩
    refine ⟨h', tk, m', news', nx ++ keep, rfl, F, N, fun p hp => ?_, fun p hp => ho p (List.mem_append_right _ hp), by rw [List.map_append, ha], nx, rfl, hJ, ha⟩
    rcases List.mem_append.mp hp with hp | hp
    · exact hn p hp
    · exact ho p (List.mem_append_left _ hp)
  cases f with
  | ret v => exact h
  | brk => exact h
  | next => exact fin h
  | cont => exact fin h
theorem keep_off {own keep : List (Addr × Obj)} {adr : List Addr} (h1 : OwnOff keep adr) (h2 : OwnOff own (adr ++ keep.map (·.1))) : OwnOff (keep ++ own) adr := fun p hp c hc => by
  rcases List.mem_append.mp hp with hp | hp
  · exact h1 p hp c hc
  · exact h2 p hp c (List.mem_append_left _ hc)

/-- for_enum inside another loop: the outer loop's own objects are carried along -/
theorem for_enumK {keep : List (Addr × Obj)} {l : Addr} {vs : List Value} {ns : List Int} (J : Nat → (Str → Option Value) → List (Addr × Obj) → Prop) (hL : env.locals = L)
    (hh : A.handled = none) (F : Fr h₀ L s.heap m₀) (N : News h₀ L s.heap (news ++ keep)) (hoff : OwnOff keep (news.map (·.1))) (hl : h₀.IsList l vs.toArray) (hi : IntsAre vs ns)
    (hiter : ∀ Q' : Value → Shared → Prop, wpAny (model prog w) A (call (.type "enumerate") [.ref l]) Q' E s → wpAny (model prog w) A (eval iter env) Q' E s)
    (hj : J 0 m₀ news)
    (turn : ∀ i n t t' m₁ news₁ h tk own, ns[i]? = some n → news₁.map (·.1) = news.map (·.1) → OwnOff own (news.map (·.1)) → J i m₁ news₁ → Fr h₀ L h (fun y => if y = b then some (.int n t) else if y = a then some (.int (i : Int) t') else m₁ y) → News h₀ L h (news₁ ++ own) →
      wpAny (model prog w) A (execs body env) (TPost h₀ L (J (i + 1)) own (news.map (·.1)) { s with heap := h, toks := tk } Q) E { s with heap := h, toks := tk })
    (done : ∀ m₁ news₁ h tk, J ns.length m₁ news₁ → news₁.map (·.1) = news.map (·.1) → Fr h₀ L h m₁ → News h₀ L h (news₁ ++ keep) → Q .next { s with heap := h, toks := tk })
    (ha : env.kindOf a = some .local) (hb : env.kindOf b = some .local) (hp : (env.scope.kind == .class || (env.scope.kind == .module && env.locals != env.globals)) = false) (hs : ∀ x, foldedSetIterable iter env x = pure x)
    (hE : PassesOwn (model prog w) A env E) :
    wpAny (model prog w) A (exec (.For (.Tuple [.Name a pa, .Name b pb] kk tp) iter body [] pos) env) Q E s := by
  refine for_enum (fun i m nx => ∃ n1, nx = n1 ++ keep ∧ J i m n1 ∧ n1.map (·.1) = news.map (·.1)) hL hh F N hl hi hiter ⟨news, rfl, hj, rfl⟩ ?_ ?_ ha hb hp hs hE
  · rintro i n t t' m₁ news₁ h tk own hn _ ho ⟨n1, rfl, hJ, hm⟩ F₁ N₁
    rw [List.map_append] at ho ⊢
    rw [List.append_assoc] at N₁
    exact wpAny_mono (turn i n t t' m₁ n1 h tk (keep ++ own) hn hm (keep_off hoff ho) hJ F₁ N₁) (fun f s₂ q => keep_turn f s₂ q) fun _ _ e => e
  · rintro m₁ news₁ h tk ⟨n1, rfl, hJ, hm⟩ _ F₁ N₁
    exact done m₁ n1 h tk hJ hm F₁ N₁
end
end Mine

namespace Mine
open PyProof.Rows.LCg PyProof.Rows.LCt
section
variable {prog : Program} {w : World} {A : Around} {E : Value → Shared → Prop} {s : Shared} {h₀ : Heap} {env : Env} {L : Addr} {m : Str → Option Value} {news : List (Addr × Obj)}
end
end Mine

namespace Mine
section
variable {prog : Program} {w : World} {K : Frag} {p : Program} {loose : List Str} {mean : ExcName → Option Value} {mg mb : Str → Option Value} {base : Heap} {fr : List Env}
theorem Gd.pushC {h₀ h : Heap} {L a : Addr} {m : Str → Option Value} {name : Str} {scope : Scope} {cd : Value} (G : Gd K p loose mean mg mb base fr h₀) (F : Fr h₀ L h m) (hk : scope.kind = .function) :
    Gd K p loose mean mg mb base (envOfC name scope L a cd :: fr) h := by
  have hnew : base.get? L = none := by
    cases hq : base.get? L with
    | none => rfl
    | some o => exact absurd (Nat.lt_of_lt_of_le (Heap.lt_size (G.stays L o hq)) F.above) (Nat.lt_irrefl _)
  exact ⟨fun b o e => F.keep b o (G.stays b o e), .cons (by show scope.kind ≠ .module; rw [hk]; decide) rfl F.ns hnew (G.frames.of_keeps fun b o e _ => ⟨o, F.keep b o e, rfl⟩), G.kin.keeps F.keep, G.top.keeps F.keep, G.kbase, G.tbase, dicts_push G.dicts F rfl⟩
end
end Mine

end

section
open PySem PySem.W PySem.Calls PyProof.Rows
namespace Mine
abbrev frs (fr : List Env) : List Addr := fr.filterMap (·.frame)
/-- around a suite that handles an exception -/
abbrev arH (v : Value) (dp un : Nat) (gd : Option (List Code)) (fr : List Env) : Around := { handled := some v, depth := dp, frames := some fr, guards := gd, units := un }
section
variable {prog : Program} {w : World} {K : Frag} {p : Program} {loose : List Str} {mean : ExcName → Option Value} {mg mb : Str → Option Value} {base : Heap} {fr : List Env}

theorem Gd.turn {g g' : Heap} (G : Gd K p loose mean mg mb base fr g) (T : KtsTurn (frs fr) g g') : Gd K p loose mean mg mb base fr g' := by
  have st : base.StaysIn g' := fun b o e => T.other b o (G.stays b o e) fun hm => by
    rw [(G.frames.mem hm).1] at e; cases e
  refine ⟨st, G.frames.of_keeps fun b o e _ => ?_, G.kbase.keeps st, G.tbase.keeps st, G.kbase, G.tbase, G.dicts.turn T⟩
  obtain ⟨sl, hs⟩ := T.up e
  exact ⟨_, hs, rfl⟩

theorem frs_cons {L : Addr} {env : Env} (he : env.frame = some L) {b : Addr} (hm : b ∈ frs (env :: fr)) : b = L ∨ b ∈ frs fr := by
  obtain ⟨env', h1, h2⟩ := List.mem_filterMap.mp hm
  rcases List.mem_cons.mp h1 with rfl | h1
  · rw [he] at h2; exact .inl (Option.some.inj h2).symm
  · exact .inr (List.mem_filterMap.mpr ⟨env', h1, h2⟩)

/-- behind a call that has turned the frames' slots: the ground anew -/
theorem turn_call {g g₁ h h' : Heap} {L : Addr} {m : Str → Option Value} {news : List (Addr × Obj)} {env : Env} (G : Gd K p loose mean mg mb base fr g) (F : Fr g L h m) (N : News g L h news) (he : env.frame = some L)
    (T : KtsTurn (frs (env :: fr)) h g₁) (k : g₁.StaysIn h') : ∃ g', KtsTurn (frs fr) g g' ∧ Fr g' L h' m ∧ News g' L h' news := by
  have hLg : g.get? L = none := kts_self F
  obtain ⟨T', S⟩ := kts_turn_at (h := h') (fs := frs fr) (g := g)
    (fun b hb => by obtain ⟨_, o, ho, _⟩ := G.frames.mem hb; exact ⟨o, ho⟩)
    (fun b o e nm => k _ _ (T.other b o (F.keep b o e) fun hm => by
      rcases frs_cons he hm with z | z
      · rw [z, hLg] at e; cases e
      · exact nm z))
    (fun b o e hm => by obtain ⟨sl, hs⟩ := T.up (F.keep b o e); exact ⟨sl, k _ _ hs⟩)
  refine ⟨_, T', ⟨?_, S, by rw [T'.size]; exact F.above⟩, fun q hq => ⟨?_, (N q hq).2.1, T'.none_ _ (N q hq).2.2⟩⟩
  · obtain ⟨o, es, ep, ho, hd, r⟩ := F.ns
    obtain ⟨sl, hs⟩ := T.up ho
    exact ⟨_, es, ep, k _ _ hs, hd, r⟩
  · refine k _ _ (T.other _ _ (N q hq).1 fun hm => ?_)
    rcases frs_cons he hm with z | z
    · exact (N q hq).2.1 z
    · obtain ⟨_, o, ho, _⟩ := G.frames.mem z
      rw [(N q hq).2.2] at ho; cases ho

theorem turn_nil {g g' : Heap} (T : KtsTurn [] g g') : g.StaysIn g' := fun b o e => T.other b o e (fun h => nomatch h)

section
variable {dp un : Nat} {gd : Option (List Code)} {s' : Shared} {g h : Heap} {L a e t : Addr} {m : Str → Option Value} {name : Str} {scope : Scope} {cd cls : Value} {vs : List Value} {news : List (Addr × Obj)}

theorem A_raise {M : Model} {E : Value → Shared → Prop} {Q : Unit → Shared → Prop} (G : Gd K p loose mean mg mb base fr g) (hx : Heap.MadeExcOf h s'.heap e cls vs) (F : Fr g L h m)
    (hQ : ∀ h' t, RaisedS base g fr e cls t vs [] h' → g.UpToSlots h' → Q () { s' with heap := h' }) (hk : scope.kind = .function) :
    wpAny M (arA (dp + 1) (un + 3) gd (envOf name scope L a cd :: fr)) (leaving (envOf name scope L a cd) (.ref e)) Q E s' :=
  leave_raiseS (A := arA dp un gd fr) (G.below dp un gd) hx F News.nil (fun h' t R _ U => hQ h' t R U) hk

theorem A_on {M : Model} {E : Value → Shared → Prop} {Q : Unit → Shared → Prop} (G : Gd K p loose mean mg mb base fr g) (F : Fr g L h m) (R : RaisedS base h (envOf name scope L a cd :: fr) e cls t vs [] s'.heap) (U : h.UpToSlots s'.heap)
    (hQ : ∀ h', RaisedS base g fr e cls t vs [] h' → g.UpToSlots h' → Q () { s' with heap := h' }) :
    wpAny M (arA (dp + 1) (un + 3) gd (envOf name scope L a cd :: fr)) (leaving (envOf name scope L a cd) (.ref e)) Q E s' :=
  leave_onS (A := arA dp un gd fr) (G.below dp un gd) F R U (fun h' R _ U => hQ h' R U)

/-- the ledger is taken out of the ground, so that it comes through the catching -/
theorem raised_news {h' : Heap} (G : Gd K p loose mean mg mb base fr g) (F : Fr g L h m) (N : News g L h news) (R : RaisedS base h (envOf name scope L a cd :: fr) e cls t vs [] h') (U : h.UpToSlots h') :
    Fr g L (hideAll h (news.map (·.1))) m ∧ RaisedS base (hideAll h (news.map (·.1))) (envOf name scope L a cd :: fr) e cls t vs news h' ∧ (hideAll h (news.map (·.1))).UpToSlots h' := by
  have nm : ∀ b o, g.get? b = some o → b ∉ news.map (·.1) := fun b o e q => by
    obtain ⟨p, hp, rfl⟩ := List.mem_map.mp q
    rw [(N p hp).2.2] at e; cases e
  have nL : L ∉ news.map (·.1) := fun q => by
    obtain ⟨p, hp, e⟩ := List.mem_map.mp q
    exact (N p hp).2.1 e
  obtain ⟨oL, es, ep, hL, r⟩ := F.ns
  obtain ⟨⟨B, hB, hBG, _, hfl, hnew⟩, htup⟩ := R
  refine ⟨⟨⟨oL, es, ep, hideAll_get _ hL nL, r⟩, fun b o e => hideAll_get _ (F.keep b o e) (nm b o e), F.above⟩, ⟨⟨B, hB, fun b o e n => hBG b o (of_hideAll _ e) n, fun q hq => ⟨hBG _ _ (N q hq).1 fun hm => ?_, hideAll_none _ (List.mem_map_of_mem hq), fresh_of_stays G.stays (N q hq).2.2⟩, hfl, hnew⟩, htup⟩, fun b o e n => U b o (of_hideAll _ e) n⟩
  rcases kts_mem hm with z | z
  · exact (N q hq).2.1 z
  · obtain ⟨_, o, ho, _⟩ := G.frames.mem z
    rw [(N q hq).2.2] at ho; cases ho

variable {E : Value → Shared → Prop} {n : Str} {b₀ : Stmt} {suite : List Stmt} {pos : Pos} {rest hs : List ExceptHandler} {Q : Flow → Shared → Prop} {tt : Expr} {nn : Option Str} {body : List Stmt}

theorem A_look (G : Gd K p loose mean mg mb base fr g) (F : Fr g L h m) (N : News g L h news) (R : RaisedS base h (envOf name scope L a cd :: fr) e cls t vs [] s'.heap) (U : h.UpToSlots s'.heap)
    (k : ∀ h₂ h₃, Fr g L h₂ m → RaisedS base h₂ (envOf name scope L a cd :: fr) e cls t vs news h₃ → h₂.UpToSlots h₃ →
      wpAny (model prog w) (arA (dp + 1) (un + 3) gd (envOf name scope L a cd :: fr)) (handleBy (.ref e) (envOf name scope L a cd) hs) Q E { s' with heap := h₃ }) :
    wpAny (model prog w) (arA (dp + 1) (un + 3) gd (envOf name scope L a cd :: fr)) (noteFrame (.ref e) (envOf name scope L a cd))
      (fun _ s₂ => wpAny (model prog w) (arA (dp + 1) (un + 3) gd (envOf name scope L a cd :: fr)) (setFlight (.ref e) none) (fun _ s₃ =>
        wpAny (model prog w) (arA (dp + 1) (un + 3) gd (envOf name scope L a cd :: fr)) (handleBy (.ref e) (envOf name scope L a cd) hs) Q E s₃) E s₂) E s' := by
  obtain ⟨F', R', U'⟩ := raised_news G F N R U
  exact kts_lookS (A₀ := arA dp un gd fr) R' F' (G.below dp un gd) U' G.dicts fun h₃ R₃ U₃ => k _ h₃ F' R₃ U₃

theorem A_hitB (G : Gd K p loose mean mg mb base fr g) (F : Fr g L h m) (R : RaisedS base h (envOf name scope L a cd :: fr) e cls t vs news s'.heap) (U : h.UpToSlots s'.heap)
    (T : KtsTest prog w K p loose mg mb name scope L a cd cls tt true)
    (k : ∀ h' g' tk oe ot, KtsTurn (frs fr) g g' → Fr g' L h' (fun y => if y = n then some (.ref e) else m y) → News g' L h' ((e, oe) :: (t, ot) :: news) → oe.cls = cls → (∃ ws, oe.data = .fields ws) → Gd K p loose mean mg mb base fr g' →
      wpAny (model prog w) (arH (.ref e) (dp + 1) (un + 3) gd (envOf name scope L a cd :: fr)) (execs (b₀ :: suite) (envOf name scope L a cd))
        (fun f s₄ => wpAny (model prog w) (arA (dp + 1) (un + 3) gd (envOf name scope L a cd :: fr)) (do bindName (envOf name scope L a cd) n .none; unbindBehindTheSuite (envOf name scope L a cd) n pos) (fun _ s₅ => Q f s₅) E s₄)
        (AsSuiteRaised (model prog w) (arH (.ref e) (dp + 1) (un + 3) gd (envOf name scope L a cd :: fr)) (envOf name scope L a cd) n pos (notedBy (model prog w) (arH (.ref e) (dp + 1) (un + 3) gd (envOf name scope L a cd :: fr)) (envOf name scope L a cd) (cameBackBy (model prog w) (arA (dp + 1) (un + 3) gd (envOf name scope L a cd :: fr)) (envOf name scope L a cd) E)))
        { s' with heap := h', toks := tk })
    (hk : scope.kind = .function) (hlo : (envOf name scope L a cd).kindOf n = some .local) :
    wpAny (model prog w) (arA (dp + 1) (un + 3) gd (envOf name scope L a cd :: fr)) (handleBy (.ref e) (envOf name scope L a cd) (.ExceptHandler (some tt) (some n) (b₀ :: suite) pos :: rest)) Q E s' :=
  hit_SB (A₀ := arA dp un gd fr) R F (G.below dp un gd) U G.kbase G.tbase G.dicts KtsTurn.refl T (fun h' g' news₂ tk T' F' N₂ Gt N' _ _ _ _ => by
    obtain ⟨oe, ot, ws, nt, m1, m2, c1, d1, _⟩ := Gt
    refine k h' g' tk oe ot T' F' (fun q hq => ?_) c1 ⟨ws, d1⟩ (G.turn T')
    rcases List.mem_cons.mp hq with rfl | hq
    · exact N₂ _ m1
    · rcases List.mem_cons.mp hq with rfl | hq
      · exact N₂ _ m2
      · exact N' _ hq) hk hlo
end
end
end Mine
namespace Mine
theorem exc_type {M : Model} {g h : Heap} {L e : Addr} {oe : Obj} {news : List (Addr × Obj)} {cls : Value} (N : News g L h news) (hm : (e, oe) ∈ news) (hc : oe.cls = cls) : Looks M h (typeOf (.ref e)) cls := hc ▸ (Looks.ld (N _ hm).1).andThen .now
theorem isDiv1_not {ms : List Int} (h : IsDiv1 ms) : ¬ (ms.length = 0 ∨ ms.getD 0 0 = 0) := by
  obtain ⟨t, rfl, _⟩ := h.cons
  simp
end Mine
namespace Mine
section
variable {K : Frag} {s : Shared} {v c t : Value} {E : Value → Shared → Prop} {A : Around}
theorem isi_nested2 {dep : Int} {tk : Tok} {Q : Fin → Shared → Prop} {M : Model} (X : K.In s.heap) (ht : Looks M s.heap (typeOf v) t) (e : kitCls K t c = some true) (h : Q (.done (.ret (.bool true))) s) :
    wpAny M A (Builtin.«isinstance.nested» ⟨[v, c, .int dep tk], []⟩) Q E s := by
  obtain ⟨hh, g, d, tt, os⟩ := s
  obtain ⟨L1, L2, L3'⟩ := kit_cls (M := M) X e
  have L3 : Looks M hh (isInstance v c) true := ht.andThen L3'
  unfold Builtin.«isinstance.nested»
  refine wpAny_bind (ht.at ?_)
  by_cases q : (t == c) = true
  · rw [if_pos q]
    exact wpAny_bind (wpAny_rule (wpAny_bind (wpAny_pure (wpAny_pure h))))
  · rw [if_neg q]
    refine wpAny_bind (L1.at ?_)
    rw [if_pos (by decide)]
    k_delta "plainIsInstance"
    repeat (first | simp only [Bool.not_true, Bool.false_eq_true, if_false, if_true] | lk)
    exact h
theorem isi_true {prog : Program} {w : World} {Q : Value → Shared → Prop} (X : K.In s.heap) (ht : ∀ M, Looks M s.heap (typeOf v) t) (e : kitCls K t c = some true) (hx : v ≠ .builtin "__main__.__loader__#opaque") (h : Q (.bool true) s) :
    wpAny (model prog w) A (call (.builtin "isinstance") [v, c]) Q E s :=
  call_isinstance (S := fun _ R s => (K.In s.heap ∧ ∀ M, Looks M s.heap (typeOf v) t) ∧ R (.ok (.ret (.bool true))) s) (fun _ _ _ _ _ hs => isinstance_outer (isi_nested2 hs.1.1 (hs.1.2 _) e hs.2) hx) ⟨⟨X, ht⟩, h⟩
theorem isi_exc {prog : Program} {w : World} {Q : Value → Shared → Prop} (X : K.In s.heap) (ht : ∀ M, Looks M s.heap (typeOf v) t) (e : exmOne K t c = some true) (hx : v ≠ .builtin "__main__.__loader__#opaque") (h : Q (.bool true) s) :
    wpAny (model prog w) A (call (.builtin "isinstance") [v, c]) Q E s := by
  refine isi_true X ht ?_ hx h
  unfold exmOne at e
  split at e
  · exact e
  · cases e
end
end Mine

end

section
open PySem PySem.W PySem.Calls PyProof.Rows
namespace Mine
/-! loops whose turns put new objects under the names -/
def GEnd (h₀ : Heap) (L : Addr) (P : (Str → Option Value) → List (Addr × Obj) → Prop) (own : List (Addr × Obj)) (s₁ s₂ : Shared) : Prop :=
  ∃ h' tk m' news' nx, s₂ = { s₁ with heap := h', toks := tk } ∧ Fr h₀ L h' m' ∧ News h₀ L h' news' ∧ (∀ p ∈ nx, p ∈ news') ∧ (∀ p ∈ own, p ∈ news') ∧ OwnOff own (nx.map (·.1)) ∧ P m' nx
def GPost (h₀ : Heap) (L : Addr) (P : (Str → Option Value) → List (Addr × Obj) → Prop) (own : List (Addr × Obj)) (s₁ : Shared) (Q : Flow → Shared → Prop) (f : Flow) (s₂ : Shared) : Prop :=
  match f with
  | .ret v => Q (.ret v) s₂
  | .brk => Q .next s₂
  | _ => GEnd h₀ L P own s₁ s₂
theorem GEnd.intro {h₀ : Heap} {L : Addr} {P : (Str → Option Value) → List (Addr × Obj) → Prop} {m' : Str → Option Value} {own news' nx : List (Addr × Obj)} {s₁ : Shared} {h' : Heap} {tk : Nat} (F : Fr h₀ L h' m') (N : News h₀ L h' news')
    (hj : P m' nx) (hn : ∀ p ∈ nx, p ∈ news') (ho : ∀ p ∈ own, p ∈ news') (hoff : OwnOff own (nx.map (·.1))) : GEnd h₀ L P own s₁ { s₁ with heap := h', toks := tk } := ⟨h', tk, m', news', nx, rfl, F, N, hn, ho, hoff, hj⟩
section
variable {prog : Program} {w : World} {A : Around} {E : Value → Shared → Prop} {s : Shared} {h₀ : Heap} {env : Env} {L : Addr} {m : Str → Option Value} {news : List (Addr × Obj)} {x : Str} {px pos : Pos} {body : List Stmt} {Q : Flow → Shared → Prop} {iter : Expr}

theorem gpost_step {J : (Str → Option Value) → List (Addr × Obj) → Prop} {own : List (Addr × Obj)} {wr : List Addr} {s₁ : Shared} (hcov : ∀ b ∈ wr, ∃ o, (b, o) ∈ own) (f : Flow) (s₂ : Shared) (h : GPost h₀ L J own s₁ Q f s₂) :
    LoopStepV h₀ L wr own J s₁ (fun v s' => Q (.ret v) s') (fun s' => Q .next s') f s₂ := by
  have fin : GEnd h₀ L J own s₁ s₂ → LoopStepU h₀ L wr own J s₁ .next s₂ := by
    rintro ⟨h', tk, m', news', nx, rfl, F, N, hn, ho, hoff, hJ⟩
    refine ⟨rfl, h', tk, m', nx, rfl, F, fun p hp => ?_, fun p hp hw => ?_, hJ⟩
    · rcases List.mem_append.mp hp with hp | hp
      · exact N p (ho p hp)
      · exact N p (hn p hp)
    · obtain ⟨o, hm⟩ := hcov _ hw
      exact hoff _ hm _ (List.mem_map_of_mem hp) rfl
  cases f with
  | ret v => exact h
  | brk => exact h
  | next => exact fin h
  | cont => exact fin h

theorem swap_news {h : Heap} {a b : List (Addr × Obj)} (N : News h₀ L h (a ++ b)) : News h₀ L h (b ++ a) := fun p hp => N p (by
  rcases List.mem_append.mp hp with h | h
  · exact List.mem_append_right _ h
  · exact List.mem_append_left _ h)

end
abbrev tupO (vs : List Value) : Obj := { cls := .type "tuple", data := .seq vs.toArray }
theorem news_pick2 {h₀ h : Heap} {L : Addr} {news : List (Addr × Obj)} {p q : Addr × Obj} (N : News h₀ L h news) (h1 : p ∈ news) (h2 : q ∈ news) : News h₀ L h [p, q] := fun r hr => by
  rcases List.mem_cons.mp hr with rfl | hr
  · exact N _ h1
  · rw [List.mem_singleton.mp hr]; exact N _ h2
end Mine
namespace Mine
end Mine
namespace Mine
theorem bit_val (v wd : Nat) : Builtin.bitAnd (((v : Int) * 2).fdiv (2 ^ ((wd : Int)).toNat)) 1 = (((2 * v) >>> wd % 2 : Nat) : Int) := by
  have h1 : ((v : Int) * 2) = ((2 * v : Nat) : Int) := by omega
  have h2 : ((wd : Int)).toNat = wd := by omega
  rw [h1, h2, fdiv_pow]
  have h3 := kbt_maskF (((2 * v) >>> wd : Nat) : Int) 1
  have h4 : ((2 : Int) ^ 1 - 1) = 1 := by decide
  have h5 : ((2 : Int) ^ 1) = 2 := by decide
  rw [h4, h5] at h3
  rw [h3, Int.fmod_eq_emod_of_nonneg _ (by decide)]
  omega
theorem xor_val (a b : Nat) : Builtin.bitXor (a : Int) (b : Int) = ((a ^^^ b : Nat) : Int) := by
  rw [bitXor_and]
  have h1 : Builtin.bitAnd (a : Int) (b : Int) = ((a &&& b : Nat) : Int) := by
    unfold Builtin.bitAnd
    rw [decide_eq_true (show (0 : Int) ≤ (a : Int) by omega), decide_eq_true (show (0 : Int) ≤ (b : Int) by omega)]
    rfl
  rw [h1]
  have := add_eq_xor_and a b
  omega
theorem onward_yes {v n wd : Nat} (h : Builtin.bitAnd (((v : Int) * 2).fdiv (2 ^ ((wd : Int)).toNat)) 1 ≠ 0) : Builtin.bitXor ((v : Int) * 2) (n : Int) = ((onw n wd v : Nat) : Int) := by
  rw [bit_val] at h
  have h1 : (2 * v) >>> wd % 2 = 1 := by omega
  rw [onw, red, if_pos ((testBit_shift (2 * v) wd).mp h1), show ((v : Int) * 2) = ((2 * v : Nat) : Int) by omega, xor_val]
theorem onward_no {v n wd : Nat} (h : Builtin.bitAnd (((v : Int) * 2).fdiv (2 ^ ((wd : Int)).toNat)) 1 = 0) : ((v : Int) * 2) = ((onw n wd v : Nat) : Int) := by
  rw [bit_val] at h
  have h1 : ¬ (2 * v).testBit wd = true := fun h2 => by have := (testBit_shift (2 * v) wd).mpr h2; omega
  rw [onw, red, if_neg h1]; omega
end Mine
namespace Mine
/-- a list of given ints under a name -/
def IntsI (s₀ : Shared) (g : Heap) (L : Addr) (x : Str) (ns : List Int) (s' : Shared) : Prop :=
  ∃ h tk D vs cc m, s' = { s₀ with heap := h, toks := tk } ∧ Fr g L h m ∧ News g L h [(D, listOf (List.toArray vs) cc)] ∧ m x = some (.ref D) ∧ IntsAre vs ns
theorem IntsI.of {s₀ : Shared} {g : Heap} {L : Addr} {news : List (Addr × Obj)} {x : Str} {h : Heap} {tk : Nat} {D : Addr} {vs : List Value} {cc : Nat} {rs ns : List Int} {m : Str → Option Value} (F : Fr g L h m) (N : News g L h news) (hm : m x = some (.ref D)) (hD : (D, listOf (List.toArray vs) cc) ∈ news)
    (hi : IntsAre vs rs) (e : rs = ns) : Cut (IntsI s₀ g L x ns) .next { s₀ with heap := h, toks := tk } :=
  ⟨rfl, h, tk, D, vs, cc, m, rfl, F, fun p hp => by rw [List.mem_singleton.mp hp]; exact N _ hD, hm, e ▸ hi⟩
end Mine
namespace Mine
theorem news_add {h₀ h h' : Heap} {L : Addr} {m : Str → Option Value} {news : List (Addr × Obj)} (F : Fr h₀ L h m) (N : News h₀ L h' news) {r : Addr} {o : Obj} (hn : h.get? r = none) (ho : h'.get? r = some o) : News h₀ L h' ((r, o) :: news) := fun q hq => by
  rcases List.mem_cons.mp hq with rfl | hq
  · refine ⟨ho, ?_, ?_⟩
    · rintro rfl
      obtain ⟨oL, _, _, e, _⟩ := F.ns
      rw [hn] at e; cases e
    · cases q : h₀.get? r with
      | none => rfl
      | some o' => have := F.keep r o' q; rw [hn] at this; cases this
  · exact N q hq
end Mine
namespace Mine
end Mine
namespace Mine
end Mine

end

section
open PySem PySem.W PySem.Calls PyProof.Rows
namespace Mine
section
variable {prog : Program} {w : World} {K : Frag} {p : Program} {loose : List Str} {mean : ExcName → Option Value} {mg mb : Str → Option Value} {base : Heap} {fr : List Env}
theorem under_make (dp un : Nat) (gd : Option (List Code)) (C : Addr) (args : List Value) : (arA dp un gd fr).under (.builtin "type.__call__" ⟨.ref C :: args, []⟩) = arA (dp + 1) (un + 1) gd fr := rfl
/-- a class called: the instance made, its __init__ entered -/
theorem enterInit {dp un : Nat} {gd : Option (List Code)} {s : Shared} {Q E : Value → Shared → Prop} {name qual : Str} {params : Arguments} {body : List Stmt} {scope : Scope} {dV kV doc pm cdv ct oc : Value} {an od : Option Addr} {osl : Array (Option Value)} {f C : Addr} {args : List Value} (binds : Addr → List (Str × Value))
    (G : Gd K p loose mean mg mb base fr s.heap) (hm : makesIn K C = true) (hi : findIn K (.ref C) "__init__" = some (some (.ref f))) (hf : typeIn K (.ref f) = some (.type "function"))
    (ho : K.lookup f = some ⟨oc, od, .func (fnOf name qual params body scope dV kV doc pm an cdv ct), osl⟩) (hcd : codeIn K cdv qual = true) (hroom : dp + 1 < recursionLimit)
    (hbind : ∀ x s, BindsTo s (fnOf name qual params body scope dV kV doc pm an cdv ct) ⟨.ref x :: args, []⟩ (binds x)) (hloc : ∀ x, ∀ y ∈ binds x, scope.names.lookup y.1 = some .local)
    (h : ∀ x dx L' h₁ tk, dx < x → Fr s.heap L' h₁ (fun y => (binds x).reverse.lookup y) → News s.heap L' h₁ [(x, instObj C dx), (dx, emptyDict)] →
      wpAny (model prog w) (arA (dp + 2) (un + 4) gd (envOf qual scope L' f cdv :: fr)) (execs body (envOf qual scope L' f cdv))
        (fun fl s' => (match fl with | .ret v => v | _ => .none) = .none ∧ Q (.ref x) s')
        (fun e s' => wpAny (model prog w) (arA (dp + 2) (un + 4) gd (envOf qual scope L' f cdv :: fr)) (leaving (envOf qual scope L' f cdv) e) (fun _ s'' => E e s'') (fun e' s'' => E e' s'') s')
        { s with heap := h₁, toks := tk })
    (hco : scope.isCoroutine = false) (hgen : scope.isGenerator = false) (hk : scope.kind = .function) (hcell : ∀ x ∈ scope.names, x.2 ≠ .cell) :
    wpAny (model prog w) (arA dp un gd fr) (call (.ref C) args) Q E s := by
  obtain ⟨hh, gg, dd, tt, os⟩ := s
  refine wpAny_call (make_core (makes_of G.kin hm) (looks_findIn G.kin hi) (fun self => bind_fn G.kin self hf) (.inl rfl) ?_)
  rw [under_make]
  have k : hh.StaysIn ((hh.push emptyDict).push (instObj C hh.objs.size)) := fun b o e => Heap.get?_push_of_some _ (Heap.get?_push_of_some _ e)
  have hsz : ((hh.push emptyDict).push (instObj C hh.objs.size)).objs.size = hh.objs.size + 2 := by rw [Heap.size_push, Heap.size_push]
  have hx : ((hh.push emptyDict).push (instObj C hh.objs.size)).get? (hh.objs.size + 1) = some (instObj C hh.objs.size) := by
    have := Heap.get?_push_size (hh.push emptyDict) (o := instObj C hh.objs.size) rfl
    rwa [Heap.size_push] at this
  have hdx : ((hh.push emptyDict).push (instObj C hh.objs.size)).get? hh.objs.size = some emptyDict := Heap.get?_push_of_some _ (Heap.get?_push_size hh (o := emptyDict) rfl)
  refine codeAny_call_def (fd := fnOf name qual params body scope dV kV doc pm an cdv ct) (body := body) (binds := binds (hh.objs.size + 1)) hroom (k _ _ (G.kin _ _ ho)) rfl (G.top.nolimit.keeps k) (codeRec_of (G.kin.keeps k) hcd) rfl (hbind _ _) hcell (hloc _) (fun h₁ hns hk₁ => ?_) hco hgen hk
  rw [hsz] at hns ⊢
  exact h (hh.objs.size + 1) hh.objs.size (hh.objs.size + 2) h₁ _ (Nat.lt_succ_self _) ⟨hns, fun b o e => hk₁ b o (k b o e), Nat.le_add_right _ _⟩ (fun q hq => by
    rcases List.mem_cons.mp hq with rfl | hq
    · exact ⟨hk₁ _ _ hx, Nat.ne_of_lt (Nat.lt_succ_self _), get_none (Nat.le_succ _)⟩
    · rw [List.mem_singleton.mp hq]
      exact ⟨hk₁ _ _ hdx, Nat.ne_of_lt (Nat.lt_succ_of_lt (Nat.lt_succ_self _)), get_none (Nat.le_refl _)⟩)
theorem inst_keeps {h₀ h : Heap} {x C : Addr} {ox : Obj} {od : Option Obj} (k : h₀.StaysIn h) (I : PySem.W.InstAt h₀ x ox C od) : PySem.W.InstAt h x ox C od := by
  refine ⟨k _ _ I.at_, I.cls, I.no, ?_⟩
  have hd := I.dict
  revert hd
  cases ox.dict with
  | none => cases od <;> exact id
  | some dx =>
    cases od with
    | none => exact id
    | some o => exact fun e => k _ _ e
theorem inst_base {h₀ h : Heap} {L : Addr} {m : Str → Option Value} {x C : Addr} {ox : Obj} {od : Option Obj} (F : Fr h₀ L h m) (I : PySem.W.InstAt h₀ x ox C od) : PySem.W.InstAt h x ox C od := inst_keeps F.keep I
end
end Mine
namespace Mine
/-- the dict of a gate -/
abbrev gateD (pr : Params) (t0 t1 t2 t3 : Tok) (P : Int) (tP : Tok) (lD : Addr) (wd : Int) (tw : Tok) (ev : Bool) : Obj :=
  { cls := .type "dict", data := .dict [⟨PyData.keyHash pr (Str.ofString "reach"), .str (Str.ofString "reach") t0, .int P tP⟩, ⟨PyData.keyHash pr (Str.ofString "divisor"), .str (Str.ofString "divisor") t1, .ref lD⟩, ⟨PyData.keyHash pr (Str.ofString "width"), .str (Str.ofString "width") t2, .int wd tw⟩, ⟨PyData.keyHash pr (Str.ofString "even"), .str (Str.ofString "even") t3, .bool ev⟩].toArray 4 }
end Mine
namespace Mine
abbrev gateS (pr : Params) (sl : Array (Option Value)) (t0 t1 t2 t3 : Tok) (P : Int) (tP : Tok) (lD : Addr) (wd : Int) (tw : Tok) (ev : Bool) : Obj :=
  ⟨.type "dict", none, .dict [⟨PyData.keyHash pr (Str.ofString "reach"), .str (Str.ofString "reach") t0, .int P tP⟩, ⟨PyData.keyHash pr (Str.ofString "divisor"), .str (Str.ofString "divisor") t1, .ref lD⟩, ⟨PyData.keyHash pr (Str.ofString "width"), .str (Str.ofString "width") t2, .int wd tw⟩, ⟨PyData.keyHash pr (Str.ofString "even"), .str (Str.ofString "even") t3, .bool ev⟩].toArray 4, sl⟩
/-- a gate stands in the heap -/
def GateAt (pr : Params) (C : Addr) (h : Heap) (x : Addr) (P : Nat) (ds : List Int) : Prop :=
  ∃ (dx lD : Addr) (sl1 sl2 : Array (Option Value)) (vs : List Value) (t0 t1 t2 t3 tP tw : Tok), PySem.W.InstAt h x ⟨.ref C, some dx, .plain, sl1⟩ C (some (gateS pr sl2 t0 t1 t2 t3 P tP lD ((ds.length : Int) - 1) tw (ds.sum.fmod 2 == 0))) ∧ h.IsList lD vs.toArray ∧ IntsAre vs ds
section
variable {pr : Params} {C x : Addr} {P : Nat} {ds : List Int}
theorem gate_keeps {h h' : Heap} (k : h.StaysIn h') (H : GateAt pr C h x P ds) : GateAt pr C h' x P ds := by
  obtain ⟨dx, lD, sl1, sl2, vs, t0, t1, t2, t3, tP, tw, I, hl, hi⟩ := H
  exact ⟨dx, lD, sl1, sl2, vs, t0, t1, t2, t3, tP, tw, inst_keeps k I, hl.at fun o e => k _ o e, hi⟩
theorem gate_base {h₀ h : Heap} {L : Addr} {m : Str → Option Value} (F : Fr h₀ L h m) (H : GateAt pr C h₀ x P ds) : GateAt pr C h x P ds := gate_keeps F.keep H
theorem gate_led {g h : Heap} {L dx lD : Addr} {news : List (Addr × Obj)} {vs : List Value} {c : Nat} {t0 t1 t2 t3 tP tw : Tok} (N : News g L h news) (m1 : (x, instObj C dx) ∈ news) (m2 : (dx, gateD pr t0 t1 t2 t3 P tP lD ((ds.length : Int) - 1) tw (ds.sum.fmod 2 == 0)) ∈ news) (m3 : (lD, listOf vs.toArray c) ∈ news) (hi : IntsAre vs ds) : GateAt pr C h x P ds :=
  ⟨dx, lD, #[], #[], vs, t0, t1, t2, t3, tP, tw, ⟨(N _ m1).1, rfl, rfl, (N _ m2).1⟩, lst_led N m3, hi⟩
end
end Mine
namespace Mine
section
variable {prog : Program} {w : World} {A : Around} {E : Value → Shared → Prop} {s : Shared} {K : Frag} {x C L : Addr} {h₀ : Heap} {m : Str → Option Value} {ox : Obj} {es : List DictEntry} {n : Nat} {sl : Array (Option Value)} {name : Str} {v : Value}
theorem get_ownS {expr : Bool} {Q : Value → Shared → Prop} {attr : Option Value} (F : Fr h₀ L s.heap m) (X₀ : K.In h₀) (I : PySem.W.InstAt s.heap x ox C (some ⟨.type "dict", none, .dict es.toArray n, sl⟩)) (hg : plainGet K C name = true) (hh : hasDictIn K C = true)
    (ha : findIn K (.ref C) name = some attr) (hn : noGet K attr = true) (hl : getL name es = some (some v)) (hv : handedIn v = true) (h : Q v { s with toks := s.toks + 1 }) :
    wpAny (model prog w) A (getAttr (.ref x) name expr) Q E s := by
  have hl' : lookIn name ⟨.type "dict", none, .dict es.toArray n, sl⟩ = some (some v) := by
    show lookIn name (dictOf es n) = _
    rw [lookIn_dict]; exact hl
  exact get_value (X₀.keeps F.keep) I (plainGet_of hg).1 (findObj_own hh ha hn hl') hv h
theorem method_instS {pl : Sem Bool} {Q : Value × List Value → Shared → Prop} {f : Addr} (F : Fr h₀ L s.heap m) (X₀ : K.In h₀) (I : PySem.W.InstAt s.heap x ox C (some ⟨.type "dict", none, .dict es.toArray n, sl⟩)) (hg : plainGet K C name = true)
    (hf : findIn K (.ref C) name = some (some (.ref f))) (ht : isFn K (.ref f) = true) (hl : getL name es = some none) (h : Q (.ref f, [.ref x]) s) : wpAny (model prog w) A (getMethod (.ref x) name pl) Q E s :=
  method_fn (X₀.keeps F.keep) I (plainGet_of hg).1 (plainGet_of hg).2 hf (beq_iff_eq.mp ht) (by show (lookIn name (dictOf es n)).map _ = _; rw [lookIn_dict, hl]; rfl) h
end
end Mine
namespace Mine
end Mine

end

section

namespace Mine
theorem isRow_take {r : List Int} (h : IsRow r) (n : Nat) : IsRow (r.take n) := fun x hx => h x (List.mem_of_mem_take hx)
end Mine

end

section
open PySem PySem.W PySem.Calls PyProof.Rows
namespace Mine
/-- turns beside which other objects stand still -/
theorem turns_with {prog : Program} {w : World} {A : Around} {target : Expr} {I : Addr} {fp wr : List Addr} {n : Nat} {P Md : Nat → Value → Heap → Prop} {St : Nat → Heap → Prop} (W : KTurns prog w A target I fp wr n P Md St) (still : List (Addr × Obj)) (hoff : ∀ p ∈ still, p.1 ∉ wr) :
    KTurns prog w A target I (fp ++ still.map (·.1)) wr n (fun i v h => P i v h ∧ ∀ p ∈ still, h.get? p.1 = some p.2) (fun i v h => Md i v h ∧ ∀ p ∈ still, h.get? p.1 = some p.2) (fun i h => St i h ∧ ∀ p ∈ still, h.get? p.1 = some p.2) where
  sub := fun b hb => List.mem_append_left _ (W.sub b hb)
  frame := fun i h h' st hk => ⟨W.frame i h h' st.1 fun b hb o e => hk b (List.mem_append_left _ hb) o e, fun p hp => hk _ (List.mem_append_right _ (List.mem_map_of_mem hp)) _ (st.2 p hp)⟩
  item := fun i s Q E hi st hQ => W.item i s Q E hi st.1 fun v h' tk hm hk => hQ v h' tk ⟨hm, fun p hp => hk _ _ (hoff p hp) (st.2 p hp)⟩ hk
  go := fun i v s Q E hm hQ => W.go i v s Q E hm.1 fun h' hP st hk => hQ h' ⟨hP, fun p hp => hk _ _ (hoff p hp) (hm.2 p hp)⟩ ⟨st, fun p hp => hk _ _ (hoff p hp) (hm.2 p hp)⟩ hk
  done := fun s Q E st hQ => W.done s Q E st.1 hQ
def LoopIn (prog : Program) (w : World) (A : Around) (h₀ : Heap) (env : Env) (target : Expr) (body : List Stmt) (Q : Flow → Shared → Prop) (E : Value → Shared → Prop) (xv : Value) (s₁ : Shared) : Prop :=
  wpAny (model prog w) A (pyIter xv) (fun it s₂ => TurnsAt prog w A h₀ env target body Q E it s₂) E s₁
section
variable {prog : Program} {w : World} {A : Around} {E : Value → Shared → Prop} {s : Shared} {h₀ : Heap} {env : Env} {m : Str → Option Value} {news : List (Addr × Obj)} {target iter : Expr} {pos : Pos} {body : List Stmt} {Q : Flow → Shared → Prop}
theorem for_in (F : Fr h₀ env.locals s.heap m) (h : ∀ Q' : Value → Shared → Prop, (∀ xv s₁, LoopIn prog w A h₀ env target body Q E xv s₁ → Q' xv s₁) → wpAny (model prog w) A (eval iter env) Q' E s)
    (hs : ∀ x, foldedSetIterable iter env x = pure x) (hE : PassesOwn (model prog w) A env E) :
    wpAny (model prog w) A (exec (.For target iter body [] pos) env) Q E s := For_turns F (h _ fun _ _ q => q) hs hE
theorem gpost_mono {L : Addr} {J J' : (Str → Option Value) → List (Addr × Obj) → Prop} {own : List (Addr × Obj)} {s₁ : Shared} (f : Flow) (s₂ : Shared) (hJ : ∀ m nx, OwnOff own (nx.map (·.1)) → J m nx → J' m nx) (h : GPost h₀ L J own s₁ Q f s₂) : GPost h₀ L J' own s₁ Q f s₂ := by
  have fin : GEnd h₀ L J own s₁ s₂ → GEnd h₀ L J' own s₁ s₂ := by
    rintro ⟨h', tk, m', news', nx, e, F, N, hn, ho, hoff, j⟩
    exact ⟨h', tk, m', news', nx, e, F, N, hn, ho, hoff, hJ _ _ hoff j⟩
  cases f with
  | ret v => exact h
  | brk => exact h
  | next => exact fin h
  | cont => exact fin h
/-- a loop over a list that stands still; any target -/
theorem loop_list {l : Addr} {vs : List Value} {still : List (Addr × Obj)} (J : Nat → (Str → Option Value) → List (Addr × Obj) → Prop)
    (hh : A.handled = none) (F : Fr h₀ env.locals s.heap m) (N : News h₀ env.locals s.heap (news ++ still)) (hl : s.heap.IsList l vs.toArray) (hl' : (∃ o, (l, o) ∈ still) ∨ (∃ o, h₀.get? l = some o)) (hoff : OwnOff still (news.map (·.1)))
    (hj : J 0 m news)
    (turn : ∀ i v m₁ news₁ h tk own, vs[i]? = some v → OwnOff own (news₁.map (·.1)) → J i m₁ news₁ → (∀ p ∈ still, p ∈ own) → Fr h₀ env.locals h m₁ → News h₀ env.locals h (news₁ ++ own) →
      wpAny (model prog w) A (assign target env v) (fun _ s₃ => wpAny (model prog w) A (execs body env) (GPost h₀ env.locals (J (i + 1)) own { s with heap := h, toks := tk } Q) E s₃) E { s with heap := h, toks := tk })
    (done : ∀ m₁ news₁ h tk, J vs.length m₁ news₁ → Fr h₀ env.locals h m₁ → News h₀ env.locals h news₁ → Q .next { s with heap := h, toks := tk }) :
    LoopIn prog w A h₀ env target body Q E (.ref l) s := by
  obtain ⟨ol, hol, hcl, hdl⟩ := id hl
  unfold LoopIn
  refine wpAny_pyIter_list hl ?_
  have hne : l ≠ s.heap.objs.size := Nat.ne_of_lt (Heap.lt_size hol)
  have hnone : h₀.get? s.heap.objs.size = none := next_is_new F
  have hnn : ∀ p ∈ news ++ still, p.1 ≠ s.heap.objs.size := fun p hp e => absurd (Heap.lt_size (N p hp).1) (e ▸ Nat.lt_irrefl _)
  have W := turns_with (KTurns.ofWalks (target := target) (Walks.list (prog := prog) (w := w) hh s.heap.objs.size l hne vs.toArray) fun i v s Q E st q => letGo_listiter st.1 q) still (fun p hp hm => hnn p (List.mem_append_right _ hp) (List.mem_singleton.mp hm))
  have hLl : env.locals ≠ l := by
    rcases hl' with ⟨o, ho⟩ | ⟨o, ho⟩
    · exact fun e => (N _ (List.mem_append_right _ ho)).2.1 e.symm
    · exact fun e => absurd (Nat.lt_of_lt_of_le (Heap.lt_size ho) F.above) (e ▸ Nat.lt_irrefl _)
  refine ⟨_, _, _, _, _, _, _, m, news, fun i m nx => J i m nx ∧ OwnOff still (nx.map (·.1)), rfl, W, ?_, ?_, ?_, ⟨⟨⟨_, Heap.get?_push_size _ rfl, rfl, rfl⟩, hl.at fun o e => Heap.get?_push_of_some _ e⟩, fun p hp => Heap.get?_push_of_some _ (N p (List.mem_append_right _ hp)).1⟩, F.push _, (fun p hp => ⟨Heap.get?_push_of_some _ (N p (List.mem_append_left _ hp)).1, (N p (List.mem_append_left _ hp)).2⟩), ⟨hj, hoff⟩, ?_, ?_⟩
  · intro hm
    rcases List.mem_append.mp hm with hm | hm
    · rcases List.mem_cons.mp hm with hm | hm
      · exact absurd F.ns.lt (hm ▸ Nat.lt_irrefl _)
      · exact hLl (List.mem_singleton.mp hm)
    · obtain ⟨p, hp, e⟩ := List.mem_map.mp hm
      exact (N p (List.mem_append_right _ hp)).2.1 e
  · intro b hb
    rw [List.mem_singleton.mp hb]
    exact hnone
  · intro p hp hI
    exact hnn p (List.mem_append_left _ hp) (List.mem_singleton.mp hI)
  · rintro i v m₁ news₁ h₂ tk₂ own hin ⟨hv, hpres⟩ ⟨hJ, hjo⟩ hnw hown hget hcov ⟨hst, _⟩ F₂ N₂
    have hv' : vs[i]? = some v := by
      have h1 : vs.toArray[i]? = some v := hv
      rwa [List.getElem?_toArray] at h1
    have hso : ∀ p ∈ still, p ∈ own := fun p hp => hcov p.1 (List.mem_append_right _ (List.mem_map_of_mem hp)) (N p (List.mem_append_right _ hp)).2.2 p.2 (hpres p hp)
    obtain ⟨⟨oI, hoI, _⟩, _⟩ := id hst
    have hc : ∀ b ∈ [s.heap.objs.size], ∃ o, (b, o) ∈ own := fun b hb => ⟨oI, (List.mem_singleton.mp hb) ▸ hcov _ (List.mem_append_left _ (.head _)) hnone _ hoI⟩
    refine wpAny_mono (turn i v m₁ news₁ h₂ tk₂ own hv' ?_ hJ hso F₂ (swap_news N₂)) (fun _ s₃ q => wpAny_mono q (fun f s₄ q => gpost_step hc f s₄ (gpost_mono f s₄ (fun m nx ho j => ⟨j, fun p hp c hc' => ho p (hso p hp) c hc'⟩) q)) fun _ _ e => e) fun _ _ e => e
    intro p hp c hc' e
    obtain ⟨q, hq, rfl⟩ := List.mem_map.mp hc'
    have h1 := hown p hp
    rcases List.mem_append.mp h1 with h1 | h1
    · rcases List.mem_cons.mp h1 with h1 | h1
      · exact hnw q hq (List.mem_singleton.mpr (e ▸ h1))
      · have h2 : q.1 = l := e ▸ List.mem_singleton.mp h1
        rcases hl' with ⟨o, ho⟩ | ⟨o, ho⟩
        · exact hjo _ ho _ (List.mem_map_of_mem hq) h2.symm
        · have h3 := (N₂ q (List.mem_append_right _ hq)).2.2
          rw [h2, ho] at h3; cases h3
    · obtain ⟨r, hr, e2⟩ := List.mem_map.mp h1
      exact hjo r hr _ (List.mem_map_of_mem hq) (e2.trans e)
  · rintro h' tk m' news' F' N' _ ⟨hJ, _⟩
    exact done m' news' h' tk hJ F' N'
/-- a loop over a list of any values, one name -/
theorem loop_vals {x : Str} {px : Pos} {l : Addr} {vs : List Value} {still : List (Addr × Obj)} (J : Nat → (Str → Option Value) → List (Addr × Obj) → Prop)
    (hh : A.handled = none) (F : Fr h₀ env.locals s.heap m) (N : News h₀ env.locals s.heap (news ++ still)) (hl : s.heap.IsList l vs.toArray) (hl' : (∃ o, (l, o) ∈ still) ∨ (∃ o, h₀.get? l = some o)) (hoff : OwnOff still (news.map (·.1)))
    (hj : J 0 m news)
    (turn : ∀ i v m₁ news₁ h tk own, vs[i]? = some v → OwnOff own (news₁.map (·.1)) → J i m₁ news₁ → (∀ p ∈ still, p ∈ own) → Fr h₀ env.locals h (fun z => if z = x then some v else m₁ z) → News h₀ env.locals h (news₁ ++ own) →
      wpAny (model prog w) A (execs body env) (GPost h₀ env.locals (J (i + 1)) own { s with heap := h, toks := tk } Q) E { s with heap := h, toks := tk })
    (done : ∀ m₁ news₁ h tk, J vs.length m₁ news₁ → Fr h₀ env.locals h m₁ → News h₀ env.locals h news₁ → Q .next { s with heap := h, toks := tk })
    (hx : env.kindOf x = some .local) (hp : (env.scope.kind == .class || (env.scope.kind == .module && env.locals != env.globals)) = false) :
    LoopIn prog w A h₀ env (.Name x px) body Q E (.ref l) s := by
  refine loop_list J hh F N hl hl' hoff hj (fun i v m₁ news₁ h₂ tk₂ own hv hoff₂ hJ hso F₂ N₂ => ?_) done
  refine wpAny_assign_Name (wpAny_storeName_local hx F₂.ns (fun h₃ hn₃ hs₃ => ?_) hp)
  refine wpAny_mono (turn i v m₁ news₁ h₃ _ own hv hoff₂ hJ hso (F₂.set hn₃ hs₃) (N₂.set hs₃)) (fun f s₂ q => ?_) fun _ _ e => e
  cases f <;> exact q
end
end Mine
namespace Mine
/-! a list of the caller's that a callee appends to: it is taken out of the ground -/
section
variable {prog : Program} {w : World} {K : Frag} {p : Program} {loose : List Str} {mean : ExcName → Option Value} {mg mb : Str → Option Value} {base : Heap} {fr : List Env}
end
/-! at the bottom no frame turns -/
end Mine
namespace Mine
/-! pairs of a found list and its copy -/
def PairIn (led : List (Addr × Obj)) (v : Value) : Prop := ∃ (T A B : Addr) (ws us : List Value) (c d : Nat) (ns : List Int), v = .ref T ∧ (T, tupO [.ref A, .ref B]) ∈ led ∧ (A, listOf ws.toArray c) ∈ led ∧ (B, listOf us.toArray d) ∈ led ∧ IntsAre ws ns ∧ IntsAre us ns ∧ ns.length ≤ 100000
def HeldIn (led : List (Addr × Obj)) (hv : List Value) : Prop := ∀ v ∈ hv, PairIn led v
theorem PairIn.sub {led led' : List (Addr × Obj)} {v : Value} (h : PairIn led v) (hs : ∀ p ∈ led, p ∈ led') : PairIn led' v := by
  obtain ⟨T, A, B, ws, us, c, d, ns, e, h1, h2, h3, h4⟩ := h
  exact ⟨T, A, B, ws, us, c, d, ns, e, hs _ h1, hs _ h2, hs _ h3, h4⟩
theorem HeldIn.sub {led led' : List (Addr × Obj)} {hv : List Value} (h : HeldIn led hv) (hs : ∀ p ∈ led, p ∈ led') : HeldIn led' hv := fun v hv' => (h v hv').sub hs
end Mine
namespace Mine
section
variable {prog : Program} {w : World} {A : Around} {E : Value → Shared → Prop} {s : Shared} {l : Addr} {vs : List Value} {ns : List Int} {k : Int} {t : Tok} {Q : Value → Shared → Prop}
end
/-- what a frame hands back of its ledger -/
theorem led_of {g h : Heap} {L : Addr} {led small : List (Addr × Obj)} (N : News g L h led) (hs : ∀ q ∈ small, q ∈ led) : ∀ q ∈ small, h.get? q.1 = some q.2 ∧ g.get? q.1 = none := fun q hq => ⟨(N q (hs q hq)).1, (N q (hs q hq)).2.2⟩
end Mine
namespace Mine
end Mine
namespace Mine
end Mine
namespace Mine
end Mine
namespace Mine
end Mine
namespace Mine
end Mine

end

section
open PySem PySem.W PySem.Calls PyProof.Rows
namespace Mine
/-! texts -/
section
variable {prog : Program} {w : World} {A : Around} {E : Value → Shared → Prop} {s : Shared} {h₀ : Heap} {env : Env} {L : Addr} {m₀ : Str → Option Value} {news : List (Addr × Obj)} {x : Str} {px pos : Pos} {body : List Stmt} {Q : Flow → Shared → Prop} {iter : Expr}
end
section
variable {s : Shared} {Q : Value → Shared → Prop} {h' : Heap} {tk' : Nat}
end
end Mine

end

section
open PySem PySem.W PySem.Calls PyProof.Rows
namespace Mine
/-! what is no row, in a heap -/
abbrev InH (h : Heap) : Addr → Obj → Prop := fun a o => h.get? a = some o
def NotSign (P : Addr → Obj → Prop) (v : Value) : Prop :=
  (∃ n t, v = .int n t ∧ ¬ (0 ≤ n ∧ n ≤ 1)) ∨ (∃ b, v = .bool b) ∨ v = .none ∨ (∃ x t, v = .str x t) ∨ (∃ l o, v = .ref l ∧ P l o ∧ o.cls = .type "list")
def BadP (P : Addr → Obj → Prop) (v : Value) : Prop :=
  v = .none ∨ (∃ n t, v = .int n t) ∨ (∃ b, v = .bool b) ∨ (∃ x t, v = .str x t) ∨ (∃ l o, v = .ref l ∧ P l o ∧ o.cls = .type "tuple") ∨ (∃ l o, v = .ref l ∧ P l o ∧ o.cls = .type "dict") ∨
  (∃ l us x ws c as, v = .ref l ∧ P l (listOf (List.toArray (us ++ x :: ws)) c) ∧ IntsAre us as ∧ IsRow as ∧ NotSign P x)
theorem ints_at : ∀ {us : List Value} {as : List Int} {i : Nat} {v : Value}, IntsAre us as → us[i]? = some v → ∃ n t, v = .int n t ∧ as[i]? = some n
  | _, _, i, v, .nil, h => by simp at h
  | _, _, 0, v, .cons n t _, h => by
    simp only [List.getElem?_cons_zero, Option.some.injEq] at h
    exact ⟨n, t, h.symm, rfl⟩
  | _, _, i + 1, v, .cons n t r, h => by
    simp only [List.getElem?_cons_succ] at h ⊢
    exact ints_at r h
theorem BadP.of_list {P : Addr → Obj → Prop} {l : Addr} {us ws : List Value} {x : Value} {c : Nat} {as : List Int} (hp : P l (listOf (List.toArray ((us ++ [x]) ++ ws)) c)) (hi : IntsAre us as) (hr : IsRow as) (hx : NotSign P x) : BadP P (.ref l) := by
  rw [List.append_assoc] at hp
  exact .inr (.inr (.inr (.inr (.inr (.inr ⟨l, us, x, ws, c, as, rfl, hp, hi, hr, hx⟩)))))
theorem NotSign.mono {P P' : Addr → Obj → Prop} (h : ∀ a o, P a o → P' a o) {v : Value} : NotSign P v → NotSign P' v := by
  rintro (h1 | h1 | h1 | h1 | ⟨l, o, e, p, c⟩)
  · exact .inl h1
  · exact .inr (.inl h1)
  · exact .inr (.inr (.inl h1))
  · exact .inr (.inr (.inr (.inl h1)))
  · exact .inr (.inr (.inr (.inr ⟨l, o, e, h _ _ p, c⟩)))
theorem BadP.mono {P P' : Addr → Obj → Prop} (h : ∀ a o, P a o → P' a o) {v : Value} : BadP P v → BadP P' v := by
  rintro (h1 | h1 | h1 | h1 | ⟨l, o, e, p, c⟩ | ⟨l, o, e, p, c⟩ | ⟨l, us, x, ws, c, as, e, p, q1, q2, q3⟩)
  · exact .inl h1
  · exact .inr (.inl h1)
  · exact .inr (.inr (.inl h1))
  · exact .inr (.inr (.inr (.inl h1)))
  · exact .inr (.inr (.inr (.inr (.inl ⟨l, o, e, h _ _ p, c⟩))))
  · exact .inr (.inr (.inr (.inr (.inr (.inl ⟨l, o, e, h _ _ p, c⟩)))))
  · exact .inr (.inr (.inr (.inr (.inr (.inr ⟨l, us, x, ws, c, as, e, h _ _ p, q1, q2, q3.mono h⟩)))))
end Mine

namespace Mine
section
open PySem.Builtin.ObjectAttr PySem.Spec PySem.Builtin PySem.Builtin.Getset_descriptor
variable {prog : Program} {w : World} {A : Around} {E : Value → Shared → Prop} {s : Shared} {K : Frag} {x D : Addr}
theorem exc_find {M : Model} {h : Heap} {a g : Value} {name : Str} (X : K.In h) (ha : findIn K (.ref D) name = some (some a)) (hg : specialIn K a "__get__" = some (some g)) (ht : takesIn K a = some true) : Looks M h (find (.ref x) (.ref D) name) (.bind g a) :=
  (looks_findIn (M := M) X ha).andThen ((show Looks M h (getOf (some a)) (some g) from looks_specialIn X hg).andThen ((show Looks M h (dataDescriptor? (some a) (some g)) (some (g, a)) from (looks_takesIn (M := M) X ht).andThen .now).andThen (Looks.tag .now)))
theorem exc_class_get {R : Result → Shared → Prop} {tp : Value} (X : K.In s.heap) (L0 : Looks (model prog w) s.heap (typeOf (.ref x)) (.ref D)) (hm : mroIn K D (.type "object") = some true)
    (h : R (.ok (.ret (.ref D))) s) : codeAny (model prog w) A (.call (.builtin "getset_descriptor.__get__") ⟨[.builtin "object.__class__", .ref x, tp], []⟩) R s := by
  obtain ⟨hh, g, dr, t, os⟩ := s
  have L1 := looks_mroIn (M := model prog w) X hm
  refine codeAny_call_builtin KF.slot_gs.plain KF.entry_gs (KF.slot_gs.check _ _ _ _ _ _ _ _ KF.type_class (KF.args_gs _ _ _) ?_)
  unfold Builtin.«getset_descriptor.__get__» descrGet
  rw [dga_obj]
  refine wpAny_bind (wpAny_pure ?_)
  unfold descrGetter descrCheckInstance descrNameAndClass isInstance
  simp only [KF.owner_class]
  repeat lk
  refine ⟨Code.quiet_builtin _ (by decide +kernel), codeAny_builtin KF.entry_class ?_⟩
  unfold Builtin.«object.__class__» shownTypeOf
  repeat lk
  exact h
theorem exc_class {Q : Option Value → Shared → Prop} (X : K.In s.heap) (L0 : Looks (model prog w) s.heap (typeOf (.ref x)) (.ref D))
    (hga : findIn K (.ref D) "__getattribute__" = some (some (.builtin "BaseException.__getattribute__"))) (hgt : findIn K (.ref D) "__getattr__" = some none) (hs : subIn K (.ref D) (.type "BaseException") = some true)
    (ha : findIn K (.ref D) "__class__" = some (some (.builtin "object.__class__"))) (hn : specialIn K (.builtin "object.__class__") "__get__" = some (some (.builtin "getset_descriptor.__get__"))) (htk : takesIn K (.builtin "object.__class__") = some true) (hm : mroIn K D (.type "object") = some true)
    (h : Q (some (.ref D)) { s with toks := s.toks + 1 }) : wpAny (model prog w) A (getAttr? (.ref x) "__class__") Q E s := by
  obtain ⟨hh, g, d, t, os⟩ := s
  have L1 := looks_findIn (M := model prog w) X hga
  have L2 := looks_findIn (M := model prog w) X hgt
  have L3 := exc_find (M := model prog w) (x := x) X ha hn htk
  have L4 : Looks (model prog w) hh (isInstance (.ref x) (.type "BaseException")) true := L0.andThen (looks_subIn X hs)
  have f3 := F.attr_ValueError.ga.bind (.ref x)
  have hx2 : (Value.builtin "BaseException.__getattribute__" == Value.builtin "object.__getattribute__") = false := by decide +kernel
  unfold getAttr? getAttrBy? getAttrBy
  refine wpAny_bind (wpAny_mkText (wpAny_bind (wpAny_attempt (wpAny_holding (wpAny_bind (L0.at (wpAny_bind (L1.at ?_))))))))
  dsimp only
  rw [hx2, Bool.and_false, if_neg Bool.false_ne_true]
  unfold getAttrByItsOwn hookBefore
  refine wpAny_bind ?_
  rw [if_pos (show onTheHeap (Value.ref D) = true from rfl)]
  refine L2.at ?_
  refine wpAny_bind (wpAny_attempt (wpAny_holding ?_))
  unfold callGetattribute
  rw [Bool.false_and, if_neg Bool.false_ne_true]
  unfold boundAndCalled
  rw [f3]
  refine wpAny_bind (wpAny_pure ?_)
  refine wpAny_call (codeAny_call_builtin F.attr_ValueError.ga.plain F.entry_bexc_ga ?_)
  have hk : builtinKind "BaseException.__getattribute__" = some .slot := by decide +kernel
  have hsplit : splitId "BaseException.__getattribute__" = some ("BaseException", "__getattribute__") := by decide +kernel
  have hok := F.args_bexc_ga (.ref x) (.str (Str.ofString "__class__") t)
  simp only [List.cons_append, List.nil_append, checkBuiltinCall, hk, hsplit]
  refine wpAny_bind (L4.at ?_)
  repeat (first | (with_reducible refine L0.at ?_) | (with_reducible refine L3.at ?_) | wp_step)
  refine exc_class_get (s := ⟨hh, g, d, t + 1, os⟩) X L0 hm ?_
  repeat wp_step
  exact h
theorem exc_nested {c : Value} {dep : Int} {tk : Tok} {Q : Fin → Shared → Prop} (X : K.In s.heap) (L0 : Looks (model prog w) s.heap (typeOf (.ref x)) (.ref D))
    (hga : findIn K (.ref D) "__getattribute__" = some (some (.builtin "BaseException.__getattribute__"))) (hgt : findIn K (.ref D) "__getattr__" = some none) (hs : subIn K (.ref D) (.type "BaseException") = some true)
    (ha : findIn K (.ref D) "__class__" = some (some (.builtin "object.__class__"))) (hn : specialIn K (.builtin "object.__class__") "__get__" = some (some (.builtin "getset_descriptor.__get__"))) (htk : takesIn K (.builtin "object.__class__") = some true) (hm : mroIn K D (.type "object") = some true)
    (hcl : (clsIn K D).isSome = true) (e : kitCls K (.ref D) c = some false) (hne : (Value.ref D == c) = false)
    (h : Q (.done (.ret (.bool false))) { s with toks := s.toks + 1 }) :
    wpAny (model prog w) A (Builtin.«isinstance.nested» ⟨[.ref x, c, .int dep tk], []⟩) Q E s := by
  obtain ⟨cdD, hcD⟩ := Option.isSome_iff_exists.mp hcl
  have hisD : Looks (model prog w) s.heap (isType (.ref D)) true := by
    unfold clsIn at hcD
    split at hcD
    · rename_i c' d' cd' sl' ho
      intro A' Q' E' s' k q
      unfold isType loadHead
      exact wpAny_bind (wpAny_loadPart (k _ _ (X _ _ ho)) (wpAny_pure q))
    · cases hcD
  obtain ⟨hty, his, hsub⟩ := kit_cls (M := model prog w) X e
  obtain ⟨h0, g, d, tt, os⟩ := s
  have LI : Looks (model prog w) h0 (isInstance (.ref x) c) false := L0.andThen hsub
  unfold Builtin.«isinstance.nested»
  refine wpAny_bind (L0.at ?_)
  rw [if_neg (fun q => by rw [hne] at q; exact Bool.noConfusion q)]
  refine wpAny_bind (hty.at ?_)
  rw [if_pos (by decide)]
  k_delta "plainIsInstance"
  refine wpAny_bind (wpAny_bind (his.at ?_))
  simp only [Bool.not_true, Bool.false_eq_true, if_false]
  refine wpAny_bind (LI.at ?_)
  simp only [Bool.false_eq_true, if_false]
  refine wpAny_bind (exc_class X L0 hga hgt hs ha hn htk hm ?_)
  refine wpAny_bind (hisD.at ?_)
  simp only [Bool.not_true, Bool.false_eq_true, if_false]
  refine wpAny_bind (wpAny_rule ?_)
  refine hsub.at ?_
  first
    | exact wpAny_pure h
    | exact wpAny_pure (wpAny_pure h)
    | exact wpAny_bind (wpAny_pure (wpAny_pure h))
/-- what is looked up of an exception's class -/
def excPlain (K : Frag) (D : Addr) : Bool :=
  findIn K (.ref D) "__getattribute__" == some (some (.builtin "BaseException.__getattribute__")) && findIn K (.ref D) "__getattr__" == some none && subIn K (.ref D) (.type "BaseException") == some true && findIn K (.ref D) "__class__" == some (some (.builtin "object.__class__")) && specialIn K (.builtin "object.__class__") "__get__" == some (some (.builtin "getset_descriptor.__get__")) && takesIn K (.builtin "object.__class__") == some true && mroIn K D (.type "object") == some true && (clsIn K D).isSome
theorem isi_excN {c : Value} {Q : Value → Shared → Prop} (X : K.In s.heap) (ht : ∀ M, Looks M s.heap (typeOf (.ref x)) (.ref D)) (ep : excPlain K D = true) (e : kitCls K (.ref D) c = some false) (hne : (Value.ref D == c) = false)
    (h : Q (.bool false) { s with toks := s.toks + 1 }) : wpAny (model prog w) A (call (.builtin "isinstance") [.ref x, c]) Q E s := by
  unfold excPlain at ep
  simp only [Bool.and_eq_true, beq_iff_eq] at ep
  obtain ⟨⟨⟨⟨⟨⟨⟨e1, e2⟩, e3⟩, e4⟩, e5⟩, e6⟩, e7⟩, e8⟩ := ep
  exact call_isinstance (S := fun _ R s => (K.In s.heap ∧ ∀ M, Looks M s.heap (typeOf (.ref x)) (.ref D)) ∧ R (.ok (.ret (.bool false))) { s with toks := s.toks + 1 })
    (fun _ _ _ _ _ hs => isinstance_outer (exc_nested hs.1.1 (hs.1.2 _) e1 e2 e3 e4 e5 e6 e7 e8 e hne hs.2) (by intro q; cases q)) ⟨⟨X, ht⟩, h⟩
end
end Mine
namespace Mine
theorem news_many {g h h' : Heap} {L : Addr} {m : Str → Option Value} {news prs : List (Addr × Obj)} (F : Fr g L h m) (N : News g L h' news) (hp : ∀ q ∈ prs, h'.get? q.1 = some q.2 ∧ h.get? q.1 = none) : News g L h' (news ++ prs) := fun p hm => by
  rcases List.mem_append.mp hm with hm | hm
  · exact N p hm
  · exact news_add F (News.nil (h₀ := g) (L := L) (h := h')) (hp p hm).2 (hp p hm).1 _ (.head _)
theorem badP_led {g h : Heap} {L : Addr} {news prs : List (Addr × Obj)} {v : Value} (N : News g L h news) (hs : ∀ p ∈ prs, p ∈ news) (hb : BadP (fun a o => (a, o) ∈ prs) v) : BadP (InH h) v := hb.mono fun a o hm => (N (a, o) (hs _ hm)).1
section
variable {s : Shared} {Q : Value → Shared → Prop} {fr : List Env}
theorem ret_boolT {x y : Bool} {g' h' : Heap} {tk' : Nat} (ret : ∀ g' h' tk', KtsTurn (frs fr) s.heap g' → g'.StaysIn h' → Q (.bool x) { s with heap := h', toks := tk' }) (e : y = x) (T : KtsTurn (frs fr) s.heap g') (k : g'.StaysIn h') : Q (.bool y) { s with heap := h', toks := tk' } := e ▸ ret g' h' tk' T k
end
theorem div_b {b : Int} (hb : b = 0 ∨ b = 1) : IsRow [1, b, 1 - b, 1] := by
  intro x hx
  simp only [List.mem_cons, List.not_mem_nil, or_false] at hx
  rcases hb with rfl | rfl <;> omega
theorem isDiv_b {b : Int} (hb : b = 0 ∨ b = 1) : IsDiv [1, b, 1 - b, 1] := ⟨div_b hb, rfl, rfl, by simp, by simp⟩
theorem reach_b {b : Int} (hb : b = 0 ∨ b = 1) : Reach [1, b, 1 - b, 1] 7 := by
  have go : ∀ j, 1 ≤ j → j < 7 → j = 1 ∨ j = 2 ∨ j = 3 ∨ j = 4 ∨ j = 5 ∨ j = 6 := fun j h1 h2 => by omega
  rcases hb with rfl | rfl
  · refine ⟨by decide, by decide +kernel, fun j h1 h2 => ?_⟩
    rcases go j h1 h2 with rfl | rfl | rfl | rfl | rfl | rfl <;> decide +kernel
  · refine ⟨by decide, by decide +kernel, fun j h1 h2 => ?_⟩
    rcases go j h1 h2 with rfl | rfl | rfl | rfl | rfl | rfl <;> decide +kernel
theorem rest_b {b : Int} (hb : b = 0 ∨ b = 1) : (restBy [1, 0, 0, 0] [1, b, 1 - b, 1]).sum ≠ 0 := by
  rcases hb with rfl | rfl <;> decide +kernel
theorem nomend_b {b : Int} (hb : b = 0 ∨ b = 1) : NoMend [1, b, 1 - b, 1] [1, 1, 1] := by
  unfold NoMend
  rcases hb with rfl | rfl <;> decide +kernel
end Mine

end

section
open PySem PySem.W PySem.Calls PyProof.Rows
local macro_rules | `(tactic| walk_at "eval ListComp") => `(tactic| refine Mine.stop_of ?_)
local macro_rules | `(tactic| walk_at "call ref") => `(tactic| refine Mine.stop_of ?_)
local macro_rules | `(tactic| walk_at "exec For Name Name cons nil") => `(tactic| refine Mine.stop_of ?_)
local macro_rules | `(tactic| walk_at "exec For Name Call cons nil") => `(tactic| refine Mine.stop_of ?_)
local macro_rules | `(tactic| walk_at "exec For Name Attribute cons nil") => `(tactic| refine Mine.stop_of ?_)
local macro_rules | `(tactic| walk_at "exec For Name List cons nil") => `(tactic| refine Mine.stop_of ?_)
local macro_rules | `(tactic| walk_at "exec For Name Subscript cons nil") => `(tactic| refine Mine.stop_of ?_)
local macro_rules | `(tactic| walk_at "exec For Tuple Name cons nil") => `(tactic| refine Mine.stop_of ?_)
local macro_rules | `(tactic| walk_at "exec For Tuple Call cons nil") => `(tactic| refine Mine.stop_of ?_)
local macro_rules | `(tactic| walk_at "exec For Tuple Attribute cons nil") => `(tactic| refine Mine.stop_of ?_)
local macro_rules | `(tactic| walk_at "exec For Tuple List cons nil") => `(tactic| refine Mine.stop_of ?_)
local macro_rules | `(tactic| walk_at "exec For Tuple Subscript cons nil") => `(tactic| refine Mine.stop_of ?_)
local macro_rules | `(tactic| walk_at "exec For") => `(tactic| refine Mine.stop_of ?_)
local macro_rules | `(tactic| walk_at "exec While") => `(tactic| refine Mine.stop_of ?_)
local macro_rules | `(tactic| walk_at "exec While Compare cons nil") => `(tactic| refine Mine.stop_of ?_)
local macro_rules | `(tactic| walk_at "exec Try") => `(tactic| refine Mine.stop_of ?_)
local macro_rules | `(tactic| walk_at "leaving ref") => `(tactic| refine Mine.stop_of ?_)
local macro_rules | `(tactic| walk_at "noteFrame ref") => `(tactic| refine Mine.stop_of ?_)
local macro_rules | `(tactic| walk_at "handleBy ref") => `(tactic| refine Mine.stop_of ?_)
local macro_rules | `(tactic| walk_at "call type:zip") => `(tactic| refine Mine.stop_of ?_)
local macro_rules | `(tactic| walk_at "call type:enumerate") => `(tactic| refine Mine.stop_of ?_)
local macro_rules | `(tactic| walk_at "m:list") => `(tactic| first | exact Mine.lst_led (by assumption) (by k_mem) | exact Mine.lst_base (by assumption) (by assumption) | assumption)
local macro_rules | `(tactic| walk_at "m:len") => `(tactic| first | omega | (simp only [Mine.addOf_length]; omega))
local macro_rules | `(tactic| walk_at "m:row") => `(tactic| first | assumption | exact Mine.addOf_isRow _ _)
local macro_rules | `(tactic| walk_at "eval Call") => `(tactic| (k_dflt (refine Call_ ?_)))
local macro_rules | `(tactic| walk_at "eval Call Attribute") => `(tactic| (k_dflt (refine MethodCall_ ?_)))
local macro_rules | `(tactic| walk_at "execs cons Assign cons") => `(tactic| (refine wpAny_execs_cons ?_; try dsimp only))
local macro_rules | `(tactic| walk_at "exec Assign cons ListComp") => `(tactic| refine wpAny_Assign_Name ?_)
namespace Mine
section
variable {w : World} {mean : ExcName → Option Value} {mg mb : Str → Option Value} {base : Heap} {fr : List Env} {dp un : Nat} {gd : Option (List Code)} {s : Shared} {Q E : Value → Shared → Prop}

theorem c_is_sign {n : Int} {t : Tok} (G : Gd (Mine.KK w.params) Mine.view (looseW Mine.view [Str.ofString "MOST_NOUGHTS", Str.ofString "MOST_SIGNS"]) mean mg mb base fr s.heap) (hd : dp + 1 < recursionLimit) (hu : un + 110 < cLine)
    
    (ret : ∀ h' tk', s.heap.StaysIn h' → Q (.bool (decide (0 ≤ n) && decide (n ≤ 1))) { s with heap := h', toks := tk' }) :
    wpAny (model PySem.Challenge.rw_uf040037_06.row.prog w) (arA dp un gd fr) (call (.ref 149) [.int n t]) Q E s := by
  revert G; k_fill; intro G
  refine' enter0 (binds := [(Str.ofString "sign", .int n t)]) G ?k6 ?k7 ?k8 ?k9 ?kB ?_ ?c2 ?c3 ?c4 ?c5
  case k6 => k_is
  case k7 => k_is
  case k8 => omega
  case k9 => exact BindsTo.of_eq rfl
  case kB => exact locs rfl
  case c2 => exact rfl
  case c3 => exact rfl
  case c4 => exact rfl
  case c5 => decide
  intro L' h' tk F'
  have N' : News s.heap L' h' [] := News.nil
  have B' := G.below dp un gd
  have X' := G.kin
  have T' := G.top
  k_steps
  · refine ret_val (s := s) (Q := Q) ret ?_ F'.keep; simp [*]
  · refine ret_val (s := s) (Q := Q) ret ?_ F'.keep; simp [*]

theorem c_need_row {l : Addr} {vs : List Value} {ns : List Int} (G : Gd (Mine.KK w.params) Mine.view (looseW Mine.view [Str.ofString "MOST_NOUGHTS", Str.ofString "MOST_SIGNS"]) mean mg mb base fr s.heap) (hd : dp + 2 < recursionLimit) (hu : un + 120 < cLine)
    (hl : s.heap.IsList l vs.toArray) (hi : IntsAre vs ns) (hr : IsRow ns)
    (ret : ∀ h' tk', s.heap.StaysIn h' → Q (.none) { s with heap := h', toks := tk' }) :
    wpAny (model PySem.Challenge.rw_uf040037_06.row.prog w) (arA dp un gd fr) (call (.ref 156) [.ref l]) Q E s := by
  revert G; k_fill; intro G
  refine' enter0 (binds := [(Str.ofString "row", .ref l)]) G ?k6 ?k7 ?k8 ?k9 ?kB ?_ ?c2 ?c3 ?c4 ?c5
  case k6 => k_is
  case k7 => k_is
  case k8 => omega
  case k9 => exact BindsTo.of_eq rfl
  case kB => exact locs rfl
  case c2 => exact rfl
  case c3 => exact rfl
  case c4 => exact rfl
  case c5 => decide
  intro L' h' tk F'
  have N' : News s.heap L' h' [] := News.nil
  have B' := G.below dp un gd
  have X' := G.kin
  have T' := G.top
  k_steps
  refine go_on (for_list (fun _ _ _ => True) rfl F' N' rfl hl hi trivial ?_ ?_ rfl rfl rfl (by decide) (by passes_own))
  · intro i n t m₁ news₁ h₂ tk₂ own hn hm ho _ F₂ N₂
    clear F' N'
    obtain rfl : news₁ = [] := List.map_eq_nil_iff.mp hm
    have hx := hr n (List.mem_of_getElem? hn)
    k_steps
    refine go_on (c_is_sign (G.push F₂ rfl) (by omega) (by omega) fun h₃ tk₃ k₃ => ?_)
    have F₃ := fr_on F₂ k₃
    have N₃ := news_on N₂ k₃
    clear F₂ N₂
    k_steps
    exact TEnd.intro (nx := []) F₃ N₃ trivial rfl (by simp) (by simp)
  · intro m₁ news₁ h₂ tk₂ _ F₂ N₂
    exact wpAny_execs_nil (ret _ _ F₂.keep)

local macro_rules | `(tactic| walk_at "call ref") => `(tactic| (k_dflt (
  (rename Fr _ _ _ _ => fF'); (rename News _ _ _ _ => fN');
  (first | refine' Mine.c_need_row (Mine.Gd.push (by assumption) fF' ?kk) ?hd ?hu ?hl ?hi ?hr ?_ | refine' Mine.c_need_row (Mine.Gd.pushC (by assumption) fF' ?kk) ?hd ?hu ?hl ?hi ?hr ?_); ((case kk => exact rfl); (case hd => omega); (case hu => omega); (case hl => walk_at "m:list"); (case hi => assumption); (case hr => assumption); skip);
  intro h' tk' k'; (have F' := Mine.fr_on fF' k'); (have N' := Mine.news_on fN' k'); clear fF' fN' k'; (try dsimp only))))
section
local macro_rules | `(tactic| walk_at "subscriptTail Name Slice ref ref") => `(tactic| refine Mine.stop_of ?_)

theorem c_parted {l l₂ : Addr} {vs vs₂ : List Value} {ns ms : List Int} (G : Gd (Mine.KK w.params) Mine.view (looseW Mine.view [Str.ofString "MOST_NOUGHTS", Str.ofString "MOST_SIGNS"]) mean mg mb base fr s.heap) (hd : dp + 3 < recursionLimit) (hu : un + 130 < cLine)
    (hl : s.heap.IsList l vs.toArray) (hi : IntsAre vs ns) (hz : ns.length ≤ 10000) (hr : IsRow ns) (hl₂ : s.heap.IsList l₂ vs₂.toArray) (hi₂ : IntsAre vs₂ ms) (hz₂ : ms.length ≤ 10000) (hr₂ : IsRow ms) (raise : (ms.length = 0 ∨ ms.getD 0 0 = 0) → ∀ e t us h' tk', RaisedS base s.heap fr e (.ref 68) t us [] h' → s.heap.UpToSlots h' → E (.ref e) { s with heap := h', toks := tk' })
    (ret : IsDiv1 ms → ∀ h' tk' T D₁ vs₁ c₁ D₂ vs₂ c₂, s.heap.StaysIn h' → s.heap.get? T = none → s.heap.get? D₁ = none → s.heap.get? D₂ = none → h'.get? T = some (tupO [.ref D₁, .ref D₂]) → h'.get? D₁ = some (listOf (List.toArray vs₁) c₁) → IntsAre vs₁ (quotOf ns ms) → h'.get? D₂ = some (listOf (List.toArray vs₂) c₂) → IntsAre vs₂ (restBy ns ms) → @LT.lt Nat _ D₁ D₂ → @LT.lt Nat _ D₂ T → Q (.ref T) { s with heap := h', toks := tk' }) :
    wpAny (model PySem.Challenge.rw_uf040037_06.row.prog w) (arA dp un gd fr) (call (.ref 189) [.ref l, .ref l₂]) Q E s := by
  revert G; k_fill; intro G
  refine' enter0 (binds := [(Str.ofString "row", .ref l), (Str.ofString "divisor", .ref l₂)]) G ?k6 ?k7 ?k8 ?k9 ?kB ?_ ?c2 ?c3 ?c4 ?c5
  case k6 => k_is
  case k7 => k_is
  case k8 => omega
  case k9 => exact BindsTo.of_eq rfl
  case kB => exact locs rfl
  case c2 => exact rfl
  case c3 => exact rfl
  case c4 => exact rfl
  case c5 => decide
  intro L' h' tk F'
  have N' : News s.heap L' h' [] := News.nil
  have B' := G.below dp un gd
  have X' := G.kin
  have T' := G.top
  k_steps
  · rename Heap.MadeExcOf _ _ _ _ _ => hx
    rename Fr _ _ _ _ => F₉
    refine go_on (A_raise G hx F₉ (fun h₈ t₈ R U => raise (.inl (by omega)) _ _ _ _ _ R U) rfl)
  · rename Heap.MadeExcOf _ _ _ _ _ => hx
    rename Fr _ _ _ _ => F₉
    refine go_on (A_raise G hx F₉ (fun h₈ t₈ R U => raise (.inr (by assumption)) _ _ _ _ _ R U) rfl)
  rename_i hq1 _ hq2 _ _ _ _ _ _ _ _ _ i1 n1 s1 e1 e2 e3 _ ll ws _ hI₉ _ _ lq _ hlt _ F₉ N₉
  clear i1 s1 e1 e2 e3
  have N₈ := news_pick2 N₉ (.head _) (.tail _ (.head _))
  have hd1 : IsDiv1 ms := isDiv1_of hr₂ (fun h => h.elim (fun h => hq1 (by omega)) hq2)
  rw [leftOf_eq ns ms _ (by split <;> omega)] at hI₉
  have hlen := leftOf_length ns ms
  have hlr := leftOf_isRow hr ms
  clear N₉
  refine go_on (for_range (L := L') (n := (leftOf ns ms).length - (ms.length - 1)) (a₀ := 0) (b₀ := ((leftOf ns ms).length : Int) - ((ms.length : Int) - 1)) (fun i m nx => ∃ (us ls : List Value) (cq cl : Nat), nx = [(lq, listOf us.toArray cq), (ll, listOf ls.toArray cl)] ∧ m (Str.ofString "quotient") = some (.ref lq) ∧ m (Str.ofString "left") = some (.ref ll) ∧ m (Str.ofString "divisor") = some (.ref l₂) ∧ (∃ tw, m (Str.ofString "width") = some (.int ((ms.length : Int) - 1) tw)) ∧ IntsAre us (partLoop ms (leftOf ns ms) i).2 ∧ IntsAre ls (partLoop ms (leftOf ns ms) i).1) rfl rfl F₉ N₈ (by omega) (by omega) ?_ ⟨[], _, _, _, rfl, rfl, rfl, rfl, ⟨_, rfl⟩, .nil, hI₉⟩ ?_ ?_ rfl rfl (fun _ => rfl) (by passes_own))
  · intro Q' q
    k_steps
    exact q _ _ _ _ _ _ (by assumption) (by assumption) (by assumption)
  · rintro i ti m₁ news₁ h₂ tk₂ own hin hadr ho ⟨us, ls, cq, cl, rfl, e1, e2, e3, ⟨tw, e4⟩, hIu, hIl⟩ F₂ N₂
    clear F₉ N₈ hI₉
    replace F₂ := fr_know (Str.ofString "quotient") (fr_know (Str.ofString "left") (fr_know (Str.ofString "divisor") F₂ e3) e2) e1
    have hpl := (partLoop_len ms (leftOf ns ms) i).1
    have hpr := (partLoop_isRow ms hlr i).1
    have hql := (partLoop_len ms (leftOf ns ms) i).2
    k_steps
    · rename_i hs1
      rename Fr _ _ _ _ => F₅
      rename News _ _ _ _ => N₅
      refine go_on (for_enumK (L := L') (news := [(lq, _), (ll, listOf ls.toArray cl)]) (fun j m nx => ∃ (ls' : List Value) (rs' : List Int), nx = [(lq, _), (ll, listOf ls'.toArray cl)] ∧ m (Str.ofString "quotient") = some (.ref lq) ∧ m (Str.ofString "left") = some (.ref ll) ∧ m (Str.ofString "divisor") = some (.ref l₂) ∧ m (Str.ofString "width") = some (.int ((ms.length : Int) - 1) tw) ∧ m (Str.ofString "place") = some (.int (0 + (i : Int)) ti) ∧ IntsAre ls' rs' ∧ rs' = xorFrom (partLoop ms (leftOf ns ms) i).1 i (ms.take j)) rfl rfl F₅ N₅ ho hl₂ hi₂ ?_ ⟨ls, _, rfl, rfl, rfl, rfl, e4, rfl, hIl, by rw [List.take_zero]; rfl⟩ ?_ ?_ rfl rfl rfl (fun _ => rfl) (by passes_own))
      · intro Q' q; k_steps; exact go_on q
      · rintro j x t₃ t₄ m₃ news₃ h₃ tk₃ own₃ hx hadr₃ ho₃ ⟨ls₃, rs₃, rfl, e1₃, e2₃, e3₃, e4₃, e5₃, hI₃, hrs₃⟩ F₃ N₃
        clear F₅ N₅ hIl
        replace F₃ := fr_know (Str.ofString "left") (fr_know (Str.ofString "place") F₃ e5₃) e2₃
        have hjm : j < ms.length := (List.getElem?_eq_some_iff.mp hx).1
        have hl₃ : rs₃.length = (leftOf ns ms).length := by rw [hrs₃, xorFrom_length, hpl]
        k_steps
        rename Fr _ _ _ _ => F₆
        rename News _ _ _ _ => N₆
        rename IntsAre (List.set _ _ _) _ => hI₆
        refine TEnd.intro (nx := [(lq, _), (ll, _)]) F₆ N₆ ⟨_, _, rfl, e1₃, rfl, e3₃, e4₃, rfl, hI₆, ?_⟩ rfl (List.forall_mem_cons.mpr ⟨.head _, List.forall_mem_cons.mpr ⟨.tail _ (.head _), List.forall_mem_nil _⟩⟩) (fun p hp => .tail _ (.tail _ hp))
        rw [Int.zero_add]
        exact xor_next hrs₃ hx
      · rintro m₃ news₃ h₃ tk₃ ⟨ls₃, rs₃, rfl, e1₃, e2₃, e3₃, e4₃, e5₃, hI₃, hrs₃⟩ hadr₃ F₃ N₃
        clear F₅ N₅ hIl
        k_steps
        have e0 : (0 + (i : Int)).toNat = i := by omega
        simp only [List.push_toArray, e0] at N₃
        refine TEnd.intro (nx := [(lq, listOf (us ++ [_]).toArray (cq + 1)), (ll, listOf ls₃.toArray cl)]) F₃ N₃ ⟨_, _, _, _, rfl, e1₃, e2₃, e3₃, ⟨_, e4₃⟩, hIu.append (.cons _ _ .nil), ?_⟩ rfl (List.forall_mem_cons.mpr ⟨.head _, List.forall_mem_cons.mpr ⟨.tail _ (.head _), List.forall_mem_nil _⟩⟩) (fun p hp => .tail _ (.tail _ hp))
        rw [hrs₃, List.take_length] at hI₃
        rw [partLoop_succ, if_pos (by rw [Int.zero_add] at hs1; exact hs1)]
        exact hI₃
    · rename_i hs1
      rename Fr _ _ _ _ => F₅
      rename News _ _ _ _ => N₅
      have e0 : (0 + (i : Int)).toNat = i := by omega
      simp only [List.push_toArray, e0] at N₅
      refine TEnd.intro (nx := [(lq, listOf (us ++ [_]).toArray (cq + 1)), (ll, listOf ls.toArray cl)]) F₅ N₅ ⟨_, _, _, _, rfl, rfl, rfl, rfl, ⟨_, e4⟩, hIu.append (.cons _ _ .nil), ?_⟩ rfl (List.forall_mem_cons.mpr ⟨.head _, List.forall_mem_cons.mpr ⟨.tail _ (.head _), List.forall_mem_nil _⟩⟩) (fun p hp => .tail _ (.tail _ hp))
      rw [partLoop_succ, if_neg (by rw [Int.zero_add] at hs1; exact hs1)]
      exact hIl
  · rintro m₁ news₁ h₂ tk₂ ⟨us, ls, cq, cl, rfl, e1, e2, e3, ⟨tw, e4⟩, hIu, hIl⟩ F₂ N₂
    clear F₉ N₈ hI₉
    replace F₂ := fr_know (Str.ofString "quotient") (fr_know (Str.ofString "left") (fr_know (Str.ofString "width") F₂ e4) e2) e1
    have hpl := (partLoop_len ms (leftOf ns ms) ((leftOf ns ms).length - (ms.length - 1))).1
    have hw1 : ms.length - 1 ≤ (leftOf ns ms).length := by rw [hlen]; omega
    have hw2 : (leftOf ns ms).length ≤ 10000 := by rw [hlen]; omega
    generalize hrs : (partLoop ms (leftOf ns ms) ((leftOf ns ms).length - (ms.length - 1))).1 = rs at hIl hpl
    have hb1 : (ms.length : Int) - 1 ≤ (rs.length : Int) := by omega
    have hb2 : rs.length ≤ 10000 := by omega
    have hrs' := go_on hrs
    clear hlen hlr hpl hrs hw1 hw2
    k_steps
    rename Fr _ _ _ _ => F₅
    rename News _ _ _ _ => N₅
    refine go_on ?_
    refine' kmk_slice_ints (vs := ls) (ns := rs) (lo := some ((rs.length : Int) - ((ms.length : Int) - 1))) (hi := none) (ms := rs.drop ((rs.length : Int) - ((ms.length : Int) - 1)).toNat) ?sF ?sN ?sl ?sp ?sq hIl ?sm rfl ?_ ?ss ?st ?sz
    case sF => exact F₅
    case sN => exact N₅
    case sl => exact lst_led N₅ (by k_mem)
    case sp => first | exact IsPart.none | exact IsPart.int _ _
    case sq => first | exact IsPart.none | exact IsPart.int _ _
    case sm => exact (kmk_from hIl (by omega))
    case ss => with_unfolding_all rfl
    case st => intro _; with_unfolding_all rfl
    case sz => rw [List.size_toArray, hIl.length, sizeLine_eq]; omega

    intro D₅ wr h₅ F₆ N₆ l₅ hIr _ hl₅
    replace l₅ := allLt_of l₅
    try simp only [AllLt, and_true] at l₅
    clear F₅ N₅
    dsimp only
    k_steps
    rename Fr _ _ _ _ => F₈
    rename News _ _ _ _ => N₈
    rename D₅ < _ ∧ _ => l2
    have hpl := (partLoop_len ms (leftOf ns ms) ((leftOf ns ms).length - (ms.length - 1))).1
    have hrs₁ := (show _ = rs from hrs')
    clear hrs'
    subst hrs₁
    refine ret hd1 _ _ _ _ us _ _ wr _ F₈.keep (N₈ _ (.head _)).2.2 (N₈ _ (.tail _ (.tail _ (.head _)))).2.2 (N₈ _ (.tail _ (.head _))).2.2 (N₈ _ (.head _)).1 (N₈ _ (.tail _ (.tail _ (.head _)))).1 hIu (N₈ _ (.tail _ (.head _))).1 ?_ l₅.1 l2.1
    rw [hpl, show (((leftOf ns ms).length : Int) - ((ms.length : Int) - 1)).toNat = (leftOf ns ms).length - (ms.length - 1) by omega, parted_rest hd1 hr] at hIr
    exact hIr
end

theorem c_law_cell_at {l : Addr} {vs : List Value} {ns : List Int} {k : Int} {t : Tok} (G : Gd (Mine.KK w.params) Mine.view (looseW Mine.view [Str.ofString "MOST_NOUGHTS", Str.ofString "MOST_SIGNS"]) mean mg mb base fr s.heap) (hd : dp + 1 < recursionLimit) (hu : un + 110 < cLine)
    (hl : s.heap.IsList l vs.toArray) (hi : IntsAre vs ns) (hz : ns.length ≤ 1000000) (h0 : 0 ≤ k)
    (ret : ∀ h' tk' t', s.heap.StaysIn h' → Q (.int (ns.getD k.toNat 0) t') { s with heap := h', toks := tk' }) :
    wpAny (model PySem.Challenge.rw_uf040037_06.row.prog w) (arA dp un gd fr) (call (.ref 371) [.ref l, .int k t]) Q E s := by
  revert G; k_fill; intro G
  refine' enter0 (binds := [(Str.ofString "_law_script", .ref l), (Str.ofString "_law_k", .int k t)]) G ?k6 ?k7 ?k8 ?k9 ?kB ?_ ?c2 ?c3 ?c4 ?c5
  case k6 => k_is
  case k7 => k_is
  case k8 => omega
  case k9 => exact BindsTo.of_eq rfl
  case kB => exact locs rfl
  case c2 => exact rfl
  case c3 => exact rfl
  case c4 => exact rfl
  case c5 => decide
  intro L' h' tk F'
  have N' : News s.heap L' h' [] := News.nil
  have B' := G.below dp un gd
  have X' := G.kin
  have T' := G.top
  k_steps
  · exact ret_int (s := s) (Q := Q) ret rfl F'.keep
  · refine ret_int (s := s) (Q := Q) ret ?_ F'.keep
    rw [List.getD_eq_getElem?_getD, List.getElem?_eq_none (by omega)]; rfl

local macro_rules | `(tactic| walk_at "call ref") => `(tactic| (k_dflt (
  (rename Fr _ _ _ _ => fF'); (rename News _ _ _ _ => fN');
  (first | refine' Mine.c_law_cell_at (Mine.Gd.push (by assumption) fF' ?kk) ?hd ?hu ?hl ?hi ?hz ?h0 ?_ | refine' Mine.c_law_cell_at (Mine.Gd.pushC (by assumption) fF' ?kk) ?hd ?hu ?hl ?hi ?hz ?h0 ?_); ((case kk => exact rfl); (case hd => omega); (case hu => omega); (case hl => walk_at "m:list"); (case hi => assumption); (case hz => omega); (case h0 => decide); skip);
  intro h' tk' t' k'; (have F' := Mine.fr_on fF' k'); (have N' := Mine.news_on fN' k'); clear fF' fN' k'; (try dsimp only))))

theorem c_law_row_by {c : Int} {n : Nat} {t t₂ : Tok} (G : Gd (Mine.KK w.params) Mine.view (looseW Mine.view [Str.ofString "MOST_NOUGHTS", Str.ofString "MOST_SIGNS"]) mean mg mb base fr s.heap) (hd : dp + 1 < recursionLimit) (hu : un + 110 < cLine)
    (hn : n ≤ 100000)
    (ret : ∀ h' tk' D vs' c rs, s.heap.StaysIn h' → s.heap.get? D = none → h'.get? D = some (listOf (List.toArray vs') c) → IntsAre vs' rs → IsRow rs → rs.length = n → Q (.ref D) { s with heap := h', toks := tk' }) :
    wpAny (model PySem.Challenge.rw_uf040037_06.row.prog w) (arA dp un gd fr) (call (.ref 376) [.int c t, .int (n : Int) t₂]) Q E s := by
  revert G; k_fill; intro G
  refine' enter0C (binds := [(Str.ofString "_law_cell", .int c t), (Str.ofString "_law_size", .int (n : Int) t₂)]) G ?k6 ?k7 ?k8 ?k9 ?kB ?kD ?_ ?c2 ?c3 ?c4
  case k6 => k_is
  case k7 => k_is
  case k8 => omega
  case k9 => exact BindsTo.of_eq rfl
  case kB => exact rfl
  case kD => decide +kernel
  case c2 => exact rfl
  case c3 => exact rfl
  case c4 => exact rfl
  intro L' h' tk cells' F' N' Y'
  obtain ⟨oc0, oc1, hE', dc0, dc1⟩ := CellsAre.two Y'
  subst hE'
  clear Y'
  have B' := G.below dp un gd
  have X' := G.kin
  have T' := G.top
  k_steps
  rename_i l₉ hh1 hl₉ hh2 hh3 F₉ N₉
  have hz0 := Int.emod_nonneg (c.fdiv 8) (show (2147483647 : Int) ≠ 0 by decide)
  have hz1 := Int.emod_lt_of_pos (c.fdiv 8) (show (0 : Int) < 2147483647 by decide)
  have hz2 : (c.fdiv 8).fmod 2147483647 = (c.fdiv 8) % 2147483647 := Int.fmod_eq_emod_of_nonneg _ (by decide)
  refine go_on (for_range (n := n) (a₀ := 0) (b₀ := (n : Int)) (fun i m nx => ∃ (z : Int) (tz : Tok) (vs : List Value) (rs : List Int) (cc : Nat), nx = [(l₉, listOf vs.toArray cc), (L' + 1 + 1, oc0), (L' + 1, oc1)] ∧ m (Str.ofString "_law_state") = some (.int z tz) ∧ 0 ≤ z ∧ z < 2147483647 ∧ m (Str.ofString "_law_found") = some (.ref l₉) ∧ IntsAre vs rs ∧ IsRow rs ∧ rs.length = i) rfl rfl F₉ N₉ (by omega) (by omega) ?_ ⟨_, _, [], [], 0, rfl, rfl, by omega, by omega, rfl, .nil, isRow_nil, rfl⟩ ?_ ?_ rfl rfl (fun _ => rfl) (by passes_own))
  · intro Q' q
    k_steps
    exact q _ _ _ _ _ _ (by assumption) (by assumption) (by assumption)
  · rintro i ti m₁ news₁ h₂ tk₂ own hi hadr ho ⟨z, tz, vs, rs, cc, rfl, hm1, hz3, hz4, hm2, hI, hR, hlen⟩ F₂ N₂
    clear F₉ N₉
    have F₃ := fr_know (Str.ofString "_law_found") (fr_know (Str.ofString "_law_state") F₂ hm1) hm2
    clear F₂
    k_steps
    rename Fr _ _ _ _ => F₅
    rename News _ _ _ _ => N₅
    simp only [List.push_toArray] at N₅
    have hb0 := Int.emod_nonneg (z * 48271 + 11) (show (2147483647 : Int) ≠ 0 by decide)
    have hb1 := Int.emod_lt_of_pos (z * 48271 + 11) (show (0 : Int) < 2147483647 by decide)
    have hb2 : (z * 48271 + 11).fmod 2147483647 = (z * 48271 + 11) % 2147483647 := Int.fmod_eq_emod_of_nonneg _ (by decide)
    generalize (z * 48271 + 11).fmod 2147483647 = z' at *
    have hb3 : (z'.fdiv 7).fmod 2 = 0 ∨ (z'.fdiv 7).fmod 2 = 1 := by rw [Int.fmod_eq_emod_of_nonneg _ (by decide)]; omega
    exact TEnd.intro (nx := [(l₉, listOf (vs ++ [_]).toArray (cc + 1)), (L' + 1 + 1, oc0), (L' + 1, oc1)]) F₅ N₅ ⟨z', _, _, rs ++ [_], _, rfl, rfl, by omega, by omega, rfl, hI.append (.cons _ _ .nil), isRow_append.mpr ⟨hR, isRow_single hb3⟩, by simp [hlen]⟩ rfl
      (List.forall_mem_cons.mpr ⟨.head _, List.forall_mem_cons.mpr ⟨.tail _ (.head _), List.forall_mem_cons.mpr ⟨.tail _ (.tail _ (.head _)), List.forall_mem_nil _⟩⟩⟩) (fun p hp => .tail _ (.tail _ (.tail _ hp)))
  · rintro m₁ news₁ h₂ tk₂ ⟨z, tz, vs, rs, cc, rfl, hm1, hz3, hz4, hm2, hI, hR, hlen⟩ F₂ N₂
    clear F₉ N₉
    refine cut (RowI s s.heap L' [(L' + 1 + 1, oc0), (L' + 1, oc1)] (Str.ofString "_law_found") n) ?_ ?_
    · have F₃ := fr_know (Str.ofString "_law_found") F₂ hm2
      clear F₂
      k_steps
      · rename Fr _ _ _ _ => F₈
        rename News _ _ _ _ => N₈
        exact RowI.of F₈ N₈ rfl (.head _) (fun p hp => .tail _ (.tail _ (.tail _ hp))) (by assumption) (isRow_flat (.inl rfl)) (by rw [flat_length]; simp)
      · exact RowI.of F₃ N₂ rfl (.head _) (fun p hp => .tail _ hp) hI hR hlen
    · rintro s' ⟨h₃, tk₃, D₃, vs₃, cc₃, rs₃, m₃, rfl, F₃, N₃, hm₃, hI₃, hR₃, hl₃⟩
      refine cut (RowI s s.heap L' [(L' + 1 + 1, oc0), (L' + 1, oc1)] (Str.ofString "_law_found") n) ?_ ?_
      · have F₄ := fr_know (Str.ofString "_law_found") F₃ hm₃
        clear F₃
        k_steps
        · rename Fr _ _ _ _ => F₈
          rename News _ _ _ _ => N₈
          exact RowI.of F₈ N₈ rfl (.head _) (fun p hp => .tail _ (.tail _ hp)) (by assumption) (isRow_map_ite _ _) (by simp [rangeKs_length])
        · exact RowI.of F₄ N₃ rfl (.head _) (fun p hp => .tail _ hp) hI₃ hR₃ hl₃
      · clear F₃ N₃
        rintro s' ⟨h₄, tk₄, D₄, vs₄, cc₄, rs₄, m₄, rfl, F₄, N₄, hm₄, hI₄, hR₄, hl₄⟩
        refine cut (RowI s s.heap L' [(L' + 1 + 1, oc0), (L' + 1, oc1)] (Str.ofString "_law_found") n) ?_ ?_
        · have F₅ := fr_know (Str.ofString "_law_found") F₄ hm₄
          clear F₄
          k_steps
          · rename Fr _ _ _ _ => F₈
            rename News _ _ _ _ => N₈
            exact RowI.of F₈ N₈ rfl (.head _) (fun p hp => .tail _ (.tail _ (.tail _ hp))) (by assumption) (isRow_flat (.inr rfl)) (by rw [flat_length]; simp)
          · exact RowI.of F₅ N₄ rfl (.head _) (fun p hp => .tail _ hp) hI₄ hR₄ hl₄
        · clear F₄ N₄
          rintro s' ⟨h₅, tk₅, D₅, vs₅, cc₅, rs₅, m₅, rfl, F₅, N₅, hm₅, hI₅, hR₅, hl₅⟩
          have F₆ := fr_know (Str.ofString "_law_found") F₅ hm₅
          clear F₅
          k_steps
          exact ret _ _ D₅ vs₅ cc₅ rs₅ F₆.keep (N₅ _ (.head _)).2.2 (N₅ _ (.head _)).1 hI₅ hR₅ hl₅

local macro_rules | `(tactic| walk_at "call ref") => `(tactic| (k_dflt (
  (rename Fr _ _ _ _ => fF'); (rename News _ _ _ _ => fN');
  (first | refine' Mine.c_law_row_by (Mine.Gd.push (by assumption) fF' ?kk) ?hd ?hu ?hn ?_ | refine' Mine.c_law_row_by (Mine.Gd.pushC (by assumption) fF' ?kk) ?hd ?hu ?hn ?_); ((case kk => exact rfl); (case hd => omega); (case hu => omega); (case hn => omega); skip);
  intro h' tk' D' vs' c' rs' k' hn' ho' hi' hr' hlen'; (have F' := Mine.fr_on fF' k'); (have ne' := Mine.allNe_of (Mine.news_ne fN' hn')); (try simp only [Mine.AllNe, and_true] at ne'); (have N' := Mine.news_more fF' fN' k' hn' ho'); clear fF' fN' k' hn' ho'; (try dsimp only))))

theorem c_value_of {l : Addr} {vs : List Value} {ns : List Int} (G : Gd (Mine.KK w.params) Mine.view (looseW Mine.view [Str.ofString "MOST_NOUGHTS", Str.ofString "MOST_SIGNS"]) mean mg mb base fr s.heap) (hd : dp + 1 < recursionLimit) (hu : un + 110 < cLine)
    (hl : s.heap.IsList l vs.toArray) (hi : IntsAre vs ns) (hr : IsRow ns)
    (ret : ∀ h' tk' t', s.heap.StaysIn h' → Q (.int ((val ns : Int)) t') { s with heap := h', toks := tk' }) :
    wpAny (model PySem.Challenge.rw_uf040037_06.row.prog w) (arA dp un gd fr) (call (.ref 163) [.ref l]) Q E s := by
  revert G; k_fill; intro G
  refine' enter0 (binds := [(Str.ofString "row", .ref l)]) G ?k6 ?k7 ?k8 ?k9 ?kB ?_ ?c2 ?c3 ?c4 ?c5
  case k6 => k_is
  case k7 => k_is
  case k8 => omega
  case k9 => exact BindsTo.of_eq rfl
  case kB => exact locs rfl
  case c2 => exact rfl
  case c3 => exact rfl
  case c4 => exact rfl
  case c5 => decide
  intro L' h' tk F'
  have N' : News s.heap L' h' [] := News.nil
  have B' := G.below dp un gd
  have X' := G.kin
  have T' := G.top
  k_steps
  rename Fr _ _ _ _ => F₉
  rename News _ _ _ _ => N₉
  refine go_on (for_list (L := L') (fun i m nx => nx = [] ∧ ∃ z t, m (Str.ofString "found") = some (.int z t) ∧ z = (val (ns.take i) : Int)) rfl F₉ N₉ rfl hl hi ⟨rfl, _, _, rfl, by simp [val_nil]⟩ ?_ ?_ rfl rfl rfl (by decide) (by passes_own))
  · rintro i n t m₁ news₁ h₂ tk₂ own hn hm ho ⟨rfl, z, tz, e1, hz1⟩ F₂ N₂
    clear F₉ N₉
    replace F₂ := fr_know (Str.ofString "found") F₂ e1
    have hn01 : n = 0 ∨ n = 1 := hr n (List.mem_of_getElem? hn)
    k_steps
    rename Fr _ _ _ _ => F₅
    rename News _ _ _ _ => N₅
    refine TEnd.intro (nx := []) F₅ N₅ ⟨rfl, _, _, rfl, ?_⟩ rfl (by simp) (fun p hp => hp)
    rw [List.take_add_one, hn, Option.toList_some, val_snoc, hz1]
    rcases hn01 with rfl | rfl <;> simp <;> omega
  · rintro m₁ news₁ h₂ tk₂ ⟨rfl, z, tz, e1, hz1⟩ F₂ N₂
    clear F₉ N₉
    replace F₂ := fr_know (Str.ofString "found") F₂ e1
    k_steps
    refine ret_int (s := s) (Q := Q) ret ?_ F₂.keep
    rw [hz1, List.take_length]

local macro_rules | `(tactic| walk_at "call ref") => `(tactic| (k_dflt (
  (rename Fr _ _ _ _ => fF'); (rename News _ _ _ _ => fN');
  (first | refine' Mine.c_value_of (Mine.Gd.push (by assumption) fF' ?kk) ?hd ?hu ?hl ?hi ?hr ?_ | refine' Mine.c_value_of (Mine.Gd.pushC (by assumption) fF' ?kk) ?hd ?hu ?hl ?hi ?hr ?_); ((case kk => exact rfl); (case hd => omega); (case hu => omega); (case hl => walk_at "m:list"); (case hi => assumption); (case hr => walk_at "m:row"); skip);
  intro h' tk' t' k'; (have F' := Mine.fr_on fF' k'); (have N' := Mine.news_on fN' k'); clear fF' fN' k'; (try dsimp only))))

theorem c_onward {a b c : Int} {t₁ t₂ t₃ : Tok} (v n wd : Nat) (G : Gd (Mine.KK w.params) Mine.view (looseW Mine.view [Str.ofString "MOST_NOUGHTS", Str.ofString "MOST_SIGNS"]) mean mg mb base fr s.heap) (hd : dp + 1 < recursionLimit) (hu : un + 110 < cLine)
    (ha : a = (v : Int)) (hb : b = (n : Int)) (hc : c = (wd : Int))
    (ret : ∀ h' tk' t', s.heap.StaysIn h' → Q (.int ((onw n wd v : Int)) t') { s with heap := h', toks := tk' }) :
    wpAny (model PySem.Challenge.rw_uf040037_06.row.prog w) (arA dp un gd fr) (call (.ref 203) [.int a t₁, .int b t₂, .int c t₃]) Q E s := by
  revert G; k_fill; intro G
  refine' enter0 (binds := [(Str.ofString "value", .int a t₁), (Str.ofString "divisor", .int b t₂), (Str.ofString "width", .int c t₃)]) G ?k6 ?k7 ?k8 ?k9 ?kB ?_ ?c2 ?c3 ?c4 ?c5
  case k6 => k_is
  case k7 => k_is
  case k8 => omega
  case k9 => exact BindsTo.of_eq rfl
  case kB => exact locs rfl
  case c2 => exact rfl
  case c3 => exact rfl
  case c4 => exact rfl
  case c5 => decide
  intro L' h' tk F'
  have N' : News s.heap L' h' [] := News.nil
  have B' := G.below dp un gd
  have X' := G.kin
  have T' := G.top
  subst ha hb hc
  k_steps
  · rename Fr _ _ _ _ => F₈
    exact ret_int (s := s) (Q := Q) ret (onward_yes (by assumption)) F₈.keep
  · rename Fr _ _ _ _ => F₈
    exact ret_int (s := s) (Q := Q) ret (onward_no (by assumption)) F₈.keep

theorem c_need_divisor {l : Addr} {vs : List Value} {ns : List Int} (G : Gd (Mine.KK w.params) Mine.view (looseW Mine.view [Str.ofString "MOST_NOUGHTS", Str.ofString "MOST_SIGNS"]) mean mg mb base fr s.heap) (hd : dp + 3 < recursionLimit) (hu : un + 130 < cLine)
    (hl : s.heap.IsList l vs.toArray) (hi : IntsAre vs ns) (hz : ns.length ≤ 10000) (hr : IsRow ns) (raise : ¬ IsDiv ns → ∀ e t us h' tk', RaisedS base s.heap fr e (.ref 68) t us [] h' → s.heap.UpToSlots h' → E (.ref e) { s with heap := h', toks := tk' })
    (ret : IsDiv ns → ∀ h' tk', s.heap.StaysIn h' → Q .none { s with heap := h', toks := tk' }) :
    wpAny (model PySem.Challenge.rw_uf040037_06.row.prog w) (arA dp un gd fr) (call (.ref 196) [.ref l]) Q E s := by
  revert G; k_fill; intro G
  refine' enter0 (binds := [(Str.ofString "divisor", .ref l)]) G ?k6 ?k7 ?k8 ?k9 ?kB ?_ ?c2 ?c3 ?c4 ?c5
  case k6 => k_is
  case k7 => k_is
  case k8 => omega
  case k9 => exact BindsTo.of_eq rfl
  case kB => exact locs rfl
  case c2 => exact rfl
  case c3 => exact rfl
  case c4 => exact rfl
  case c5 => decide
  intro L' h' tk F'
  have N' : News s.heap L' h' [] := News.nil
  have B' := G.below dp un gd
  have X' := G.kin
  have T' := G.top
  k_steps
  · rename_i h2 h13 h0 _ _ hx
    rename Fr _ _ _ _ => F₉
    exact go_on (A_raise G hx F₉ (fun h₈ t₈ R U => raise (fun hd => by have := hd.first; rw [show Int.toNat 0 = 0 from rfl] at h0; omega) _ _ _ _ _ R U) rfl)
  · rename_i h2 h13 h0 h1 _ _ hx
    rename Fr _ _ _ _ => F₉
    exact go_on (A_raise G hx F₉ (fun h₈ t₈ R U => raise (fun hd => by have := hd.final; rw [show ((ns.length : Int) - 1).toNat = ns.length - 1 by omega] at h1; omega) _ _ _ _ _ R U) rfl)
  · rename Fr _ _ _ _ => F₉
    refine ret (isDiv_of hr (by omega) (by omega) (by assumption) ?_) _ _ F₉.keep
    rw [← show ((ns.length : Int) - 1).toNat = ns.length - 1 by omega]
    assumption
  · rename_i h2 h13 _ _ hx
    rename Fr _ _ _ _ => F₉
    exact go_on (A_raise G hx F₉ (fun h₈ t₈ R U => raise (fun hd => by have := hd.most; omega) _ _ _ _ _ R U) rfl)
  · rename_i h2 _ _ hx
    rename Fr _ _ _ _ => F₉
    exact go_on (A_raise G hx F₉ (fun h₈ t₈ R U => raise (fun hd => by have := hd.least; omega) _ _ _ _ _ R U) rfl)

theorem c_reach {l : Addr} {vs : List Value} {ns : List Int} (G : Gd (Mine.KK w.params) Mine.view (looseW Mine.view [Str.ofString "MOST_NOUGHTS", Str.ofString "MOST_SIGNS"]) mean mg mb base fr s.heap) (hd : dp + 4 < recursionLimit) (hu : un + 140 < cLine)
    (hl : s.heap.IsList l vs.toArray) (hi : IntsAre vs ns) (hz : ns.length ≤ 10000) (hr : IsRow ns) (raise : ¬ IsDiv ns → ∀ e t us h' tk', RaisedS base s.heap fr e (.ref 68) t us [] h' → s.heap.UpToSlots h' → E (.ref e) { s with heap := h', toks := tk' })
    (ret : IsDiv ns → ∀ P, Reach ns P → ∀ h' tk' t', s.heap.StaysIn h' → Q (.int (P : Int) t') { s with heap := h', toks := tk' }) :
    wpAny (model PySem.Challenge.rw_uf040037_06.row.prog w) (arA dp un gd fr) (call (.ref 210) [.ref l]) Q E s := by
  revert G; k_fill; intro G
  refine' enter0 (binds := [(Str.ofString "divisor", .ref l)]) G ?k6 ?k7 ?k8 ?k9 ?kB ?_ ?c2 ?c3 ?c4 ?c5
  case k6 => k_is
  case k7 => k_is
  case k8 => omega
  case k9 => exact BindsTo.of_eq rfl
  case kB => exact locs rfl
  case c2 => exact rfl
  case c3 => exact rfl
  case c4 => exact rfl
  case c5 => decide
  intro L' h' tk F'
  have N' : News s.heap L' h' [] := News.nil
  have B' := G.below dp un gd
  have X' := G.kin
  have T' := G.top
  k_steps
  refine go_on (c_need_divisor (G.push F' rfl) (by omega) (by omega) (lst_base F' hl) hi hz hr (fun hnd e t us h₂ tk₂ R U => ?_) (fun hd₁ h₂ tk₂ k₂ => ?_))
  · exact A_on G F' R U (fun h₃ R₃ U₃ => raise hnd _ _ _ _ _ R₃ U₃)
  have F₂ := fr_on F' k₂
  have N₂ := news_on N' k₂
  clear F' N' k₂
  have hz1 : 2 ≤ ns.length := hd₁.least
  have hz2 : ns.length ≤ 13 := hd₁.most
  dsimp only
  k_steps
  rename Fr _ _ _ _ => F₃
  rename News _ _ _ _ => N₃
  refine go_on (c_onward 1 (val ns) (ns.length - 1) (G.push F₃ rfl) (by omega) (by omega) rfl rfl (by omega) (fun h₄ tk₄ t₄ k₄ => ?_))
  have F₄ := fr_on F₃ k₄
  have N₄ := news_on N₃ k₄
  clear F₃ N₃ k₄
  dsimp only
  k_steps
  rename Fr _ _ _ _ => F₅
  rename News _ _ _ _ => N₅
  refine go_on (While_inv2 (L := L') (n₀ := 5000) (fun n m nx => nx = [] ∧ ∃ (k : Nat) (v f : Int) (tv tf tn tw : Tok), v = (pow (val ns) (ns.length - 1) k 1 : Nat) ∧ f = (k : Int) ∧ m (Str.ofString "value") = some (.int v tv) ∧ m (Str.ofString "found") = some (.int f tf) ∧ m (Str.ofString "number") = some (.int (val ns : Nat) tn) ∧ m (Str.ofString "width") = some (.int ((ns.length : Int) - 1) tw) ∧ 1 ≤ k ∧ n + k = 5001 ∧ (∀ j, 1 ≤ j → j < k → pow (val ns) (ns.length - 1) j 1 ≠ 1)) F₅ N₅ ⟨rfl, 1, _, _, _, _, _, _, rfl, rfl, rfl, rfl, rfl, rfl, Nat.le_refl _, rfl, fun j h1 h2 => by omega⟩ ?_ (by passes_own))
  rintro n m₁ news₁ h₆ tk₆ F₆ N₆ ⟨rfl, k, v, f, tv, tf, tn, tw, hv, hf, e1, e2, e3, e4, hk1, hnk, hmin⟩
  clear F₅ N₅
  replace F₆ := fr_know (Str.ofString "value") (fr_know (Str.ofString "found") (fr_know (Str.ofString "number") (fr_know (Str.ofString "width") F₆ e4) e3) e2) e1
  have hmin' := go_on hmin
  clear hmin
  have hv' := go_on hv
  clear hv
  k_steps
  · rename_i hne
    obtain ⟨P, hP, hP5⟩ := hd₁.reach
    have hkP : k < P := by
      rcases Nat.lt_trichotomy k P with h | h | h
      · exact h
      · refine absurd ?_ hne
        have hv₀ : v = (pow (val ns) (ns.length - 1) k 1 : Nat) := hv'
        rw [hv₀, h, hP.back]; rfl
      · exact absurd hP.back (hmin' P hP.pos h)
    refine go_on (c_onward _ (val ns) (ns.length - 1) (G.push F₆ rfl) (by omega) (by omega) hv' rfl (by omega) (fun h₇ tk₇ t₇ k₇ => ?_))
    have F₇ := fr_on F₆ k₇
    have N₇ := news_on N₆ k₇
    clear F₆ N₆ k₇
    dsimp only
    k_steps
    rename Fr _ _ _ _ => F₈
    rename News _ _ _ _ => N₈
    refine ⟨_, _, _, _, n - 1, rfl, F₈, N₈, by omega, rfl, k + 1, _, _, _, _, _, _, rfl, ?_, rfl, rfl, rfl, rfl, by omega, by omega, fun j h1 h2 => ?_⟩
    · omega
    · by_cases hj : j < k
      · exact hmin' j h1 hj
      · obtain rfl : j = k := by omega
        intro h
        refine hne ?_
        have hv₀ : v = (pow (val ns) (ns.length - 1) j 1 : Nat) := hv'
        rw [hv₀, h]; rfl
  · rename_i heq
    subst hf
    refine ret hd₁ k ⟨hk1, ?_, hmin'⟩ _ _ _ F₆.keep
    have hv₀ : v = (pow (val ns) (ns.length - 1) k 1 : Nat) := hv'
    omega

theorem c_Gate {l : Addr} {vs : List Value} {ns : List Int} (G : Gd (Mine.KK w.params) Mine.view (looseW Mine.view [Str.ofString "MOST_NOUGHTS", Str.ofString "MOST_SIGNS"]) mean mg mb base fr s.heap) (hd : dp + 6 < recursionLimit) (hu : un + 160 < cLine)
    (hl : s.heap.IsList l vs.toArray) (hi : IntsAre vs ns) (hz : ns.length ≤ 10000) (hr : IsRow ns) (raise : ¬ IsDiv ns → ∀ e t us h' tk', RaisedS base s.heap fr e (.ref 68) t us [] h' → s.heap.UpToSlots h' → E (.ref e) { s with heap := h', toks := tk' })
    (ret : IsDiv ns → ∀ P, Reach ns P → ∀ h' tk' (x dx lD : Addr) (vs' : List Value) (c t0 t1 t2 t3 tP tw : Nat), s.heap.StaysIn h' → s.heap.get? x = none → s.heap.get? dx = none → s.heap.get? lD = none → h'.get? x = some (instObj 276 dx) → h'.get? dx = some (gateD w.params t0 t1 t2 t3 P tP lD ((ns.length : Int) - 1) tw (ns.sum.fmod 2 == 0)) → h'.get? lD = some (listOf (List.toArray vs') c) → IntsAre vs' ns → @LT.lt Nat _ dx x → @LT.lt Nat _ x lD → Q (.ref x) { s with heap := h', toks := tk' }) :
    wpAny (model PySem.Challenge.rw_uf040037_06.row.prog w) (arA dp un gd fr) (call (.ref 276) [.ref l]) Q E s := by
  revert G; k_fill; intro G
  refine' enterInit (fun x => [(Str.ofString "self", .ref x), (Str.ofString "divisor", .ref l)]) G ?m1 ?m2 ?m3 ?k6 ?k7 ?k8 ?k9 ?kB ?_ ?c2 ?c3 ?c4 ?c5
  case m1 => k_is
  case m2 => k_is
  case m3 => k_is
  case k6 => k_is
  case k7 => k_is
  case k8 => omega
  case k9 => exact fun _ _ => BindsTo.of_eq rfl
  case kB => exact fun _ => locs rfl
  case c2 => exact rfl
  case c3 => exact rfl
  case c4 => exact rfl
  case c5 => decide
  intro x dx L' h' tk hdx F' N'
  replace hdx := ltN hdx
  have B' := G.below (dp + 1) (un + 1) gd
  have X' := G.kin
  have T' := G.top
  k_steps
  refine go_on (c_reach (dp := dp + 2) (un := un + 4) (G.push F' rfl) (by omega) (by omega) (lst_base F' hl) hi hz hr (fun hnd e t us h₂ tk₂ R U => ?_) (fun hd₁ P hP h₂ tk₂ t₂ k₂ => ?_))
  · exact A_on (dp := dp + 1) (un := un + 1) G F' R U (fun h₃ R₃ U₃ => raise hnd _ _ _ _ _ R₃ U₃)
  have F₂ := fr_on F' k₂
  have N₂ := news_on N' k₂
  clear F' N' k₂
  have hz1 : 2 ≤ ns.length := hd₁.least
  have hz2 : ns.length ≤ 13 := hd₁.most
  dsimp only
  k_steps
  rename Fr _ _ _ _ => F₈
  rename News _ _ _ _ => N₈
  rename _ ∧ _ => l₈
  exact ret hd₁ P hP _ _ x dx _ vs _ _ _ _ _ _ _ F₈.keep (N₈ _ (.tail _ (.head _))).2.2 (N₈ _ (.tail _ (.tail _ (.head _)))).2.2 (N₈ _ (.head _)).2.2 (N₈ _ (.tail _ (.head _))).1 (N₈ _ (.tail _ (.tail _ (.head _)))).1 (N₈ _ (.head _)).1 hi hdx l₈.1
section
local macro_rules | `(tactic| walk_at "getAttr ref") => `(tactic| (k_dflt (refine' Mine.get_ownS ?k1 ?k2 ?k3 ?k4 ?k5 ?k6 ?k7 ?k8 ?k9 ?_; (case k1 => k_asm); (case k2 => k_asm); (case k3 => exact Mine.inst_base (by assumption) (by assumption)); (case k4 => k_is); (case k5 => k_is); (case k6 => k_is); (case k7 => k_is); (case k8 => k_get); (case k9 => k_handed))))
local macro_rules | `(tactic| walk_at "getMethod ref") => `(tactic| (k_dflt (refine' Mine.method_instS ?k1 ?k2 ?k3 ?k4 ?k5 ?k6 ?k7 ?_; (case k1 => k_asm); (case k2 => k_asm); (case k3 => exact Mine.inst_base (by assumption) (by assumption)); (case k4 => k_is); (case k5 => k_is); (case k6 => k_is); (case k7 => k_get))))

theorem c_Gate_rest {x l : Addr} {P : Nat} {ds : List Int} {vs : List Value} {ns : List Int} (G : Gd (Mine.KK w.params) Mine.view (looseW Mine.view [Str.ofString "MOST_NOUGHTS", Str.ofString "MOST_SIGNS"]) mean mg mb base fr s.heap) (hd : dp + 4 < recursionLimit) (hu : un + 140 < cLine)
    (hG : GateAt w.params 276 s.heap x P ds) (hdv : IsDiv ds) (hP : Reach ds P) (hl : s.heap.IsList l vs.toArray) (hi : IntsAre vs ns) (hz : ns.length ≤ 10000) (hr : IsRow ns)
    (ret : ∀ h' tk' D vs' c, s.heap.StaysIn h' → s.heap.get? D = none → h'.get? D = some (listOf (List.toArray vs') c) → IntsAre vs' (restBy ns ds) → Q (.ref D) { s with heap := h', toks := tk' }) :
    wpAny (model PySem.Challenge.rw_uf040037_06.row.prog w) (arA dp un gd fr) (call (.ref 231) [.ref x, .ref l]) Q E s := by
  revert G; k_fill; intro G
  refine' enter0 (binds := [(Str.ofString "self", .ref x), (Str.ofString "row", .ref l)]) G ?k6 ?k7 ?k8 ?k9 ?kB ?_ ?c2 ?c3 ?c4 ?c5
  case k6 => k_is
  case k7 => k_is
  case k8 => omega
  case k9 => exact BindsTo.of_eq rfl
  case kB => exact locs rfl
  case c2 => exact rfl
  case c3 => exact rfl
  case c4 => exact rfl
  case c5 => decide
  intro L' h' tk F'
  have N' : News s.heap L' h' [] := News.nil
  have B' := G.below dp un gd
  have X' := G.kin
  have T' := G.top
  obtain ⟨dx, lD, sl1, sl2, vD, t0, t1, t2, t3, tP, tw, hIn, hlD, hiD⟩ := hG
  have hz1 : 2 ≤ ds.length := hdv.least
  have hz2 : ds.length ≤ 13 := hdv.most
  have hrd : IsRow ds := hdv.row
  have hP1 : 1 ≤ P := hP.pos
  have hP2 : P ≤ 4095 := by obtain ⟨P', h1, h2⟩ := hdv.reach; rw [hP.unique h1]; exact h2

  k_steps
  rename Fr _ _ _ _ => F₅
  rename News _ _ _ _ => N₅
  refine go_on (c_parted (G.push F₅ rfl) (by omega) (by omega) (lst_base F₅ hl) hi hz hr (lst_base F₅ hlD) hiD (by omega) hdv.row (fun h => absurd h (isDiv1_not hdv.one)) ?_)
  intro _ h₆ tk₆ T D₁ v₁ k₁ D₂ v₂ k₂ k hT hD₁ hD₂ oT o₁ i₁ o₂ i₂ l12 l2T
  have F₆ := fr_on F₅ k
  have N₆ := news_add F₅ (news_add F₅ (news_add F₅ (news_on N₅ k) hD₁ o₁) hD₂ o₂) hT oT
  clear F₅ N₅ k hT hD₁ hD₂ oT o₁ o₂
  dsimp only
  k_steps
  rename Fr _ _ _ _ => F₇
  rename News _ _ _ _ => N₇
  exact ret_list (s := s) (Q := Q) ret F₇ N₇ (by k_mem) i₂ rfl

theorem c_Gate_holds {x l : Addr} {P : Nat} {ds : List Int} {vs : List Value} {ns : List Int} (G : Gd (Mine.KK w.params) Mine.view (looseW Mine.view [Str.ofString "MOST_NOUGHTS", Str.ofString "MOST_SIGNS"]) mean mg mb base fr s.heap) (hd : dp + 5 < recursionLimit) (hu : un + 150 < cLine)
    (hG : GateAt w.params 276 s.heap x P ds) (hdv : IsDiv ds) (hP : Reach ds P) (hl : s.heap.IsList l vs.toArray) (hi : IntsAre vs ns) (hz : ns.length ≤ 10000) (hr : IsRow ns) (raise1 : ns.length < ds.length - 1 → ∀ e t us h' tk', RaisedS base s.heap fr e (.ref 104) t us [] h' → s.heap.UpToSlots h' → E (.ref e) { s with heap := h', toks := tk' }) (raise2 : (ds.length - 1 ≤ ns.length ∧ P < ns.length) → ∀ e t us h' tk', RaisedS base s.heap fr e (.ref 92) t us [] h' → s.heap.UpToSlots h' → E (.ref e) { s with heap := h', toks := tk' })
    (ret : (ds.length - 1 ≤ ns.length ∧ ns.length ≤ P) → ∀ h' tk', s.heap.StaysIn h' → Q (.bool (decide ((restBy ns ds).sum = 0))) { s with heap := h', toks := tk' }) :
    wpAny (model PySem.Challenge.rw_uf040037_06.row.prog w) (arA dp un gd fr) (call (.ref 259) [.ref x, .ref l]) Q E s := by
  revert G; k_fill; intro G
  refine' enter0 (binds := [(Str.ofString "self", .ref x), (Str.ofString "row", .ref l)]) G ?k6 ?k7 ?k8 ?k9 ?kB ?_ ?c2 ?c3 ?c4 ?c5
  case k6 => k_is
  case k7 => k_is
  case k8 => omega
  case k9 => exact BindsTo.of_eq rfl
  case kB => exact locs rfl
  case c2 => exact rfl
  case c3 => exact rfl
  case c4 => exact rfl
  case c5 => decide
  intro L' h' tk F'
  have N' : News s.heap L' h' [] := News.nil
  have B' := G.below dp un gd
  have X' := G.kin
  have T' := G.top
  have hG₀ := go_on hG

  obtain ⟨dx, lD, sl1, sl2, vD, t0, t1, t2, t3, tP, tw, hIn, hlD, hiD⟩ := hG
  have hz1 : 2 ≤ ds.length := hdv.least
  have hz2 : ds.length ≤ 13 := hdv.most
  have hrd : IsRow ds := hdv.row
  have hP1 : 1 ≤ P := hP.pos
  have hP2 : P ≤ 4095 := by obtain ⟨P', h1, h2⟩ := hdv.reach; rw [hP.unique h1]; exact h2

  have hw3 : ns.length < ds.length - 1 ∨ (ds.length - 1 ≤ ns.length ∧ P < ns.length) ∨ (ds.length - 1 ≤ ns.length ∧ ns.length ≤ P) := by omega

  rcases hw3 with hw | hw | hw
  · k_steps
    rename Heap.MadeExcOf _ _ _ _ _ => hx
    rename Fr _ _ _ _ => F₈
    exact go_on (A_raise G hx F₈ (fun h₉ t₉ R U => raise1 hw _ _ _ _ _ R U) rfl)
  · have hw1 := hw.1
    have hw2 := hw.2
    replace hw := go_on hw
    k_steps
    rename Heap.MadeExcOf _ _ _ _ _ => hx
    rename Fr _ _ _ _ => F₈
    exact go_on (A_raise G hx F₈ (fun h₉ t₉ R U => raise2 hw _ _ _ _ _ R U) rfl)
  have ret' := go_on (ret hw)
  have hlo := hw.1
  have hhi := hw.2
  clear ret raise1 raise2 hw
  k_steps
  rename Fr _ _ _ _ => F₅
  rename News _ _ _ _ => N₅
  refine go_on (c_Gate_rest (G.push F₅ rfl) (by omega) (by omega) (gate_base F₅ hG₀) hdv hP (lst_base F₅ hl) hi (by omega) hr (fun h₇ tk₇ D₇ v₇ c₇ k₇ n₇ o₇ i₇ => ?_))
  have F₇ := fr_on F₅ k₇
  have N₇ := news_more F₅ N₅ k₇ n₇ o₇
  clear F₅ N₅ k₇
  have hrl := restBy_len hdv.one hr
  dsimp only
  k_steps
  rename Fr _ _ _ _ => F₈
  refine ret_bool (s := s) (Q := Q) ret' ?_ F₈.keep
  by_cases h : (restBy ns ds).sum = 0 <;> simp [h]

theorem c_Gate_opened {x l : Addr} {P : Nat} {ds : List Int} {vs : List Value} {ns : List Int} (G : Gd (Mine.KK w.params) Mine.view (looseW Mine.view [Str.ofString "MOST_NOUGHTS", Str.ofString "MOST_SIGNS"]) mean mg mb base fr s.heap) (hd : dp + 6 < recursionLimit) (hu : un + 160 < cLine)
    (hG : GateAt w.params 276 s.heap x P ds) (hdv : IsDiv ds) (hP : Reach ds P) (hl : s.heap.IsList l vs.toArray) (hi : IntsAre vs ns) (hz : ns.length ≤ 10000) (hr : IsRow ns) (raise1 : ns.length < ds.length - 1 → ∀ e t us h' tk', RaisedS base s.heap fr e (.ref 104) t us [] h' → s.heap.UpToSlots h' → E (.ref e) { s with heap := h', toks := tk' }) (raise2 : (ds.length - 1 ≤ ns.length ∧ P < ns.length) → ∀ e t us h' tk', RaisedS base s.heap fr e (.ref 92) t us [] h' → s.heap.UpToSlots h' → E (.ref e) { s with heap := h', toks := tk' }) (raise3 : (ds.length - 1 ≤ ns.length ∧ ns.length ≤ P) → (restBy ns ds).sum ≠ 0 → ∀ e t us h' tk', RaisedS base s.heap fr e (.ref 116) t us [] h' → s.heap.UpToSlots h' → E (.ref e) { s with heap := h', toks := tk' })
    (ret : (ds.length - 1 ≤ ns.length ∧ ns.length ≤ P) → (restBy ns ds).sum = 0 → ∀ h' tk' D vs' c, s.heap.StaysIn h' → s.heap.get? D = none → h'.get? D = some (listOf (List.toArray vs') c) → IntsAre vs' (ns.take (ns.length - (ds.length - 1))) → Q (.ref D) { s with heap := h', toks := tk' }) :
    wpAny (model PySem.Challenge.rw_uf040037_06.row.prog w) (arA dp un gd fr) (call (.ref 266) [.ref x, .ref l]) Q E s := by
  revert G; k_fill; intro G
  refine' enter0 (binds := [(Str.ofString "self", .ref x), (Str.ofString "row", .ref l)]) G ?k6 ?k7 ?k8 ?k9 ?kB ?_ ?c2 ?c3 ?c4 ?c5
  case k6 => k_is
  case k7 => k_is
  case k8 => omega
  case k9 => exact BindsTo.of_eq rfl
  case kB => exact locs rfl
  case c2 => exact rfl
  case c3 => exact rfl
  case c4 => exact rfl
  case c5 => decide
  intro L' h' tk F'
  have N' : News s.heap L' h' [] := News.nil
  have B' := G.below dp un gd
  have X' := G.kin
  have T' := G.top
  have hG₀ := go_on hG

  obtain ⟨dx, lD, sl1, sl2, vD, t0, t1, t2, t3, tP, tw, hIn, hlD, hiD⟩ := hG
  have hz1 : 2 ≤ ds.length := hdv.least
  have hz2 : ds.length ≤ 13 := hdv.most
  have hrd : IsRow ds := hdv.row
  have hP1 : 1 ≤ P := hP.pos
  have hP2 : P ≤ 4095 := by obtain ⟨P', h1, h2⟩ := hdv.reach; rw [hP.unique h1]; exact h2

  k_steps
  rename Fr _ _ _ _ => F₅
  rename News _ _ _ _ => N₅
  refine go_on (c_Gate_holds (G.push F₅ rfl) (by omega) (by omega) (gate_base F₅ hG₀) hdv hP (lst_base F₅ hl) hi hz hr (fun hc e t us h₂ tk₂ R U => ?_) (fun hc e t us h₂ tk₂ R U => ?_) (fun hc h₇ tk₇ k₇ => ?_))
  · exact A_on G F₅ R U (fun h₃ R₃ U₃ => raise1 hc _ _ _ _ _ R₃ U₃)
  · exact A_on G F₅ R U (fun h₃ R₃ U₃ => raise2 hc _ _ _ _ _ R₃ U₃)
  have F₇ := fr_on F₅ k₇
  have N₇ := news_on N₅ k₇
  clear F₅ N₅ k₇ raise1 raise2
  have hlo := hc.1
  have hhi := hc.2
  by_cases hs : (restBy ns ds).sum = 0
  · have ret' := go_on (ret hc hs)
    clear ret raise3
    replace hc := go_on hc
    rw [decide_eq_true hs]
    dsimp only
    k_steps
    rename Fr _ _ _ _ => F₈
    rename News _ _ _ _ => N₈
    rename IntsAre _ (List.take _ ns) => hI₈
    refine ret_list (s := s) (Q := Q) ret' F₈ N₈ (.head _) hI₈ ?_
    congr 1; omega
  · replace hc := go_on hc
    rw [decide_eq_false hs]
    dsimp only
    k_steps
    rename Heap.MadeExcOf _ _ _ _ _ => hx
    rename Fr _ _ _ _ => F₈
    exact go_on (A_raise G hx F₈ (fun h₉ t₉ R U => raise3 hc hs _ _ _ _ _ R U) rfl)
end
section
local macro_rules | `(tactic| walk_at "getAttr ref") => `(tactic| (k_dflt (refine' Mine.get_ownS ?k1 ?k2 ?k3 ?k4 ?k5 ?k6 ?k7 ?k8 ?k9 ?_; (case k1 => k_asm); (case k2 => k_asm); (case k3 => exact Mine.inst_base (by assumption) (by assumption)); (case k4 => k_is); (case k5 => k_is); (case k6 => k_is); (case k7 => k_is); (case k8 => k_get); (case k9 => k_handed))))
local macro_rules | `(tactic| walk_at "getMethod ref") => `(tactic| (k_dflt (refine' Mine.method_instS ?k1 ?k2 ?k3 ?k4 ?k5 ?k6 ?k7 ?_; (case k1 => k_asm); (case k2 => k_asm); (case k3 => exact Mine.inst_base (by assumption) (by assumption)); (case k4 => k_is); (case k5 => k_is); (case k6 => k_is); (case k7 => k_get))))
local macro_rules | `(tactic| walk_at "subscriptTail Name Slice ref ref") => `(tactic| refine Mine.stop_of ?_)

theorem c_Gate_mended {x l : Addr} {P : Nat} {ds : List Int} {vs : List Value} {ns : List Int} (G : Gd (Mine.KK w.params) Mine.view (looseW Mine.view [Str.ofString "MOST_NOUGHTS", Str.ofString "MOST_SIGNS"]) mean mg mb base fr s.heap) (hd : dp + 6 < recursionLimit) (hu : un + 160 < cLine)
    (hG : GateAt w.params 276 s.heap x P ds) (hdv : IsDiv ds) (hP : Reach ds P) (hl : s.heap.IsList l vs.toArray) (hi : IntsAre vs ns) (hz : ns.length ≤ 10000) (hr : IsRow ns) (raise1 : ns.length < ds.length - 1 → ∀ e t us h' tk', RaisedS base s.heap fr e (.ref 104) t us [] h' → s.heap.UpToSlots h' → E (.ref e) { s with heap := h', toks := tk' }) (raise2 : (ds.length - 1 ≤ ns.length ∧ P < ns.length) → ∀ e t us h' tk', RaisedS base s.heap fr e (.ref 92) t us [] h' → s.heap.UpToSlots h' → E (.ref e) { s with heap := h', toks := tk' }) (raise3 : (ds.length - 1 ≤ ns.length ∧ ns.length ≤ P) → NoMend ds ns → ∀ e t us h' tk', RaisedS base s.heap fr e (.ref 116) t us [] h' → s.heap.UpToSlots h' → E (.ref e) { s with heap := h', toks := tk' })
    (ret : (ds.length - 1 ≤ ns.length ∧ ns.length ≤ P) → ∀ out, Mends ds ns out → ∀ h' tk' D vs' c, s.heap.StaysIn h' → s.heap.get? D = none → h'.get? D = some (listOf (List.toArray vs') c) → IntsAre vs' (out) → Q (.ref D) { s with heap := h', toks := tk' }) :
    wpAny (model PySem.Challenge.rw_uf040037_06.row.prog w) (arA dp un gd fr) (call (.ref 273) [.ref x, .ref l]) Q E s := by
  revert G; k_fill; intro G
  refine' enter0 (binds := [(Str.ofString "self", .ref x), (Str.ofString "row", .ref l)]) G ?k6 ?k7 ?k8 ?k9 ?kB ?_ ?c2 ?c3 ?c4 ?c5
  case k6 => k_is
  case k7 => k_is
  case k8 => omega
  case k9 => exact BindsTo.of_eq rfl
  case kB => exact locs rfl
  case c2 => exact rfl
  case c3 => exact rfl
  case c4 => exact rfl
  case c5 => decide
  intro L' h' tk F'
  have N' : News s.heap L' h' [] := News.nil
  have B' := G.below dp un gd
  have X' := G.kin
  have T' := G.top
  have hG₀ := go_on hG

  obtain ⟨dx, lD, sl1, sl2, vD, t0, t1, t2, t3, tP, tw, hIn, hlD, hiD⟩ := hG
  have hz1 : 2 ≤ ds.length := hdv.least
  have hz2 : ds.length ≤ 13 := hdv.most
  have hrd : IsRow ds := hdv.row
  have hP1 : 1 ≤ P := hP.pos
  have hP2 : P ≤ 4095 := by obtain ⟨P', h1, h2⟩ := hdv.reach; rw [hP.unique h1]; exact h2

  k_steps
  rename Fr _ _ _ _ => F₅
  rename News _ _ _ _ => N₅
  refine go_on (c_Gate_holds (G.push F₅ rfl) (by omega) (by omega) (gate_base F₅ hG₀) hdv hP (lst_base F₅ hl) hi hz hr (fun hc e t us h₂ tk₂ R U => ?_) (fun hc e t us h₂ tk₂ R U => ?_) (fun hc h₇ tk₇ k₇ => ?_))
  · exact A_on G F₅ R U (fun h₃ R₃ U₃ => raise1 hc _ _ _ _ _ R₃ U₃)
  · exact A_on G F₅ R U (fun h₃ R₃ U₃ => raise2 hc _ _ _ _ _ R₃ U₃)
  have F₇ := fr_on F₅ k₇
  have N₇ := news_on N₅ k₇
  clear F₅ N₅ k₇ raise1 raise2
  have hlo := hc.1
  have hhi := hc.2
  have ret' := go_on (ret hc)
  have raise' := go_on (raise3 hc)
  clear ret raise3 hc
  by_cases hs : (restBy ns ds).sum = 0
  · rw [decide_eq_true hs]
    have hm : Stop (Mends ds ns ns) := .inl ⟨(holds_iff hdv.one hr).mp hs, rfl⟩
    dsimp only
    k_steps
    rename Fr _ _ _ _ => F₈
    rename News _ _ _ _ => N₈
    exact ret_list (s := s) (Q := Q) (ret' ns hm) F₈ N₈ (.head _) hi rfl
  rw [decide_eq_false hs]
  have hne := go_on (fun h => hs ((holds_iff hdv.one hr).mpr h))
  clear hs
  obtain ⟨hq1, hq2, hq3⟩ := restBy_spec hdv.one hr
  obtain ⟨hu1, hu2, hu3⟩ := restBy_spec (row := [1]) hdv.one (isRow_single (.inr rfl))
  rw [R_short _ (isRow_single (.inr rfl)) (by simp; omega)] at hu3
  replace hu3 := go_on hu3
  replace hq3 := go_on hq3
  dsimp only
  k_steps
  rename Fr _ _ _ _ => F₅
  rename News _ _ _ _ => N₅
  refine go_on (c_Gate_rest (G.push F₅ rfl) (by omega) (by omega) (gate_base F₅ hG₀) hdv hP (lst_base F₅ hl) hi (by omega) hr (fun h₇ tk₇ D₇ v₇ c₇ k₇ n₇ o₇ i₇ => ?_))
  have F₇ := fr_on F₅ k₇
  have N₇ := news_more F₅ N₅ k₇ n₇ o₇
  clear F₅ N₅ k₇
  dsimp only
  k_steps
  rename Fr _ _ _ _ => F₅
  rename News _ _ _ _ => N₅
  refine go_on (c_Gate_rest (ns := [1]) (vs := [.int 1 _]) (G.push F₅ rfl) (by omega) (by omega) (gate_base F₅ hG₀) hdv hP (lst_led N₅ (.head _)) (.cons _ _ .nil) (by simp) (isRow_single (.inr rfl)) (fun h₈ tk₈ D₈ v₈ c₈ k₈ n₈ o₈ i₈ => ?_))
  have F₈ := fr_on F₅ k₈
  have N₈ := news_more F₅ N₅ k₈ n₈ o₈
  clear F₅ N₅ k₈
  dsimp only
  k_steps
  rename Fr _ _ _ _ => F₉
  refine go_on (for_range (L := L') (n := ns.length) (a₀ := 0) (b₀ := (ns.length : Int)) (fun i m nx => nx = [] ∧ ∃ (v : Int) (tv tn td : Tok), v = (pow (val ds) (ds.length - 1) i 1 : Nat) ∧ m (Str.ofString "value") = some (.int v tv) ∧ m (Str.ofString "number") = some (.int (val ds : Nat) tn) ∧ m (Str.ofString "due") = some (.int (val (restBy ns ds) : Nat) td) ∧ m (Str.ofString "self") = some (.ref x) ∧ m (Str.ofString "row") = some (.ref l) ∧ ∀ j, j < i → pow (val ds) (ds.length - 1) j 1 ≠ R (val ds) (ds.length - 1) ns) rfl rfl F₉ News.nil (by omega) (by omega) ?_ ⟨rfl, _, _, _, _, by rw [show val (restBy [1] ds) = 1 from hu3]; rfl, rfl, rfl, rfl, rfl, rfl, fun j h => by omega⟩ ?_ ?_ rfl rfl (fun _ => rfl) (by passes_own))
  · intro Q' q
    k_steps
    exact q _ _ _ _ _ _ (by assumption) (by assumption) News.nil
  · rintro i ti m₁ news₁ h₂ tk₂ own hin hadr ho ⟨rfl, v, tv, tn, td, hv, f1, f2, f3, f4, f5, hmin⟩ F₂ N₂
    clear F₉
    replace F₂ := fr_know (Str.ofString "value") (fr_know (Str.ofString "number") (fr_know (Str.ofString "due") (fr_know (Str.ofString "self") (fr_know (Str.ofString "row") F₂ f5) f4) f3) f2) f1
    have hv' := go_on hv
    have hmin' := go_on hmin
    clear hv hmin
    simp only [List.nil_append] at N₂
    k_steps
    · rename_i heq
      obtain ⟨pl, hpl⟩ : ∃ pl : Nat, (ns.length : Int) - 1 - (0 + (i : Int)) = (pl : Int) := ⟨ns.length - 1 - i, by omega⟩
      rename Fr _ _ _ _ => F₁
      rename News _ _ _ _ => N₁
      rw [hpl] at F₁ ⊢
      refine go_on ?_
      refine' kmk_slice_ints (vs := vs) (ns := ns) (lo := none) (hi := some (pl : Int)) (ms := ns.take pl) ?sF ?sN ?sl ?sp ?sq hi ?sm rfl ?_ ?ss ?st ?sz
      case sF => exact F₁
      case sN => exact N₁
      case sl => exact lst_base F₁ hl
      case sp => first | exact IsPart.none | exact IsPart.int _ _
      case sq => first | exact IsPart.none | exact IsPart.int _ _
      case sm => exact (by have := kmk_upto hi (y := (pl : Int)) (by omega); simpa using this)
      case ss => with_unfolding_all rfl
      case st => intro _; with_unfolding_all rfl
      case sz => rw [List.size_toArray, hi.length, sizeLine_eq]; omega

      intro D₁ w₁ h₁ F₃ N₃ l₁ hI₁ _ hl₁
      replace l₁ := allLt_of l₁
      try simp only [AllLt, and_true] at l₁
      clear F₁ N₁
      dsimp only
      have hl₂ : (ns.take pl).length ≤ 10000 := by omega
      have hk : Stop (ns.take pl ++ [1 - ns.getD pl 0] ++ ns.drop (pl + 1) = flip ns pl) := rfl
      generalize ns.take pl = as at *
      k_steps
      rename Fr _ _ _ _ => F₄
      rename News _ _ _ _ => N₄
      rename IntsAre _ (as ++ _) => hI₄
      refine go_on ?_
      refine' kmk_slice_ints (vs := vs) (ns := ns) (lo := some ((pl : Int) + 1)) (hi := none) (ms := ns.drop (pl + 1)) ?sF ?sN ?sl ?sp ?sq hi ?sm rfl ?_ ?ss ?st ?sz
      case sF => exact F₄
      case sN => exact N₄
      case sl => exact lst_base F₄ hl
      case sp => first | exact IsPart.none | exact IsPart.int _ _
      case sq => first | exact IsPart.none | exact IsPart.int _ _
      case sm => exact (by have := kmk_from hi (x := (pl : Int) + 1) (by omega); rwa [show ((pl : Int) + 1).toNat = pl + 1 by omega] at this)
      case ss => with_unfolding_all rfl
      case st => intro _; with_unfolding_all rfl
      case sz => rw [List.size_toArray, hi.length, sizeLine_eq]; omega

      intro D₆ w₆ h₆ F₆ N₆ l₆ hI₆ _ hl₆
      replace l₆ := allLt_of l₆
      try simp only [AllLt, and_true] at l₆
      clear F₄ N₄
      have hl₅ : (ns.drop (pl + 1)).length ≤ 10000 := by omega
      rw [show ((pl : Int)).toNat = pl by omega] at hI₄
      generalize ns.drop (pl + 1) = bs at *
      generalize 1 - ns.getD pl 0 = y at *
      dsimp only
      k_steps
      rename Fr _ _ _ _ => F₅
      rename News _ _ _ _ => N₅
      rename IntsAre _ (_ ++ bs) => hI₅
      refine ret_list (s := s) (Q := Q) (ret' (flip ns pl) (.inr ⟨hne, i, hin, ?_, ?_⟩)) F₅ N₅ (.head _) hI₅ hk
      · have h1 : v = (pow (val ds) (ds.length - 1) i 1 : Nat) := hv'
        have h2 : val (restBy ns ds) = R (val ds) (ds.length - 1) ns := hq3
        omega
      · congr 1; omega
    · rename_i hneq
      rename Fr _ _ _ _ => F₃
      rename News _ _ _ _ => N₃
      refine go_on (c_onward _ (val ds) (ds.length - 1) (G.push F₃ rfl) (by omega) (by omega) hv' rfl (by omega) (fun h₇ tk₇ t₇ k₇ => ?_))
      have F₇ := fr_on F₃ k₇
      have N₇ := news_on N₃ k₇
      clear F₃ N₃ k₇
      dsimp only
      k_steps
      rename Fr _ _ _ _ => F₈
      rename News _ _ _ _ => N₈
      refine TEnd.intro (nx := []) F₈ N₈ ⟨rfl, _, _, _, _, rfl, rfl, rfl, rfl, rfl, rfl, fun j hj => ?_⟩ rfl (by simp) (fun p hp => hp)
      by_cases hji : j < i
      · exact hmin' j hji
      · obtain rfl : j = i := by omega
        have h1 : v = (pow (val ds) (ds.length - 1) j 1 : Nat) := hv'
        have h2 : val (restBy ns ds) = R (val ds) (ds.length - 1) ns := hq3
        omega
  · rintro m₁ news₁ h₂ tk₂ ⟨rfl, v, tv, tn, td, hv, f1, f2, f3, f4, f5, hmin⟩ F₂ N₂
    clear F₉
    have hnm : Stop (NoMend ds ns) := ⟨hne, hmin⟩
    clear hmin hv
    k_steps
    rename Heap.MadeExcOf _ _ _ _ _ => hx
    rename Fr _ _ _ _ => F₈
    exact go_on (A_raise G hx F₈ (fun h₉ t₉ R U => raise' hnm _ _ _ _ _ R U) rfl)
end
section
local macro_rules | `(tactic| walk_at "getAttr ref") => `(tactic| (k_dflt (refine' Mine.get_ownS ?k1 ?k2 ?k3 ?k4 ?k5 ?k6 ?k7 ?k8 ?k9 ?_; (case k1 => k_asm); (case k2 => k_asm); (case k3 => exact Mine.inst_base (by assumption) (by assumption)); (case k4 => k_is); (case k5 => k_is); (case k6 => k_is); (case k7 => k_is); (case k8 => k_get); (case k9 => k_handed))))
local macro_rules | `(tactic| walk_at "getMethod ref") => `(tactic| (k_dflt (refine' Mine.method_instS ?k1 ?k2 ?k3 ?k4 ?k5 ?k6 ?k7 ?_; (case k1 => k_asm); (case k2 => k_asm); (case k3 => exact Mine.inst_base (by assumption) (by assumption)); (case k4 => k_is); (case k5 => k_is); (case k6 => k_is); (case k7 => k_get))))

theorem c_Gate_later_i {x l : Addr} {P : Nat} {ds : List Int} {vs : List Value} {ns : List Int} {b : Int} {t : Tok} (G : Gd (Mine.KK w.params) Mine.view (looseW Mine.view [Str.ofString "MOST_NOUGHTS", Str.ofString "MOST_SIGNS"]) mean mg mb base fr s.heap) (hd : dp + 4 < recursionLimit) (hu : un + 140 < cLine)
    (hG : GateAt w.params 276 s.heap x P ds) (hdv : IsDiv ds) (hP : Reach ds P) (hl : s.heap.IsList l vs.toArray) (hi : IntsAre vs ns) (hr : IsRow ns) (hlen : ns.length = ds.length - 1) (hb : b < 0 ∨ 1000000000000000000 < b) (raise : True → ∀ e t us h' tk', RaisedS base s.heap fr e (.ref 80) t us [] h' → s.heap.UpToSlots h' → E (.ref e) { s with heap := h', toks := tk' })
    (ret : True) :
    wpAny (model PySem.Challenge.rw_uf040037_06.row.prog w) (arA dp un gd fr) (call (.ref 238) [.ref x, .ref l, .int b t]) Q E s := by
  revert G; k_fill; intro G
  refine' enter0 (binds := [(Str.ofString "self", .ref x), (Str.ofString "rest", .ref l), (Str.ofString "many", .int b t)]) G ?k6 ?k7 ?k8 ?k9 ?kB ?_ ?c2 ?c3 ?c4 ?c5
  case k6 => k_is
  case k7 => k_is
  case k8 => omega
  case k9 => exact BindsTo.of_eq rfl
  case kB => exact locs rfl
  case c2 => exact rfl
  case c3 => exact rfl
  case c4 => exact rfl
  case c5 => decide
  intro L' h' tk F'
  have N' : News s.heap L' h' [] := News.nil
  have B' := G.below dp un gd
  have X' := G.kin
  have T' := G.top
  obtain ⟨dx, lD, sl1, sl2, vD, t0, t1, t2, t3, tP, tw, hIn, hlD, hiD⟩ := hG
  have hz1 : 2 ≤ ds.length := hdv.least
  have hz2 : ds.length ≤ 13 := hdv.most
  have hrd : IsRow ds := hdv.row
  have hP1 : 1 ≤ P := hP.pos
  have hP2 : P ≤ 4095 := by obtain ⟨P', h1, h2⟩ := hdv.reach; rw [hP.unique h1]; exact h2

  have hlen' : (ns.length : Int) = (ds.length : Int) - 1 := by omega
  have hzn : ns.length ≤ 12 := by omega
  clear hlen
  rcases hb with hb | hb
  · k_steps
    · exact absurd hlen' (by assumption)
    rename Heap.MadeExcOf _ _ _ _ _ => hx
    rename Fr _ _ _ _ => F₈
    exact go_on (A_raise G hx F₈ (fun h₉ t₉ R U => raise trivial _ _ _ _ _ R U) rfl)
  · k_steps
    · exact absurd hlen' (by assumption)
    rename Heap.MadeExcOf _ _ _ _ _ => hx
    rename Fr _ _ _ _ => F₈
    exact go_on (A_raise G hx F₈ (fun h₉ t₉ R U => raise trivial _ _ _ _ _ R U) rfl)

theorem c_Gate_later_b {x l : Addr} {P : Nat} {ds : List Int} {vs : List Value} {ns : List Int} {b : Bool} (G : Gd (Mine.KK w.params) Mine.view (looseW Mine.view [Str.ofString "MOST_NOUGHTS", Str.ofString "MOST_SIGNS"]) mean mg mb base fr s.heap) (hd : dp + 4 < recursionLimit) (hu : un + 140 < cLine)
    (hG : GateAt w.params 276 s.heap x P ds) (hdv : IsDiv ds) (hP : Reach ds P) (hl : s.heap.IsList l vs.toArray) (hi : IntsAre vs ns) (hr : IsRow ns) (hlen : ns.length = ds.length - 1) (raise : True → ∀ e t us h' tk', RaisedS base s.heap fr e (.ref 80) t us [] h' → s.heap.UpToSlots h' → E (.ref e) { s with heap := h', toks := tk' })
    (ret : True) :
    wpAny (model PySem.Challenge.rw_uf040037_06.row.prog w) (arA dp un gd fr) (call (.ref 238) [.ref x, .ref l, .bool b]) Q E s := by
  revert G; k_fill; intro G
  refine' enter0 (binds := [(Str.ofString "self", .ref x), (Str.ofString "rest", .ref l), (Str.ofString "many", .bool b)]) G ?k6 ?k7 ?k8 ?k9 ?kB ?_ ?c2 ?c3 ?c4 ?c5
  case k6 => k_is
  case k7 => k_is
  case k8 => omega
  case k9 => exact BindsTo.of_eq rfl
  case kB => exact locs rfl
  case c2 => exact rfl
  case c3 => exact rfl
  case c4 => exact rfl
  case c5 => decide
  intro L' h' tk F'
  have N' : News s.heap L' h' [] := News.nil
  have B' := G.below dp un gd
  have X' := G.kin
  have T' := G.top
  obtain ⟨dx, lD, sl1, sl2, vD, t0, t1, t2, t3, tP, tw, hIn, hlD, hiD⟩ := hG
  have hz1 : 2 ≤ ds.length := hdv.least
  have hz2 : ds.length ≤ 13 := hdv.most
  have hrd : IsRow ds := hdv.row
  have hP1 : 1 ≤ P := hP.pos
  have hP2 : P ≤ 4095 := by obtain ⟨P', h1, h2⟩ := hdv.reach; rw [hP.unique h1]; exact h2

  have hlen' : (ns.length : Int) = (ds.length : Int) - 1 := by omega
  have hzn : ns.length ≤ 12 := by omega
  clear hlen
  k_steps
  · exact absurd hlen' (by assumption)
  rename Heap.MadeExcOf _ _ _ _ _ => hx
  rename Fr _ _ _ _ => F₈
  exact go_on (A_raise G hx F₈ (fun h₉ t₉ R U => raise trivial _ _ _ _ _ R U) rfl)

theorem c_Gate_later_n {x l : Addr} {P : Nat} {ds : List Int} {vs : List Value} {ns : List Int} (G : Gd (Mine.KK w.params) Mine.view (looseW Mine.view [Str.ofString "MOST_NOUGHTS", Str.ofString "MOST_SIGNS"]) mean mg mb base fr s.heap) (hd : dp + 4 < recursionLimit) (hu : un + 140 < cLine)
    (hG : GateAt w.params 276 s.heap x P ds) (hdv : IsDiv ds) (hP : Reach ds P) (hl : s.heap.IsList l vs.toArray) (hi : IntsAre vs ns) (hr : IsRow ns) (hlen : ns.length = ds.length - 1) (raise : True → ∀ e t us h' tk', RaisedS base s.heap fr e (.ref 80) t us [] h' → s.heap.UpToSlots h' → E (.ref e) { s with heap := h', toks := tk' })
    (ret : True) :
    wpAny (model PySem.Challenge.rw_uf040037_06.row.prog w) (arA dp un gd fr) (call (.ref 238) [.ref x, .ref l, .none]) Q E s := by
  revert G; k_fill; intro G
  refine' enter0 (binds := [(Str.ofString "self", .ref x), (Str.ofString "rest", .ref l), (Str.ofString "many", .none)]) G ?k6 ?k7 ?k8 ?k9 ?kB ?_ ?c2 ?c3 ?c4 ?c5
  case k6 => k_is
  case k7 => k_is
  case k8 => omega
  case k9 => exact BindsTo.of_eq rfl
  case kB => exact locs rfl
  case c2 => exact rfl
  case c3 => exact rfl
  case c4 => exact rfl
  case c5 => decide
  intro L' h' tk F'
  have N' : News s.heap L' h' [] := News.nil
  have B' := G.below dp un gd
  have X' := G.kin
  have T' := G.top
  obtain ⟨dx, lD, sl1, sl2, vD, t0, t1, t2, t3, tP, tw, hIn, hlD, hiD⟩ := hG
  have hz1 : 2 ≤ ds.length := hdv.least
  have hz2 : ds.length ≤ 13 := hdv.most
  have hrd : IsRow ds := hdv.row
  have hP1 : 1 ≤ P := hP.pos
  have hP2 : P ≤ 4095 := by obtain ⟨P', h1, h2⟩ := hdv.reach; rw [hP.unique h1]; exact h2

  have hlen' : (ns.length : Int) = (ds.length : Int) - 1 := by omega
  have hzn : ns.length ≤ 12 := by omega
  clear hlen
  k_steps
  · exact absurd hlen' (by assumption)
  rename Heap.MadeExcOf _ _ _ _ _ => hx
  rename Fr _ _ _ _ => F₈
  exact go_on (A_raise G hx F₈ (fun h₉ t₉ R U => raise trivial _ _ _ _ _ R U) rfl)
end

theorem c_is_signB_i {n : Int} {t : Tok} (G : Gd (Mine.KK w.params) Mine.view (looseW Mine.view [Str.ofString "MOST_NOUGHTS", Str.ofString "MOST_SIGNS"]) mean mg mb base fr s.heap) (hd : dp + 1 < recursionLimit) (hu : un + 110 < cLine)
    (hn : ¬ (0 ≤ n ∧ n ≤ 1))
    (ret : ∀ h' tk', s.heap.StaysIn h' → Q (.bool false) { s with heap := h', toks := tk' }) :
    wpAny (model PySem.Challenge.rw_uf040037_06.row.prog w) (arA dp un gd fr) (call (.ref 149) [.int n t]) Q E s := by
  revert G; k_fill; intro G
  refine' enter0 (binds := [(Str.ofString "sign", .int n t)]) G ?k6 ?k7 ?k8 ?k9 ?kB ?_ ?c2 ?c3 ?c4 ?c5
  case k6 => k_is
  case k7 => k_is
  case k8 => omega
  case k9 => exact BindsTo.of_eq rfl
  case kB => exact locs rfl
  case c2 => exact rfl
  case c3 => exact rfl
  case c4 => exact rfl
  case c5 => decide
  intro L' h' tk F'
  have N' : News s.heap L' h' [] := News.nil
  have B' := G.below dp un gd
  have X' := G.kin
  have T' := G.top
  have hn' : n < 0 ∨ 1 < n := by omega
  clear hn
  rcases hn' with hn' | hn'
  · k_steps
    all_goals (rename Fr _ _ _ _ => F₈; refine ret_bool (s := s) (Q := Q) ret ?_ F₈.keep; simp; omega)
  · k_steps
    all_goals (rename Fr _ _ _ _ => F₈; refine ret_bool (s := s) (Q := Q) ret ?_ F₈.keep; simp; omega)

theorem c_is_signB_b {b : Bool} (G : Gd (Mine.KK w.params) Mine.view (looseW Mine.view [Str.ofString "MOST_NOUGHTS", Str.ofString "MOST_SIGNS"]) mean mg mb base fr s.heap) (hd : dp + 1 < recursionLimit) (hu : un + 110 < cLine)
    
    (ret : ∀ h' tk', s.heap.StaysIn h' → Q (.bool false) { s with heap := h', toks := tk' }) :
    wpAny (model PySem.Challenge.rw_uf040037_06.row.prog w) (arA dp un gd fr) (call (.ref 149) [.bool b]) Q E s := by
  revert G; k_fill; intro G
  refine' enter0 (binds := [(Str.ofString "sign", .bool b)]) G ?k6 ?k7 ?k8 ?k9 ?kB ?_ ?c2 ?c3 ?c4 ?c5
  case k6 => k_is
  case k7 => k_is
  case k8 => omega
  case k9 => exact BindsTo.of_eq rfl
  case kB => exact locs rfl
  case c2 => exact rfl
  case c3 => exact rfl
  case c4 => exact rfl
  case c5 => decide
  intro L' h' tk F'
  have N' : News s.heap L' h' [] := News.nil
  have B' := G.below dp un gd
  have X' := G.kin
  have T' := G.top
  k_steps
  all_goals (rename Fr _ _ _ _ => F₈; first | exact ret _ _ F₈.keep | (exfalso; omega))

theorem c_is_signB_n  (G : Gd (Mine.KK w.params) Mine.view (looseW Mine.view [Str.ofString "MOST_NOUGHTS", Str.ofString "MOST_SIGNS"]) mean mg mb base fr s.heap) (hd : dp + 1 < recursionLimit) (hu : un + 110 < cLine)
    
    (ret : ∀ h' tk', s.heap.StaysIn h' → Q (.bool false) { s with heap := h', toks := tk' }) :
    wpAny (model PySem.Challenge.rw_uf040037_06.row.prog w) (arA dp un gd fr) (call (.ref 149) [.none]) Q E s := by
  revert G; k_fill; intro G
  refine' enter0 (binds := [(Str.ofString "sign", .none)]) G ?k6 ?k7 ?k8 ?k9 ?kB ?_ ?c2 ?c3 ?c4 ?c5
  case k6 => k_is
  case k7 => k_is
  case k8 => omega
  case k9 => exact BindsTo.of_eq rfl
  case kB => exact locs rfl
  case c2 => exact rfl
  case c3 => exact rfl
  case c4 => exact rfl
  case c5 => decide
  intro L' h' tk F'
  have N' : News s.heap L' h' [] := News.nil
  have B' := G.below dp un gd
  have X' := G.kin
  have T' := G.top
  k_steps
  all_goals (rename Fr _ _ _ _ => F₈; first | exact ret _ _ F₈.keep | (exfalso; omega))

theorem c_is_signB_s {x : Str} {t : Tok} (G : Gd (Mine.KK w.params) Mine.view (looseW Mine.view [Str.ofString "MOST_NOUGHTS", Str.ofString "MOST_SIGNS"]) mean mg mb base fr s.heap) (hd : dp + 1 < recursionLimit) (hu : un + 110 < cLine)
    
    (ret : ∀ h' tk', s.heap.StaysIn h' → Q (.bool false) { s with heap := h', toks := tk' }) :
    wpAny (model PySem.Challenge.rw_uf040037_06.row.prog w) (arA dp un gd fr) (call (.ref 149) [.str x t]) Q E s := by
  revert G; k_fill; intro G
  refine' enter0 (binds := [(Str.ofString "sign", .str x t)]) G ?k6 ?k7 ?k8 ?k9 ?kB ?_ ?c2 ?c3 ?c4 ?c5
  case k6 => k_is
  case k7 => k_is
  case k8 => omega
  case k9 => exact BindsTo.of_eq rfl
  case kB => exact locs rfl
  case c2 => exact rfl
  case c3 => exact rfl
  case c4 => exact rfl
  case c5 => decide
  intro L' h' tk F'
  have N' : News s.heap L' h' [] := News.nil
  have B' := G.below dp un gd
  have X' := G.kin
  have T' := G.top
  k_steps
  all_goals (rename Fr _ _ _ _ => F₈; first | exact ret _ _ F₈.keep | (exfalso; omega))
section
local macro_rules | `(tactic| walk_at "call builtin:isinstance") => `(tactic| ((with_reducible show wpAny _ _ (call (Value.builtin _) [Value.ref _, Value.type "int"]) _ _ _); refine Mine.stop_of ?_))

theorem c_is_signB_l {l : Addr} {o : Obj} (G : Gd (Mine.KK w.params) Mine.view (looseW Mine.view [Str.ofString "MOST_NOUGHTS", Str.ofString "MOST_SIGNS"]) mean mg mb base fr s.heap) (hd : dp + 1 < recursionLimit) (hu : un + 110 < cLine)
    (hl : s.heap.get? l = some o) (hc : o.cls = .type "list")
    (ret : ∀ h' tk', s.heap.StaysIn h' → Q (.bool false) { s with heap := h', toks := tk' }) :
    wpAny (model PySem.Challenge.rw_uf040037_06.row.prog w) (arA dp un gd fr) (call (.ref 149) [.ref l]) Q E s := by
  revert G; k_fill; intro G
  refine' enter0 (binds := [(Str.ofString "sign", .ref l)]) G ?k6 ?k7 ?k8 ?k9 ?kB ?_ ?c2 ?c3 ?c4 ?c5
  case k6 => k_is
  case k7 => k_is
  case k8 => omega
  case k9 => exact BindsTo.of_eq rfl
  case kB => exact locs rfl
  case c2 => exact rfl
  case c3 => exact rfl
  case c4 => exact rfl
  case c5 => decide
  intro L' h' tk F'
  have N' : News s.heap L' h' [] := News.nil
  have B' := G.below dp un gd
  have X' := G.kin
  have T' := G.top
  k_steps
  rename Fr _ _ _ _ => F₂
  refine go_on (PySem.IsiPair.list_int (F₂.keep _ _ hl) hc ?_)
  dsimp only
  k_steps
  exact ret _ _ F₂.keep
end

theorem c_need_rowB {v : Value} (G : Gd (Mine.KK w.params) Mine.view (looseW Mine.view [Str.ofString "MOST_NOUGHTS", Str.ofString "MOST_SIGNS"]) mean mg mb base fr s.heap) (hd : dp + 3 < recursionLimit) (hu : un + 130 < cLine)
    (hb : BadP (InH s.heap) v) (raise : True → ∀ e t us h' tk', RaisedS base s.heap fr e (.ref 44) t us [] h' → s.heap.UpToSlots h' → E (.ref e) { s with heap := h', toks := tk' })
    (ret : True) :
    wpAny (model PySem.Challenge.rw_uf040037_06.row.prog w) (arA dp un gd fr) (call (.ref 156) [v]) Q E s := by
  revert G; k_fill; intro G
  refine' enter0 (binds := [(Str.ofString "row", v)]) G ?k6 ?k7 ?k8 ?k9 ?kB ?_ ?c2 ?c3 ?c4 ?c5
  case k6 => k_is
  case k7 => k_is
  case k8 => omega
  case k9 => exact BindsTo.of_eq rfl
  case kB => exact locs rfl
  case c2 => exact rfl
  case c3 => exact rfl
  case c4 => exact rfl
  case c5 => decide
  intro L' h' tk F'
  have N' : News s.heap L' h' [] := News.nil
  have B' := G.below dp un gd
  have X' := G.kin
  have T' := G.top
  rcases hb with rfl | ⟨n, t, rfl⟩ | ⟨b, rfl⟩ | ⟨x, t, rfl⟩ | ⟨l, o, rfl, hl, hc⟩ | ⟨l, o, rfl, hl, hc⟩ | ⟨l, us, x, ws, c, as, rfl, hl, hiu, hru, hx⟩
  · k_steps
    rename Heap.MadeExcOf _ _ _ _ _ => hx
    rename Fr _ _ _ _ => F₈
    exact go_on (A_raise G hx F₈ (fun h₉ t₉ R U => raise trivial _ _ _ _ _ R U) rfl)
  · k_steps
    rename Heap.MadeExcOf _ _ _ _ _ => hx
    rename Fr _ _ _ _ => F₈
    exact go_on (A_raise G hx F₈ (fun h₉ t₉ R U => raise trivial _ _ _ _ _ R U) rfl)
  · k_steps
    rename Heap.MadeExcOf _ _ _ _ _ => hx
    rename Fr _ _ _ _ => F₈
    exact go_on (A_raise G hx F₈ (fun h₉ t₉ R U => raise trivial _ _ _ _ _ R U) rfl)
  · k_steps
    rename Heap.MadeExcOf _ _ _ _ _ => hx
    rename Fr _ _ _ _ => F₈
    exact go_on (A_raise G hx F₈ (fun h₉ t₉ R U => raise trivial _ _ _ _ _ R U) rfl)
  · k_steps
    rename Heap.MadeExcOf _ _ _ _ _ => hx
    rename Fr _ _ _ _ => F₈
    exact go_on (A_raise G hx F₈ (fun h₉ t₉ R U => raise trivial _ _ _ _ _ R U) rfl)
  · k_steps
    rename Heap.MadeExcOf _ _ _ _ _ => hx
    rename Fr _ _ _ _ => F₈
    exact go_on (A_raise G hx F₈ (fun h₉ t₉ R U => raise trivial _ _ _ _ _ R U) rfl)
  have hL : s.heap.IsList l (List.toArray (us ++ x :: ws)) := ⟨_, hl, rfl, _, rfl⟩
  have hx' := go_on hx
  clear hx
  k_steps
  refine go_on (for_in F' (fun Q' q => ?_) (fun _ => rfl) (by passes_own))
  k_steps
  rename Fr _ _ _ _ => F₁
  rename News _ _ _ _ => N₁
  refine q _ _ (loop_vals (l := l) (vs := us ++ x :: ws) (news := []) (still := []) (fun i _ nx => nx = [] ∧ i ≤ us.length) rfl F₁ N₁ (lst_base F₁ hL) (.inr ⟨_, hl⟩) (fun p hp => nomatch hp) ⟨rfl, Nat.zero_le _⟩ ?_ ?_ rfl rfl)
  · rintro i v m₁ news₁ h₂ tk₂ own hv ho ⟨rfl, hi⟩ hso F₂ N₂
    clear F₁ N₁ hso
    by_cases hlt : i < us.length
    · rw [List.getElem?_append_left hlt] at hv
      obtain ⟨n, t, rfl, hn⟩ := ints_at hiu hv
      have hn01 := hru n (List.mem_of_getElem? hn)
      k_steps
      rename Fr _ _ _ _ => F₃
      rename News _ _ _ _ => N₃
      refine go_on (c_is_sign (G.push F₃ rfl) (by omega) (by omega) (fun h₄ tk₄ k₄ => ?_))
      have F₄ := fr_on F₃ k₄
      have N₄ := news_on N₃ k₄
      clear F₃ N₃ k₄
      rw [show (decide (0 ≤ n) && decide (n ≤ 1)) = true by rcases hn01 with h | h <;> subst h <;> rfl]
      dsimp only
      k_steps
      exact GEnd.intro (nx := []) F₄ N₄ ⟨rfl, hlt⟩ (List.forall_mem_nil _) (fun p hp => hp) (fun p hp c hc => nomatch hc)
    · have hie : i = us.length := by omega
      rw [List.getElem?_append_right (by omega), hie, Nat.sub_self, List.getElem?_cons_zero] at hv
      obtain rfl : x = v := Option.some.inj hv
      clear hv
      rcases (show NotSign (InH s.heap) x from hx') with ⟨n, t, rfl, hn⟩ | ⟨b, rfl⟩ | rfl | ⟨y, t, rfl⟩ | ⟨l₂, o, rfl, ho, hc⟩
      · k_steps
        rename Fr _ _ _ _ => F₃
        rename News _ _ _ _ => N₃
        refine go_on (c_is_signB_i (G.push F₃ rfl) (by omega) (by omega) hn (fun h₄ tk₄ k₄ => ?_))
        have F₄ := fr_on F₃ k₄
        have N₄ := news_on N₃ k₄
        clear F₃ N₃ k₄
        dsimp only
        k_steps
        rename Heap.MadeExcOf _ _ _ _ _ => hx
        rename Fr _ _ _ _ => F₈
        exact go_on (A_raise G hx F₈ (fun h₉ t₉ R U => raise trivial _ _ _ _ _ R U) rfl)
      · k_steps
        rename Fr _ _ _ _ => F₃
        rename News _ _ _ _ => N₃
        refine go_on (c_is_signB_b (G.push F₃ rfl) (by omega) (by omega)  (fun h₄ tk₄ k₄ => ?_))
        have F₄ := fr_on F₃ k₄
        have N₄ := news_on N₃ k₄
        clear F₃ N₃ k₄
        dsimp only
        k_steps
        rename Heap.MadeExcOf _ _ _ _ _ => hx
        rename Fr _ _ _ _ => F₈
        exact go_on (A_raise G hx F₈ (fun h₉ t₉ R U => raise trivial _ _ _ _ _ R U) rfl)
      · k_steps
        rename Fr _ _ _ _ => F₃
        rename News _ _ _ _ => N₃
        refine go_on (c_is_signB_n (G.push F₃ rfl) (by omega) (by omega)  (fun h₄ tk₄ k₄ => ?_))
        have F₄ := fr_on F₃ k₄
        have N₄ := news_on N₃ k₄
        clear F₃ N₃ k₄
        dsimp only
        k_steps
        rename Heap.MadeExcOf _ _ _ _ _ => hx
        rename Fr _ _ _ _ => F₈
        exact go_on (A_raise G hx F₈ (fun h₉ t₉ R U => raise trivial _ _ _ _ _ R U) rfl)
      · k_steps
        rename Fr _ _ _ _ => F₃
        rename News _ _ _ _ => N₃
        refine go_on (c_is_signB_s (G.push F₃ rfl) (by omega) (by omega)  (fun h₄ tk₄ k₄ => ?_))
        have F₄ := fr_on F₃ k₄
        have N₄ := news_on N₃ k₄
        clear F₃ N₃ k₄
        dsimp only
        k_steps
        rename Heap.MadeExcOf _ _ _ _ _ => hx
        rename Fr _ _ _ _ => F₈
        exact go_on (A_raise G hx F₈ (fun h₉ t₉ R U => raise trivial _ _ _ _ _ R U) rfl)
      · k_steps
        rename Fr _ _ _ _ => F₃
        rename News _ _ _ _ => N₃
        refine go_on (c_is_signB_l (G.push F₃ rfl) (by omega) (by omega) (F₃.keep _ _ ho) hc (fun h₄ tk₄ k₄ => ?_))
        have F₄ := fr_on F₃ k₄
        have N₄ := news_on N₃ k₄
        clear F₃ N₃ k₄
        dsimp only
        k_steps
        rename Heap.MadeExcOf _ _ _ _ _ => hx
        rename Fr _ _ _ _ => F₈
        exact go_on (A_raise G hx F₈ (fun h₉ t₉ R U => raise trivial _ _ _ _ _ R U) rfl)
  · rintro m₁ news₁ h₂ tk₂ ⟨_, hj⟩ F₂ N₂
    exfalso
    simp only [List.length_append, List.length_cons] at hj
    omega

theorem c_addedB1 {v : Value} {u : Value} (G : Gd (Mine.KK w.params) Mine.view (looseW Mine.view [Str.ofString "MOST_NOUGHTS", Str.ofString "MOST_SIGNS"]) mean mg mb base fr s.heap) (hd : dp + 4 < recursionLimit) (hu : un + 140 < cLine)
    (hb : BadP (InH s.heap) v) (raise : True → ∀ e t us h' tk', RaisedS base s.heap fr e (.ref 44) t us [] h' → s.heap.UpToSlots h' → E (.ref e) { s with heap := h', toks := tk' })
    (ret : True) :
    wpAny (model PySem.Challenge.rw_uf040037_06.row.prog w) (arA dp un gd fr) (call (.ref 175) [v, u]) Q E s := by
  revert G; k_fill; intro G
  refine' enter0 (binds := [(Str.ofString "one", v), (Str.ofString "other", u)]) G ?k6 ?k7 ?k8 ?k9 ?kB ?_ ?c2 ?c3 ?c4 ?c5
  case k6 => k_is
  case k7 => k_is
  case k8 => omega
  case k9 => exact BindsTo.of_eq rfl
  case kB => exact locs rfl
  case c2 => exact rfl
  case c3 => exact rfl
  case c4 => exact rfl
  case c5 => decide
  intro L' h' tk F'
  have N' : News s.heap L' h' [] := News.nil
  have B' := G.below dp un gd
  have X' := G.kin
  have T' := G.top
  have hb' := go_on hb
  clear hb

  k_steps
  rename Fr _ _ _ _ => F₂
  rename News _ _ _ _ => N₂
  refine go_on (c_need_rowB (G.push F₂ rfl) (by omega) (by omega) (BadP.mono F₂.keep hb') (fun _ e t us h₃ tk₃ R U => ?_) trivial)
  exact A_on G F₂ R U (fun h₄ R₄ U₄ => raise trivial _ _ _ _ _ R₄ U₄)

theorem c_addedB2 {v : Value} {l : Addr} {vs : List Value} {ns : List Int} (G : Gd (Mine.KK w.params) Mine.view (looseW Mine.view [Str.ofString "MOST_NOUGHTS", Str.ofString "MOST_SIGNS"]) mean mg mb base fr s.heap) (hd : dp + 4 < recursionLimit) (hu : un + 140 < cLine)
    (hb : BadP (InH s.heap) v)  (hl : s.heap.IsList l vs.toArray) (hi : IntsAre vs ns) (hz : ns.length ≤ 10000) (hr : IsRow ns) (raise : True → ∀ e t us h' tk', RaisedS base s.heap fr e (.ref 44) t us [] h' → s.heap.UpToSlots h' → E (.ref e) { s with heap := h', toks := tk' })
    (ret : True) :
    wpAny (model PySem.Challenge.rw_uf040037_06.row.prog w) (arA dp un gd fr) (call (.ref 175) [.ref l, v]) Q E s := by
  revert G; k_fill; intro G
  refine' enter0 (binds := [(Str.ofString "one", .ref l), (Str.ofString "other", v)]) G ?k6 ?k7 ?k8 ?k9 ?kB ?_ ?c2 ?c3 ?c4 ?c5
  case k6 => k_is
  case k7 => k_is
  case k8 => omega
  case k9 => exact BindsTo.of_eq rfl
  case kB => exact locs rfl
  case c2 => exact rfl
  case c3 => exact rfl
  case c4 => exact rfl
  case c5 => decide
  intro L' h' tk F'
  have N' : News s.heap L' h' [] := News.nil
  have B' := G.below dp un gd
  have X' := G.kin
  have T' := G.top
  have hb' := go_on hb
  clear hb

  k_steps
  rename Fr _ _ _ _ => F₂
  rename News _ _ _ _ => N₂
  refine go_on (c_need_rowB (G.push F₂ rfl) (by omega) (by omega) (BadP.mono F₂.keep hb') (fun _ e t us h₃ tk₃ R U => ?_) trivial)
  exact A_on G F₂ R U (fun h₄ R₄ U₄ => raise trivial _ _ _ _ _ R₄ U₄)

theorem c_timesB1 {v : Value} {u : Value} (G : Gd (Mine.KK w.params) Mine.view (looseW Mine.view [Str.ofString "MOST_NOUGHTS", Str.ofString "MOST_SIGNS"]) mean mg mb base fr s.heap) (hd : dp + 4 < recursionLimit) (hu : un + 140 < cLine)
    (hb : BadP (InH s.heap) v) (raise : True → ∀ e t us h' tk', RaisedS base s.heap fr e (.ref 44) t us [] h' → s.heap.UpToSlots h' → E (.ref e) { s with heap := h', toks := tk' })
    (ret : True) :
    wpAny (model PySem.Challenge.rw_uf040037_06.row.prog w) (arA dp un gd fr) (call (.ref 182) [v, u]) Q E s := by
  revert G; k_fill; intro G
  refine' enter0 (binds := [(Str.ofString "one", v), (Str.ofString "other", u)]) G ?k6 ?k7 ?k8 ?k9 ?kB ?_ ?c2 ?c3 ?c4 ?c5
  case k6 => k_is
  case k7 => k_is
  case k8 => omega
  case k9 => exact BindsTo.of_eq rfl
  case kB => exact locs rfl
  case c2 => exact rfl
  case c3 => exact rfl
  case c4 => exact rfl
  case c5 => decide
  intro L' h' tk F'
  have N' : News s.heap L' h' [] := News.nil
  have B' := G.below dp un gd
  have X' := G.kin
  have T' := G.top
  have hb' := go_on hb
  clear hb

  k_steps
  rename Fr _ _ _ _ => F₂
  rename News _ _ _ _ => N₂
  refine go_on (c_need_rowB (G.push F₂ rfl) (by omega) (by omega) (BadP.mono F₂.keep hb') (fun _ e t us h₃ tk₃ R U => ?_) trivial)
  exact A_on G F₂ R U (fun h₄ R₄ U₄ => raise trivial _ _ _ _ _ R₄ U₄)

theorem c_timesB2 {v : Value} {l : Addr} {vs : List Value} {ns : List Int} (G : Gd (Mine.KK w.params) Mine.view (looseW Mine.view [Str.ofString "MOST_NOUGHTS", Str.ofString "MOST_SIGNS"]) mean mg mb base fr s.heap) (hd : dp + 4 < recursionLimit) (hu : un + 140 < cLine)
    (hb : BadP (InH s.heap) v)  (hl : s.heap.IsList l vs.toArray) (hi : IntsAre vs ns) (hz : ns.length ≤ 10000) (hr : IsRow ns) (raise : True → ∀ e t us h' tk', RaisedS base s.heap fr e (.ref 44) t us [] h' → s.heap.UpToSlots h' → E (.ref e) { s with heap := h', toks := tk' })
    (ret : True) :
    wpAny (model PySem.Challenge.rw_uf040037_06.row.prog w) (arA dp un gd fr) (call (.ref 182) [.ref l, v]) Q E s := by
  revert G; k_fill; intro G
  refine' enter0 (binds := [(Str.ofString "one", .ref l), (Str.ofString "other", v)]) G ?k6 ?k7 ?k8 ?k9 ?kB ?_ ?c2 ?c3 ?c4 ?c5
  case k6 => k_is
  case k7 => k_is
  case k8 => omega
  case k9 => exact BindsTo.of_eq rfl
  case kB => exact locs rfl
  case c2 => exact rfl
  case c3 => exact rfl
  case c4 => exact rfl
  case c5 => decide
  intro L' h' tk F'
  have N' : News s.heap L' h' [] := News.nil
  have B' := G.below dp un gd
  have X' := G.kin
  have T' := G.top
  have hb' := go_on hb
  clear hb

  k_steps
  rename Fr _ _ _ _ => F₂
  rename News _ _ _ _ => N₂
  refine go_on (c_need_rowB (G.push F₂ rfl) (by omega) (by omega) (BadP.mono F₂.keep hb') (fun _ e t us h₃ tk₃ R U => ?_) trivial)
  exact A_on G F₂ R U (fun h₄ R₄ U₄ => raise trivial _ _ _ _ _ R₄ U₄)

theorem c_partedB1 {v : Value} {u : Value} (G : Gd (Mine.KK w.params) Mine.view (looseW Mine.view [Str.ofString "MOST_NOUGHTS", Str.ofString "MOST_SIGNS"]) mean mg mb base fr s.heap) (hd : dp + 4 < recursionLimit) (hu : un + 140 < cLine)
    (hb : BadP (InH s.heap) v) (raise : True → ∀ e t us h' tk', RaisedS base s.heap fr e (.ref 44) t us [] h' → s.heap.UpToSlots h' → E (.ref e) { s with heap := h', toks := tk' })
    (ret : True) :
    wpAny (model PySem.Challenge.rw_uf040037_06.row.prog w) (arA dp un gd fr) (call (.ref 189) [v, u]) Q E s := by
  revert G; k_fill; intro G
  refine' enter0 (binds := [(Str.ofString "row", v), (Str.ofString "divisor", u)]) G ?k6 ?k7 ?k8 ?k9 ?kB ?_ ?c2 ?c3 ?c4 ?c5
  case k6 => k_is
  case k7 => k_is
  case k8 => omega
  case k9 => exact BindsTo.of_eq rfl
  case kB => exact locs rfl
  case c2 => exact rfl
  case c3 => exact rfl
  case c4 => exact rfl
  case c5 => decide
  intro L' h' tk F'
  have N' : News s.heap L' h' [] := News.nil
  have B' := G.below dp un gd
  have X' := G.kin
  have T' := G.top
  have hb' := go_on hb
  clear hb

  k_steps
  rename Fr _ _ _ _ => F₂
  rename News _ _ _ _ => N₂
  refine go_on (c_need_rowB (G.push F₂ rfl) (by omega) (by omega) (BadP.mono F₂.keep hb') (fun _ e t us h₃ tk₃ R U => ?_) trivial)
  exact A_on G F₂ R U (fun h₄ R₄ U₄ => raise trivial _ _ _ _ _ R₄ U₄)

theorem c_partedB2 {v : Value} {l : Addr} {vs : List Value} {ns : List Int} (G : Gd (Mine.KK w.params) Mine.view (looseW Mine.view [Str.ofString "MOST_NOUGHTS", Str.ofString "MOST_SIGNS"]) mean mg mb base fr s.heap) (hd : dp + 4 < recursionLimit) (hu : un + 140 < cLine)
    (hb : BadP (InH s.heap) v)  (hl : s.heap.IsList l vs.toArray) (hi : IntsAre vs ns) (hz : ns.length ≤ 10000) (hr : IsRow ns) (raise : True → ∀ e t us h' tk', RaisedS base s.heap fr e (.ref 44) t us [] h' → s.heap.UpToSlots h' → E (.ref e) { s with heap := h', toks := tk' })
    (ret : True) :
    wpAny (model PySem.Challenge.rw_uf040037_06.row.prog w) (arA dp un gd fr) (call (.ref 189) [.ref l, v]) Q E s := by
  revert G; k_fill; intro G
  refine' enter0 (binds := [(Str.ofString "row", .ref l), (Str.ofString "divisor", v)]) G ?k6 ?k7 ?k8 ?k9 ?kB ?_ ?c2 ?c3 ?c4 ?c5
  case k6 => k_is
  case k7 => k_is
  case k8 => omega
  case k9 => exact BindsTo.of_eq rfl
  case kB => exact locs rfl
  case c2 => exact rfl
  case c3 => exact rfl
  case c4 => exact rfl
  case c5 => decide
  intro L' h' tk F'
  have N' : News s.heap L' h' [] := News.nil
  have B' := G.below dp un gd
  have X' := G.kin
  have T' := G.top
  have hb' := go_on hb
  clear hb

  k_steps
  rename Fr _ _ _ _ => F₂
  rename News _ _ _ _ => N₂
  refine go_on (c_need_rowB (G.push F₂ rfl) (by omega) (by omega) (BadP.mono F₂.keep hb') (fun _ e t us h₃ tk₃ R U => ?_) trivial)
  exact A_on G F₂ R U (fun h₄ R₄ U₄ => raise trivial _ _ _ _ _ R₄ U₄)

theorem c_need_divisorB {v : Value} (G : Gd (Mine.KK w.params) Mine.view (looseW Mine.view [Str.ofString "MOST_NOUGHTS", Str.ofString "MOST_SIGNS"]) mean mg mb base fr s.heap) (hd : dp + 4 < recursionLimit) (hu : un + 140 < cLine)
    (hb : BadP (InH s.heap) v) (raise : True → ∀ e t us h' tk', RaisedS base s.heap fr e (.ref 44) t us [] h' → s.heap.UpToSlots h' → E (.ref e) { s with heap := h', toks := tk' })
    (ret : True) :
    wpAny (model PySem.Challenge.rw_uf040037_06.row.prog w) (arA dp un gd fr) (call (.ref 196) [v]) Q E s := by
  revert G; k_fill; intro G
  refine' enter0 (binds := [(Str.ofString "divisor", v)]) G ?k6 ?k7 ?k8 ?k9 ?kB ?_ ?c2 ?c3 ?c4 ?c5
  case k6 => k_is
  case k7 => k_is
  case k8 => omega
  case k9 => exact BindsTo.of_eq rfl
  case kB => exact locs rfl
  case c2 => exact rfl
  case c3 => exact rfl
  case c4 => exact rfl
  case c5 => decide
  intro L' h' tk F'
  have N' : News s.heap L' h' [] := News.nil
  have B' := G.below dp un gd
  have X' := G.kin
  have T' := G.top
  have hb' := go_on hb
  clear hb

  k_steps
  rename Fr _ _ _ _ => F₂
  rename News _ _ _ _ => N₂
  refine go_on (c_need_rowB (G.push F₂ rfl) (by omega) (by omega) (BadP.mono F₂.keep hb') (fun _ e t us h₃ tk₃ R U => ?_) trivial)
  exact A_on G F₂ R U (fun h₄ R₄ U₄ => raise trivial _ _ _ _ _ R₄ U₄)

theorem c_reachB {v : Value} (G : Gd (Mine.KK w.params) Mine.view (looseW Mine.view [Str.ofString "MOST_NOUGHTS", Str.ofString "MOST_SIGNS"]) mean mg mb base fr s.heap) (hd : dp + 5 < recursionLimit) (hu : un + 150 < cLine)
    (hb : BadP (InH s.heap) v) (raise : True → ∀ e t us h' tk', RaisedS base s.heap fr e (.ref 44) t us [] h' → s.heap.UpToSlots h' → E (.ref e) { s with heap := h', toks := tk' })
    (ret : True) :
    wpAny (model PySem.Challenge.rw_uf040037_06.row.prog w) (arA dp un gd fr) (call (.ref 210) [v]) Q E s := by
  revert G; k_fill; intro G
  refine' enter0 (binds := [(Str.ofString "divisor", v)]) G ?k6 ?k7 ?k8 ?k9 ?kB ?_ ?c2 ?c3 ?c4 ?c5
  case k6 => k_is
  case k7 => k_is
  case k8 => omega
  case k9 => exact BindsTo.of_eq rfl
  case kB => exact locs rfl
  case c2 => exact rfl
  case c3 => exact rfl
  case c4 => exact rfl
  case c5 => decide
  intro L' h' tk F'
  have N' : News s.heap L' h' [] := News.nil
  have B' := G.below dp un gd
  have X' := G.kin
  have T' := G.top
  have hb' := go_on hb
  clear hb

  k_steps
  rename Fr _ _ _ _ => F₂
  rename News _ _ _ _ => N₂
  refine go_on (c_need_divisorB (G.push F₂ rfl) (by omega) (by omega) (BadP.mono F₂.keep hb') (fun _ e t us h₃ tk₃ R U => ?_) trivial)
  exact A_on G F₂ R U (fun h₄ R₄ U₄ => raise trivial _ _ _ _ _ R₄ U₄)

theorem c_text_ofB {v : Value} (G : Gd (Mine.KK w.params) Mine.view (looseW Mine.view [Str.ofString "MOST_NOUGHTS", Str.ofString "MOST_SIGNS"]) mean mg mb base fr s.heap) (hd : dp + 4 < recursionLimit) (hu : un + 140 < cLine)
    (hb : BadP (InH s.heap) v) (raise : True → ∀ e t us h' tk', RaisedS base s.heap fr e (.ref 44) t us [] h' → s.heap.UpToSlots h' → E (.ref e) { s with heap := h', toks := tk' })
    (ret : True) :
    wpAny (model PySem.Challenge.rw_uf040037_06.row.prog w) (arA dp un gd fr) (call (.ref 308) [v]) Q E s := by
  revert G; k_fill; intro G
  refine' enter0 (binds := [(Str.ofString "row", v)]) G ?k6 ?k7 ?k8 ?k9 ?kB ?_ ?c2 ?c3 ?c4 ?c5
  case k6 => k_is
  case k7 => k_is
  case k8 => omega
  case k9 => exact BindsTo.of_eq rfl
  case kB => exact locs rfl
  case c2 => exact rfl
  case c3 => exact rfl
  case c4 => exact rfl
  case c5 => decide
  intro L' h' tk F'
  have N' : News s.heap L' h' [] := News.nil
  have B' := G.below dp un gd
  have X' := G.kin
  have T' := G.top
  have hb' := go_on hb
  clear hb

  k_steps
  rename Fr _ _ _ _ => F₂
  rename News _ _ _ _ => N₂
  refine go_on (c_need_rowB (G.push F₂ rfl) (by omega) (by omega) (BadP.mono F₂.keep hb') (fun _ e t us h₃ tk₃ R U => ?_) trivial)
  exact A_on G F₂ R U (fun h₄ R₄ U₄ => raise trivial _ _ _ _ _ R₄ U₄)
section
local macro_rules | `(tactic| walk_at "getAttr ref") => `(tactic| (k_dflt (refine' Mine.get_ownS ?k1 ?k2 ?k3 ?k4 ?k5 ?k6 ?k7 ?k8 ?k9 ?_; (case k1 => k_asm); (case k2 => k_asm); (case k3 => exact Mine.inst_base (by assumption) (by assumption)); (case k4 => k_is); (case k5 => k_is); (case k6 => k_is); (case k7 => k_is); (case k8 => k_get); (case k9 => k_handed))))
local macro_rules | `(tactic| walk_at "getMethod ref") => `(tactic| (k_dflt (refine' Mine.method_instS ?k1 ?k2 ?k3 ?k4 ?k5 ?k6 ?k7 ?_; (case k1 => k_asm); (case k2 => k_asm); (case k3 => exact Mine.inst_base (by assumption) (by assumption)); (case k4 => k_is); (case k5 => k_is); (case k6 => k_is); (case k7 => k_get))))

theorem c_Gate_restB {v : Value} {x : Addr} {P : Nat} {ds : List Int} (G : Gd (Mine.KK w.params) Mine.view (looseW Mine.view [Str.ofString "MOST_NOUGHTS", Str.ofString "MOST_SIGNS"]) mean mg mb base fr s.heap) (hd : dp + 5 < recursionLimit) (hu : un + 150 < cLine)
    (hG : GateAt w.params 276 s.heap x P ds) (hdv : IsDiv ds) (hP : Reach ds P) (hb : BadP (InH s.heap) v) (raise : True → ∀ e t us h' tk', RaisedS base s.heap fr e (.ref 44) t us [] h' → s.heap.UpToSlots h' → E (.ref e) { s with heap := h', toks := tk' })
    (ret : True) :
    wpAny (model PySem.Challenge.rw_uf040037_06.row.prog w) (arA dp un gd fr) (call (.ref 231) [.ref x, v]) Q E s := by
  revert G; k_fill; intro G
  refine' enter0 (binds := [(Str.ofString "self", .ref x), (Str.ofString "row", v)]) G ?k6 ?k7 ?k8 ?k9 ?kB ?_ ?c2 ?c3 ?c4 ?c5
  case k6 => k_is
  case k7 => k_is
  case k8 => omega
  case k9 => exact BindsTo.of_eq rfl
  case kB => exact locs rfl
  case c2 => exact rfl
  case c3 => exact rfl
  case c4 => exact rfl
  case c5 => decide
  intro L' h' tk F'
  have N' : News s.heap L' h' [] := News.nil
  have B' := G.below dp un gd
  have X' := G.kin
  have T' := G.top
  have hb' := go_on hb
  clear hb
  have hG₀ := go_on hG

  obtain ⟨dx, lD, sl1, sl2, vD, t0, t1, t2, t3, tP, tw, hIn, hlD, hiD⟩ := hG
  have hz1 : 2 ≤ ds.length := hdv.least
  have hz2 : ds.length ≤ 13 := hdv.most
  have hrd : IsRow ds := hdv.row
  have hP1 : 1 ≤ P := hP.pos
  have hP2 : P ≤ 4095 := by obtain ⟨P', h1, h2⟩ := hdv.reach; rw [hP.unique h1]; exact h2

  k_steps
  rename Fr _ _ _ _ => F₂
  rename News _ _ _ _ => N₂
  refine go_on (c_partedB1 (G.push F₂ rfl) (by omega) (by omega) (BadP.mono F₂.keep hb') (fun _ e t us h₃ tk₃ R U => ?_) trivial)
  exact A_on G F₂ R U (fun h₄ R₄ U₄ => raise trivial _ _ _ _ _ R₄ U₄)

theorem c_Gate_laterB {v : Value} {x : Addr} {P : Nat} {ds : List Int} {u : Value} (G : Gd (Mine.KK w.params) Mine.view (looseW Mine.view [Str.ofString "MOST_NOUGHTS", Str.ofString "MOST_SIGNS"]) mean mg mb base fr s.heap) (hd : dp + 4 < recursionLimit) (hu : un + 140 < cLine)
    (hG : GateAt w.params 276 s.heap x P ds) (hdv : IsDiv ds) (hP : Reach ds P) (hb : BadP (InH s.heap) v) (raise : True → ∀ e t us h' tk', RaisedS base s.heap fr e (.ref 44) t us [] h' → s.heap.UpToSlots h' → E (.ref e) { s with heap := h', toks := tk' })
    (ret : True) :
    wpAny (model PySem.Challenge.rw_uf040037_06.row.prog w) (arA dp un gd fr) (call (.ref 238) [.ref x, v, u]) Q E s := by
  revert G; k_fill; intro G
  refine' enter0 (binds := [(Str.ofString "self", .ref x), (Str.ofString "rest", v), (Str.ofString "many", u)]) G ?k6 ?k7 ?k8 ?k9 ?kB ?_ ?c2 ?c3 ?c4 ?c5
  case k6 => k_is
  case k7 => k_is
  case k8 => omega
  case k9 => exact BindsTo.of_eq rfl
  case kB => exact locs rfl
  case c2 => exact rfl
  case c3 => exact rfl
  case c4 => exact rfl
  case c5 => decide
  intro L' h' tk F'
  have N' : News s.heap L' h' [] := News.nil
  have B' := G.below dp un gd
  have X' := G.kin
  have T' := G.top
  have hb' := go_on hb
  clear hb
  have hG₀ := go_on hG

  obtain ⟨dx, lD, sl1, sl2, vD, t0, t1, t2, t3, tP, tw, hIn, hlD, hiD⟩ := hG
  have hz1 : 2 ≤ ds.length := hdv.least
  have hz2 : ds.length ≤ 13 := hdv.most
  have hrd : IsRow ds := hdv.row
  have hP1 : 1 ≤ P := hP.pos
  have hP2 : P ≤ 4095 := by obtain ⟨P', h1, h2⟩ := hdv.reach; rw [hP.unique h1]; exact h2

  k_steps
  rename Fr _ _ _ _ => F₂
  rename News _ _ _ _ => N₂
  refine go_on (c_need_rowB (G.push F₂ rfl) (by omega) (by omega) (BadP.mono F₂.keep hb') (fun _ e t us h₃ tk₃ R U => ?_) trivial)
  exact A_on G F₂ R U (fun h₄ R₄ U₄ => raise trivial _ _ _ _ _ R₄ U₄)

theorem c_Gate_checkB {v : Value} {x : Addr} {P : Nat} {ds : List Int} (G : Gd (Mine.KK w.params) Mine.view (looseW Mine.view [Str.ofString "MOST_NOUGHTS", Str.ofString "MOST_SIGNS"]) mean mg mb base fr s.heap) (hd : dp + 6 < recursionLimit) (hu : un + 160 < cLine)
    (hG : GateAt w.params 276 s.heap x P ds) (hdv : IsDiv ds) (hP : Reach ds P) (hb : BadP (InH s.heap) v) (raise : True → ∀ e t us h' tk', RaisedS base s.heap fr e (.ref 44) t us [] h' → s.heap.UpToSlots h' → E (.ref e) { s with heap := h', toks := tk' })
    (ret : True) :
    wpAny (model PySem.Challenge.rw_uf040037_06.row.prog w) (arA dp un gd fr) (call (.ref 245) [.ref x, v]) Q E s := by
  revert G; k_fill; intro G
  refine' enter0 (binds := [(Str.ofString "self", .ref x), (Str.ofString "row", v)]) G ?k6 ?k7 ?k8 ?k9 ?kB ?_ ?c2 ?c3 ?c4 ?c5
  case k6 => k_is
  case k7 => k_is
  case k8 => omega
  case k9 => exact BindsTo.of_eq rfl
  case kB => exact locs rfl
  case c2 => exact rfl
  case c3 => exact rfl
  case c4 => exact rfl
  case c5 => decide
  intro L' h' tk F'
  have N' : News s.heap L' h' [] := News.nil
  have B' := G.below dp un gd
  have X' := G.kin
  have T' := G.top
  have hb' := go_on hb
  clear hb
  have hG₀ := go_on hG

  obtain ⟨dx, lD, sl1, sl2, vD, t0, t1, t2, t3, tP, tw, hIn, hlD, hiD⟩ := hG
  have hz1 : 2 ≤ ds.length := hdv.least
  have hz2 : ds.length ≤ 13 := hdv.most
  have hrd : IsRow ds := hdv.row
  have hP1 : 1 ≤ P := hP.pos
  have hP2 : P ≤ 4095 := by obtain ⟨P', h1, h2⟩ := hdv.reach; rw [hP.unique h1]; exact h2

  k_steps
  rename Fr _ _ _ _ => F₂
  rename News _ _ _ _ => N₂
  refine go_on (c_Gate_restB (G.push F₂ rfl) (by omega) (by omega) (gate_base F₂ hG₀) hdv hP (BadP.mono F₂.keep hb') (fun _ e t us h₃ tk₃ R U => ?_) trivial)
  exact A_on G F₂ R U (fun h₄ R₄ U₄ => raise trivial _ _ _ _ _ R₄ U₄)

theorem c_Gate_sealedB {v : Value} {x : Addr} {P : Nat} {ds : List Int} (G : Gd (Mine.KK w.params) Mine.view (looseW Mine.view [Str.ofString "MOST_NOUGHTS", Str.ofString "MOST_SIGNS"]) mean mg mb base fr s.heap) (hd : dp + 4 < recursionLimit) (hu : un + 140 < cLine)
    (hG : GateAt w.params 276 s.heap x P ds) (hdv : IsDiv ds) (hP : Reach ds P) (hb : BadP (InH s.heap) v) (raise : True → ∀ e t us h' tk', RaisedS base s.heap fr e (.ref 44) t us [] h' → s.heap.UpToSlots h' → E (.ref e) { s with heap := h', toks := tk' })
    (ret : True) :
    wpAny (model PySem.Challenge.rw_uf040037_06.row.prog w) (arA dp un gd fr) (call (.ref 252) [.ref x, v]) Q E s := by
  revert G; k_fill; intro G
  refine' enter0 (binds := [(Str.ofString "self", .ref x), (Str.ofString "row", v)]) G ?k6 ?k7 ?k8 ?k9 ?kB ?_ ?c2 ?c3 ?c4 ?c5
  case k6 => k_is
  case k7 => k_is
  case k8 => omega
  case k9 => exact BindsTo.of_eq rfl
  case kB => exact locs rfl
  case c2 => exact rfl
  case c3 => exact rfl
  case c4 => exact rfl
  case c5 => decide
  intro L' h' tk F'
  have N' : News s.heap L' h' [] := News.nil
  have B' := G.below dp un gd
  have X' := G.kin
  have T' := G.top
  have hb' := go_on hb
  clear hb
  have hG₀ := go_on hG

  obtain ⟨dx, lD, sl1, sl2, vD, t0, t1, t2, t3, tP, tw, hIn, hlD, hiD⟩ := hG
  have hz1 : 2 ≤ ds.length := hdv.least
  have hz2 : ds.length ≤ 13 := hdv.most
  have hrd : IsRow ds := hdv.row
  have hP1 : 1 ≤ P := hP.pos
  have hP2 : P ≤ 4095 := by obtain ⟨P', h1, h2⟩ := hdv.reach; rw [hP.unique h1]; exact h2

  k_steps
  rename Fr _ _ _ _ => F₂
  rename News _ _ _ _ => N₂
  refine go_on (c_need_rowB (G.push F₂ rfl) (by omega) (by omega) (BadP.mono F₂.keep hb') (fun _ e t us h₃ tk₃ R U => ?_) trivial)
  exact A_on G F₂ R U (fun h₄ R₄ U₄ => raise trivial _ _ _ _ _ R₄ U₄)

theorem c_Gate_holdsB {v : Value} {x : Addr} {P : Nat} {ds : List Int} (G : Gd (Mine.KK w.params) Mine.view (looseW Mine.view [Str.ofString "MOST_NOUGHTS", Str.ofString "MOST_SIGNS"]) mean mg mb base fr s.heap) (hd : dp + 4 < recursionLimit) (hu : un + 140 < cLine)
    (hG : GateAt w.params 276 s.heap x P ds) (hdv : IsDiv ds) (hP : Reach ds P) (hb : BadP (InH s.heap) v) (raise : True → ∀ e t us h' tk', RaisedS base s.heap fr e (.ref 44) t us [] h' → s.heap.UpToSlots h' → E (.ref e) { s with heap := h', toks := tk' })
    (ret : True) :
    wpAny (model PySem.Challenge.rw_uf040037_06.row.prog w) (arA dp un gd fr) (call (.ref 259) [.ref x, v]) Q E s := by
  revert G; k_fill; intro G
  refine' enter0 (binds := [(Str.ofString "self", .ref x), (Str.ofString "row", v)]) G ?k6 ?k7 ?k8 ?k9 ?kB ?_ ?c2 ?c3 ?c4 ?c5
  case k6 => k_is
  case k7 => k_is
  case k8 => omega
  case k9 => exact BindsTo.of_eq rfl
  case kB => exact locs rfl
  case c2 => exact rfl
  case c3 => exact rfl
  case c4 => exact rfl
  case c5 => decide
  intro L' h' tk F'
  have N' : News s.heap L' h' [] := News.nil
  have B' := G.below dp un gd
  have X' := G.kin
  have T' := G.top
  have hb' := go_on hb
  clear hb
  have hG₀ := go_on hG

  obtain ⟨dx, lD, sl1, sl2, vD, t0, t1, t2, t3, tP, tw, hIn, hlD, hiD⟩ := hG
  have hz1 : 2 ≤ ds.length := hdv.least
  have hz2 : ds.length ≤ 13 := hdv.most
  have hrd : IsRow ds := hdv.row
  have hP1 : 1 ≤ P := hP.pos
  have hP2 : P ≤ 4095 := by obtain ⟨P', h1, h2⟩ := hdv.reach; rw [hP.unique h1]; exact h2

  k_steps
  rename Fr _ _ _ _ => F₂
  rename News _ _ _ _ => N₂
  refine go_on (c_need_rowB (G.push F₂ rfl) (by omega) (by omega) (BadP.mono F₂.keep hb') (fun _ e t us h₃ tk₃ R U => ?_) trivial)
  exact A_on G F₂ R U (fun h₄ R₄ U₄ => raise trivial _ _ _ _ _ R₄ U₄)

theorem c_Gate_openedB {v : Value} {x : Addr} {P : Nat} {ds : List Int} (G : Gd (Mine.KK w.params) Mine.view (looseW Mine.view [Str.ofString "MOST_NOUGHTS", Str.ofString "MOST_SIGNS"]) mean mg mb base fr s.heap) (hd : dp + 5 < recursionLimit) (hu : un + 150 < cLine)
    (hG : GateAt w.params 276 s.heap x P ds) (hdv : IsDiv ds) (hP : Reach ds P) (hb : BadP (InH s.heap) v) (raise : True → ∀ e t us h' tk', RaisedS base s.heap fr e (.ref 44) t us [] h' → s.heap.UpToSlots h' → E (.ref e) { s with heap := h', toks := tk' })
    (ret : True) :
    wpAny (model PySem.Challenge.rw_uf040037_06.row.prog w) (arA dp un gd fr) (call (.ref 266) [.ref x, v]) Q E s := by
  revert G; k_fill; intro G
  refine' enter0 (binds := [(Str.ofString "self", .ref x), (Str.ofString "row", v)]) G ?k6 ?k7 ?k8 ?k9 ?kB ?_ ?c2 ?c3 ?c4 ?c5
  case k6 => k_is
  case k7 => k_is
  case k8 => omega
  case k9 => exact BindsTo.of_eq rfl
  case kB => exact locs rfl
  case c2 => exact rfl
  case c3 => exact rfl
  case c4 => exact rfl
  case c5 => decide
  intro L' h' tk F'
  have N' : News s.heap L' h' [] := News.nil
  have B' := G.below dp un gd
  have X' := G.kin
  have T' := G.top
  have hb' := go_on hb
  clear hb
  have hG₀ := go_on hG

  obtain ⟨dx, lD, sl1, sl2, vD, t0, t1, t2, t3, tP, tw, hIn, hlD, hiD⟩ := hG
  have hz1 : 2 ≤ ds.length := hdv.least
  have hz2 : ds.length ≤ 13 := hdv.most
  have hrd : IsRow ds := hdv.row
  have hP1 : 1 ≤ P := hP.pos
  have hP2 : P ≤ 4095 := by obtain ⟨P', h1, h2⟩ := hdv.reach; rw [hP.unique h1]; exact h2

  k_steps
  rename Fr _ _ _ _ => F₂
  rename News _ _ _ _ => N₂
  refine go_on (c_Gate_holdsB (G.push F₂ rfl) (by omega) (by omega) (gate_base F₂ hG₀) hdv hP (BadP.mono F₂.keep hb') (fun _ e t us h₃ tk₃ R U => ?_) trivial)
  exact A_on G F₂ R U (fun h₄ R₄ U₄ => raise trivial _ _ _ _ _ R₄ U₄)

theorem c_Gate_mendedB {v : Value} {x : Addr} {P : Nat} {ds : List Int} (G : Gd (Mine.KK w.params) Mine.view (looseW Mine.view [Str.ofString "MOST_NOUGHTS", Str.ofString "MOST_SIGNS"]) mean mg mb base fr s.heap) (hd : dp + 5 < recursionLimit) (hu : un + 150 < cLine)
    (hG : GateAt w.params 276 s.heap x P ds) (hdv : IsDiv ds) (hP : Reach ds P) (hb : BadP (InH s.heap) v) (raise : True → ∀ e t us h' tk', RaisedS base s.heap fr e (.ref 44) t us [] h' → s.heap.UpToSlots h' → E (.ref e) { s with heap := h', toks := tk' })
    (ret : True) :
    wpAny (model PySem.Challenge.rw_uf040037_06.row.prog w) (arA dp un gd fr) (call (.ref 273) [.ref x, v]) Q E s := by
  revert G; k_fill; intro G
  refine' enter0 (binds := [(Str.ofString "self", .ref x), (Str.ofString "row", v)]) G ?k6 ?k7 ?k8 ?k9 ?kB ?_ ?c2 ?c3 ?c4 ?c5
  case k6 => k_is
  case k7 => k_is
  case k8 => omega
  case k9 => exact BindsTo.of_eq rfl
  case kB => exact locs rfl
  case c2 => exact rfl
  case c3 => exact rfl
  case c4 => exact rfl
  case c5 => decide
  intro L' h' tk F'
  have N' : News s.heap L' h' [] := News.nil
  have B' := G.below dp un gd
  have X' := G.kin
  have T' := G.top
  have hb' := go_on hb
  clear hb
  have hG₀ := go_on hG

  obtain ⟨dx, lD, sl1, sl2, vD, t0, t1, t2, t3, tP, tw, hIn, hlD, hiD⟩ := hG
  have hz1 : 2 ≤ ds.length := hdv.least
  have hz2 : ds.length ≤ 13 := hdv.most
  have hrd : IsRow ds := hdv.row
  have hP1 : 1 ≤ P := hP.pos
  have hP2 : P ≤ 4095 := by obtain ⟨P', h1, h2⟩ := hdv.reach; rw [hP.unique h1]; exact h2

  k_steps
  rename Fr _ _ _ _ => F₂
  rename News _ _ _ _ => N₂
  refine go_on (c_Gate_holdsB (G.push F₂ rfl) (by omega) (by omega) (gate_base F₂ hG₀) hdv hP (BadP.mono F₂.keep hb') (fun _ e t us h₃ tk₃ R U => ?_) trivial)
  exact A_on G F₂ R U (fun h₄ R₄ U₄ => raise trivial _ _ _ _ _ R₄ U₄)
end

theorem c_GateB {v : Value} (G : Gd (Mine.KK w.params) Mine.view (looseW Mine.view [Str.ofString "MOST_NOUGHTS", Str.ofString "MOST_SIGNS"]) mean mg mb base fr s.heap) (hd : dp + 7 < recursionLimit) (hu : un + 170 < cLine)
    (hb : BadP (InH s.heap) v) (raise : True → ∀ e t us h' tk', RaisedS base s.heap fr e (.ref 44) t us [] h' → s.heap.UpToSlots h' → E (.ref e) { s with heap := h', toks := tk' }) :
    wpAny (model PySem.Challenge.rw_uf040037_06.row.prog w) (arA dp un gd fr) (call (.ref 276) [v]) Q E s := by
  revert G; k_fill; intro G
  refine' enterInit (fun x => [(Str.ofString "self", .ref x), (Str.ofString "divisor", v)]) G ?m1 ?m2 ?m3 ?k6 ?k7 ?k8 ?k9 ?kB ?_ ?c2 ?c3 ?c4 ?c5
  case m1 => k_is
  case m2 => k_is
  case m3 => k_is
  case k6 => k_is
  case k7 => k_is
  case k8 => omega
  case k9 => exact fun _ _ => BindsTo.of_eq rfl
  case kB => exact fun _ => locs rfl
  case c2 => exact rfl
  case c3 => exact rfl
  case c4 => exact rfl
  case c5 => decide
  intro x dx L' h' tk hdx F' N'
  replace hdx := ltN hdx
  have B' := G.below (dp + 1) (un + 1) gd
  have X' := G.kin
  have T' := G.top
  have hb' := go_on hb
  clear hb
  k_steps
  rename Fr _ _ _ _ => F₂
  refine go_on (c_reachB (dp := dp + 2) (un := un + 4) (G.push F₂ rfl) (by omega) (by omega) (BadP.mono F₂.keep hb') (fun _ e t us h₃ tk₃ R U => ?_) trivial)
  exact A_on (dp := dp + 1) (un := un + 1) G F₂ R U (fun h₄ R₄ U₄ => raise trivial _ _ _ _ _ R₄ U₄)
section
local macro_rules | `(tactic| walk_at "getAttr ref") => `(tactic| (k_dflt (refine' Mine.get_ownS ?k1 ?k2 ?k3 ?k4 ?k5 ?k6 ?k7 ?k8 ?k9 ?_; (case k1 => k_asm); (case k2 => k_asm); (case k3 => exact Mine.inst_base (by assumption) (by assumption)); (case k4 => k_is); (case k5 => k_is); (case k6 => k_is); (case k7 => k_is); (case k8 => k_get); (case k9 => k_handed))))
local macro_rules | `(tactic| walk_at "getMethod ref") => `(tactic| (k_dflt (refine' Mine.method_instS ?k1 ?k2 ?k3 ?k4 ?k5 ?k6 ?k7 ?_; (case k1 => k_asm); (case k2 => k_asm); (case k3 => exact Mine.inst_base (by assumption) (by assumption)); (case k4 => k_is); (case k5 => k_is); (case k6 => k_is); (case k7 => k_get))))

theorem c_Gate_later_L {x l : Addr} {P : Nat} {ds : List Int} {vs : List Value} {ns : List Int} {u : Value} (G : Gd (Mine.KK w.params) Mine.view (looseW Mine.view [Str.ofString "MOST_NOUGHTS", Str.ofString "MOST_SIGNS"]) mean mg mb base fr s.heap) (hd : dp + 4 < recursionLimit) (hu : un + 140 < cLine)
    (hG : GateAt w.params 276 s.heap x P ds) (hdv : IsDiv ds) (hP : Reach ds P)  (hl : s.heap.IsList l vs.toArray) (hi : IntsAre vs ns) (hz : ns.length ≤ 10000) (hr : IsRow ns) (hne : ns.length ≠ ds.length - 1) (raise : True → ∀ e t us h' tk', RaisedS base s.heap fr e (.ref 44) t us [] h' → s.heap.UpToSlots h' → E (.ref e) { s with heap := h', toks := tk' })
    (ret : True) :
    wpAny (model PySem.Challenge.rw_uf040037_06.row.prog w) (arA dp un gd fr) (call (.ref 238) [.ref x, .ref l, u]) Q E s := by
  revert G; k_fill; intro G
  refine' enter0 (binds := [(Str.ofString "self", .ref x), (Str.ofString "rest", .ref l), (Str.ofString "many", u)]) G ?k6 ?k7 ?k8 ?k9 ?kB ?_ ?c2 ?c3 ?c4 ?c5
  case k6 => k_is
  case k7 => k_is
  case k8 => omega
  case k9 => exact BindsTo.of_eq rfl
  case kB => exact locs rfl
  case c2 => exact rfl
  case c3 => exact rfl
  case c4 => exact rfl
  case c5 => decide
  intro L' h' tk F'
  have N' : News s.heap L' h' [] := News.nil
  have B' := G.below dp un gd
  have X' := G.kin
  have T' := G.top
  obtain ⟨dx, lD, sl1, sl2, vD, t0, t1, t2, t3, tP, tw, hIn, hlD, hiD⟩ := hG
  have hz1 : 2 ≤ ds.length := hdv.least
  have hz2 : ds.length ≤ 13 := hdv.most
  have hrd : IsRow ds := hdv.row
  have hP1 : 1 ≤ P := hP.pos
  have hP2 : P ≤ 4095 := by obtain ⟨P', h1, h2⟩ := hdv.reach; rw [hP.unique h1]; exact h2

  have hne' : ¬ ((ns.length : Int) = (ds.length : Int) - 1) := by omega
  have hne₀ := go_on hne
  clear hne
  k_steps
  · rename Heap.MadeExcOf _ _ _ _ _ => hx
    rename Fr _ _ _ _ => F₈
    exact go_on (A_raise G hx F₈ (fun h₉ t₉ R U => raise trivial _ _ _ _ _ R U) rfl)
  all_goals exact absurd (by assumption) hne'

theorem c_Gate_sealed_L {x l : Addr} {P : Nat} {ds : List Int} {vs : List Value} {ns : List Int} (G : Gd (Mine.KK w.params) Mine.view (looseW Mine.view [Str.ofString "MOST_NOUGHTS", Str.ofString "MOST_SIGNS"]) mean mg mb base fr s.heap) (hd : dp + 4 < recursionLimit) (hu : un + 140 < cLine)
    (hG : GateAt w.params 276 s.heap x P ds) (hdv : IsDiv ds) (hP : Reach ds P)  (hl : s.heap.IsList l vs.toArray) (hi : IntsAre vs ns) (hz : ns.length ≤ 10000) (hr : IsRow ns) (hne : P < ns.length + (ds.length - 1)) (raise : True → ∀ e t us h' tk', RaisedS base s.heap fr e (.ref 92) t us [] h' → s.heap.UpToSlots h' → E (.ref e) { s with heap := h', toks := tk' })
    (ret : True) :
    wpAny (model PySem.Challenge.rw_uf040037_06.row.prog w) (arA dp un gd fr) (call (.ref 252) [.ref x, .ref l]) Q E s := by
  revert G; k_fill; intro G
  refine' enter0 (binds := [(Str.ofString "self", .ref x), (Str.ofString "row", .ref l)]) G ?k6 ?k7 ?k8 ?k9 ?kB ?_ ?c2 ?c3 ?c4 ?c5
  case k6 => k_is
  case k7 => k_is
  case k8 => omega
  case k9 => exact BindsTo.of_eq rfl
  case kB => exact locs rfl
  case c2 => exact rfl
  case c3 => exact rfl
  case c4 => exact rfl
  case c5 => decide
  intro L' h' tk F'
  have N' : News s.heap L' h' [] := News.nil
  have B' := G.below dp un gd
  have X' := G.kin
  have T' := G.top
  obtain ⟨dx, lD, sl1, sl2, vD, t0, t1, t2, t3, tP, tw, hIn, hlD, hiD⟩ := hG
  have hz1 : 2 ≤ ds.length := hdv.least
  have hz2 : ds.length ≤ 13 := hdv.most
  have hrd : IsRow ds := hdv.row
  have hP1 : 1 ≤ P := hP.pos
  have hP2 : P ≤ 4095 := by obtain ⟨P', h1, h2⟩ := hdv.reach; rw [hP.unique h1]; exact h2

  k_steps
  rename Heap.MadeExcOf _ _ _ _ _ => hx
  rename Fr _ _ _ _ => F₈
  exact go_on (A_raise G hx F₈ (fun h₉ t₉ R U => raise trivial _ _ _ _ _ R U) rfl)
end

abbrev regD (pr : Params) (t0 t1 t2 : Tok) (x : Addr) (tm : Tok) (lK : Addr) : Obj :=
  { cls := .type "dict", data := .dict [⟨PyData.keyHash pr (Str.ofString "gate"), .str (Str.ofString "gate") t0, .ref x⟩, ⟨PyData.keyHash pr (Str.ofString "many"), .str (Str.ofString "many") t1, .int 0 tm⟩, ⟨PyData.keyHash pr (Str.ofString "kept"), .str (Str.ofString "kept") t2, .ref lK⟩].toArray 3 }
section
local macro_rules | `(tactic| walk_at "getAttr ref") => `(tactic| (k_dflt (refine' Mine.get_ownS ?k1 ?k2 ?k3 ?k4 ?k5 ?k6 ?k7 ?k8 ?k9 ?_; (case k1 => k_asm); (case k2 => k_asm); (case k3 => exact Mine.inst_base (by assumption) (by assumption)); (case k4 => k_is); (case k5 => k_is); (case k6 => k_is); (case k7 => k_is); (case k8 => k_get); (case k9 => k_handed))))
local macro_rules | `(tactic| walk_at "getMethod ref") => `(tactic| (k_dflt (refine' Mine.method_instS ?k1 ?k2 ?k3 ?k4 ?k5 ?k6 ?k7 ?_; (case k1 => k_asm); (case k2 => k_asm); (case k3 => exact Mine.inst_base (by assumption) (by assumption)); (case k4 => k_is); (case k5 => k_is); (case k6 => k_is); (case k7 => k_get))))

theorem c_Register {x : Addr} {P : Nat} {ds : List Int} (G : Gd (Mine.KK w.params) Mine.view (looseW Mine.view [Str.ofString "MOST_NOUGHTS", Str.ofString "MOST_SIGNS"]) mean mg mb base fr s.heap) (hd : dp + 3 < recursionLimit) (hu : un + 130 < cLine) (hG : GateAt w.params 276 s.heap x P ds) (hdv : IsDiv ds) (hP : Reach ds P)
    (ret : ∀ h' tk' (y dy lK : Addr) (vs' : List Value) (c t0 t1 t2 tm : Nat), s.heap.StaysIn h' → s.heap.get? y = none → s.heap.get? dy = none → s.heap.get? lK = none → h'.get? y = some (instObj 360 dy) → h'.get? dy = some (regD w.params t0 t1 t2 x tm lK) → h'.get? lK = some (listOf (List.toArray vs') c) → Q (.ref y) { s with heap := h', toks := tk' }) :
    wpAny (model PySem.Challenge.rw_uf040037_06.row.prog w) (arA dp un gd fr) (call (.ref 360) [.ref x]) Q E s := by
  revert G; k_fill; intro G
  refine' enterInit (fun y => [(Str.ofString "self", .ref y), (Str.ofString "gate", .ref x)]) G ?m1 ?m2 ?m3 ?k6 ?k7 ?k8 ?k9 ?kB ?_ ?c2 ?c3 ?c4 ?c5
  case m1 => k_is
  case m2 => k_is
  case m3 => k_is
  case k6 => k_is
  case k7 => k_is
  case k8 => omega
  case k9 => exact fun _ _ => BindsTo.of_eq rfl
  case kB => exact fun _ => locs rfl
  case c2 => exact rfl
  case c3 => exact rfl
  case c4 => exact rfl
  case c5 => decide
  intro y dy L' h' tk hdx F' N'
  replace hdx := ltN hdx
  have B' := G.below (dp + 1) (un + 1) gd
  have X' := G.kin
  have T' := G.top

  obtain ⟨dx, lD, sl1, sl2, vD, t0, t1, t2, t3, tP, tw, hIn, hlD, hiD⟩ := hG
  have hz1 : 2 ≤ ds.length := hdv.least
  have hz2 : ds.length ≤ 13 := hdv.most
  have hrd : IsRow ds := hdv.row
  have hP1 : 1 ≤ P := hP.pos
  have hP2 : P ≤ 4095 := by obtain ⟨P', h1, h2⟩ := hdv.reach; rw [hP.unique h1]; exact h2

  k_steps
  rename Fr _ _ _ _ => F₈
  rename News _ _ _ _ => N₈
  exact ret _ _ y dy _ _ _ _ _ _ _ F₈.keep (N₈ _ (.tail _ (.tail _ (.head _)))).2.2 (N₈ _ (.tail _ (.tail _ (.tail _ (.head _))))).2.2 (N₈ _ (.head _)).2.2 (N₈ _ (.tail _ (.tail _ (.head _)))).1 (N₈ _ (.tail _ (.tail _ (.tail _ (.head _))))).1 (N₈ _ (.head _)).1
end

theorem c_Register_put {u : Value} {n : Int} {t : Tok} (G : Gd (Mine.KK w.params) Mine.view (looseW Mine.view [Str.ofString "MOST_NOUGHTS", Str.ofString "MOST_SIGNS"]) mean mg mb base fr s.heap) (hd : dp + 3 < recursionLimit) (hu : un + 130 < cLine)
    (hn : ¬ (0 ≤ n ∧ n ≤ 1)) (raise : True → ∀ e t us h' tk', RaisedS base s.heap fr e (.ref 56) t us [] h' → s.heap.UpToSlots h' → E (.ref e) { s with heap := h', toks := tk' })
    (ret : True) :
    wpAny (model PySem.Challenge.rw_uf040037_06.row.prog w) (arA dp un gd fr) (call (.ref 329) [u, .int n t]) Q E s := by
  revert G; k_fill; intro G
  refine' enter0 (binds := [(Str.ofString "self", u), (Str.ofString "sign", .int n t)]) G ?k6 ?k7 ?k8 ?k9 ?kB ?_ ?c2 ?c3 ?c4 ?c5
  case k6 => k_is
  case k7 => k_is
  case k8 => omega
  case k9 => exact BindsTo.of_eq rfl
  case kB => exact locs rfl
  case c2 => exact rfl
  case c3 => exact rfl
  case c4 => exact rfl
  case c5 => decide
  intro L' h' tk F'
  have N' : News s.heap L' h' [] := News.nil
  have B' := G.below dp un gd
  have X' := G.kin
  have T' := G.top
  k_steps
  rename Fr _ _ _ _ => F₃
  rename News _ _ _ _ => N₃
  refine go_on (c_is_signB_i (G.push F₃ rfl) (by omega) (by omega) hn (fun h₄ tk₄ k₄ => ?_))
  have F₄ := fr_on F₃ k₄
  have N₄ := news_on N₃ k₄
  clear F₃ N₃ k₄
  dsimp only
  k_steps
  rename Heap.MadeExcOf _ _ _ _ _ => hx
  rename Fr _ _ _ _ => F₈
  exact go_on (A_raise G hx F₈ (fun h₉ t₉ R U => raise trivial _ _ _ _ _ R U) rfl)

theorem c_Register_joined {u : Value} {l : Addr} {its : Array Value} (G : Gd (Mine.KK w.params) Mine.view (looseW Mine.view [Str.ofString "MOST_NOUGHTS", Str.ofString "MOST_SIGNS"]) mean mg mb base fr s.heap) (hd : dp + 2 < recursionLimit) (hu : un + 120 < cLine)
    (hl : s.heap.IsList l its) (raise : True → ∀ e t us h' tk', RaisedS base s.heap fr e (.ref 128) t us [] h' → s.heap.UpToSlots h' → E (.ref e) { s with heap := h', toks := tk' })
    (ret : True) :
    wpAny (model PySem.Challenge.rw_uf040037_06.row.prog w) (arA dp un gd fr) (call (.ref 357) [u, .ref l]) Q E s := by
  revert G; k_fill; intro G
  refine' enter0 (binds := [(Str.ofString "self", u), (Str.ofString "other", .ref l)]) G ?k6 ?k7 ?k8 ?k9 ?kB ?_ ?c2 ?c3 ?c4 ?c5
  case k6 => k_is
  case k7 => k_is
  case k8 => omega
  case k9 => exact BindsTo.of_eq rfl
  case kB => exact locs rfl
  case c2 => exact rfl
  case c3 => exact rfl
  case c4 => exact rfl
  case c5 => decide
  intro L' h' tk F'
  have N' : News s.heap L' h' [] := News.nil
  have B' := G.below dp un gd
  have X' := G.kin
  have T' := G.top
  k_steps
  rename Fr _ _ _ _ => F₂
  obtain ⟨o, ho, hc, _⟩ := lst_base F₂ hl
  refine' isn_call (P := fun h => ∃ o, h.get? l = some o ∧ o.cls = .type "list") ?k1 ?k2 ?k3 ?k4 ?k5 list_cls ?_
  case k1 => k_in
  case k2 => intro M; exact hc ▸ (Looks.ld ho).andThen .now
  case k3 => first | k_not | kernel_rfl
  case k4 => intro e; cases e
  case k5 => exact ⟨o, ho, hc⟩
  dsimp only
  k_steps
  rename Heap.MadeExcOf _ _ _ _ _ => hx
  rename Fr _ _ _ _ => F₈
  exact go_on (A_raise G hx F₈ (fun h₉ t₉ R U => raise trivial _ _ _ _ _ R U) rfl)

theorem c_row_of_n  (G : Gd (Mine.KK w.params) Mine.view (looseW Mine.view [Str.ofString "MOST_NOUGHTS", Str.ofString "MOST_SIGNS"]) mean mg mb base fr s.heap) (hd : dp + 3 < recursionLimit) (hu : un + 130 < cLine)
    (raise : True → ∀ e t us h' tk', RaisedS base s.heap fr e (.ref 140) t us [] h' → s.heap.UpToSlots h' → E (.ref e) { s with heap := h', toks := tk' })
    (ret : True) :
    wpAny (model PySem.Challenge.rw_uf040037_06.row.prog w) (arA dp un gd fr) (call (.ref 301) [.none]) Q E s := by
  revert G; k_fill; intro G
  refine' enter0 (binds := [(Str.ofString "text", .none)]) G ?k6 ?k7 ?k8 ?k9 ?kB ?_ ?c2 ?c3 ?c4 ?c5
  case k6 => k_is
  case k7 => k_is
  case k8 => omega
  case k9 => exact BindsTo.of_eq rfl
  case kB => exact locs rfl
  case c2 => exact rfl
  case c3 => exact rfl
  case c4 => exact rfl
  case c5 => decide
  intro L' h' tk F'
  have N' : News s.heap L' h' [] := News.nil
  have B' := G.below dp un gd
  have X' := G.kin
  have T' := G.top
  k_steps
  rename Heap.MadeExcOf _ _ _ _ _ => hx
  rename Fr _ _ _ _ => F₈
  exact go_on (A_raise G hx F₈ (fun h₉ t₉ R U => raise trivial _ _ _ _ _ R U) rfl)

theorem c_row_of_i {b : Int} {t : Tok} (G : Gd (Mine.KK w.params) Mine.view (looseW Mine.view [Str.ofString "MOST_NOUGHTS", Str.ofString "MOST_SIGNS"]) mean mg mb base fr s.heap) (hd : dp + 3 < recursionLimit) (hu : un + 130 < cLine)
    (raise : True → ∀ e t us h' tk', RaisedS base s.heap fr e (.ref 140) t us [] h' → s.heap.UpToSlots h' → E (.ref e) { s with heap := h', toks := tk' })
    (ret : True) :
    wpAny (model PySem.Challenge.rw_uf040037_06.row.prog w) (arA dp un gd fr) (call (.ref 301) [.int b t]) Q E s := by
  revert G; k_fill; intro G
  refine' enter0 (binds := [(Str.ofString "text", .int b t)]) G ?k6 ?k7 ?k8 ?k9 ?kB ?_ ?c2 ?c3 ?c4 ?c5
  case k6 => k_is
  case k7 => k_is
  case k8 => omega
  case k9 => exact BindsTo.of_eq rfl
  case kB => exact locs rfl
  case c2 => exact rfl
  case c3 => exact rfl
  case c4 => exact rfl
  case c5 => decide
  intro L' h' tk F'
  have N' : News s.heap L' h' [] := News.nil
  have B' := G.below dp un gd
  have X' := G.kin
  have T' := G.top
  k_steps
  rename Heap.MadeExcOf _ _ _ _ _ => hx
  rename Fr _ _ _ _ => F₈
  exact go_on (A_raise G hx F₈ (fun h₉ t₉ R U => raise trivial _ _ _ _ _ R U) rfl)

theorem c_row_of_b {b : Bool} (G : Gd (Mine.KK w.params) Mine.view (looseW Mine.view [Str.ofString "MOST_NOUGHTS", Str.ofString "MOST_SIGNS"]) mean mg mb base fr s.heap) (hd : dp + 3 < recursionLimit) (hu : un + 130 < cLine)
    (raise : True → ∀ e t us h' tk', RaisedS base s.heap fr e (.ref 140) t us [] h' → s.heap.UpToSlots h' → E (.ref e) { s with heap := h', toks := tk' })
    (ret : True) :
    wpAny (model PySem.Challenge.rw_uf040037_06.row.prog w) (arA dp un gd fr) (call (.ref 301) [.bool b]) Q E s := by
  revert G; k_fill; intro G
  refine' enter0 (binds := [(Str.ofString "text", .bool b)]) G ?k6 ?k7 ?k8 ?k9 ?kB ?_ ?c2 ?c3 ?c4 ?c5
  case k6 => k_is
  case k7 => k_is
  case k8 => omega
  case k9 => exact BindsTo.of_eq rfl
  case kB => exact locs rfl
  case c2 => exact rfl
  case c3 => exact rfl
  case c4 => exact rfl
  case c5 => decide
  intro L' h' tk F'
  have N' : News s.heap L' h' [] := News.nil
  have B' := G.below dp un gd
  have X' := G.kin
  have T' := G.top
  k_steps
  rename Heap.MadeExcOf _ _ _ _ _ => hx
  rename Fr _ _ _ _ => F₈
  exact go_on (A_raise G hx F₈ (fun h₉ t₉ R U => raise trivial _ _ _ _ _ R U) rfl)

theorem c_row_of_l {l : Addr} {its : Array Value} (G : Gd (Mine.KK w.params) Mine.view (looseW Mine.view [Str.ofString "MOST_NOUGHTS", Str.ofString "MOST_SIGNS"]) mean mg mb base fr s.heap) (hd : dp + 3 < recursionLimit) (hu : un + 130 < cLine)
    (hl : s.heap.IsList l its) (raise : True → ∀ e t us h' tk', RaisedS base s.heap fr e (.ref 140) t us [] h' → s.heap.UpToSlots h' → E (.ref e) { s with heap := h', toks := tk' })
    (ret : True) :
    wpAny (model PySem.Challenge.rw_uf040037_06.row.prog w) (arA dp un gd fr) (call (.ref 301) [.ref l]) Q E s := by
  revert G; k_fill; intro G
  refine' enter0 (binds := [(Str.ofString "text", .ref l)]) G ?k6 ?k7 ?k8 ?k9 ?kB ?_ ?c2 ?c3 ?c4 ?c5
  case k6 => k_is
  case k7 => k_is
  case k8 => omega
  case k9 => exact BindsTo.of_eq rfl
  case kB => exact locs rfl
  case c2 => exact rfl
  case c3 => exact rfl
  case c4 => exact rfl
  case c5 => decide
  intro L' h' tk F'
  have N' : News s.heap L' h' [] := News.nil
  have B' := G.below dp un gd
  have X' := G.kin
  have T' := G.top
  k_steps
  rename Heap.MadeExcOf _ _ _ _ _ => hx
  rename Fr _ _ _ _ => F₈
  exact go_on (A_raise G hx F₈ (fun h₉ t₉ R U => raise trivial _ _ _ _ _ R U) rfl)

theorem c_row_of_t {l : Addr} {its : Array Value} (G : Gd (Mine.KK w.params) Mine.view (looseW Mine.view [Str.ofString "MOST_NOUGHTS", Str.ofString "MOST_SIGNS"]) mean mg mb base fr s.heap) (hd : dp + 3 < recursionLimit) (hu : un + 130 < cLine)
    (hl : s.heap.IsTuple l its) (raise : True → ∀ e t us h' tk', RaisedS base s.heap fr e (.ref 140) t us [] h' → s.heap.UpToSlots h' → E (.ref e) { s with heap := h', toks := tk' })
    (ret : True) :
    wpAny (model PySem.Challenge.rw_uf040037_06.row.prog w) (arA dp un gd fr) (call (.ref 301) [.ref l]) Q E s := by
  revert G; k_fill; intro G
  refine' enter0 (binds := [(Str.ofString "text", .ref l)]) G ?k6 ?k7 ?k8 ?k9 ?kB ?_ ?c2 ?c3 ?c4 ?c5
  case k6 => k_is
  case k7 => k_is
  case k8 => omega
  case k9 => exact BindsTo.of_eq rfl
  case kB => exact locs rfl
  case c2 => exact rfl
  case c3 => exact rfl
  case c4 => exact rfl
  case c5 => decide
  intro L' h' tk F'
  have N' : News s.heap L' h' [] := News.nil
  have B' := G.below dp un gd
  have X' := G.kin
  have T' := G.top
  k_steps
  rename Heap.MadeExcOf _ _ _ _ _ => hx
  rename Fr _ _ _ _ => F₈
  exact go_on (A_raise G hx F₈ (fun h₉ t₉ R U => raise trivial _ _ _ _ _ R U) rfl)

theorem c_law_rows_called {v : Value} {l : Addr} {vs : List Value} {ns : List Int} {wh : Int} {t : Tok} (G : Gd (Mine.KK w.params) Mine.view (looseW Mine.view [Str.ofString "MOST_NOUGHTS", Str.ofString "MOST_SIGNS"]) mean mg mb base fr s.heap) (hd : dp + 8 < recursionLimit) (hu : un + 180 < cLine)
    (hb : BadP (InH s.heap) v)  (hl : s.heap.IsList l vs.toArray) (hi : IntsAre vs ns) (hz : ns.length ≤ 10000) (hr : IsRow ns) (hw0 : 0 ≤ wh) (hw1 : wh ≤ 8) (raise : True → ∀ e t us h' tk', RaisedS base s.heap fr e (.ref 44) t us [] h' → s.heap.UpToSlots h' → E (.ref e) { s with heap := h', toks := tk' })
    (ret : True) :
    wpAny (model PySem.Challenge.rw_uf040037_06.row.prog w) (arA dp un gd fr) (call (.ref 390) [.int wh t, v, .ref l]) Q E s := by
  revert G; k_fill; intro G
  refine' enter0 (binds := [(Str.ofString "_law_which", .int wh t), (Str.ofString "_law_bad_here", v), (Str.ofString "_law_row", .ref l)]) G ?k6 ?k7 ?k8 ?k9 ?kB ?_ ?c2 ?c3 ?c4 ?c5
  case k6 => k_is
  case k7 => k_is
  case k8 => omega
  case k9 => exact BindsTo.of_eq rfl
  case kB => exact locs rfl
  case c2 => exact rfl
  case c3 => exact rfl
  case c4 => exact rfl
  case c5 => decide
  intro L' h' tk F'
  have N' : News s.heap L' h' [] := News.nil
  have B' := G.below dp un gd
  have X' := G.kin
  have T' := G.top
  have hb' := go_on hb
  clear hb
  have hw : wh = 0 ∨ wh = 1 ∨ wh = 2 ∨ wh = 3 ∨ wh = 4 ∨ wh = 5 ∨ wh = 6 ∨ wh = 7 ∨ wh = 8 := by omega
  clear hw0 hw1
  rcases hw with rfl | rfl | rfl | rfl | rfl | rfl | rfl | rfl | rfl
  · k_steps
    rename Fr _ _ _ _ => F₂
    refine go_on (c_addedB1 (G.push F₂ rfl) (by omega) (by omega) (BadP.mono F₂.keep hb') (fun _ e t us h₃ tk₃ R U => ?_) trivial)
    exact A_on G F₂ R U (fun h₄ R₄ U₄ => raise trivial _ _ _ _ _ R₄ U₄)
  · k_steps
    rename Fr _ _ _ _ => F₂
    refine go_on (c_addedB2 (G.push F₂ rfl) (by omega) (by omega) (BadP.mono F₂.keep hb') (lst_base F₂ hl) hi hz hr (fun _ e t us h₃ tk₃ R U => ?_) trivial)
    exact A_on G F₂ R U (fun h₄ R₄ U₄ => raise trivial _ _ _ _ _ R₄ U₄)
  · k_steps
    rename Fr _ _ _ _ => F₂
    refine go_on (c_timesB1 (G.push F₂ rfl) (by omega) (by omega) (BadP.mono F₂.keep hb') (fun _ e t us h₃ tk₃ R U => ?_) trivial)
    exact A_on G F₂ R U (fun h₄ R₄ U₄ => raise trivial _ _ _ _ _ R₄ U₄)
  · k_steps
    rename Fr _ _ _ _ => F₂
    refine go_on (c_timesB2 (G.push F₂ rfl) (by omega) (by omega) (BadP.mono F₂.keep hb') (lst_base F₂ hl) hi hz hr (fun _ e t us h₃ tk₃ R U => ?_) trivial)
    exact A_on G F₂ R U (fun h₄ R₄ U₄ => raise trivial _ _ _ _ _ R₄ U₄)
  · k_steps
    rename Fr _ _ _ _ => F₂
    refine go_on (c_partedB1 (G.push F₂ rfl) (by omega) (by omega) (BadP.mono F₂.keep hb') (fun _ e t us h₃ tk₃ R U => ?_) trivial)
    exact A_on G F₂ R U (fun h₄ R₄ U₄ => raise trivial _ _ _ _ _ R₄ U₄)
  · k_steps
    rename Fr _ _ _ _ => F₂
    refine go_on (c_partedB2 (G.push F₂ rfl) (by omega) (by omega) (BadP.mono F₂.keep hb') (lst_base F₂ hl) hi hz hr (fun _ e t us h₃ tk₃ R U => ?_) trivial)
    exact A_on G F₂ R U (fun h₄ R₄ U₄ => raise trivial _ _ _ _ _ R₄ U₄)
  · k_steps
    rename Fr _ _ _ _ => F₂
    refine go_on (c_reachB (G.push F₂ rfl) (by omega) (by omega) (BadP.mono F₂.keep hb') (fun _ e t us h₃ tk₃ R U => ?_) trivial)
    exact A_on G F₂ R U (fun h₄ R₄ U₄ => raise trivial _ _ _ _ _ R₄ U₄)
  · k_steps
    rename Fr _ _ _ _ => F₂
    refine go_on (c_GateB (G.push F₂ rfl) (by omega) (by omega) (BadP.mono F₂.keep hb') (fun _ e t us h₃ tk₃ R U => ?_))
    exact A_on G F₂ R U (fun h₄ R₄ U₄ => raise trivial _ _ _ _ _ R₄ U₄)
  · k_steps
    rename Fr _ _ _ _ => F₂
    refine go_on (c_text_ofB (G.push F₂ rfl) (by omega) (by omega) (BadP.mono F₂.keep hb') (fun _ e t us h₃ tk₃ R U => ?_) trivial)
    exact A_on G F₂ R U (fun h₄ R₄ U₄ => raise trivial _ _ _ _ _ R₄ U₄)
section
local macro_rules | `(tactic| walk_at "getAttr ref") => `(tactic| (k_dflt (refine' Mine.get_ownS ?k1 ?k2 ?k3 ?k4 ?k5 ?k6 ?k7 ?k8 ?k9 ?_; (case k1 => k_asm); (case k2 => k_asm); (case k3 => exact Mine.inst_base (by assumption) (by assumption)); (case k4 => k_is); (case k5 => k_is); (case k6 => k_is); (case k7 => k_is); (case k8 => k_get); (case k9 => k_handed))))
local macro_rules | `(tactic| walk_at "getMethod ref") => `(tactic| (k_dflt (refine' Mine.method_instS ?k1 ?k2 ?k3 ?k4 ?k5 ?k6 ?k7 ?_; (case k1 => k_asm); (case k2 => k_asm); (case k3 => exact Mine.inst_base (by assumption) (by assumption)); (case k4 => k_is); (case k5 => k_is); (case k6 => k_is); (case k7 => k_get))))

theorem c_law_gate_called {v : Value} {x : Addr} {P : Nat} {ds : List Int} {wh : Int} {t : Tok} (G : Gd (Mine.KK w.params) Mine.view (looseW Mine.view [Str.ofString "MOST_NOUGHTS", Str.ofString "MOST_SIGNS"]) mean mg mb base fr s.heap) (hd : dp + 8 < recursionLimit) (hu : un + 180 < cLine)
    (hG : GateAt w.params 276 s.heap x P ds) (hdv : IsDiv ds) (hP : Reach ds P) (hb : BadP (InH s.heap) v) (hw0 : 9 ≤ wh) (hw1 : wh ≤ 15) (raise : True → ∀ e t us h' tk', RaisedS base s.heap fr e (.ref 44) t us [] h' → s.heap.UpToSlots h' → E (.ref e) { s with heap := h', toks := tk' })
    (ret : True) :
    wpAny (model PySem.Challenge.rw_uf040037_06.row.prog w) (arA dp un gd fr) (call (.ref 397) [.int wh t, v, .ref x]) Q E s := by
  revert G; k_fill; intro G
  refine' enter0 (binds := [(Str.ofString "_law_which", .int wh t), (Str.ofString "_law_bad_here", v), (Str.ofString "_law_gate", .ref x)]) G ?k6 ?k7 ?k8 ?k9 ?kB ?_ ?c2 ?c3 ?c4 ?c5
  case k6 => k_is
  case k7 => k_is
  case k8 => omega
  case k9 => exact BindsTo.of_eq rfl
  case kB => exact locs rfl
  case c2 => exact rfl
  case c3 => exact rfl
  case c4 => exact rfl
  case c5 => decide
  intro L' h' tk F'
  have N' : News s.heap L' h' [] := News.nil
  have B' := G.below dp un gd
  have X' := G.kin
  have T' := G.top
  have hb' := go_on hb
  clear hb
  have hG₀ := go_on hG

  obtain ⟨dx, lD, sl1, sl2, vD, t0, t1, t2, t3, tP, tw, hIn, hlD, hiD⟩ := hG
  have hz1 : 2 ≤ ds.length := hdv.least
  have hz2 : ds.length ≤ 13 := hdv.most
  have hrd : IsRow ds := hdv.row
  have hP1 : 1 ≤ P := hP.pos
  have hP2 : P ≤ 4095 := by obtain ⟨P', h1, h2⟩ := hdv.reach; rw [hP.unique h1]; exact h2

  have hw : wh = 9 ∨ wh = 10 ∨ wh = 11 ∨ wh = 12 ∨ wh = 13 ∨ wh = 14 ∨ wh = 15 := by omega
  clear hw0 hw1
  rcases hw with rfl | rfl | rfl | rfl | rfl | rfl | rfl
  · k_steps
    rename Fr _ _ _ _ => F₂
    refine go_on (c_Gate_restB (G.push F₂ rfl) (by omega) (by omega) (gate_base F₂ hG₀) hdv hP (BadP.mono F₂.keep hb') (fun _ e t us h₃ tk₃ R U => ?_) trivial)
    exact A_on G F₂ R U (fun h₄ R₄ U₄ => raise trivial _ _ _ _ _ R₄ U₄)
  · k_steps
    rename Fr _ _ _ _ => F₂
    refine go_on (c_Gate_laterB (G.push F₂ rfl) (by omega) (by omega) (gate_base F₂ hG₀) hdv hP (BadP.mono F₂.keep hb') (fun _ e t us h₃ tk₃ R U => ?_) trivial)
    exact A_on G F₂ R U (fun h₄ R₄ U₄ => raise trivial _ _ _ _ _ R₄ U₄)
  · k_steps
    rename Fr _ _ _ _ => F₂
    refine go_on (c_Gate_checkB (G.push F₂ rfl) (by omega) (by omega) (gate_base F₂ hG₀) hdv hP (BadP.mono F₂.keep hb') (fun _ e t us h₃ tk₃ R U => ?_) trivial)
    exact A_on G F₂ R U (fun h₄ R₄ U₄ => raise trivial _ _ _ _ _ R₄ U₄)
  · k_steps
    rename Fr _ _ _ _ => F₂
    refine go_on (c_Gate_sealedB (G.push F₂ rfl) (by omega) (by omega) (gate_base F₂ hG₀) hdv hP (BadP.mono F₂.keep hb') (fun _ e t us h₃ tk₃ R U => ?_) trivial)
    exact A_on G F₂ R U (fun h₄ R₄ U₄ => raise trivial _ _ _ _ _ R₄ U₄)
  · k_steps
    rename Fr _ _ _ _ => F₂
    refine go_on (c_Gate_holdsB (G.push F₂ rfl) (by omega) (by omega) (gate_base F₂ hG₀) hdv hP (BadP.mono F₂.keep hb') (fun _ e t us h₃ tk₃ R U => ?_) trivial)
    exact A_on G F₂ R U (fun h₄ R₄ U₄ => raise trivial _ _ _ _ _ R₄ U₄)
  · k_steps
    rename Fr _ _ _ _ => F₂
    refine go_on (c_Gate_openedB (G.push F₂ rfl) (by omega) (by omega) (gate_base F₂ hG₀) hdv hP (BadP.mono F₂.keep hb') (fun _ e t us h₃ tk₃ R U => ?_) trivial)
    exact A_on G F₂ R U (fun h₄ R₄ U₄ => raise trivial _ _ _ _ _ R₄ U₄)
  · k_steps
    rename Fr _ _ _ _ => F₂
    refine go_on (c_Gate_mendedB (G.push F₂ rfl) (by omega) (by omega) (gate_base F₂ hG₀) hdv hP (BadP.mono F₂.keep hb') (fun _ e t us h₃ tk₃ R U => ?_) trivial)
    exact A_on G F₂ R U (fun h₄ R₄ U₄ => raise trivial _ _ _ _ _ R₄ U₄)

theorem c_law_else_called_16 {x l : Addr} {P : Nat} {ds : List Int} {vs : List Value} {ns : List Int} {t : Tok} (G : Gd (Mine.KK w.params) Mine.view (looseW Mine.view [Str.ofString "MOST_NOUGHTS", Str.ofString "MOST_SIGNS"]) mean mg mb base fr s.heap) (hd : dp + 8 < recursionLimit) (hu : un + 180 < cLine)
    (hG : GateAt w.params 276 s.heap x P ds) (hdv : IsDiv ds) (hP : Reach ds P)  (hl : s.heap.IsList l vs.toArray) (hi : IntsAre vs ns) (hz : ns.length ≤ 300) (hr : IsRow ns) (hds4 : ds.length = 4) (hP7 : P = 7) (raise : True → ∀ e t us h' tk', RaisedS base s.heap fr e (.ref 44) t us [] h' → s.heap.UpToSlots h' → E (.ref e) { s with heap := h', toks := tk' })
    (ret : True) :
    wpAny (model PySem.Challenge.rw_uf040037_06.row.prog w) (arA dp un gd fr) (call (.ref 404) [.int 16 t, .ref l, .ref x]) Q E s := by
  revert G; k_fill; intro G
  refine' enter0 (binds := [(Str.ofString "_law_which", .int 16 t), (Str.ofString "_law_row", .ref l), (Str.ofString "_law_gate", .ref x)]) G ?k6 ?k7 ?k8 ?k9 ?kB ?_ ?c2 ?c3 ?c4 ?c5
  case k6 => k_is
  case k7 => k_is
  case k8 => omega
  case k9 => exact BindsTo.of_eq rfl
  case kB => exact locs rfl
  case c2 => exact rfl
  case c3 => exact rfl
  case c4 => exact rfl
  case c5 => decide
  intro L' h' tk F'
  have N' : News s.heap L' h' [] := News.nil
  have B' := G.below dp un gd
  have X' := G.kin
  have T' := G.top
  have hG₀ := go_on hG

  obtain ⟨dx, lD, sl1, sl2, vD, t0, t1, t2, t3, tP, tw, hIn, hlD, hiD⟩ := hG
  have hz1 : 2 ≤ ds.length := hdv.least
  have hz2 : ds.length ≤ 13 := hdv.most
  have hrd : IsRow ds := hdv.row
  have hP1 : 1 ≤ P := hP.pos
  have hP2 : P ≤ 4095 := by obtain ⟨P', h1, h2⟩ := hdv.reach; rw [hP.unique h1]; exact h2
  k_steps
  rename Fr _ _ _ _ => F₂
  rename News _ _ _ _ => N₂
  refine' go_on (c_Gate_later_L (G.push F₂ rfl) ?hd ?hu (gate_base F₂ hG₀) hdv hP ?la ?lb ?lc ?ld ?le ?r trivial)
  case hd => omega
  case hu => omega
  case la => exact lst_led N₂ (by k_mem)
  case lb => assumption
  case lc => rw [List.length_append, flat_length]; omega
  case ld => exact isRow_append.mpr ⟨hr, isRow_flat (.inl rfl)⟩
  case le => rw [List.length_append, flat_length]; omega
  case r => exact fun _ e t us h₃ tk₃ R U => A_on G F₂ R U (fun h₄ R₄ U₄ => raise trivial _ _ _ _ _ R₄ U₄)

theorem c_law_else_called_17 {x l : Addr} {P : Nat} {ds : List Int} {vs : List Value} {ns : List Int} {t : Tok} (G : Gd (Mine.KK w.params) Mine.view (looseW Mine.view [Str.ofString "MOST_NOUGHTS", Str.ofString "MOST_SIGNS"]) mean mg mb base fr s.heap) (hd : dp + 8 < recursionLimit) (hu : un + 180 < cLine)
    (hG : GateAt w.params 276 s.heap x P ds) (hdv : IsDiv ds) (hP : Reach ds P)  (hl : s.heap.IsList l vs.toArray) (hi : IntsAre vs ns) (hz : ns.length ≤ 300) (hr : IsRow ns) (hds4 : ds.length = 4) (hP7 : P = 7) (raise : True → ∀ e t us h' tk', RaisedS base s.heap fr e (.ref 44) t us [] h' → s.heap.UpToSlots h' → E (.ref e) { s with heap := h', toks := tk' })
    (ret : True) :
    wpAny (model PySem.Challenge.rw_uf040037_06.row.prog w) (arA dp un gd fr) (call (.ref 404) [.int 17 t, .ref l, .ref x]) Q E s := by
  revert G; k_fill; intro G
  refine' enter0 (binds := [(Str.ofString "_law_which", .int 17 t), (Str.ofString "_law_row", .ref l), (Str.ofString "_law_gate", .ref x)]) G ?k6 ?k7 ?k8 ?k9 ?kB ?_ ?c2 ?c3 ?c4 ?c5
  case k6 => k_is
  case k7 => k_is
  case k8 => omega
  case k9 => exact BindsTo.of_eq rfl
  case kB => exact locs rfl
  case c2 => exact rfl
  case c3 => exact rfl
  case c4 => exact rfl
  case c5 => decide
  intro L' h' tk F'
  have N' : News s.heap L' h' [] := News.nil
  have B' := G.below dp un gd
  have X' := G.kin
  have T' := G.top
  have hG₀ := go_on hG

  obtain ⟨dx, lD, sl1, sl2, vD, t0, t1, t2, t3, tP, tw, hIn, hlD, hiD⟩ := hG
  have hz1 : 2 ≤ ds.length := hdv.least
  have hz2 : ds.length ≤ 13 := hdv.most
  have hrd : IsRow ds := hdv.row
  have hP1 : 1 ≤ P := hP.pos
  have hP2 : P ≤ 4095 := by obtain ⟨P', h1, h2⟩ := hdv.reach; rw [hP.unique h1]; exact h2
  have hq0 := fm_ge (ns.length : Int) ((ds.length : Int) - 1) (by omega)
  have hq1 := fm_le (ns.length : Int) ((ds.length : Int) - 1) ((ds.length : Int) - 2) (by omega) (by omega)
  k_steps
  rename Fr _ _ _ _ => F₂
  rename News _ _ _ _ => N₂
  refine' go_on (c_Gate_later_L (G.push F₂ rfl) ?hd ?hu (gate_base F₂ hG₀) hdv hP ?la ?lb ?lc ?ld ?le ?r trivial)
  case hd => omega
  case hu => omega
  case la => exact lst_led N₂ (by k_mem)
  case lb => assumption
  case lc => rw [flat_length]; omega
  case ld => exact isRow_flat (.inr rfl)
  case le => rw [flat_length]; omega
  case r => exact fun _ e t us h₃ tk₃ R U => A_on G F₂ R U (fun h₄ R₄ U₄ => raise trivial _ _ _ _ _ R₄ U₄)

theorem c_law_else_called_18 {x l : Addr} {P : Nat} {ds : List Int} {vs : List Value} {ns : List Int} {t : Tok} (G : Gd (Mine.KK w.params) Mine.view (looseW Mine.view [Str.ofString "MOST_NOUGHTS", Str.ofString "MOST_SIGNS"]) mean mg mb base fr s.heap) (hd : dp + 8 < recursionLimit) (hu : un + 180 < cLine)
    (hG : GateAt w.params 276 s.heap x P ds) (hdv : IsDiv ds) (hP : Reach ds P)  (hl : s.heap.IsList l vs.toArray) (hi : IntsAre vs ns) (hz : ns.length ≤ 300) (hr : IsRow ns) (hds4 : ds.length = 4) (hP7 : P = 7) (raise : True → ∀ e t us h' tk', RaisedS base s.heap fr e (.ref 56) t us [] h' → s.heap.UpToSlots h' → E (.ref e) { s with heap := h', toks := tk' })
    (ret : True) :
    wpAny (model PySem.Challenge.rw_uf040037_06.row.prog w) (arA dp un gd fr) (call (.ref 404) [.int 18 t, .ref l, .ref x]) Q E s := by
  revert G; k_fill; intro G
  refine' enter0 (binds := [(Str.ofString "_law_which", .int 18 t), (Str.ofString "_law_row", .ref l), (Str.ofString "_law_gate", .ref x)]) G ?k6 ?k7 ?k8 ?k9 ?kB ?_ ?c2 ?c3 ?c4 ?c5
  case k6 => k_is
  case k7 => k_is
  case k8 => omega
  case k9 => exact BindsTo.of_eq rfl
  case kB => exact locs rfl
  case c2 => exact rfl
  case c3 => exact rfl
  case c4 => exact rfl
  case c5 => decide
  intro L' h' tk F'
  have N' : News s.heap L' h' [] := News.nil
  have B' := G.below dp un gd
  have X' := G.kin
  have T' := G.top
  have hG₀ := go_on hG

  obtain ⟨dx, lD, sl1, sl2, vD, t0, t1, t2, t3, tP, tw, hIn, hlD, hiD⟩ := hG
  have hz1 : 2 ≤ ds.length := hdv.least
  have hz2 : ds.length ≤ 13 := hdv.most
  have hrd : IsRow ds := hdv.row
  have hP1 : 1 ≤ P := hP.pos
  have hP2 : P ≤ 4095 := by obtain ⟨P', h1, h2⟩ := hdv.reach; rw [hP.unique h1]; exact h2
  k_steps
  rename Fr _ _ _ _ => F₁
  rename News _ _ _ _ => N₁
  refine go_on (c_Register (G.push F₁ rfl) (by omega) (by omega) (gate_base F₁ hG₀) hdv hP (fun h₅ tk₅ y dy lK vK cK u0 u1 u2 um k₅ n1 n2 n3 o1 o2 o3 => ?_))
  have F₅ := fr_on F₁ k₅
  have ne1 := allNe_of (news_ne N₁ n1)
  have ne2 := allNe_of (news_ne N₁ n2)
  have ne3 := allNe_of (news_ne N₁ n3)
  try simp only [AllNe, and_true] at ne1 ne2 ne3
  have N₅ := news_add F₁ (news_add F₁ (news_add F₁ (news_on N₁ k₅) n3 o3) n2 o2) n1 o1
  clear F₁ N₁ k₅ n1 n2 n3 o1 o2 o3
  dsimp only
  k_steps
  rename Fr _ _ _ _ => F₂
  rename News _ _ _ _ => N₂
  refine' go_on (c_Register_put (G.push F₂ rfl) ?hd ?hu (n := 2) (by decide) ?r trivial)
  case hd => omega
  case hu => omega
  case r => exact fun _ e t us h₃ tk₃ R U => A_on G F₂ R U (fun h₄ R₄ U₄ => raise trivial _ _ _ _ _ R₄ U₄)

theorem c_law_else_called_19 {x l : Addr} {P : Nat} {ds : List Int} {vs : List Value} {ns : List Int} {t : Tok} (G : Gd (Mine.KK w.params) Mine.view (looseW Mine.view [Str.ofString "MOST_NOUGHTS", Str.ofString "MOST_SIGNS"]) mean mg mb base fr s.heap) (hd : dp + 8 < recursionLimit) (hu : un + 180 < cLine)
    (hG : GateAt w.params 276 s.heap x P ds) (hdv : IsDiv ds) (hP : Reach ds P)  (hl : s.heap.IsList l vs.toArray) (hi : IntsAre vs ns) (hz : ns.length ≤ 300) (hr : IsRow ns) (hds4 : ds.length = 4) (hP7 : P = 7) (raise : True → ∀ e t us h' tk', RaisedS base s.heap fr e (.ref 68) t us [] h' → s.heap.UpToSlots h' → E (.ref e) { s with heap := h', toks := tk' })
    (ret : True) :
    wpAny (model PySem.Challenge.rw_uf040037_06.row.prog w) (arA dp un gd fr) (call (.ref 404) [.int 19 t, .ref l, .ref x]) Q E s := by
  revert G; k_fill; intro G
  refine' enter0 (binds := [(Str.ofString "_law_which", .int 19 t), (Str.ofString "_law_row", .ref l), (Str.ofString "_law_gate", .ref x)]) G ?k6 ?k7 ?k8 ?k9 ?kB ?_ ?c2 ?c3 ?c4 ?c5
  case k6 => k_is
  case k7 => k_is
  case k8 => omega
  case k9 => exact BindsTo.of_eq rfl
  case kB => exact locs rfl
  case c2 => exact rfl
  case c3 => exact rfl
  case c4 => exact rfl
  case c5 => decide
  intro L' h' tk F'
  have N' : News s.heap L' h' [] := News.nil
  have B' := G.below dp un gd
  have X' := G.kin
  have T' := G.top
  have hG₀ := go_on hG

  obtain ⟨dx, lD, sl1, sl2, vD, t0, t1, t2, t3, tP, tw, hIn, hlD, hiD⟩ := hG
  have hz1 : 2 ≤ ds.length := hdv.least
  have hz2 : ds.length ≤ 13 := hdv.most
  have hrd : IsRow ds := hdv.row
  have hP1 : 1 ≤ P := hP.pos
  have hP2 : P ≤ 4095 := by obtain ⟨P', h1, h2⟩ := hdv.reach; rw [hP.unique h1]; exact h2
  k_steps
  rename Fr _ _ _ _ => F₂
  rename News _ _ _ _ => N₂
  refine' go_on (c_parted (G.push F₂ rfl) ?hd ?hu (ms := [0, 1]) (lst_base F₂ hl) hi ?lc hr ?la (.cons _ _ (.cons _ _ .nil)) (by decide) (by intro x hx; simp only [List.mem_cons, List.not_mem_nil, or_false] at hx; omega) ?r (fun h => absurd (Or.inr rfl) (isDiv1_not h)))
  case hd => omega
  case hu => omega
  case lc => omega
  case la => exact lst_led N₂ (by k_mem)
  case r => exact fun _ e t us h₃ tk₃ R U => A_on G F₂ R U (fun h₄ R₄ U₄ => raise trivial _ _ _ _ _ R₄ U₄)

theorem c_law_else_called_20 {x l : Addr} {P : Nat} {ds : List Int} {vs : List Value} {ns : List Int} {t : Tok} (G : Gd (Mine.KK w.params) Mine.view (looseW Mine.view [Str.ofString "MOST_NOUGHTS", Str.ofString "MOST_SIGNS"]) mean mg mb base fr s.heap) (hd : dp + 8 < recursionLimit) (hu : un + 180 < cLine)
    (hG : GateAt w.params 276 s.heap x P ds) (hdv : IsDiv ds) (hP : Reach ds P)  (hl : s.heap.IsList l vs.toArray) (hi : IntsAre vs ns) (hz : ns.length ≤ 300) (hr : IsRow ns) (hds4 : ds.length = 4) (hP7 : P = 7) (raise : True → ∀ e t us h' tk', RaisedS base s.heap fr e (.ref 68) t us [] h' → s.heap.UpToSlots h' → E (.ref e) { s with heap := h', toks := tk' })
    (ret : True) :
    wpAny (model PySem.Challenge.rw_uf040037_06.row.prog w) (arA dp un gd fr) (call (.ref 404) [.int 20 t, .ref l, .ref x]) Q E s := by
  revert G; k_fill; intro G
  refine' enter0 (binds := [(Str.ofString "_law_which", .int 20 t), (Str.ofString "_law_row", .ref l), (Str.ofString "_law_gate", .ref x)]) G ?k6 ?k7 ?k8 ?k9 ?kB ?_ ?c2 ?c3 ?c4 ?c5
  case k6 => k_is
  case k7 => k_is
  case k8 => omega
  case k9 => exact BindsTo.of_eq rfl
  case kB => exact locs rfl
  case c2 => exact rfl
  case c3 => exact rfl
  case c4 => exact rfl
  case c5 => decide
  intro L' h' tk F'
  have N' : News s.heap L' h' [] := News.nil
  have B' := G.below dp un gd
  have X' := G.kin
  have T' := G.top
  have hG₀ := go_on hG

  obtain ⟨dx, lD, sl1, sl2, vD, t0, t1, t2, t3, tP, tw, hIn, hlD, hiD⟩ := hG
  have hz1 : 2 ≤ ds.length := hdv.least
  have hz2 : ds.length ≤ 13 := hdv.most
  have hrd : IsRow ds := hdv.row
  have hP1 : 1 ≤ P := hP.pos
  have hP2 : P ≤ 4095 := by obtain ⟨P', h1, h2⟩ := hdv.reach; rw [hP.unique h1]; exact h2
  k_steps
  rename Fr _ _ _ _ => F₂
  rename News _ _ _ _ => N₂
  refine' go_on (c_Gate (G.push F₂ rfl) ?hd ?hu (ns := [1]) ?la (.cons _ _ .nil) (by decide) (by intro x hx; simp only [List.mem_cons, List.not_mem_nil, or_false] at hx; omega) ?r (fun h => absurd h.least (by decide)))
  case hd => omega
  case hu => omega
  case la => exact lst_led N₂ (by k_mem)
  case r => exact fun _ e t us h₃ tk₃ R U => A_on G F₂ R U (fun h₄ R₄ U₄ => raise trivial _ _ _ _ _ R₄ U₄)

theorem c_law_else_called_21 {x l : Addr} {P : Nat} {ds : List Int} {vs : List Value} {ns : List Int} {t : Tok} (G : Gd (Mine.KK w.params) Mine.view (looseW Mine.view [Str.ofString "MOST_NOUGHTS", Str.ofString "MOST_SIGNS"]) mean mg mb base fr s.heap) (hd : dp + 8 < recursionLimit) (hu : un + 180 < cLine)
    (hG : GateAt w.params 276 s.heap x P ds) (hdv : IsDiv ds) (hP : Reach ds P)  (hl : s.heap.IsList l vs.toArray) (hi : IntsAre vs ns) (hz : ns.length ≤ 300) (hr : IsRow ns) (hds4 : ds.length = 4) (hP7 : P = 7) (raise : True → ∀ e t us h' tk', RaisedS base s.heap fr e (.ref 80) t us [] h' → s.heap.UpToSlots h' → E (.ref e) { s with heap := h', toks := tk' })
    (ret : True) :
    wpAny (model PySem.Challenge.rw_uf040037_06.row.prog w) (arA dp un gd fr) (call (.ref 404) [.int 21 t, .ref l, .ref x]) Q E s := by
  revert G; k_fill; intro G
  refine' enter0 (binds := [(Str.ofString "_law_which", .int 21 t), (Str.ofString "_law_row", .ref l), (Str.ofString "_law_gate", .ref x)]) G ?k6 ?k7 ?k8 ?k9 ?kB ?_ ?c2 ?c3 ?c4 ?c5
  case k6 => k_is
  case k7 => k_is
  case k8 => omega
  case k9 => exact BindsTo.of_eq rfl
  case kB => exact locs rfl
  case c2 => exact rfl
  case c3 => exact rfl
  case c4 => exact rfl
  case c5 => decide
  intro L' h' tk F'
  have N' : News s.heap L' h' [] := News.nil
  have B' := G.below dp un gd
  have X' := G.kin
  have T' := G.top
  have hG₀ := go_on hG

  obtain ⟨dx, lD, sl1, sl2, vD, t0, t1, t2, t3, tP, tw, hIn, hlD, hiD⟩ := hG
  have hz1 : 2 ≤ ds.length := hdv.least
  have hz2 : ds.length ≤ 13 := hdv.most
  have hrd : IsRow ds := hdv.row
  have hP1 : 1 ≤ P := hP.pos
  have hP2 : P ≤ 4095 := by obtain ⟨P', h1, h2⟩ := hdv.reach; rw [hP.unique h1]; exact h2
  k_steps
  rename Fr _ _ _ _ => F₂
  rename News _ _ _ _ => N₂
  refine' go_on (c_Gate_later_i (G.push F₂ rfl) ?hd ?hu (gate_base F₂ hG₀) hdv hP ?la ?lb ?ld ?le (.inl ?lc) ?r trivial)
  case hd => omega
  case hu => omega
  case la => exact lst_led N₂ (by k_mem)
  case lb => assumption
  case lc => omega
  case ld => exact isRow_flat (.inl rfl)
  case le => rw [flat_length]; omega
  case r => exact fun _ e t us h₃ tk₃ R U => A_on G F₂ R U (fun h₄ R₄ U₄ => raise trivial _ _ _ _ _ R₄ U₄)

theorem c_law_else_called_22 {x l : Addr} {P : Nat} {ds : List Int} {vs : List Value} {ns : List Int} {t : Tok} (G : Gd (Mine.KK w.params) Mine.view (looseW Mine.view [Str.ofString "MOST_NOUGHTS", Str.ofString "MOST_SIGNS"]) mean mg mb base fr s.heap) (hd : dp + 8 < recursionLimit) (hu : un + 180 < cLine)
    (hG : GateAt w.params 276 s.heap x P ds) (hdv : IsDiv ds) (hP : Reach ds P)  (hl : s.heap.IsList l vs.toArray) (hi : IntsAre vs ns) (hz : ns.length ≤ 300) (hr : IsRow ns) (hds4 : ds.length = 4) (hP7 : P = 7) (raise : True → ∀ e t us h' tk', RaisedS base s.heap fr e (.ref 92) t us [] h' → s.heap.UpToSlots h' → E (.ref e) { s with heap := h', toks := tk' })
    (ret : True) :
    wpAny (model PySem.Challenge.rw_uf040037_06.row.prog w) (arA dp un gd fr) (call (.ref 404) [.int 22 t, .ref l, .ref x]) Q E s := by
  revert G; k_fill; intro G
  refine' enter0 (binds := [(Str.ofString "_law_which", .int 22 t), (Str.ofString "_law_row", .ref l), (Str.ofString "_law_gate", .ref x)]) G ?k6 ?k7 ?k8 ?k9 ?kB ?_ ?c2 ?c3 ?c4 ?c5
  case k6 => k_is
  case k7 => k_is
  case k8 => omega
  case k9 => exact BindsTo.of_eq rfl
  case kB => exact locs rfl
  case c2 => exact rfl
  case c3 => exact rfl
  case c4 => exact rfl
  case c5 => decide
  intro L' h' tk F'
  have N' : News s.heap L' h' [] := News.nil
  have B' := G.below dp un gd
  have X' := G.kin
  have T' := G.top
  have hG₀ := go_on hG

  obtain ⟨dx, lD, sl1, sl2, vD, t0, t1, t2, t3, tP, tw, hIn, hlD, hiD⟩ := hG
  have hz1 : 2 ≤ ds.length := hdv.least
  have hz2 : ds.length ≤ 13 := hdv.most
  have hrd : IsRow ds := hdv.row
  have hP1 : 1 ≤ P := hP.pos
  have hP2 : P ≤ 4095 := by obtain ⟨P', h1, h2⟩ := hdv.reach; rw [hP.unique h1]; exact h2
  k_steps
  rename Fr _ _ _ _ => F₂
  rename News _ _ _ _ => N₂
  refine' go_on (c_Gate_sealed_L (G.push F₂ rfl) ?hd ?hu (gate_base F₂ hG₀) hdv hP ?la ?lb ?lc ?ld ?le ?r trivial)
  case hd => omega
  case hu => omega
  case la => exact lst_led N₂ (by k_mem)
  case lb => assumption
  case lc => rw [List.length_append, flat_length]; omega
  case ld => exact isRow_append.mpr ⟨hr, isRow_flat (.inl rfl)⟩
  case le => rw [List.length_append, flat_length]; omega
  case r => exact fun _ e t us h₃ tk₃ R U => A_on G F₂ R U (fun h₄ R₄ U₄ => raise trivial _ _ _ _ _ R₄ U₄)

theorem c_law_else_called_23 {x l : Addr} {P : Nat} {ds : List Int} {vs : List Value} {ns : List Int} {t : Tok} (G : Gd (Mine.KK w.params) Mine.view (looseW Mine.view [Str.ofString "MOST_NOUGHTS", Str.ofString "MOST_SIGNS"]) mean mg mb base fr s.heap) (hd : dp + 8 < recursionLimit) (hu : un + 180 < cLine)
    (hG : GateAt w.params 276 s.heap x P ds) (hdv : IsDiv ds) (hP : Reach ds P)  (hl : s.heap.IsList l vs.toArray) (hi : IntsAre vs ns) (hz : ns.length ≤ 300) (hr : IsRow ns) (hds4 : ds.length = 4) (hP7 : P = 7) (raise : True → ∀ e t us h' tk', RaisedS base s.heap fr e (.ref 104) t us [] h' → s.heap.UpToSlots h' → E (.ref e) { s with heap := h', toks := tk' })
    (ret : True) :
    wpAny (model PySem.Challenge.rw_uf040037_06.row.prog w) (arA dp un gd fr) (call (.ref 404) [.int 23 t, .ref l, .ref x]) Q E s := by
  revert G; k_fill; intro G
  refine' enter0 (binds := [(Str.ofString "_law_which", .int 23 t), (Str.ofString "_law_row", .ref l), (Str.ofString "_law_gate", .ref x)]) G ?k6 ?k7 ?k8 ?k9 ?kB ?_ ?c2 ?c3 ?c4 ?c5
  case k6 => k_is
  case k7 => k_is
  case k8 => omega
  case k9 => exact BindsTo.of_eq rfl
  case kB => exact locs rfl
  case c2 => exact rfl
  case c3 => exact rfl
  case c4 => exact rfl
  case c5 => decide
  intro L' h' tk F'
  have N' : News s.heap L' h' [] := News.nil
  have B' := G.below dp un gd
  have X' := G.kin
  have T' := G.top
  have hG₀ := go_on hG

  obtain ⟨dx, lD, sl1, sl2, vD, t0, t1, t2, t3, tP, tw, hIn, hlD, hiD⟩ := hG
  have hz1 : 2 ≤ ds.length := hdv.least
  have hz2 : ds.length ≤ 13 := hdv.most
  have hrd : IsRow ds := hdv.row
  have hP1 : 1 ≤ P := hP.pos
  have hP2 : P ≤ 4095 := by obtain ⟨P', h1, h2⟩ := hdv.reach; rw [hP.unique h1]; exact h2
  have hq0 := fm_ge (ns.length : Int) ((ds.length : Int) - 1) (by omega)
  have hq1 := fm_le (ns.length : Int) ((ds.length : Int) - 1) ((ds.length : Int) - 2) (by omega) (by omega)
  k_steps
  rename Fr _ _ _ _ => F₂
  rename News _ _ _ _ => N₂
  refine' go_on (c_Gate_holds (G.push F₂ rfl) ?hd ?hu (gate_base F₂ hG₀) hdv hP ?la ?lb ?lc ?ld ?r ?r2 ?rr)
  case hd => omega
  case hu => omega
  case la => exact lst_led N₂ (by k_mem)
  case lb => assumption
  case lc => rw [flat_length]; omega
  case ld => exact isRow_flat (.inr rfl)
  case r => exact fun _ e t us h₃ tk₃ R U => A_on G F₂ R U (fun h₄ R₄ U₄ => raise trivial _ _ _ _ _ R₄ U₄)
  case r2 => exact fun h => absurd h.1 (by rw [flat_length]; omega)
  case rr => exact fun h => absurd h.1 (by rw [flat_length]; omega)

theorem c_law_else_called_24 {x l : Addr} {P : Nat} {ds : List Int} {vs : List Value} {ns : List Int} {t : Tok} (G : Gd (Mine.KK w.params) Mine.view (looseW Mine.view [Str.ofString "MOST_NOUGHTS", Str.ofString "MOST_SIGNS"]) mean mg mb base fr s.heap) (hd : dp + 8 < recursionLimit) (hu : un + 180 < cLine)
    (hG : GateAt w.params 276 s.heap x P ds) (hdv : IsDiv ds) (hP : Reach ds P)  (hl : s.heap.IsList l vs.toArray) (hi : IntsAre vs ns) (hz : ns.length ≤ 300) (hr : IsRow ns) (hds4 : ds.length = 4) (hP7 : P = 7) (hbr : (restBy [1, 0, 0, 0] ds).sum ≠ 0) (raise : True → ∀ e t us h' tk', RaisedS base s.heap fr e (.ref 116) t us [] h' → s.heap.UpToSlots h' → E (.ref e) { s with heap := h', toks := tk' })
    (ret : True) :
    wpAny (model PySem.Challenge.rw_uf040037_06.row.prog w) (arA dp un gd fr) (call (.ref 404) [.int 24 t, .ref l, .ref x]) Q E s := by
  revert G; k_fill; intro G
  refine' enter0 (binds := [(Str.ofString "_law_which", .int 24 t), (Str.ofString "_law_row", .ref l), (Str.ofString "_law_gate", .ref x)]) G ?k6 ?k7 ?k8 ?k9 ?kB ?_ ?c2 ?c3 ?c4 ?c5
  case k6 => k_is
  case k7 => k_is
  case k8 => omega
  case k9 => exact BindsTo.of_eq rfl
  case kB => exact locs rfl
  case c2 => exact rfl
  case c3 => exact rfl
  case c4 => exact rfl
  case c5 => decide
  intro L' h' tk F'
  have N' : News s.heap L' h' [] := News.nil
  have B' := G.below dp un gd
  have X' := G.kin
  have T' := G.top
  have hG₀ := go_on hG

  obtain ⟨dx, lD, sl1, sl2, vD, t0, t1, t2, t3, tP, tw, hIn, hlD, hiD⟩ := hG
  have hz1 : 2 ≤ ds.length := hdv.least
  have hz2 : ds.length ≤ 13 := hdv.most
  have hrd : IsRow ds := hdv.row
  have hP1 : 1 ≤ P := hP.pos
  have hP2 : P ≤ 4095 := by obtain ⟨P', h1, h2⟩ := hdv.reach; rw [hP.unique h1]; exact h2
  k_steps
  rename Fr _ _ _ _ => F₂
  rename News _ _ _ _ => N₂
  have hrow : [1] ++ (List.replicate ((ds.length : Int) - 1).toNat [(0 : Int)]).flatten = [1, 0, 0, 0] := by rw [hds4]; rfl
  refine' go_on (c_Gate_opened (G.push F₂ rfl) ?hd ?hu (gate_base F₂ hG₀) hdv hP (ns := [1, 0, 0, 0]) ?la ?lb ?lc ?ld ?r1 ?r2 ?r3 ?rr)
  case hd => omega
  case hu => omega
  case la => exact lst_led N₂ (by k_mem)
  case lb => rw [← hrow]; assumption
  case lc => decide
  case ld => exact (by intro x hx; simp only [List.mem_cons, List.not_mem_nil, or_false] at hx; omega)
  case r1 => exact fun h => absurd h (by rw [hds4]; decide)
  case r2 => exact fun h => absurd h.2 (by rw [hP7]; decide)
  case r3 => exact fun _ _ e t us h₃ tk₃ R U => A_on G F₂ R U (fun h₄ R₄ U₄ => raise trivial _ _ _ _ _ R₄ U₄)
  case rr => exact fun _ h => absurd h hbr

theorem c_law_else_called_25 {x l : Addr} {P : Nat} {ds : List Int} {vs : List Value} {ns : List Int} {t : Tok} (G : Gd (Mine.KK w.params) Mine.view (looseW Mine.view [Str.ofString "MOST_NOUGHTS", Str.ofString "MOST_SIGNS"]) mean mg mb base fr s.heap) (hd : dp + 8 < recursionLimit) (hu : un + 180 < cLine)
    (hG : GateAt w.params 276 s.heap x P ds) (hdv : IsDiv ds) (hP : Reach ds P)  (hl : s.heap.IsList l vs.toArray) (hi : IntsAre vs ns) (hz : ns.length ≤ 300) (hr : IsRow ns) (hds4 : ds.length = 4) (hP7 : P = 7) (hnm : NoMend ds [1, 1, 1]) (raise : True → ∀ e t us h' tk', RaisedS base s.heap fr e (.ref 116) t us [] h' → s.heap.UpToSlots h' → E (.ref e) { s with heap := h', toks := tk' })
    (ret : True) :
    wpAny (model PySem.Challenge.rw_uf040037_06.row.prog w) (arA dp un gd fr) (call (.ref 404) [.int 25 t, .ref l, .ref x]) Q E s := by
  revert G; k_fill; intro G
  refine' enter0 (binds := [(Str.ofString "_law_which", .int 25 t), (Str.ofString "_law_row", .ref l), (Str.ofString "_law_gate", .ref x)]) G ?k6 ?k7 ?k8 ?k9 ?kB ?_ ?c2 ?c3 ?c4 ?c5
  case k6 => k_is
  case k7 => k_is
  case k8 => omega
  case k9 => exact BindsTo.of_eq rfl
  case kB => exact locs rfl
  case c2 => exact rfl
  case c3 => exact rfl
  case c4 => exact rfl
  case c5 => decide
  intro L' h' tk F'
  have N' : News s.heap L' h' [] := News.nil
  have B' := G.below dp un gd
  have X' := G.kin
  have T' := G.top
  have hG₀ := go_on hG

  obtain ⟨dx, lD, sl1, sl2, vD, t0, t1, t2, t3, tP, tw, hIn, hlD, hiD⟩ := hG
  have hz1 : 2 ≤ ds.length := hdv.least
  have hz2 : ds.length ≤ 13 := hdv.most
  have hrd : IsRow ds := hdv.row
  have hP1 : 1 ≤ P := hP.pos
  have hP2 : P ≤ 4095 := by obtain ⟨P', h1, h2⟩ := hdv.reach; rw [hP.unique h1]; exact h2
  k_steps
  rename Fr _ _ _ _ => F₂
  rename News _ _ _ _ => N₂
  refine' go_on (c_Gate_mended (G.push F₂ rfl) ?hd ?hu (gate_base F₂ hG₀) hdv hP (ns := [1, 1, 1]) ?la (.cons _ _ (.cons _ _ (.cons _ _ .nil))) ?lc ?ld ?r1 ?r2 ?r3 ?rr)
  case hd => omega
  case hu => omega
  case la => exact lst_led N₂ (by k_mem)
  case lc => decide
  case ld => exact (by intro x hx; simp only [List.mem_cons, List.not_mem_nil, or_false] at hx; omega)
  case r1 => exact fun h => absurd h (by rw [hds4]; decide)
  case r2 => exact fun h => absurd h.2 (by rw [hP7]; decide)
  case r3 => exact fun _ _ e t us h₃ tk₃ R U => A_on G F₂ R U (fun h₄ R₄ U₄ => raise trivial _ _ _ _ _ R₄ U₄)
  case rr => exact fun _ out h => (h.not hnm).elim

theorem c_law_else_called_26 {x l : Addr} {P : Nat} {ds : List Int} {vs : List Value} {ns : List Int} {t : Tok} (G : Gd (Mine.KK w.params) Mine.view (looseW Mine.view [Str.ofString "MOST_NOUGHTS", Str.ofString "MOST_SIGNS"]) mean mg mb base fr s.heap) (hd : dp + 8 < recursionLimit) (hu : un + 180 < cLine)
    (hG : GateAt w.params 276 s.heap x P ds) (hdv : IsDiv ds) (hP : Reach ds P)  (hl : s.heap.IsList l vs.toArray) (hi : IntsAre vs ns) (hz : ns.length ≤ 300) (hr : IsRow ns) (hds4 : ds.length = 4) (hP7 : P = 7) (raise : True → ∀ e t us h' tk', RaisedS base s.heap fr e (.ref 128) t us [] h' → s.heap.UpToSlots h' → E (.ref e) { s with heap := h', toks := tk' })
    (ret : True) :
    wpAny (model PySem.Challenge.rw_uf040037_06.row.prog w) (arA dp un gd fr) (call (.ref 404) [.int 26 t, .ref l, .ref x]) Q E s := by
  revert G; k_fill; intro G
  refine' enter0 (binds := [(Str.ofString "_law_which", .int 26 t), (Str.ofString "_law_row", .ref l), (Str.ofString "_law_gate", .ref x)]) G ?k6 ?k7 ?k8 ?k9 ?kB ?_ ?c2 ?c3 ?c4 ?c5
  case k6 => k_is
  case k7 => k_is
  case k8 => omega
  case k9 => exact BindsTo.of_eq rfl
  case kB => exact locs rfl
  case c2 => exact rfl
  case c3 => exact rfl
  case c4 => exact rfl
  case c5 => decide
  intro L' h' tk F'
  have N' : News s.heap L' h' [] := News.nil
  have B' := G.below dp un gd
  have X' := G.kin
  have T' := G.top
  have hG₀ := go_on hG

  obtain ⟨dx, lD, sl1, sl2, vD, t0, t1, t2, t3, tP, tw, hIn, hlD, hiD⟩ := hG
  have hz1 : 2 ≤ ds.length := hdv.least
  have hz2 : ds.length ≤ 13 := hdv.most
  have hrd : IsRow ds := hdv.row
  have hP1 : 1 ≤ P := hP.pos
  have hP2 : P ≤ 4095 := by obtain ⟨P', h1, h2⟩ := hdv.reach; rw [hP.unique h1]; exact h2
  k_steps
  rename Fr _ _ _ _ => F₁
  rename News _ _ _ _ => N₁
  refine go_on (c_Register (G.push F₁ rfl) (by omega) (by omega) (gate_base F₁ hG₀) hdv hP (fun h₅ tk₅ y dy lK vK cK u0 u1 u2 um k₅ n1 n2 n3 o1 o2 o3 => ?_))
  have F₅ := fr_on F₁ k₅
  have ne1 := allNe_of (news_ne N₁ n1)
  have ne2 := allNe_of (news_ne N₁ n2)
  have ne3 := allNe_of (news_ne N₁ n3)
  try simp only [AllNe, and_true] at ne1 ne2 ne3
  have N₅ := news_add F₁ (news_add F₁ (news_add F₁ (news_on N₁ k₅) n3 o3) n2 o2) n1 o1
  clear F₁ N₁ k₅ n1 n2 n3 o1 o2 o3
  dsimp only
  k_steps
  rename Fr _ _ _ _ => F₂
  rename News _ _ _ _ => N₂
  refine' go_on (c_Register_joined (G.push F₂ rfl) ?hd ?hu (lst_base F₂ hl) ?r trivial)
  case hd => omega
  case hu => omega
  case r => exact fun _ e t us h₃ tk₃ R U => A_on G F₂ R U (fun h₄ R₄ U₄ => raise trivial _ _ _ _ _ R₄ U₄)

theorem c_law_else_called_27 {x l : Addr} {P : Nat} {ds : List Int} {vs : List Value} {ns : List Int} {t : Tok} (G : Gd (Mine.KK w.params) Mine.view (looseW Mine.view [Str.ofString "MOST_NOUGHTS", Str.ofString "MOST_SIGNS"]) mean mg mb base fr s.heap) (hd : dp + 8 < recursionLimit) (hu : un + 180 < cLine)
    (hG : GateAt w.params 276 s.heap x P ds) (hdv : IsDiv ds) (hP : Reach ds P)  (hl : s.heap.IsList l vs.toArray) (hi : IntsAre vs ns) (hz : ns.length ≤ 300) (hr : IsRow ns) (hds4 : ds.length = 4) (hP7 : P = 7) (raise : True → ∀ e t us h' tk', RaisedS base s.heap fr e (.ref 140) t us [] h' → s.heap.UpToSlots h' → E (.ref e) { s with heap := h', toks := tk' })
    (ret : True) :
    wpAny (model PySem.Challenge.rw_uf040037_06.row.prog w) (arA dp un gd fr) (call (.ref 404) [.int 27 t, .ref l, .ref x]) Q E s := by
  revert G; k_fill; intro G
  refine' enter0 (binds := [(Str.ofString "_law_which", .int 27 t), (Str.ofString "_law_row", .ref l), (Str.ofString "_law_gate", .ref x)]) G ?k6 ?k7 ?k8 ?k9 ?kB ?_ ?c2 ?c3 ?c4 ?c5
  case k6 => k_is
  case k7 => k_is
  case k8 => omega
  case k9 => exact BindsTo.of_eq rfl
  case kB => exact locs rfl
  case c2 => exact rfl
  case c3 => exact rfl
  case c4 => exact rfl
  case c5 => decide
  intro L' h' tk F'
  have N' : News s.heap L' h' [] := News.nil
  have B' := G.below dp un gd
  have X' := G.kin
  have T' := G.top
  have hG₀ := go_on hG

  obtain ⟨dx, lD, sl1, sl2, vD, t0, t1, t2, t3, tP, tw, hIn, hlD, hiD⟩ := hG
  have hz1 : 2 ≤ ds.length := hdv.least
  have hz2 : ds.length ≤ 13 := hdv.most
  have hrd : IsRow ds := hdv.row
  have hP1 : 1 ≤ P := hP.pos
  have hP2 : P ≤ 4095 := by obtain ⟨P', h1, h2⟩ := hdv.reach; rw [hP.unique h1]; exact h2
  k_steps
  rename Fr _ _ _ _ => F₂
  rename News _ _ _ _ => N₂
  refine' go_on (c_row_of_l (G.push F₂ rfl) ?hd ?hu (lst_base F₂ hl) ?r trivial)
  case hd => omega
  case hu => omega
  case r => exact fun _ e t us h₃ tk₃ R U => A_on G F₂ R U (fun h₄ R₄ U₄ => raise trivial _ _ _ _ _ R₄ U₄)
end
section
local macro_rules | `(tactic| walk_at "subscriptTail Name Slice ref ref") => `(tactic| refine Mine.stop_of ?_)
local macro_rules | `(tactic| walk_at "call type:tuple") => `(tactic| refine Mine.stop_of ?_)
local macro_rules | `(tactic| walk_at "binaryOp Add ref ref") => `(tactic| refine Mine.stop_of ?_)

theorem c_law_bad  {l : Addr} {vs : List Value} {ns : List Int} {c : Int} {t : Tok} (G : Gd (Mine.KK w.params) Mine.view (looseW Mine.view [Str.ofString "MOST_NOUGHTS", Str.ofString "MOST_SIGNS"]) mean mg mb base fr s.heap) (hd : dp + 1 < recursionLimit) (hu : un + 110 < cLine)
     (hl : s.heap.IsList l vs.toArray) (hi : IntsAre vs ns) (hz : ns.length ≤ 300) (hr : IsRow ns) 
    (ret : ∀ h' tk' v (prs : List (Addr × Obj)), s.heap.StaysIn h' → (∀ q ∈ prs, h'.get? q.1 = some q.2 ∧ s.heap.get? q.1 = none) → BadP (fun a o => (a, o) ∈ prs) v → Q v { s with heap := h', toks := tk' }) :
    wpAny (model PySem.Challenge.rw_uf040037_06.row.prog w) (arA dp un gd fr) (call (.ref 383) [.int c t, .ref l]) Q E s := by
  revert G; k_fill; intro G
  refine' enter0 (binds := [(Str.ofString "_law_cell", .int c t), (Str.ofString "_law_row", .ref l)]) G ?k6 ?k7 ?k8 ?k9 ?kB ?_ ?c2 ?c3 ?c4 ?c5
  case k6 => k_is
  case k7 => k_is
  case k8 => omega
  case k9 => exact BindsTo.of_eq rfl
  case kB => exact locs rfl
  case c2 => exact rfl
  case c3 => exact rfl
  case c4 => exact rfl
  case c5 => decide
  intro L' h' tk F'
  have N' : News s.heap L' h' [] := News.nil
  have B' := G.below dp un gd
  have X' := G.kin
  have T' := G.top
  have hw0 := fm_ge c 13 (by decide)
  have hw1 := fm_le c 13 12 (by decide) (by decide)
  have hp0 := fm_ge (c.fdiv 13) ((ns.length : Int) + 1) (by omega)
  have hp1 := fm_le (c.fdiv 13) ((ns.length : Int) + 1) (ns.length : Int) (by omega) (by omega)
  k_steps
  · rename Fr _ _ _ _ => F₁
    rename News _ _ _ _ => N₁
    refine go_on (kde_tupleOf F₁ N₁ (lst_base F₁ hl) (by rw [List.size_toArray, hi.length]; omega) rfl (fun D h₂ F₂ N₂ l₂ => ?_))
    clear F₁ N₁ l₂
    dsimp only
    k_steps
    · rename Fr _ _ _ _ => F₈
      rename News _ _ _ _ => N₈
      exact ret _ _ _ [(D, _)] F₈.keep (led_of N₈ (List.forall_mem_cons.mpr ⟨by k_mem, List.forall_mem_nil _⟩)) (.inr (.inr (.inr (.inr (.inl ⟨D, _, rfl, .head _, rfl⟩)))))
    · rename Fr _ _ _ _ => F₈
      exact ret _ _ _ [] F₈.keep (List.forall_mem_nil _) (.inr (.inr (.inr (.inl ⟨_, _, rfl⟩))))
    · rename Fr _ _ _ _ => F₈
      exact ret _ _ _ [] F₈.keep (List.forall_mem_nil _) (.inl rfl)
    · rename Fr _ _ _ _ => F₈
      exact ret _ _ _ [] F₈.keep (List.forall_mem_nil _) (.inr (.inl ⟨_, _, rfl⟩))
    · rename Fr _ _ _ _ => F₈
      rename News _ _ _ _ => N₈
      rename Obj.IsDictOf _ _ _ => hdd
      obtain ⟨_, _, hex, _⟩ := hdd
      exact ret _ _ _ [(_, _)] F₈.keep (led_of N₈ (List.forall_mem_cons.mpr ⟨.tail _ (.head _), List.forall_mem_nil _⟩)) (.inr (.inr (.inr (.inr (.inr (.inl ⟨_, _, rfl, .head _, hex.1⟩))))))
    · rename Fr _ _ _ _ => F₈
      exact ret _ _ _ [] F₈.keep (List.forall_mem_nil _) (.inr (.inr (.inl ⟨_, rfl⟩)))
  generalize (c.fdiv 13).fmod ((ns.length : Int) + 1) = k at *
  obtain ⟨k, rfl⟩ := Int.eq_ofNat_of_zero_le hp0
  rename Fr _ _ _ _ => F₁
  rename News _ _ _ _ => N₁
  refine go_on ?_
  refine' kmk_slice_ints (vs := vs) (ns := ns) (lo := none) (hi := some (k : Int)) (ms := ns.take k) ?sF ?sN ?sl ?sp ?sq hi ?sm rfl ?_ ?ss ?st ?sz
  case sF => exact F₁
  case sN => exact N₁
  case sl => exact lst_base F₁ hl
  case sp => first | exact IsPart.none | exact IsPart.int _ _
  case sq => first | exact IsPart.none | exact IsPart.int _ _
  case sm => exact (by have := kmk_upto hi (y := (k : Int)) (by omega); simpa using this)
  case ss => with_unfolding_all rfl
  case st => intro _; with_unfolding_all rfl
  case sz => rw [List.size_toArray, hi.length, sizeLine_eq]; omega

  intro D₁ w₁ h₁ F₂ N₂ l₁ hI₁ _ hl₁
  replace l₁ := allLt_of l₁
  try simp only [AllLt, and_true] at l₁
  clear F₁ N₁
  have hz1 : (ns.take k).length ≤ 300 := by omega
  have hr1 : IsRow (ns.take k) := isRow_take hr k
  generalize ns.take k = as at *
  dsimp only
  k_steps
  · rename Fr _ _ _ _ => F₃
    rename News _ _ _ _ => N₃
    refine' go_on (kmk_add_lit F₃ N₃ (lst_led N₃ (.tail _ (.tail _ (.tail _ (.head _))))) (lst_led N₃ (.head _)) rfl (fun D₃ h₃ F₄ N₄ l₃ => ?_) ?z0)
    case z0 => rw [sizeLine_eq]; simp only [List.length_cons, List.length_nil]; rw [hI₁.length]; omega
    clear F₃ N₃
    replace l₃ := allLt_of l₃
    try simp only [AllLt, and_true] at l₃
    dsimp only
    k_steps
    rename Fr _ _ _ _ => F₅
    rename News _ _ _ _ => N₅
    refine go_on ?_
    refine' kmk_slice_ints (vs := vs) (ns := ns) (lo := some (k : Int)) (hi := none) (ms := ns.drop k) ?s0F ?s0N ?s0l ?s0p ?s0q hi ?s0m rfl ?_ ?s0s ?s0t ?s0z
    case s0F => exact F₅
    case s0N => exact N₅
    case s0l => exact lst_base F₅ hl
    case s0p => first | exact IsPart.none | exact IsPart.int _ _
    case s0q => first | exact IsPart.none | exact IsPart.int _ _
    case s0m => exact (by have := kmk_from hi (x := (k : Int)) (by omega); simpa using this)
    case s0s => with_unfolding_all rfl
    case s0t => intro _; with_unfolding_all rfl
    case s0z => rw [List.size_toArray, hi.length, sizeLine_eq]; omega
    intro D₅ w₅ h₅ F₆ N₆ l₅ hI₅ _ hl₅
    replace l₅ := allLt_of l₅
    try simp only [AllLt, and_true] at l₅
    clear F₅ N₅
    have hz5 : (ns.drop k).length ≤ 300 := by rw [List.length_drop]; omega
    dsimp only
    k_steps
    rename Fr _ _ _ _ => F₇
    rename News _ _ _ _ => N₇
    refine' go_on (kmk_add_lit F₇ N₇ (lst_led N₇ (.tail _ (.head _))) (lst_led N₇ (.head _)) rfl (fun D₇ h₇ F₈ N₈ _ => ?_) ?y0)
    case y0 => rw [sizeLine_eq]; simp only [List.length_append, List.length_cons, List.length_nil]; rw [hI₁.length, hI₅.length]; omega
    clear F₇ N₇
    dsimp only
    k_steps
    exact ret _ _ (.ref D₇) [(D₇, _)] F₈.keep (led_of N₈ (List.forall_mem_cons.mpr ⟨.head _, List.forall_mem_nil _⟩)) (BadP.of_list (.head _) hI₁ hr1 (.inl ⟨_, _, rfl, by decide⟩))
  · rename Fr _ _ _ _ => F₃
    rename News _ _ _ _ => N₃
    refine' go_on (kmk_add_lit F₃ N₃ (lst_led N₃ (.tail _ (.tail _ (.tail _ (.head _))))) (lst_led N₃ (.head _)) rfl (fun D₃ h₃ F₄ N₄ l₃ => ?_) ?z1)
    case z1 => rw [sizeLine_eq]; simp only [List.length_cons, List.length_nil]; rw [hI₁.length]; omega
    clear F₃ N₃
    replace l₃ := allLt_of l₃
    try simp only [AllLt, and_true] at l₃
    dsimp only
    k_steps
    rename Fr _ _ _ _ => F₅
    rename News _ _ _ _ => N₅
    refine go_on ?_
    refine' kmk_slice_ints (vs := vs) (ns := ns) (lo := some (k : Int)) (hi := none) (ms := ns.drop k) ?s1F ?s1N ?s1l ?s1p ?s1q hi ?s1m rfl ?_ ?s1s ?s1t ?s1z
    case s1F => exact F₅
    case s1N => exact N₅
    case s1l => exact lst_base F₅ hl
    case s1p => first | exact IsPart.none | exact IsPart.int _ _
    case s1q => first | exact IsPart.none | exact IsPart.int _ _
    case s1m => exact (by have := kmk_from hi (x := (k : Int)) (by omega); simpa using this)
    case s1s => with_unfolding_all rfl
    case s1t => intro _; with_unfolding_all rfl
    case s1z => rw [List.size_toArray, hi.length, sizeLine_eq]; omega
    intro D₅ w₅ h₅ F₆ N₆ l₅ hI₅ _ hl₅
    replace l₅ := allLt_of l₅
    try simp only [AllLt, and_true] at l₅
    clear F₅ N₅
    have hz5 : (ns.drop k).length ≤ 300 := by rw [List.length_drop]; omega
    dsimp only
    k_steps
    rename Fr _ _ _ _ => F₇
    rename News _ _ _ _ => N₇
    refine' go_on (kmk_add_lit F₇ N₇ (lst_led N₇ (.tail _ (.head _))) (lst_led N₇ (.head _)) rfl (fun D₇ h₇ F₈ N₈ _ => ?_) ?y1)
    case y1 => rw [sizeLine_eq]; simp only [List.length_append, List.length_cons, List.length_nil]; rw [hI₁.length, hI₅.length]; omega
    clear F₇ N₇
    dsimp only
    k_steps
    exact ret _ _ (.ref D₇) [(D₇, _)] F₈.keep (led_of N₈ (List.forall_mem_cons.mpr ⟨.head _, List.forall_mem_nil _⟩)) (BadP.of_list (.head _) hI₁ hr1 (.inl ⟨_, _, rfl, by decide⟩))
  · rename Fr _ _ _ _ => F₃
    rename News _ _ _ _ => N₃
    refine' go_on (kmk_add_lit F₃ N₃ (lst_led N₃ (.tail _ (.tail _ (.tail _ (.head _))))) (lst_led N₃ (.head _)) rfl (fun D₃ h₃ F₄ N₄ l₃ => ?_) ?z2)
    case z2 => rw [sizeLine_eq]; simp only [List.length_cons, List.length_nil]; rw [hI₁.length]; omega
    clear F₃ N₃
    replace l₃ := allLt_of l₃
    try simp only [AllLt, and_true] at l₃
    dsimp only
    k_steps
    rename Fr _ _ _ _ => F₅
    rename News _ _ _ _ => N₅
    refine go_on ?_
    refine' kmk_slice_ints (vs := vs) (ns := ns) (lo := some (k : Int)) (hi := none) (ms := ns.drop k) ?s2F ?s2N ?s2l ?s2p ?s2q hi ?s2m rfl ?_ ?s2s ?s2t ?s2z
    case s2F => exact F₅
    case s2N => exact N₅
    case s2l => exact lst_base F₅ hl
    case s2p => first | exact IsPart.none | exact IsPart.int _ _
    case s2q => first | exact IsPart.none | exact IsPart.int _ _
    case s2m => exact (by have := kmk_from hi (x := (k : Int)) (by omega); simpa using this)
    case s2s => with_unfolding_all rfl
    case s2t => intro _; with_unfolding_all rfl
    case s2z => rw [List.size_toArray, hi.length, sizeLine_eq]; omega
    intro D₅ w₅ h₅ F₆ N₆ l₅ hI₅ _ hl₅
    replace l₅ := allLt_of l₅
    try simp only [AllLt, and_true] at l₅
    clear F₅ N₅
    have hz5 : (ns.drop k).length ≤ 300 := by rw [List.length_drop]; omega
    dsimp only
    k_steps
    rename Fr _ _ _ _ => F₇
    rename News _ _ _ _ => N₇
    refine' go_on (kmk_add_lit F₇ N₇ (lst_led N₇ (.tail _ (.head _))) (lst_led N₇ (.head _)) rfl (fun D₇ h₇ F₈ N₈ _ => ?_) ?y2)
    case y2 => rw [sizeLine_eq]; simp only [List.length_append, List.length_cons, List.length_nil]; rw [hI₁.length, hI₅.length]; omega
    clear F₇ N₇
    dsimp only
    k_steps
    exact ret _ _ (.ref D₇) [(D₇, _)] F₈.keep (led_of N₈ (List.forall_mem_cons.mpr ⟨.head _, List.forall_mem_nil _⟩)) (BadP.of_list (.head _) hI₁ hr1 (.inr (.inl ⟨_, rfl⟩)))
  · rename Fr _ _ _ _ => F₃
    rename News _ _ _ _ => N₃
    refine' go_on (kmk_add_lit F₃ N₃ (lst_led N₃ (.tail _ (.tail _ (.tail _ (.head _))))) (lst_led N₃ (.head _)) rfl (fun D₃ h₃ F₄ N₄ l₃ => ?_) ?z3)
    case z3 => rw [sizeLine_eq]; simp only [List.length_cons, List.length_nil]; rw [hI₁.length]; omega
    clear F₃ N₃
    replace l₃ := allLt_of l₃
    try simp only [AllLt, and_true] at l₃
    dsimp only
    k_steps
    rename Fr _ _ _ _ => F₅
    rename News _ _ _ _ => N₅
    refine go_on ?_
    refine' kmk_slice_ints (vs := vs) (ns := ns) (lo := some (k : Int)) (hi := none) (ms := ns.drop k) ?s3F ?s3N ?s3l ?s3p ?s3q hi ?s3m rfl ?_ ?s3s ?s3t ?s3z
    case s3F => exact F₅
    case s3N => exact N₅
    case s3l => exact lst_base F₅ hl
    case s3p => first | exact IsPart.none | exact IsPart.int _ _
    case s3q => first | exact IsPart.none | exact IsPart.int _ _
    case s3m => exact (by have := kmk_from hi (x := (k : Int)) (by omega); simpa using this)
    case s3s => with_unfolding_all rfl
    case s3t => intro _; with_unfolding_all rfl
    case s3z => rw [List.size_toArray, hi.length, sizeLine_eq]; omega
    intro D₅ w₅ h₅ F₆ N₆ l₅ hI₅ _ hl₅
    replace l₅ := allLt_of l₅
    try simp only [AllLt, and_true] at l₅
    clear F₅ N₅
    have hz5 : (ns.drop k).length ≤ 300 := by rw [List.length_drop]; omega
    dsimp only
    k_steps
    rename Fr _ _ _ _ => F₇
    rename News _ _ _ _ => N₇
    refine' go_on (kmk_add_lit F₇ N₇ (lst_led N₇ (.tail _ (.head _))) (lst_led N₇ (.head _)) rfl (fun D₇ h₇ F₈ N₈ _ => ?_) ?y3)
    case y3 => rw [sizeLine_eq]; simp only [List.length_append, List.length_cons, List.length_nil]; rw [hI₁.length, hI₅.length]; omega
    clear F₇ N₇
    dsimp only
    k_steps
    exact ret _ _ (.ref D₇) [(D₇, _)] F₈.keep (led_of N₈ (List.forall_mem_cons.mpr ⟨.head _, List.forall_mem_nil _⟩)) (BadP.of_list (.head _) hI₁ hr1 (.inr (.inl ⟨_, rfl⟩)))
  · rename Fr _ _ _ _ => F₃
    rename News _ _ _ _ => N₃
    refine' go_on (kmk_add_lit F₃ N₃ (lst_led N₃ (.tail _ (.tail _ (.tail _ (.head _))))) (lst_led N₃ (.head _)) rfl (fun D₃ h₃ F₄ N₄ l₃ => ?_) ?z4)
    case z4 => rw [sizeLine_eq]; simp only [List.length_cons, List.length_nil]; rw [hI₁.length]; omega
    clear F₃ N₃
    replace l₃ := allLt_of l₃
    try simp only [AllLt, and_true] at l₃
    dsimp only
    k_steps
    rename Fr _ _ _ _ => F₅
    rename News _ _ _ _ => N₅
    refine go_on ?_
    refine' kmk_slice_ints (vs := vs) (ns := ns) (lo := some (k : Int)) (hi := none) (ms := ns.drop k) ?s4F ?s4N ?s4l ?s4p ?s4q hi ?s4m rfl ?_ ?s4s ?s4t ?s4z
    case s4F => exact F₅
    case s4N => exact N₅
    case s4l => exact lst_base F₅ hl
    case s4p => first | exact IsPart.none | exact IsPart.int _ _
    case s4q => first | exact IsPart.none | exact IsPart.int _ _
    case s4m => exact (by have := kmk_from hi (x := (k : Int)) (by omega); simpa using this)
    case s4s => with_unfolding_all rfl
    case s4t => intro _; with_unfolding_all rfl
    case s4z => rw [List.size_toArray, hi.length, sizeLine_eq]; omega
    intro D₅ w₅ h₅ F₆ N₆ l₅ hI₅ _ hl₅
    replace l₅ := allLt_of l₅
    try simp only [AllLt, and_true] at l₅
    clear F₅ N₅
    have hz5 : (ns.drop k).length ≤ 300 := by rw [List.length_drop]; omega
    dsimp only
    k_steps
    rename Fr _ _ _ _ => F₇
    rename News _ _ _ _ => N₇
    refine' go_on (kmk_add_lit F₇ N₇ (lst_led N₇ (.tail _ (.head _))) (lst_led N₇ (.head _)) rfl (fun D₇ h₇ F₈ N₈ _ => ?_) ?y4)
    case y4 => rw [sizeLine_eq]; simp only [List.length_append, List.length_cons, List.length_nil]; rw [hI₁.length, hI₅.length]; omega
    clear F₇ N₇
    dsimp only
    k_steps
    exact ret _ _ (.ref D₇) [(D₇, _)] F₈.keep (led_of N₈ (List.forall_mem_cons.mpr ⟨.head _, List.forall_mem_nil _⟩)) (BadP.of_list (.head _) hI₁ hr1 (.inr (.inr (.inl rfl))))
  · rename Fr _ _ _ _ => F₃
    rename News _ _ _ _ => N₃
    refine' go_on (kmk_add_lit F₃ N₃ (lst_led N₃ (.tail _ (.tail _ (.tail _ (.head _))))) (lst_led N₃ (.head _)) rfl (fun D₃ h₃ F₄ N₄ l₃ => ?_) ?z5)
    case z5 => rw [sizeLine_eq]; simp only [List.length_cons, List.length_nil]; rw [hI₁.length]; omega
    clear F₃ N₃
    replace l₃ := allLt_of l₃
    try simp only [AllLt, and_true] at l₃
    dsimp only
    k_steps
    rename Fr _ _ _ _ => F₅
    rename News _ _ _ _ => N₅
    refine go_on ?_
    refine' kmk_slice_ints (vs := vs) (ns := ns) (lo := some (k : Int)) (hi := none) (ms := ns.drop k) ?s5F ?s5N ?s5l ?s5p ?s5q hi ?s5m rfl ?_ ?s5s ?s5t ?s5z
    case s5F => exact F₅
    case s5N => exact N₅
    case s5l => exact lst_base F₅ hl
    case s5p => first | exact IsPart.none | exact IsPart.int _ _
    case s5q => first | exact IsPart.none | exact IsPart.int _ _
    case s5m => exact (by have := kmk_from hi (x := (k : Int)) (by omega); simpa using this)
    case s5s => with_unfolding_all rfl
    case s5t => intro _; with_unfolding_all rfl
    case s5z => rw [List.size_toArray, hi.length, sizeLine_eq]; omega
    intro D₅ w₅ h₅ F₆ N₆ l₅ hI₅ _ hl₅
    replace l₅ := allLt_of l₅
    try simp only [AllLt, and_true] at l₅
    clear F₅ N₅
    have hz5 : (ns.drop k).length ≤ 300 := by rw [List.length_drop]; omega
    dsimp only
    k_steps
    rename Fr _ _ _ _ => F₇
    rename News _ _ _ _ => N₇
    refine' go_on (kmk_add_lit F₇ N₇ (lst_led N₇ (.tail _ (.head _))) (lst_led N₇ (.head _)) rfl (fun D₇ h₇ F₈ N₈ _ => ?_) ?y5)
    case y5 => rw [sizeLine_eq]; simp only [List.length_append, List.length_cons, List.length_nil]; rw [hI₁.length, hI₅.length]; omega
    clear F₇ N₇
    dsimp only
    k_steps
    exact ret _ _ (.ref D₇) [(D₇, _)] F₈.keep (led_of N₈ (List.forall_mem_cons.mpr ⟨.head _, List.forall_mem_nil _⟩)) (BadP.of_list (.head _) hI₁ hr1 (.inr (.inr (.inr (.inl ⟨_, _, rfl⟩)))))
  · rename Fr _ _ _ _ => F₃
    rename News _ _ _ _ => N₃
    refine' go_on (kmk_add_lit F₃ N₃ (lst_led N₃ (.tail _ (.tail _ (.tail _ (.head _))))) (lst_led N₃ (.head _)) rfl (fun D₃ h₃ F₄ N₄ l₃ => ?_) ?z6)
    case z6 => rw [sizeLine_eq]; simp only [List.length_cons, List.length_nil]; rw [hI₁.length]; omega
    clear F₃ N₃
    replace l₃ := allLt_of l₃
    try simp only [AllLt, and_true] at l₃
    dsimp only
    k_steps
    rename Fr _ _ _ _ => F₅
    rename News _ _ _ _ => N₅
    refine go_on ?_
    refine' kmk_slice_ints (vs := vs) (ns := ns) (lo := some (k : Int)) (hi := none) (ms := ns.drop k) ?s6F ?s6N ?s6l ?s6p ?s6q hi ?s6m rfl ?_ ?s6s ?s6t ?s6z
    case s6F => exact F₅
    case s6N => exact N₅
    case s6l => exact lst_base F₅ hl
    case s6p => first | exact IsPart.none | exact IsPart.int _ _
    case s6q => first | exact IsPart.none | exact IsPart.int _ _
    case s6m => exact (by have := kmk_from hi (x := (k : Int)) (by omega); simpa using this)
    case s6s => with_unfolding_all rfl
    case s6t => intro _; with_unfolding_all rfl
    case s6z => rw [List.size_toArray, hi.length, sizeLine_eq]; omega
    intro D₅ w₅ h₅ F₆ N₆ l₅ hI₅ _ hl₅
    replace l₅ := allLt_of l₅
    try simp only [AllLt, and_true] at l₅
    clear F₅ N₅
    have hz5 : (ns.drop k).length ≤ 300 := by rw [List.length_drop]; omega
    dsimp only
    k_steps
    rename Fr _ _ _ _ => F₇
    rename News _ _ _ _ => N₇
    refine' go_on (kmk_add_lit F₇ N₇ (lst_led N₇ (.tail _ (.head _))) (lst_led N₇ (.head _)) rfl (fun D₇ h₇ F₈ N₈ _ => ?_) ?y6)
    case y6 => rw [sizeLine_eq]; simp only [List.length_append, List.length_cons, List.length_nil]; rw [hI₁.length, hI₅.length]; omega
    clear F₇ N₇
    dsimp only
    k_steps
    exact ret _ _ (.ref D₇) [(D₇, _), (_, _)] F₈.keep (led_of N₈ (List.forall_mem_cons.mpr ⟨.head _, List.forall_mem_cons.mpr ⟨.tail _ (.tail _ (.tail _ (.tail _ (.tail _ (.head _))))), List.forall_mem_nil _⟩⟩)) (BadP.of_list (.head _) hI₁ hr1 (.inr (.inr (.inr (.inr ⟨_, _, rfl, .tail _ (.head _), rfl⟩)))))
end
theorem excP_NoRow (pr : Params) : excPlain (Mine.KK pr) 44 = true := by kernel_rfl
theorem excP_NoSign (pr : Params) : excPlain (Mine.KK pr) 56 = true := by kernel_rfl
theorem excP_NoDivisor (pr : Params) : excPlain (Mine.KK pr) 68 = true := by kernel_rfl
theorem excP_NoCount (pr : Params) : excPlain (Mine.KK pr) 80 = true := by kernel_rfl
theorem excP_TooLong (pr : Params) : excPlain (Mine.KK pr) 92 = true := by kernel_rfl
theorem excP_TooShort (pr : Params) : excPlain (Mine.KK pr) 104 = true := by kernel_rfl
theorem excP_Broken (pr : Params) : excPlain (Mine.KK pr) 116 = true := by kernel_rfl
theorem excP_NoMate (pr : Params) : excPlain (Mine.KK pr) 128 = true := by kernel_rfl
theorem excP_NoText (pr : Params) : excPlain (Mine.KK pr) 140 = true := by kernel_rfl

noncomputable def wB : Scope × List ExceptHandler := (fun (p : Arguments) (b o f r : List Stmt) (hs : List ExceptHandler) (pos : Pos) (s : Scope) (_ : (p, Stmt.Try b hs o f pos :: r, s) = fnP (nthS pW.main.body 49)) => (s, hs)) _ _ _ _ _ _ _ _ rfl
theorem hideP {α : Type} {M : Model} {A : Around} {c : Sem α} {Q : α → Shared → Prop} {E : Value → Shared → Prop} {s : Shared} (h : ∀ q e, q = Q → e = E → wpAny M A c q e s) : wpAny M A c Q E s := h Q E rfl rfl
theorem ret_strF {x y : Str} {t : Tok} {g g' h' : Heap} {tk' : Nat} {Q : Flow → Shared → Prop} (ret : ∀ g' h' tk' t', KtsTurn (frs fr) g g' → g'.StaysIn h' → Q (.ret (.str x t')) { s with heap := h', toks := tk' }) (e : y = x) (T : KtsTurn (frs fr) g g') (k : g'.StaysIn h') : Q (.ret (.str y t)) { s with heap := h', toks := tk' } := e ▸ ret g' h' tk' t T k
theorem ret_strV {x y : Str} {t : Tok} {h : Heap} {tk' : Nat} (ret : ∀ tk' t', Q (.str x t') { s with heap := h, toks := tk' }) (e : y = x) : Q (.str y t) { s with heap := h, toks := tk' } := e ▸ ret tk' t
section
local macro_rules | `(tactic| walk_at "call builtin:isinstance") => `(tactic| refine Mine.stop_of ?_)
theorem mulY_NoRow {g h : Heap} {L e a D : Addr} {tk : Nat} {name : Str} {cd : Value} {oe : Obj} {news : List (Addr × Obj)} {m : Str → Option Value} {p1 p2 p3 p4 p5 p6 p7 p8 : Pos} (G : Gd (Mine.KK w.params) Mine.view (looseW Mine.view [Str.ofString "MOST_NOUGHTS", Str.ofString "MOST_SIGNS"]) mean mg mb base fr g) (hd : dp + 10 < recursionLimit) (hu : un + 200 < cLine)
    (F : Fr g L h m) (hm : m (Str.ofString "e") = some (.ref e)) (N : News g L h ((e, oe) :: news)) (hc : oe.cls = .ref D) (ex : exmOne (Mine.KK w.params) (.ref D) (.ref 44) = some true)
    (ret : ∀ tk' t', Q (.str (Str.ofString "r") t') { s with heap := h, toks := tk' }) :
    wpAny (model PySem.Challenge.rw_uf040037_06.row.prog w) (arH (.ref e) (dp + 1) (un + 3) gd (envOf name wB.1 L a cd :: fr)) (eval (.BinOp (.Constant (.str (Str.ofString "r")) 0 p1) .Mult (.Call (.Name (Str.ofString "int") p2) [.Call (.Name (Str.ofString "isinstance") p3) [.Name (Str.ofString "e") p4, .Name (Str.ofString "NoRow") p5] [] p6] [] p7) p8) (envOf name wB.1 L a cd)) Q E { s with heap := h, toks := tk } := by
  revert G; k_fill; intro G
  delta wB at *
  try dsimp only
  replace F := fr_know (Str.ofString "e") F hm
  have B₇ := G.below dp un gd
  have X₇ := G.kin
  have T₇' := G.top
  clear hm
  k_steps
  refine go_on (Mine.isi_exc (by k_in) (fun M => Mine.exc_type N (.head _) hc) ex (by intro e; cases e) ?_)
  try dsimp only
  k_steps
  exact ret_strV (s := s) (Q := Q) ret (by decide +kernel)
theorem mulY_NoSign {g h : Heap} {L e a D : Addr} {tk : Nat} {name : Str} {cd : Value} {oe : Obj} {news : List (Addr × Obj)} {m : Str → Option Value} {p1 p2 p3 p4 p5 p6 p7 p8 : Pos} (G : Gd (Mine.KK w.params) Mine.view (looseW Mine.view [Str.ofString "MOST_NOUGHTS", Str.ofString "MOST_SIGNS"]) mean mg mb base fr g) (hd : dp + 10 < recursionLimit) (hu : un + 200 < cLine)
    (F : Fr g L h m) (hm : m (Str.ofString "e") = some (.ref e)) (N : News g L h ((e, oe) :: news)) (hc : oe.cls = .ref D) (ex : exmOne (Mine.KK w.params) (.ref D) (.ref 56) = some true)
    (ret : ∀ tk' t', Q (.str (Str.ofString "s") t') { s with heap := h, toks := tk' }) :
    wpAny (model PySem.Challenge.rw_uf040037_06.row.prog w) (arH (.ref e) (dp + 1) (un + 3) gd (envOf name wB.1 L a cd :: fr)) (eval (.BinOp (.Constant (.str (Str.ofString "s")) 0 p1) .Mult (.Call (.Name (Str.ofString "int") p2) [.Call (.Name (Str.ofString "isinstance") p3) [.Name (Str.ofString "e") p4, .Name (Str.ofString "NoSign") p5] [] p6] [] p7) p8) (envOf name wB.1 L a cd)) Q E { s with heap := h, toks := tk } := by
  revert G; k_fill; intro G
  delta wB at *
  try dsimp only
  replace F := fr_know (Str.ofString "e") F hm
  have B₇ := G.below dp un gd
  have X₇ := G.kin
  have T₇' := G.top
  clear hm
  k_steps
  refine go_on (Mine.isi_exc (by k_in) (fun M => Mine.exc_type N (.head _) hc) ex (by intro e; cases e) ?_)
  try dsimp only
  k_steps
  exact ret_strV (s := s) (Q := Q) ret (by decide +kernel)
theorem mulY_NoDivisor {g h : Heap} {L e a D : Addr} {tk : Nat} {name : Str} {cd : Value} {oe : Obj} {news : List (Addr × Obj)} {m : Str → Option Value} {p1 p2 p3 p4 p5 p6 p7 p8 : Pos} (G : Gd (Mine.KK w.params) Mine.view (looseW Mine.view [Str.ofString "MOST_NOUGHTS", Str.ofString "MOST_SIGNS"]) mean mg mb base fr g) (hd : dp + 10 < recursionLimit) (hu : un + 200 < cLine)
    (F : Fr g L h m) (hm : m (Str.ofString "e") = some (.ref e)) (N : News g L h ((e, oe) :: news)) (hc : oe.cls = .ref D) (ex : exmOne (Mine.KK w.params) (.ref D) (.ref 68) = some true)
    (ret : ∀ tk' t', Q (.str (Str.ofString "d") t') { s with heap := h, toks := tk' }) :
    wpAny (model PySem.Challenge.rw_uf040037_06.row.prog w) (arH (.ref e) (dp + 1) (un + 3) gd (envOf name wB.1 L a cd :: fr)) (eval (.BinOp (.Constant (.str (Str.ofString "d")) 0 p1) .Mult (.Call (.Name (Str.ofString "int") p2) [.Call (.Name (Str.ofString "isinstance") p3) [.Name (Str.ofString "e") p4, .Name (Str.ofString "NoDivisor") p5] [] p6] [] p7) p8) (envOf name wB.1 L a cd)) Q E { s with heap := h, toks := tk } := by
  revert G; k_fill; intro G
  delta wB at *
  try dsimp only
  replace F := fr_know (Str.ofString "e") F hm
  have B₇ := G.below dp un gd
  have X₇ := G.kin
  have T₇' := G.top
  clear hm
  k_steps
  refine go_on (Mine.isi_exc (by k_in) (fun M => Mine.exc_type N (.head _) hc) ex (by intro e; cases e) ?_)
  try dsimp only
  k_steps
  exact ret_strV (s := s) (Q := Q) ret (by decide +kernel)
theorem mulY_NoCount {g h : Heap} {L e a D : Addr} {tk : Nat} {name : Str} {cd : Value} {oe : Obj} {news : List (Addr × Obj)} {m : Str → Option Value} {p1 p2 p3 p4 p5 p6 p7 p8 : Pos} (G : Gd (Mine.KK w.params) Mine.view (looseW Mine.view [Str.ofString "MOST_NOUGHTS", Str.ofString "MOST_SIGNS"]) mean mg mb base fr g) (hd : dp + 10 < recursionLimit) (hu : un + 200 < cLine)
    (F : Fr g L h m) (hm : m (Str.ofString "e") = some (.ref e)) (N : News g L h ((e, oe) :: news)) (hc : oe.cls = .ref D) (ex : exmOne (Mine.KK w.params) (.ref D) (.ref 80) = some true)
    (ret : ∀ tk' t', Q (.str (Str.ofString "c") t') { s with heap := h, toks := tk' }) :
    wpAny (model PySem.Challenge.rw_uf040037_06.row.prog w) (arH (.ref e) (dp + 1) (un + 3) gd (envOf name wB.1 L a cd :: fr)) (eval (.BinOp (.Constant (.str (Str.ofString "c")) 0 p1) .Mult (.Call (.Name (Str.ofString "int") p2) [.Call (.Name (Str.ofString "isinstance") p3) [.Name (Str.ofString "e") p4, .Name (Str.ofString "NoCount") p5] [] p6] [] p7) p8) (envOf name wB.1 L a cd)) Q E { s with heap := h, toks := tk } := by
  revert G; k_fill; intro G
  delta wB at *
  try dsimp only
  replace F := fr_know (Str.ofString "e") F hm
  have B₇ := G.below dp un gd
  have X₇ := G.kin
  have T₇' := G.top
  clear hm
  k_steps
  refine go_on (Mine.isi_exc (by k_in) (fun M => Mine.exc_type N (.head _) hc) ex (by intro e; cases e) ?_)
  try dsimp only
  k_steps
  exact ret_strV (s := s) (Q := Q) ret (by decide +kernel)
theorem mulY_TooLong {g h : Heap} {L e a D : Addr} {tk : Nat} {name : Str} {cd : Value} {oe : Obj} {news : List (Addr × Obj)} {m : Str → Option Value} {p1 p2 p3 p4 p5 p6 p7 p8 : Pos} (G : Gd (Mine.KK w.params) Mine.view (looseW Mine.view [Str.ofString "MOST_NOUGHTS", Str.ofString "MOST_SIGNS"]) mean mg mb base fr g) (hd : dp + 10 < recursionLimit) (hu : un + 200 < cLine)
    (F : Fr g L h m) (hm : m (Str.ofString "e") = some (.ref e)) (N : News g L h ((e, oe) :: news)) (hc : oe.cls = .ref D) (ex : exmOne (Mine.KK w.params) (.ref D) (.ref 92) = some true)
    (ret : ∀ tk' t', Q (.str (Str.ofString "l") t') { s with heap := h, toks := tk' }) :
    wpAny (model PySem.Challenge.rw_uf040037_06.row.prog w) (arH (.ref e) (dp + 1) (un + 3) gd (envOf name wB.1 L a cd :: fr)) (eval (.BinOp (.Constant (.str (Str.ofString "l")) 0 p1) .Mult (.Call (.Name (Str.ofString "int") p2) [.Call (.Name (Str.ofString "isinstance") p3) [.Name (Str.ofString "e") p4, .Name (Str.ofString "TooLong") p5] [] p6] [] p7) p8) (envOf name wB.1 L a cd)) Q E { s with heap := h, toks := tk } := by
  revert G; k_fill; intro G
  delta wB at *
  try dsimp only
  replace F := fr_know (Str.ofString "e") F hm
  have B₇ := G.below dp un gd
  have X₇ := G.kin
  have T₇' := G.top
  clear hm
  k_steps
  refine go_on (Mine.isi_exc (by k_in) (fun M => Mine.exc_type N (.head _) hc) ex (by intro e; cases e) ?_)
  try dsimp only
  k_steps
  exact ret_strV (s := s) (Q := Q) ret (by decide +kernel)
theorem mulY_TooShort {g h : Heap} {L e a D : Addr} {tk : Nat} {name : Str} {cd : Value} {oe : Obj} {news : List (Addr × Obj)} {m : Str → Option Value} {p1 p2 p3 p4 p5 p6 p7 p8 : Pos} (G : Gd (Mine.KK w.params) Mine.view (looseW Mine.view [Str.ofString "MOST_NOUGHTS", Str.ofString "MOST_SIGNS"]) mean mg mb base fr g) (hd : dp + 10 < recursionLimit) (hu : un + 200 < cLine)
    (F : Fr g L h m) (hm : m (Str.ofString "e") = some (.ref e)) (N : News g L h ((e, oe) :: news)) (hc : oe.cls = .ref D) (ex : exmOne (Mine.KK w.params) (.ref D) (.ref 104) = some true)
    (ret : ∀ tk' t', Q (.str (Str.ofString "h") t') { s with heap := h, toks := tk' }) :
    wpAny (model PySem.Challenge.rw_uf040037_06.row.prog w) (arH (.ref e) (dp + 1) (un + 3) gd (envOf name wB.1 L a cd :: fr)) (eval (.BinOp (.Constant (.str (Str.ofString "h")) 0 p1) .Mult (.Call (.Name (Str.ofString "int") p2) [.Call (.Name (Str.ofString "isinstance") p3) [.Name (Str.ofString "e") p4, .Name (Str.ofString "TooShort") p5] [] p6] [] p7) p8) (envOf name wB.1 L a cd)) Q E { s with heap := h, toks := tk } := by
  revert G; k_fill; intro G
  delta wB at *
  try dsimp only
  replace F := fr_know (Str.ofString "e") F hm
  have B₇ := G.below dp un gd
  have X₇ := G.kin
  have T₇' := G.top
  clear hm
  k_steps
  refine go_on (Mine.isi_exc (by k_in) (fun M => Mine.exc_type N (.head _) hc) ex (by intro e; cases e) ?_)
  try dsimp only
  k_steps
  exact ret_strV (s := s) (Q := Q) ret (by decide +kernel)
theorem mulY_Broken {g h : Heap} {L e a D : Addr} {tk : Nat} {name : Str} {cd : Value} {oe : Obj} {news : List (Addr × Obj)} {m : Str → Option Value} {p1 p2 p3 p4 p5 p6 p7 p8 : Pos} (G : Gd (Mine.KK w.params) Mine.view (looseW Mine.view [Str.ofString "MOST_NOUGHTS", Str.ofString "MOST_SIGNS"]) mean mg mb base fr g) (hd : dp + 10 < recursionLimit) (hu : un + 200 < cLine)
    (F : Fr g L h m) (hm : m (Str.ofString "e") = some (.ref e)) (N : News g L h ((e, oe) :: news)) (hc : oe.cls = .ref D) (ex : exmOne (Mine.KK w.params) (.ref D) (.ref 116) = some true)
    (ret : ∀ tk' t', Q (.str (Str.ofString "b") t') { s with heap := h, toks := tk' }) :
    wpAny (model PySem.Challenge.rw_uf040037_06.row.prog w) (arH (.ref e) (dp + 1) (un + 3) gd (envOf name wB.1 L a cd :: fr)) (eval (.BinOp (.Constant (.str (Str.ofString "b")) 0 p1) .Mult (.Call (.Name (Str.ofString "int") p2) [.Call (.Name (Str.ofString "isinstance") p3) [.Name (Str.ofString "e") p4, .Name (Str.ofString "Broken") p5] [] p6] [] p7) p8) (envOf name wB.1 L a cd)) Q E { s with heap := h, toks := tk } := by
  revert G; k_fill; intro G
  delta wB at *
  try dsimp only
  replace F := fr_know (Str.ofString "e") F hm
  have B₇ := G.below dp un gd
  have X₇ := G.kin
  have T₇' := G.top
  clear hm
  k_steps
  refine go_on (Mine.isi_exc (by k_in) (fun M => Mine.exc_type N (.head _) hc) ex (by intro e; cases e) ?_)
  try dsimp only
  k_steps
  exact ret_strV (s := s) (Q := Q) ret (by decide +kernel)
theorem mulY_NoMate {g h : Heap} {L e a D : Addr} {tk : Nat} {name : Str} {cd : Value} {oe : Obj} {news : List (Addr × Obj)} {m : Str → Option Value} {p1 p2 p3 p4 p5 p6 p7 p8 : Pos} (G : Gd (Mine.KK w.params) Mine.view (looseW Mine.view [Str.ofString "MOST_NOUGHTS", Str.ofString "MOST_SIGNS"]) mean mg mb base fr g) (hd : dp + 10 < recursionLimit) (hu : un + 200 < cLine)
    (F : Fr g L h m) (hm : m (Str.ofString "e") = some (.ref e)) (N : News g L h ((e, oe) :: news)) (hc : oe.cls = .ref D) (ex : exmOne (Mine.KK w.params) (.ref D) (.ref 128) = some true)
    (ret : ∀ tk' t', Q (.str (Str.ofString "m") t') { s with heap := h, toks := tk' }) :
    wpAny (model PySem.Challenge.rw_uf040037_06.row.prog w) (arH (.ref e) (dp + 1) (un + 3) gd (envOf name wB.1 L a cd :: fr)) (eval (.BinOp (.Constant (.str (Str.ofString "m")) 0 p1) .Mult (.Call (.Name (Str.ofString "int") p2) [.Call (.Name (Str.ofString "isinstance") p3) [.Name (Str.ofString "e") p4, .Name (Str.ofString "NoMate") p5] [] p6] [] p7) p8) (envOf name wB.1 L a cd)) Q E { s with heap := h, toks := tk } := by
  revert G; k_fill; intro G
  delta wB at *
  try dsimp only
  replace F := fr_know (Str.ofString "e") F hm
  have B₇ := G.below dp un gd
  have X₇ := G.kin
  have T₇' := G.top
  clear hm
  k_steps
  refine go_on (Mine.isi_exc (by k_in) (fun M => Mine.exc_type N (.head _) hc) ex (by intro e; cases e) ?_)
  try dsimp only
  k_steps
  exact ret_strV (s := s) (Q := Q) ret (by decide +kernel)
theorem mulY_NoText {g h : Heap} {L e a D : Addr} {tk : Nat} {name : Str} {cd : Value} {oe : Obj} {news : List (Addr × Obj)} {m : Str → Option Value} {p1 p2 p3 p4 p5 p6 p7 p8 : Pos} (G : Gd (Mine.KK w.params) Mine.view (looseW Mine.view [Str.ofString "MOST_NOUGHTS", Str.ofString "MOST_SIGNS"]) mean mg mb base fr g) (hd : dp + 10 < recursionLimit) (hu : un + 200 < cLine)
    (F : Fr g L h m) (hm : m (Str.ofString "e") = some (.ref e)) (N : News g L h ((e, oe) :: news)) (hc : oe.cls = .ref D) (ex : exmOne (Mine.KK w.params) (.ref D) (.ref 140) = some true)
    (ret : ∀ tk' t', Q (.str (Str.ofString "t") t') { s with heap := h, toks := tk' }) :
    wpAny (model PySem.Challenge.rw_uf040037_06.row.prog w) (arH (.ref e) (dp + 1) (un + 3) gd (envOf name wB.1 L a cd :: fr)) (eval (.BinOp (.Constant (.str (Str.ofString "t")) 0 p1) .Mult (.Call (.Name (Str.ofString "int") p2) [.Call (.Name (Str.ofString "isinstance") p3) [.Name (Str.ofString "e") p4, .Name (Str.ofString "NoText") p5] [] p6] [] p7) p8) (envOf name wB.1 L a cd)) Q E { s with heap := h, toks := tk } := by
  revert G; k_fill; intro G
  delta wB at *
  try dsimp only
  replace F := fr_know (Str.ofString "e") F hm
  have B₇ := G.below dp un gd
  have X₇ := G.kin
  have T₇' := G.top
  clear hm
  k_steps
  refine go_on (Mine.isi_exc (by k_in) (fun M => Mine.exc_type N (.head _) hc) ex (by intro e; cases e) ?_)
  try dsimp only
  k_steps
  exact ret_strV (s := s) (Q := Q) ret (by decide +kernel)
theorem mulY_ValueError {g h : Heap} {L e a D : Addr} {tk : Nat} {name : Str} {cd : Value} {oe : Obj} {news : List (Addr × Obj)} {m : Str → Option Value} {p1 p2 p3 p4 p5 p6 p7 p8 : Pos} (G : Gd (Mine.KK w.params) Mine.view (looseW Mine.view [Str.ofString "MOST_NOUGHTS", Str.ofString "MOST_SIGNS"]) mean mg mb base fr g) (hd : dp + 10 < recursionLimit) (hu : un + 200 < cLine)
    (F : Fr g L h m) (hm : m (Str.ofString "e") = some (.ref e)) (N : News g L h ((e, oe) :: news)) (hc : oe.cls = .ref D) (ex : exmOne (Mine.KK w.params) (.ref D) (.type "ValueError") = some true)
    (ret : ∀ tk' t', Q (.str (Str.ofString "v") t') { s with heap := h, toks := tk' }) :
    wpAny (model PySem.Challenge.rw_uf040037_06.row.prog w) (arH (.ref e) (dp + 1) (un + 3) gd (envOf name wB.1 L a cd :: fr)) (eval (.BinOp (.Constant (.str (Str.ofString "v")) 0 p1) .Mult (.Call (.Name (Str.ofString "int") p2) [.Call (.Name (Str.ofString "isinstance") p3) [.Name (Str.ofString "e") p4, .Name (Str.ofString "ValueError") p5] [] p6] [] p7) p8) (envOf name wB.1 L a cd)) Q E { s with heap := h, toks := tk } := by
  revert G; k_fill; intro G
  delta wB at *
  try dsimp only
  replace F := fr_know (Str.ofString "e") F hm
  have B₇ := G.below dp un gd
  have X₇ := G.kin
  have T₇' := G.top
  clear hm
  k_steps
  refine go_on (Mine.isi_exc (by k_in) (fun M => Mine.exc_type N (.head _) hc) ex (by intro e; cases e) ?_)
  try dsimp only
  k_steps
  exact ret_strV (s := s) (Q := Q) ret (by decide +kernel)
theorem mulN_NoRow {g h : Heap} {L e a D : Addr} {tk : Nat} {name : Str} {cd : Value} {oe : Obj} {news : List (Addr × Obj)} {m : Str → Option Value} {p1 p2 p3 p4 p5 p6 p7 p8 : Pos} (G : Gd (Mine.KK w.params) Mine.view (looseW Mine.view [Str.ofString "MOST_NOUGHTS", Str.ofString "MOST_SIGNS"]) mean mg mb base fr g) (hd : dp + 10 < recursionLimit) (hu : un + 200 < cLine)
    (F : Fr g L h m) (hm : m (Str.ofString "e") = some (.ref e)) (N : News g L h ((e, oe) :: news)) (hc : oe.cls = .ref D) (ep : excPlain (Mine.KK w.params) D = true) (ek : kitCls (Mine.KK w.params) (.ref D) (.ref 44) = some false) (hne : (Value.ref D == (.ref 44)) = false)
    (ret : ∀ tk' t', Q (.str (Str.ofString "") t') { s with heap := h, toks := tk' }) :
    wpAny (model PySem.Challenge.rw_uf040037_06.row.prog w) (arH (.ref e) (dp + 1) (un + 3) gd (envOf name wB.1 L a cd :: fr)) (eval (.BinOp (.Constant (.str (Str.ofString "r")) 0 p1) .Mult (.Call (.Name (Str.ofString "int") p2) [.Call (.Name (Str.ofString "isinstance") p3) [.Name (Str.ofString "e") p4, .Name (Str.ofString "NoRow") p5] [] p6] [] p7) p8) (envOf name wB.1 L a cd)) Q E { s with heap := h, toks := tk } := by
  revert G; k_fill; intro G
  delta wB at *
  try dsimp only
  replace F := fr_know (Str.ofString "e") F hm
  have B₇ := G.below dp un gd
  have X₇ := G.kin
  have T₇' := G.top
  clear hm
  k_steps
  refine go_on (Mine.isi_excN (by k_in) (fun M => Mine.exc_type N (.head _) hc) ep ek hne ?_)
  try dsimp only
  k_steps
  exact ret_strV (s := s) (Q := Q) ret (by decide +kernel)
theorem mulN_NoSign {g h : Heap} {L e a D : Addr} {tk : Nat} {name : Str} {cd : Value} {oe : Obj} {news : List (Addr × Obj)} {m : Str → Option Value} {p1 p2 p3 p4 p5 p6 p7 p8 : Pos} (G : Gd (Mine.KK w.params) Mine.view (looseW Mine.view [Str.ofString "MOST_NOUGHTS", Str.ofString "MOST_SIGNS"]) mean mg mb base fr g) (hd : dp + 10 < recursionLimit) (hu : un + 200 < cLine)
    (F : Fr g L h m) (hm : m (Str.ofString "e") = some (.ref e)) (N : News g L h ((e, oe) :: news)) (hc : oe.cls = .ref D) (ep : excPlain (Mine.KK w.params) D = true) (ek : kitCls (Mine.KK w.params) (.ref D) (.ref 56) = some false) (hne : (Value.ref D == (.ref 56)) = false)
    (ret : ∀ tk' t', Q (.str (Str.ofString "") t') { s with heap := h, toks := tk' }) :
    wpAny (model PySem.Challenge.rw_uf040037_06.row.prog w) (arH (.ref e) (dp + 1) (un + 3) gd (envOf name wB.1 L a cd :: fr)) (eval (.BinOp (.Constant (.str (Str.ofString "s")) 0 p1) .Mult (.Call (.Name (Str.ofString "int") p2) [.Call (.Name (Str.ofString "isinstance") p3) [.Name (Str.ofString "e") p4, .Name (Str.ofString "NoSign") p5] [] p6] [] p7) p8) (envOf name wB.1 L a cd)) Q E { s with heap := h, toks := tk } := by
  revert G; k_fill; intro G
  delta wB at *
  try dsimp only
  replace F := fr_know (Str.ofString "e") F hm
  have B₇ := G.below dp un gd
  have X₇ := G.kin
  have T₇' := G.top
  clear hm
  k_steps
  refine go_on (Mine.isi_excN (by k_in) (fun M => Mine.exc_type N (.head _) hc) ep ek hne ?_)
  try dsimp only
  k_steps
  exact ret_strV (s := s) (Q := Q) ret (by decide +kernel)
theorem mulN_NoDivisor {g h : Heap} {L e a D : Addr} {tk : Nat} {name : Str} {cd : Value} {oe : Obj} {news : List (Addr × Obj)} {m : Str → Option Value} {p1 p2 p3 p4 p5 p6 p7 p8 : Pos} (G : Gd (Mine.KK w.params) Mine.view (looseW Mine.view [Str.ofString "MOST_NOUGHTS", Str.ofString "MOST_SIGNS"]) mean mg mb base fr g) (hd : dp + 10 < recursionLimit) (hu : un + 200 < cLine)
    (F : Fr g L h m) (hm : m (Str.ofString "e") = some (.ref e)) (N : News g L h ((e, oe) :: news)) (hc : oe.cls = .ref D) (ep : excPlain (Mine.KK w.params) D = true) (ek : kitCls (Mine.KK w.params) (.ref D) (.ref 68) = some false) (hne : (Value.ref D == (.ref 68)) = false)
    (ret : ∀ tk' t', Q (.str (Str.ofString "") t') { s with heap := h, toks := tk' }) :
    wpAny (model PySem.Challenge.rw_uf040037_06.row.prog w) (arH (.ref e) (dp + 1) (un + 3) gd (envOf name wB.1 L a cd :: fr)) (eval (.BinOp (.Constant (.str (Str.ofString "d")) 0 p1) .Mult (.Call (.Name (Str.ofString "int") p2) [.Call (.Name (Str.ofString "isinstance") p3) [.Name (Str.ofString "e") p4, .Name (Str.ofString "NoDivisor") p5] [] p6] [] p7) p8) (envOf name wB.1 L a cd)) Q E { s with heap := h, toks := tk } := by
  revert G; k_fill; intro G
  delta wB at *
  try dsimp only
  replace F := fr_know (Str.ofString "e") F hm
  have B₇ := G.below dp un gd
  have X₇ := G.kin
  have T₇' := G.top
  clear hm
  k_steps
  refine go_on (Mine.isi_excN (by k_in) (fun M => Mine.exc_type N (.head _) hc) ep ek hne ?_)
  try dsimp only
  k_steps
  exact ret_strV (s := s) (Q := Q) ret (by decide +kernel)
theorem mulN_NoCount {g h : Heap} {L e a D : Addr} {tk : Nat} {name : Str} {cd : Value} {oe : Obj} {news : List (Addr × Obj)} {m : Str → Option Value} {p1 p2 p3 p4 p5 p6 p7 p8 : Pos} (G : Gd (Mine.KK w.params) Mine.view (looseW Mine.view [Str.ofString "MOST_NOUGHTS", Str.ofString "MOST_SIGNS"]) mean mg mb base fr g) (hd : dp + 10 < recursionLimit) (hu : un + 200 < cLine)
    (F : Fr g L h m) (hm : m (Str.ofString "e") = some (.ref e)) (N : News g L h ((e, oe) :: news)) (hc : oe.cls = .ref D) (ep : excPlain (Mine.KK w.params) D = true) (ek : kitCls (Mine.KK w.params) (.ref D) (.ref 80) = some false) (hne : (Value.ref D == (.ref 80)) = false)
    (ret : ∀ tk' t', Q (.str (Str.ofString "") t') { s with heap := h, toks := tk' }) :
    wpAny (model PySem.Challenge.rw_uf040037_06.row.prog w) (arH (.ref e) (dp + 1) (un + 3) gd (envOf name wB.1 L a cd :: fr)) (eval (.BinOp (.Constant (.str (Str.ofString "c")) 0 p1) .Mult (.Call (.Name (Str.ofString "int") p2) [.Call (.Name (Str.ofString "isinstance") p3) [.Name (Str.ofString "e") p4, .Name (Str.ofString "NoCount") p5] [] p6] [] p7) p8) (envOf name wB.1 L a cd)) Q E { s with heap := h, toks := tk } := by
  revert G; k_fill; intro G
  delta wB at *
  try dsimp only
  replace F := fr_know (Str.ofString "e") F hm
  have B₇ := G.below dp un gd
  have X₇ := G.kin
  have T₇' := G.top
  clear hm
  k_steps
  refine go_on (Mine.isi_excN (by k_in) (fun M => Mine.exc_type N (.head _) hc) ep ek hne ?_)
  try dsimp only
  k_steps
  exact ret_strV (s := s) (Q := Q) ret (by decide +kernel)
theorem mulN_TooLong {g h : Heap} {L e a D : Addr} {tk : Nat} {name : Str} {cd : Value} {oe : Obj} {news : List (Addr × Obj)} {m : Str → Option Value} {p1 p2 p3 p4 p5 p6 p7 p8 : Pos} (G : Gd (Mine.KK w.params) Mine.view (looseW Mine.view [Str.ofString "MOST_NOUGHTS", Str.ofString "MOST_SIGNS"]) mean mg mb base fr g) (hd : dp + 10 < recursionLimit) (hu : un + 200 < cLine)
    (F : Fr g L h m) (hm : m (Str.ofString "e") = some (.ref e)) (N : News g L h ((e, oe) :: news)) (hc : oe.cls = .ref D) (ep : excPlain (Mine.KK w.params) D = true) (ek : kitCls (Mine.KK w.params) (.ref D) (.ref 92) = some false) (hne : (Value.ref D == (.ref 92)) = false)
    (ret : ∀ tk' t', Q (.str (Str.ofString "") t') { s with heap := h, toks := tk' }) :
    wpAny (model PySem.Challenge.rw_uf040037_06.row.prog w) (arH (.ref e) (dp + 1) (un + 3) gd (envOf name wB.1 L a cd :: fr)) (eval (.BinOp (.Constant (.str (Str.ofString "l")) 0 p1) .Mult (.Call (.Name (Str.ofString "int") p2) [.Call (.Name (Str.ofString "isinstance") p3) [.Name (Str.ofString "e") p4, .Name (Str.ofString "TooLong") p5] [] p6] [] p7) p8) (envOf name wB.1 L a cd)) Q E { s with heap := h, toks := tk } := by
  revert G; k_fill; intro G
  delta wB at *
  try dsimp only
  replace F := fr_know (Str.ofString "e") F hm
  have B₇ := G.below dp un gd
  have X₇ := G.kin
  have T₇' := G.top
  clear hm
  k_steps
  refine go_on (Mine.isi_excN (by k_in) (fun M => Mine.exc_type N (.head _) hc) ep ek hne ?_)
  try dsimp only
  k_steps
  exact ret_strV (s := s) (Q := Q) ret (by decide +kernel)
theorem mulN_TooShort {g h : Heap} {L e a D : Addr} {tk : Nat} {name : Str} {cd : Value} {oe : Obj} {news : List (Addr × Obj)} {m : Str → Option Value} {p1 p2 p3 p4 p5 p6 p7 p8 : Pos} (G : Gd (Mine.KK w.params) Mine.view (looseW Mine.view [Str.ofString "MOST_NOUGHTS", Str.ofString "MOST_SIGNS"]) mean mg mb base fr g) (hd : dp + 10 < recursionLimit) (hu : un + 200 < cLine)
    (F : Fr g L h m) (hm : m (Str.ofString "e") = some (.ref e)) (N : News g L h ((e, oe) :: news)) (hc : oe.cls = .ref D) (ep : excPlain (Mine.KK w.params) D = true) (ek : kitCls (Mine.KK w.params) (.ref D) (.ref 104) = some false) (hne : (Value.ref D == (.ref 104)) = false)
    (ret : ∀ tk' t', Q (.str (Str.ofString "") t') { s with heap := h, toks := tk' }) :
    wpAny (model PySem.Challenge.rw_uf040037_06.row.prog w) (arH (.ref e) (dp + 1) (un + 3) gd (envOf name wB.1 L a cd :: fr)) (eval (.BinOp (.Constant (.str (Str.ofString "h")) 0 p1) .Mult (.Call (.Name (Str.ofString "int") p2) [.Call (.Name (Str.ofString "isinstance") p3) [.Name (Str.ofString "e") p4, .Name (Str.ofString "TooShort") p5] [] p6] [] p7) p8) (envOf name wB.1 L a cd)) Q E { s with heap := h, toks := tk } := by
  revert G; k_fill; intro G
  delta wB at *
  try dsimp only
  replace F := fr_know (Str.ofString "e") F hm
  have B₇ := G.below dp un gd
  have X₇ := G.kin
  have T₇' := G.top
  clear hm
  k_steps
  refine go_on (Mine.isi_excN (by k_in) (fun M => Mine.exc_type N (.head _) hc) ep ek hne ?_)
  try dsimp only
  k_steps
  exact ret_strV (s := s) (Q := Q) ret (by decide +kernel)
theorem mulN_Broken {g h : Heap} {L e a D : Addr} {tk : Nat} {name : Str} {cd : Value} {oe : Obj} {news : List (Addr × Obj)} {m : Str → Option Value} {p1 p2 p3 p4 p5 p6 p7 p8 : Pos} (G : Gd (Mine.KK w.params) Mine.view (looseW Mine.view [Str.ofString "MOST_NOUGHTS", Str.ofString "MOST_SIGNS"]) mean mg mb base fr g) (hd : dp + 10 < recursionLimit) (hu : un + 200 < cLine)
    (F : Fr g L h m) (hm : m (Str.ofString "e") = some (.ref e)) (N : News g L h ((e, oe) :: news)) (hc : oe.cls = .ref D) (ep : excPlain (Mine.KK w.params) D = true) (ek : kitCls (Mine.KK w.params) (.ref D) (.ref 116) = some false) (hne : (Value.ref D == (.ref 116)) = false)
    (ret : ∀ tk' t', Q (.str (Str.ofString "") t') { s with heap := h, toks := tk' }) :
    wpAny (model PySem.Challenge.rw_uf040037_06.row.prog w) (arH (.ref e) (dp + 1) (un + 3) gd (envOf name wB.1 L a cd :: fr)) (eval (.BinOp (.Constant (.str (Str.ofString "b")) 0 p1) .Mult (.Call (.Name (Str.ofString "int") p2) [.Call (.Name (Str.ofString "isinstance") p3) [.Name (Str.ofString "e") p4, .Name (Str.ofString "Broken") p5] [] p6] [] p7) p8) (envOf name wB.1 L a cd)) Q E { s with heap := h, toks := tk } := by
  revert G; k_fill; intro G
  delta wB at *
  try dsimp only
  replace F := fr_know (Str.ofString "e") F hm
  have B₇ := G.below dp un gd
  have X₇ := G.kin
  have T₇' := G.top
  clear hm
  k_steps
  refine go_on (Mine.isi_excN (by k_in) (fun M => Mine.exc_type N (.head _) hc) ep ek hne ?_)
  try dsimp only
  k_steps
  exact ret_strV (s := s) (Q := Q) ret (by decide +kernel)
theorem mulN_NoMate {g h : Heap} {L e a D : Addr} {tk : Nat} {name : Str} {cd : Value} {oe : Obj} {news : List (Addr × Obj)} {m : Str → Option Value} {p1 p2 p3 p4 p5 p6 p7 p8 : Pos} (G : Gd (Mine.KK w.params) Mine.view (looseW Mine.view [Str.ofString "MOST_NOUGHTS", Str.ofString "MOST_SIGNS"]) mean mg mb base fr g) (hd : dp + 10 < recursionLimit) (hu : un + 200 < cLine)
    (F : Fr g L h m) (hm : m (Str.ofString "e") = some (.ref e)) (N : News g L h ((e, oe) :: news)) (hc : oe.cls = .ref D) (ep : excPlain (Mine.KK w.params) D = true) (ek : kitCls (Mine.KK w.params) (.ref D) (.ref 128) = some false) (hne : (Value.ref D == (.ref 128)) = false)
    (ret : ∀ tk' t', Q (.str (Str.ofString "") t') { s with heap := h, toks := tk' }) :
    wpAny (model PySem.Challenge.rw_uf040037_06.row.prog w) (arH (.ref e) (dp + 1) (un + 3) gd (envOf name wB.1 L a cd :: fr)) (eval (.BinOp (.Constant (.str (Str.ofString "m")) 0 p1) .Mult (.Call (.Name (Str.ofString "int") p2) [.Call (.Name (Str.ofString "isinstance") p3) [.Name (Str.ofString "e") p4, .Name (Str.ofString "NoMate") p5] [] p6] [] p7) p8) (envOf name wB.1 L a cd)) Q E { s with heap := h, toks := tk } := by
  revert G; k_fill; intro G
  delta wB at *
  try dsimp only
  replace F := fr_know (Str.ofString "e") F hm
  have B₇ := G.below dp un gd
  have X₇ := G.kin
  have T₇' := G.top
  clear hm
  k_steps
  refine go_on (Mine.isi_excN (by k_in) (fun M => Mine.exc_type N (.head _) hc) ep ek hne ?_)
  try dsimp only
  k_steps
  exact ret_strV (s := s) (Q := Q) ret (by decide +kernel)
theorem mulN_NoText {g h : Heap} {L e a D : Addr} {tk : Nat} {name : Str} {cd : Value} {oe : Obj} {news : List (Addr × Obj)} {m : Str → Option Value} {p1 p2 p3 p4 p5 p6 p7 p8 : Pos} (G : Gd (Mine.KK w.params) Mine.view (looseW Mine.view [Str.ofString "MOST_NOUGHTS", Str.ofString "MOST_SIGNS"]) mean mg mb base fr g) (hd : dp + 10 < recursionLimit) (hu : un + 200 < cLine)
    (F : Fr g L h m) (hm : m (Str.ofString "e") = some (.ref e)) (N : News g L h ((e, oe) :: news)) (hc : oe.cls = .ref D) (ep : excPlain (Mine.KK w.params) D = true) (ek : kitCls (Mine.KK w.params) (.ref D) (.ref 140) = some false) (hne : (Value.ref D == (.ref 140)) = false)
    (ret : ∀ tk' t', Q (.str (Str.ofString "") t') { s with heap := h, toks := tk' }) :
    wpAny (model PySem.Challenge.rw_uf040037_06.row.prog w) (arH (.ref e) (dp + 1) (un + 3) gd (envOf name wB.1 L a cd :: fr)) (eval (.BinOp (.Constant (.str (Str.ofString "t")) 0 p1) .Mult (.Call (.Name (Str.ofString "int") p2) [.Call (.Name (Str.ofString "isinstance") p3) [.Name (Str.ofString "e") p4, .Name (Str.ofString "NoText") p5] [] p6] [] p7) p8) (envOf name wB.1 L a cd)) Q E { s with heap := h, toks := tk } := by
  revert G; k_fill; intro G
  delta wB at *
  try dsimp only
  replace F := fr_know (Str.ofString "e") F hm
  have B₇ := G.below dp un gd
  have X₇ := G.kin
  have T₇' := G.top
  clear hm
  k_steps
  refine go_on (Mine.isi_excN (by k_in) (fun M => Mine.exc_type N (.head _) hc) ep ek hne ?_)
  try dsimp only
  k_steps
  exact ret_strV (s := s) (Q := Q) ret (by decide +kernel)
end
section
local macro_rules | `(tactic| walk_at "eval BinOp") => `(tactic| ((with_reducible show wpAny _ _ (eval (.BinOp _ .Mult _ _) _) _ _ _); refine Mine.stop_of ?_))
local macro_rules | `(tactic| walk_at "bind") => `(tactic| ((with_reducible rename Fr _ _ _ _ => fF'); (with_reducible rename News _ _ _ _ => fN'); refine name_goes_keeps fF' fN' ?_ rfl rfl; intro _ _ _ _; clear fF' fN'; (try dsimp only)))

theorem hand_NoRow {g h : Heap} {L e t a : Addr} {name : Str} {cd : Value} {us : List Value} {news : List (Addr × Obj)} {m : Str → Option Value} {Q : Flow → Shared → Prop} (G : Gd (Mine.KK w.params) Mine.view (looseW Mine.view [Str.ofString "MOST_NOUGHTS", Str.ofString "MOST_SIGNS"]) mean mg mb base fr g) (hd : dp + 10 < recursionLimit) (hu : un + 200 < cLine)
    (F : Fr g L h m) (R : RaisedS base h (envOf name wB.1 L a cd :: fr) e (.ref 44) t us news s.heap) (U : h.UpToSlots s.heap)
    (ret : ∀ g' h' tk' t', KtsTurn (frs fr) g g' → g'.StaysIn h' → Q (.ret (.str (Str.ofString "rv") t')) { s with heap := h', toks := tk' }) :
    wpAny (model PySem.Challenge.rw_uf040037_06.row.prog w) (arA (dp + 1) (un + 3) gd (envOf name wB.1 L a cd :: fr)) (handleBy (.ref e) (envOf name wB.1 L a cd) wB.2) Q E s := by
  revert G; k_fill; intro G
  delta wB at *
  try dsimp only at R ⊢
  refine A_hitB G F R U (by kts_test) (fun h₇ g₇ tk₇ oe ot T₇ F₇ N₇ hc₇ hw₇ G₇ => ?_) rfl rfl
  have B₇ := G₇.below dp un gd
  have X₇ := G₇.kin
  have T₇' := G₇.top
  clear F R U G
  refine hideP fun q' e' hq' he' => ?_
  have hq'' := go_on hq'
  have he'' := go_on he'
  clear hq' he'
  try dsimp only
  refine hide1 fun r₁ hr₁ => ?_
  k_steps
  rename Fr _ _ _ _ => F₈
  rename News _ _ _ _ => N₈
  refine go_on (mulY_NoRow G₇ hd hu F₈ rfl N₈ hc₇ (by kts_exm) ?_)
  intro _ _
  k_steps
  rename Fr _ _ _ _ => F₈
  rename News _ _ _ _ => N₈
  refine go_on (mulN_NoSign G₇ hd hu F₈ rfl N₈ hc₇ (Mine.excP_NoRow _) (by kernel_rfl) (by decide) ?_)
  intro _ _
  k_steps
  subst hr₁
  dsimp only
  refine hide1 fun r₁ hr₁ => ?_
  k_steps
  rename Fr _ _ _ _ => F₈
  rename News _ _ _ _ => N₈
  refine go_on (mulN_NoDivisor G₇ hd hu F₈ rfl N₈ hc₇ (Mine.excP_NoRow _) (by kernel_rfl) (by decide) ?_)
  intro _ _
  k_steps
  rename Fr _ _ _ _ => F₈
  rename News _ _ _ _ => N₈
  refine go_on (mulN_NoCount G₇ hd hu F₈ rfl N₈ hc₇ (Mine.excP_NoRow _) (by kernel_rfl) (by decide) ?_)
  intro _ _
  k_steps
  subst hr₁
  dsimp only
  refine hide1 fun r₁ hr₁ => ?_
  k_steps
  rename Fr _ _ _ _ => F₈
  rename News _ _ _ _ => N₈
  refine go_on (mulN_TooLong G₇ hd hu F₈ rfl N₈ hc₇ (Mine.excP_NoRow _) (by kernel_rfl) (by decide) ?_)
  intro _ _
  k_steps
  rename Fr _ _ _ _ => F₈
  rename News _ _ _ _ => N₈
  refine go_on (mulN_TooShort G₇ hd hu F₈ rfl N₈ hc₇ (Mine.excP_NoRow _) (by kernel_rfl) (by decide) ?_)
  intro _ _
  k_steps
  subst hr₁
  dsimp only
  refine hide1 fun r₁ hr₁ => ?_
  k_steps
  rename Fr _ _ _ _ => F₈
  rename News _ _ _ _ => N₈
  refine go_on (mulN_Broken G₇ hd hu F₈ rfl N₈ hc₇ (Mine.excP_NoRow _) (by kernel_rfl) (by decide) ?_)
  intro _ _
  k_steps
  rename Fr _ _ _ _ => F₈
  rename News _ _ _ _ => N₈
  refine go_on (mulN_NoMate G₇ hd hu F₈ rfl N₈ hc₇ (Mine.excP_NoRow _) (by kernel_rfl) (by decide) ?_)
  intro _ _
  k_steps
  subst hr₁
  dsimp only
  k_steps
  rename Fr _ _ _ _ => F₈
  rename News _ _ _ _ => N₈
  refine go_on (mulN_NoText G₇ hd hu F₈ rfl N₈ hc₇ (Mine.excP_NoRow _) (by kernel_rfl) (by decide) ?_)
  intro _ _
  k_steps
  rename Fr _ _ _ _ => F₈
  rename News _ _ _ _ => N₈
  refine go_on (mulY_ValueError G₇ hd hu F₈ rfl N₈ hc₇ (by kts_exm) ?_)
  intro _ _
  have hq₁ := (show q' = _ from hq'')
  have he₁ := (show e' = _ from he'')
  clear hq'' he''
  subst hq₁ he₁
  try dsimp only
  k_steps
  rename Fr _ _ _ _ => F₈
  exact ret_strF (s := s) (Q := Q) ret (by decide +kernel) T₇ F₈.keep

theorem hand_NoSign {g h : Heap} {L e t a : Addr} {name : Str} {cd : Value} {us : List Value} {news : List (Addr × Obj)} {m : Str → Option Value} {Q : Flow → Shared → Prop} (G : Gd (Mine.KK w.params) Mine.view (looseW Mine.view [Str.ofString "MOST_NOUGHTS", Str.ofString "MOST_SIGNS"]) mean mg mb base fr g) (hd : dp + 10 < recursionLimit) (hu : un + 200 < cLine)
    (F : Fr g L h m) (R : RaisedS base h (envOf name wB.1 L a cd :: fr) e (.ref 56) t us news s.heap) (U : h.UpToSlots s.heap)
    (ret : ∀ g' h' tk' t', KtsTurn (frs fr) g g' → g'.StaysIn h' → Q (.ret (.str (Str.ofString "sv") t')) { s with heap := h', toks := tk' }) :
    wpAny (model PySem.Challenge.rw_uf040037_06.row.prog w) (arA (dp + 1) (un + 3) gd (envOf name wB.1 L a cd :: fr)) (handleBy (.ref e) (envOf name wB.1 L a cd) wB.2) Q E s := by
  revert G; k_fill; intro G
  delta wB at *
  try dsimp only at R ⊢
  refine A_hitB G F R U (by kts_test) (fun h₇ g₇ tk₇ oe ot T₇ F₇ N₇ hc₇ hw₇ G₇ => ?_) rfl rfl
  have B₇ := G₇.below dp un gd
  have X₇ := G₇.kin
  have T₇' := G₇.top
  clear F R U G
  refine hideP fun q' e' hq' he' => ?_
  have hq'' := go_on hq'
  have he'' := go_on he'
  clear hq' he'
  try dsimp only
  refine hide1 fun r₁ hr₁ => ?_
  k_steps
  rename Fr _ _ _ _ => F₈
  rename News _ _ _ _ => N₈
  refine go_on (mulN_NoRow G₇ hd hu F₈ rfl N₈ hc₇ (Mine.excP_NoSign _) (by kernel_rfl) (by decide) ?_)
  intro _ _
  k_steps
  rename Fr _ _ _ _ => F₈
  rename News _ _ _ _ => N₈
  refine go_on (mulY_NoSign G₇ hd hu F₈ rfl N₈ hc₇ (by kts_exm) ?_)
  intro _ _
  k_steps
  subst hr₁
  dsimp only
  refine hide1 fun r₁ hr₁ => ?_
  k_steps
  rename Fr _ _ _ _ => F₈
  rename News _ _ _ _ => N₈
  refine go_on (mulN_NoDivisor G₇ hd hu F₈ rfl N₈ hc₇ (Mine.excP_NoSign _) (by kernel_rfl) (by decide) ?_)
  intro _ _
  k_steps
  rename Fr _ _ _ _ => F₈
  rename News _ _ _ _ => N₈
  refine go_on (mulN_NoCount G₇ hd hu F₈ rfl N₈ hc₇ (Mine.excP_NoSign _) (by kernel_rfl) (by decide) ?_)
  intro _ _
  k_steps
  subst hr₁
  dsimp only
  refine hide1 fun r₁ hr₁ => ?_
  k_steps
  rename Fr _ _ _ _ => F₈
  rename News _ _ _ _ => N₈
  refine go_on (mulN_TooLong G₇ hd hu F₈ rfl N₈ hc₇ (Mine.excP_NoSign _) (by kernel_rfl) (by decide) ?_)
  intro _ _
  k_steps
  rename Fr _ _ _ _ => F₈
  rename News _ _ _ _ => N₈
  refine go_on (mulN_TooShort G₇ hd hu F₈ rfl N₈ hc₇ (Mine.excP_NoSign _) (by kernel_rfl) (by decide) ?_)
  intro _ _
  k_steps
  subst hr₁
  dsimp only
  refine hide1 fun r₁ hr₁ => ?_
  k_steps
  rename Fr _ _ _ _ => F₈
  rename News _ _ _ _ => N₈
  refine go_on (mulN_Broken G₇ hd hu F₈ rfl N₈ hc₇ (Mine.excP_NoSign _) (by kernel_rfl) (by decide) ?_)
  intro _ _
  k_steps
  rename Fr _ _ _ _ => F₈
  rename News _ _ _ _ => N₈
  refine go_on (mulN_NoMate G₇ hd hu F₈ rfl N₈ hc₇ (Mine.excP_NoSign _) (by kernel_rfl) (by decide) ?_)
  intro _ _
  k_steps
  subst hr₁
  dsimp only
  k_steps
  rename Fr _ _ _ _ => F₈
  rename News _ _ _ _ => N₈
  refine go_on (mulN_NoText G₇ hd hu F₈ rfl N₈ hc₇ (Mine.excP_NoSign _) (by kernel_rfl) (by decide) ?_)
  intro _ _
  k_steps
  rename Fr _ _ _ _ => F₈
  rename News _ _ _ _ => N₈
  refine go_on (mulY_ValueError G₇ hd hu F₈ rfl N₈ hc₇ (by kts_exm) ?_)
  intro _ _
  have hq₁ := (show q' = _ from hq'')
  have he₁ := (show e' = _ from he'')
  clear hq'' he''
  subst hq₁ he₁
  try dsimp only
  k_steps
  rename Fr _ _ _ _ => F₈
  exact ret_strF (s := s) (Q := Q) ret (by decide +kernel) T₇ F₈.keep

theorem hand_NoDivisor {g h : Heap} {L e t a : Addr} {name : Str} {cd : Value} {us : List Value} {news : List (Addr × Obj)} {m : Str → Option Value} {Q : Flow → Shared → Prop} (G : Gd (Mine.KK w.params) Mine.view (looseW Mine.view [Str.ofString "MOST_NOUGHTS", Str.ofString "MOST_SIGNS"]) mean mg mb base fr g) (hd : dp + 10 < recursionLimit) (hu : un + 200 < cLine)
    (F : Fr g L h m) (R : RaisedS base h (envOf name wB.1 L a cd :: fr) e (.ref 68) t us news s.heap) (U : h.UpToSlots s.heap)
    (ret : ∀ g' h' tk' t', KtsTurn (frs fr) g g' → g'.StaysIn h' → Q (.ret (.str (Str.ofString "dv") t')) { s with heap := h', toks := tk' }) :
    wpAny (model PySem.Challenge.rw_uf040037_06.row.prog w) (arA (dp + 1) (un + 3) gd (envOf name wB.1 L a cd :: fr)) (handleBy (.ref e) (envOf name wB.1 L a cd) wB.2) Q E s := by
  revert G; k_fill; intro G
  delta wB at *
  try dsimp only at R ⊢
  refine A_hitB G F R U (by kts_test) (fun h₇ g₇ tk₇ oe ot T₇ F₇ N₇ hc₇ hw₇ G₇ => ?_) rfl rfl
  have B₇ := G₇.below dp un gd
  have X₇ := G₇.kin
  have T₇' := G₇.top
  clear F R U G
  refine hideP fun q' e' hq' he' => ?_
  have hq'' := go_on hq'
  have he'' := go_on he'
  clear hq' he'
  try dsimp only
  refine hide1 fun r₁ hr₁ => ?_
  k_steps
  rename Fr _ _ _ _ => F₈
  rename News _ _ _ _ => N₈
  refine go_on (mulN_NoRow G₇ hd hu F₈ rfl N₈ hc₇ (Mine.excP_NoDivisor _) (by kernel_rfl) (by decide) ?_)
  intro _ _
  k_steps
  rename Fr _ _ _ _ => F₈
  rename News _ _ _ _ => N₈
  refine go_on (mulN_NoSign G₇ hd hu F₈ rfl N₈ hc₇ (Mine.excP_NoDivisor _) (by kernel_rfl) (by decide) ?_)
  intro _ _
  k_steps
  subst hr₁
  dsimp only
  refine hide1 fun r₁ hr₁ => ?_
  k_steps
  rename Fr _ _ _ _ => F₈
  rename News _ _ _ _ => N₈
  refine go_on (mulY_NoDivisor G₇ hd hu F₈ rfl N₈ hc₇ (by kts_exm) ?_)
  intro _ _
  k_steps
  rename Fr _ _ _ _ => F₈
  rename News _ _ _ _ => N₈
  refine go_on (mulN_NoCount G₇ hd hu F₈ rfl N₈ hc₇ (Mine.excP_NoDivisor _) (by kernel_rfl) (by decide) ?_)
  intro _ _
  k_steps
  subst hr₁
  dsimp only
  refine hide1 fun r₁ hr₁ => ?_
  k_steps
  rename Fr _ _ _ _ => F₈
  rename News _ _ _ _ => N₈
  refine go_on (mulN_TooLong G₇ hd hu F₈ rfl N₈ hc₇ (Mine.excP_NoDivisor _) (by kernel_rfl) (by decide) ?_)
  intro _ _
  k_steps
  rename Fr _ _ _ _ => F₈
  rename News _ _ _ _ => N₈
  refine go_on (mulN_TooShort G₇ hd hu F₈ rfl N₈ hc₇ (Mine.excP_NoDivisor _) (by kernel_rfl) (by decide) ?_)
  intro _ _
  k_steps
  subst hr₁
  dsimp only
  refine hide1 fun r₁ hr₁ => ?_
  k_steps
  rename Fr _ _ _ _ => F₈
  rename News _ _ _ _ => N₈
  refine go_on (mulN_Broken G₇ hd hu F₈ rfl N₈ hc₇ (Mine.excP_NoDivisor _) (by kernel_rfl) (by decide) ?_)
  intro _ _
  k_steps
  rename Fr _ _ _ _ => F₈
  rename News _ _ _ _ => N₈
  refine go_on (mulN_NoMate G₇ hd hu F₈ rfl N₈ hc₇ (Mine.excP_NoDivisor _) (by kernel_rfl) (by decide) ?_)
  intro _ _
  k_steps
  subst hr₁
  dsimp only
  k_steps
  rename Fr _ _ _ _ => F₈
  rename News _ _ _ _ => N₈
  refine go_on (mulN_NoText G₇ hd hu F₈ rfl N₈ hc₇ (Mine.excP_NoDivisor _) (by kernel_rfl) (by decide) ?_)
  intro _ _
  k_steps
  rename Fr _ _ _ _ => F₈
  rename News _ _ _ _ => N₈
  refine go_on (mulY_ValueError G₇ hd hu F₈ rfl N₈ hc₇ (by kts_exm) ?_)
  intro _ _
  have hq₁ := (show q' = _ from hq'')
  have he₁ := (show e' = _ from he'')
  clear hq'' he''
  subst hq₁ he₁
  try dsimp only
  k_steps
  rename Fr _ _ _ _ => F₈
  exact ret_strF (s := s) (Q := Q) ret (by decide +kernel) T₇ F₈.keep

theorem hand_NoCount {g h : Heap} {L e t a : Addr} {name : Str} {cd : Value} {us : List Value} {news : List (Addr × Obj)} {m : Str → Option Value} {Q : Flow → Shared → Prop} (G : Gd (Mine.KK w.params) Mine.view (looseW Mine.view [Str.ofString "MOST_NOUGHTS", Str.ofString "MOST_SIGNS"]) mean mg mb base fr g) (hd : dp + 10 < recursionLimit) (hu : un + 200 < cLine)
    (F : Fr g L h m) (R : RaisedS base h (envOf name wB.1 L a cd :: fr) e (.ref 80) t us news s.heap) (U : h.UpToSlots s.heap)
    (ret : ∀ g' h' tk' t', KtsTurn (frs fr) g g' → g'.StaysIn h' → Q (.ret (.str (Str.ofString "cv") t')) { s with heap := h', toks := tk' }) :
    wpAny (model PySem.Challenge.rw_uf040037_06.row.prog w) (arA (dp + 1) (un + 3) gd (envOf name wB.1 L a cd :: fr)) (handleBy (.ref e) (envOf name wB.1 L a cd) wB.2) Q E s := by
  revert G; k_fill; intro G
  delta wB at *
  try dsimp only at R ⊢
  refine A_hitB G F R U (by kts_test) (fun h₇ g₇ tk₇ oe ot T₇ F₇ N₇ hc₇ hw₇ G₇ => ?_) rfl rfl
  have B₇ := G₇.below dp un gd
  have X₇ := G₇.kin
  have T₇' := G₇.top
  clear F R U G
  refine hideP fun q' e' hq' he' => ?_
  have hq'' := go_on hq'
  have he'' := go_on he'
  clear hq' he'
  try dsimp only
  refine hide1 fun r₁ hr₁ => ?_
  k_steps
  rename Fr _ _ _ _ => F₈
  rename News _ _ _ _ => N₈
  refine go_on (mulN_NoRow G₇ hd hu F₈ rfl N₈ hc₇ (Mine.excP_NoCount _) (by kernel_rfl) (by decide) ?_)
  intro _ _
  k_steps
  rename Fr _ _ _ _ => F₈
  rename News _ _ _ _ => N₈
  refine go_on (mulN_NoSign G₇ hd hu F₈ rfl N₈ hc₇ (Mine.excP_NoCount _) (by kernel_rfl) (by decide) ?_)
  intro _ _
  k_steps
  subst hr₁
  dsimp only
  refine hide1 fun r₁ hr₁ => ?_
  k_steps
  rename Fr _ _ _ _ => F₈
  rename News _ _ _ _ => N₈
  refine go_on (mulN_NoDivisor G₇ hd hu F₈ rfl N₈ hc₇ (Mine.excP_NoCount _) (by kernel_rfl) (by decide) ?_)
  intro _ _
  k_steps
  rename Fr _ _ _ _ => F₈
  rename News _ _ _ _ => N₈
  refine go_on (mulY_NoCount G₇ hd hu F₈ rfl N₈ hc₇ (by kts_exm) ?_)
  intro _ _
  k_steps
  subst hr₁
  dsimp only
  refine hide1 fun r₁ hr₁ => ?_
  k_steps
  rename Fr _ _ _ _ => F₈
  rename News _ _ _ _ => N₈
  refine go_on (mulN_TooLong G₇ hd hu F₈ rfl N₈ hc₇ (Mine.excP_NoCount _) (by kernel_rfl) (by decide) ?_)
  intro _ _
  k_steps
  rename Fr _ _ _ _ => F₈
  rename News _ _ _ _ => N₈
  refine go_on (mulN_TooShort G₇ hd hu F₈ rfl N₈ hc₇ (Mine.excP_NoCount _) (by kernel_rfl) (by decide) ?_)
  intro _ _
  k_steps
  subst hr₁
  dsimp only
  refine hide1 fun r₁ hr₁ => ?_
  k_steps
  rename Fr _ _ _ _ => F₈
  rename News _ _ _ _ => N₈
  refine go_on (mulN_Broken G₇ hd hu F₈ rfl N₈ hc₇ (Mine.excP_NoCount _) (by kernel_rfl) (by decide) ?_)
  intro _ _
  k_steps
  rename Fr _ _ _ _ => F₈
  rename News _ _ _ _ => N₈
  refine go_on (mulN_NoMate G₇ hd hu F₈ rfl N₈ hc₇ (Mine.excP_NoCount _) (by kernel_rfl) (by decide) ?_)
  intro _ _
  k_steps
  subst hr₁
  dsimp only
  k_steps
  rename Fr _ _ _ _ => F₈
  rename News _ _ _ _ => N₈
  refine go_on (mulN_NoText G₇ hd hu F₈ rfl N₈ hc₇ (Mine.excP_NoCount _) (by kernel_rfl) (by decide) ?_)
  intro _ _
  k_steps
  rename Fr _ _ _ _ => F₈
  rename News _ _ _ _ => N₈
  refine go_on (mulY_ValueError G₇ hd hu F₈ rfl N₈ hc₇ (by kts_exm) ?_)
  intro _ _
  have hq₁ := (show q' = _ from hq'')
  have he₁ := (show e' = _ from he'')
  clear hq'' he''
  subst hq₁ he₁
  try dsimp only
  k_steps
  rename Fr _ _ _ _ => F₈
  exact ret_strF (s := s) (Q := Q) ret (by decide +kernel) T₇ F₈.keep

theorem hand_TooLong {g h : Heap} {L e t a : Addr} {name : Str} {cd : Value} {us : List Value} {news : List (Addr × Obj)} {m : Str → Option Value} {Q : Flow → Shared → Prop} (G : Gd (Mine.KK w.params) Mine.view (looseW Mine.view [Str.ofString "MOST_NOUGHTS", Str.ofString "MOST_SIGNS"]) mean mg mb base fr g) (hd : dp + 10 < recursionLimit) (hu : un + 200 < cLine)
    (F : Fr g L h m) (R : RaisedS base h (envOf name wB.1 L a cd :: fr) e (.ref 92) t us news s.heap) (U : h.UpToSlots s.heap)
    (ret : ∀ g' h' tk' t', KtsTurn (frs fr) g g' → g'.StaysIn h' → Q (.ret (.str (Str.ofString "lv") t')) { s with heap := h', toks := tk' }) :
    wpAny (model PySem.Challenge.rw_uf040037_06.row.prog w) (arA (dp + 1) (un + 3) gd (envOf name wB.1 L a cd :: fr)) (handleBy (.ref e) (envOf name wB.1 L a cd) wB.2) Q E s := by
  revert G; k_fill; intro G
  delta wB at *
  try dsimp only at R ⊢
  refine A_hitB G F R U (by kts_test) (fun h₇ g₇ tk₇ oe ot T₇ F₇ N₇ hc₇ hw₇ G₇ => ?_) rfl rfl
  have B₇ := G₇.below dp un gd
  have X₇ := G₇.kin
  have T₇' := G₇.top
  clear F R U G
  refine hideP fun q' e' hq' he' => ?_
  have hq'' := go_on hq'
  have he'' := go_on he'
  clear hq' he'
  try dsimp only
  refine hide1 fun r₁ hr₁ => ?_
  k_steps
  rename Fr _ _ _ _ => F₈
  rename News _ _ _ _ => N₈
  refine go_on (mulN_NoRow G₇ hd hu F₈ rfl N₈ hc₇ (Mine.excP_TooLong _) (by kernel_rfl) (by decide) ?_)
  intro _ _
  k_steps
  rename Fr _ _ _ _ => F₈
  rename News _ _ _ _ => N₈
  refine go_on (mulN_NoSign G₇ hd hu F₈ rfl N₈ hc₇ (Mine.excP_TooLong _) (by kernel_rfl) (by decide) ?_)
  intro _ _
  k_steps
  subst hr₁
  dsimp only
  refine hide1 fun r₁ hr₁ => ?_
  k_steps
  rename Fr _ _ _ _ => F₈
  rename News _ _ _ _ => N₈
  refine go_on (mulN_NoDivisor G₇ hd hu F₈ rfl N₈ hc₇ (Mine.excP_TooLong _) (by kernel_rfl) (by decide) ?_)
  intro _ _
  k_steps
  rename Fr _ _ _ _ => F₈
  rename News _ _ _ _ => N₈
  refine go_on (mulN_NoCount G₇ hd hu F₈ rfl N₈ hc₇ (Mine.excP_TooLong _) (by kernel_rfl) (by decide) ?_)
  intro _ _
  k_steps
  subst hr₁
  dsimp only
  refine hide1 fun r₁ hr₁ => ?_
  k_steps
  rename Fr _ _ _ _ => F₈
  rename News _ _ _ _ => N₈
  refine go_on (mulY_TooLong G₇ hd hu F₈ rfl N₈ hc₇ (by kts_exm) ?_)
  intro _ _
  k_steps
  rename Fr _ _ _ _ => F₈
  rename News _ _ _ _ => N₈
  refine go_on (mulN_TooShort G₇ hd hu F₈ rfl N₈ hc₇ (Mine.excP_TooLong _) (by kernel_rfl) (by decide) ?_)
  intro _ _
  k_steps
  subst hr₁
  dsimp only
  refine hide1 fun r₁ hr₁ => ?_
  k_steps
  rename Fr _ _ _ _ => F₈
  rename News _ _ _ _ => N₈
  refine go_on (mulN_Broken G₇ hd hu F₈ rfl N₈ hc₇ (Mine.excP_TooLong _) (by kernel_rfl) (by decide) ?_)
  intro _ _
  k_steps
  rename Fr _ _ _ _ => F₈
  rename News _ _ _ _ => N₈
  refine go_on (mulN_NoMate G₇ hd hu F₈ rfl N₈ hc₇ (Mine.excP_TooLong _) (by kernel_rfl) (by decide) ?_)
  intro _ _
  k_steps
  subst hr₁
  dsimp only
  k_steps
  rename Fr _ _ _ _ => F₈
  rename News _ _ _ _ => N₈
  refine go_on (mulN_NoText G₇ hd hu F₈ rfl N₈ hc₇ (Mine.excP_TooLong _) (by kernel_rfl) (by decide) ?_)
  intro _ _
  k_steps
  rename Fr _ _ _ _ => F₈
  rename News _ _ _ _ => N₈
  refine go_on (mulY_ValueError G₇ hd hu F₈ rfl N₈ hc₇ (by kts_exm) ?_)
  intro _ _
  have hq₁ := (show q' = _ from hq'')
  have he₁ := (show e' = _ from he'')
  clear hq'' he''
  subst hq₁ he₁
  try dsimp only
  k_steps
  rename Fr _ _ _ _ => F₈
  exact ret_strF (s := s) (Q := Q) ret (by decide +kernel) T₇ F₈.keep

theorem hand_TooShort {g h : Heap} {L e t a : Addr} {name : Str} {cd : Value} {us : List Value} {news : List (Addr × Obj)} {m : Str → Option Value} {Q : Flow → Shared → Prop} (G : Gd (Mine.KK w.params) Mine.view (looseW Mine.view [Str.ofString "MOST_NOUGHTS", Str.ofString "MOST_SIGNS"]) mean mg mb base fr g) (hd : dp + 10 < recursionLimit) (hu : un + 200 < cLine)
    (F : Fr g L h m) (R : RaisedS base h (envOf name wB.1 L a cd :: fr) e (.ref 104) t us news s.heap) (U : h.UpToSlots s.heap)
    (ret : ∀ g' h' tk' t', KtsTurn (frs fr) g g' → g'.StaysIn h' → Q (.ret (.str (Str.ofString "hv") t')) { s with heap := h', toks := tk' }) :
    wpAny (model PySem.Challenge.rw_uf040037_06.row.prog w) (arA (dp + 1) (un + 3) gd (envOf name wB.1 L a cd :: fr)) (handleBy (.ref e) (envOf name wB.1 L a cd) wB.2) Q E s := by
  revert G; k_fill; intro G
  delta wB at *
  try dsimp only at R ⊢
  refine A_hitB G F R U (by kts_test) (fun h₇ g₇ tk₇ oe ot T₇ F₇ N₇ hc₇ hw₇ G₇ => ?_) rfl rfl
  have B₇ := G₇.below dp un gd
  have X₇ := G₇.kin
  have T₇' := G₇.top
  clear F R U G
  refine hideP fun q' e' hq' he' => ?_
  have hq'' := go_on hq'
  have he'' := go_on he'
  clear hq' he'
  try dsimp only
  refine hide1 fun r₁ hr₁ => ?_
  k_steps
  rename Fr _ _ _ _ => F₈
  rename News _ _ _ _ => N₈
  refine go_on (mulN_NoRow G₇ hd hu F₈ rfl N₈ hc₇ (Mine.excP_TooShort _) (by kernel_rfl) (by decide) ?_)
  intro _ _
  k_steps
  rename Fr _ _ _ _ => F₈
  rename News _ _ _ _ => N₈
  refine go_on (mulN_NoSign G₇ hd hu F₈ rfl N₈ hc₇ (Mine.excP_TooShort _) (by kernel_rfl) (by decide) ?_)
  intro _ _
  k_steps
  subst hr₁
  dsimp only
  refine hide1 fun r₁ hr₁ => ?_
  k_steps
  rename Fr _ _ _ _ => F₈
  rename News _ _ _ _ => N₈
  refine go_on (mulN_NoDivisor G₇ hd hu F₈ rfl N₈ hc₇ (Mine.excP_TooShort _) (by kernel_rfl) (by decide) ?_)
  intro _ _
  k_steps
  rename Fr _ _ _ _ => F₈
  rename News _ _ _ _ => N₈
  refine go_on (mulN_NoCount G₇ hd hu F₈ rfl N₈ hc₇ (Mine.excP_TooShort _) (by kernel_rfl) (by decide) ?_)
  intro _ _
  k_steps
  subst hr₁
  dsimp only
  refine hide1 fun r₁ hr₁ => ?_
  k_steps
  rename Fr _ _ _ _ => F₈
  rename News _ _ _ _ => N₈
  refine go_on (mulN_TooLong G₇ hd hu F₈ rfl N₈ hc₇ (Mine.excP_TooShort _) (by kernel_rfl) (by decide) ?_)
  intro _ _
  k_steps
  rename Fr _ _ _ _ => F₈
  rename News _ _ _ _ => N₈
  refine go_on (mulY_TooShort G₇ hd hu F₈ rfl N₈ hc₇ (by kts_exm) ?_)
  intro _ _
  k_steps
  subst hr₁
  dsimp only
  refine hide1 fun r₁ hr₁ => ?_
  k_steps
  rename Fr _ _ _ _ => F₈
  rename News _ _ _ _ => N₈
  refine go_on (mulN_Broken G₇ hd hu F₈ rfl N₈ hc₇ (Mine.excP_TooShort _) (by kernel_rfl) (by decide) ?_)
  intro _ _
  k_steps
  rename Fr _ _ _ _ => F₈
  rename News _ _ _ _ => N₈
  refine go_on (mulN_NoMate G₇ hd hu F₈ rfl N₈ hc₇ (Mine.excP_TooShort _) (by kernel_rfl) (by decide) ?_)
  intro _ _
  k_steps
  subst hr₁
  dsimp only
  k_steps
  rename Fr _ _ _ _ => F₈
  rename News _ _ _ _ => N₈
  refine go_on (mulN_NoText G₇ hd hu F₈ rfl N₈ hc₇ (Mine.excP_TooShort _) (by kernel_rfl) (by decide) ?_)
  intro _ _
  k_steps
  rename Fr _ _ _ _ => F₈
  rename News _ _ _ _ => N₈
  refine go_on (mulY_ValueError G₇ hd hu F₈ rfl N₈ hc₇ (by kts_exm) ?_)
  intro _ _
  have hq₁ := (show q' = _ from hq'')
  have he₁ := (show e' = _ from he'')
  clear hq'' he''
  subst hq₁ he₁
  try dsimp only
  k_steps
  rename Fr _ _ _ _ => F₈
  exact ret_strF (s := s) (Q := Q) ret (by decide +kernel) T₇ F₈.keep

theorem hand_Broken {g h : Heap} {L e t a : Addr} {name : Str} {cd : Value} {us : List Value} {news : List (Addr × Obj)} {m : Str → Option Value} {Q : Flow → Shared → Prop} (G : Gd (Mine.KK w.params) Mine.view (looseW Mine.view [Str.ofString "MOST_NOUGHTS", Str.ofString "MOST_SIGNS"]) mean mg mb base fr g) (hd : dp + 10 < recursionLimit) (hu : un + 200 < cLine)
    (F : Fr g L h m) (R : RaisedS base h (envOf name wB.1 L a cd :: fr) e (.ref 116) t us news s.heap) (U : h.UpToSlots s.heap)
    (ret : ∀ g' h' tk' t', KtsTurn (frs fr) g g' → g'.StaysIn h' → Q (.ret (.str (Str.ofString "bv") t')) { s with heap := h', toks := tk' }) :
    wpAny (model PySem.Challenge.rw_uf040037_06.row.prog w) (arA (dp + 1) (un + 3) gd (envOf name wB.1 L a cd :: fr)) (handleBy (.ref e) (envOf name wB.1 L a cd) wB.2) Q E s := by
  revert G; k_fill; intro G
  delta wB at *
  try dsimp only at R ⊢
  refine A_hitB G F R U (by kts_test) (fun h₇ g₇ tk₇ oe ot T₇ F₇ N₇ hc₇ hw₇ G₇ => ?_) rfl rfl
  have B₇ := G₇.below dp un gd
  have X₇ := G₇.kin
  have T₇' := G₇.top
  clear F R U G
  refine hideP fun q' e' hq' he' => ?_
  have hq'' := go_on hq'
  have he'' := go_on he'
  clear hq' he'
  try dsimp only
  refine hide1 fun r₁ hr₁ => ?_
  k_steps
  rename Fr _ _ _ _ => F₈
  rename News _ _ _ _ => N₈
  refine go_on (mulN_NoRow G₇ hd hu F₈ rfl N₈ hc₇ (Mine.excP_Broken _) (by kernel_rfl) (by decide) ?_)
  intro _ _
  k_steps
  rename Fr _ _ _ _ => F₈
  rename News _ _ _ _ => N₈
  refine go_on (mulN_NoSign G₇ hd hu F₈ rfl N₈ hc₇ (Mine.excP_Broken _) (by kernel_rfl) (by decide) ?_)
  intro _ _
  k_steps
  subst hr₁
  dsimp only
  refine hide1 fun r₁ hr₁ => ?_
  k_steps
  rename Fr _ _ _ _ => F₈
  rename News _ _ _ _ => N₈
  refine go_on (mulN_NoDivisor G₇ hd hu F₈ rfl N₈ hc₇ (Mine.excP_Broken _) (by kernel_rfl) (by decide) ?_)
  intro _ _
  k_steps
  rename Fr _ _ _ _ => F₈
  rename News _ _ _ _ => N₈
  refine go_on (mulN_NoCount G₇ hd hu F₈ rfl N₈ hc₇ (Mine.excP_Broken _) (by kernel_rfl) (by decide) ?_)
  intro _ _
  k_steps
  subst hr₁
  dsimp only
  refine hide1 fun r₁ hr₁ => ?_
  k_steps
  rename Fr _ _ _ _ => F₈
  rename News _ _ _ _ => N₈
  refine go_on (mulN_TooLong G₇ hd hu F₈ rfl N₈ hc₇ (Mine.excP_Broken _) (by kernel_rfl) (by decide) ?_)
  intro _ _
  k_steps
  rename Fr _ _ _ _ => F₈
  rename News _ _ _ _ => N₈
  refine go_on (mulN_TooShort G₇ hd hu F₈ rfl N₈ hc₇ (Mine.excP_Broken _) (by kernel_rfl) (by decide) ?_)
  intro _ _
  k_steps
  subst hr₁
  dsimp only
  refine hide1 fun r₁ hr₁ => ?_
  k_steps
  rename Fr _ _ _ _ => F₈
  rename News _ _ _ _ => N₈
  refine go_on (mulY_Broken G₇ hd hu F₈ rfl N₈ hc₇ (by kts_exm) ?_)
  intro _ _
  k_steps
  rename Fr _ _ _ _ => F₈
  rename News _ _ _ _ => N₈
  refine go_on (mulN_NoMate G₇ hd hu F₈ rfl N₈ hc₇ (Mine.excP_Broken _) (by kernel_rfl) (by decide) ?_)
  intro _ _
  k_steps
  subst hr₁
  dsimp only
  k_steps
  rename Fr _ _ _ _ => F₈
  rename News _ _ _ _ => N₈
  refine go_on (mulN_NoText G₇ hd hu F₈ rfl N₈ hc₇ (Mine.excP_Broken _) (by kernel_rfl) (by decide) ?_)
  intro _ _
  k_steps
  rename Fr _ _ _ _ => F₈
  rename News _ _ _ _ => N₈
  refine go_on (mulY_ValueError G₇ hd hu F₈ rfl N₈ hc₇ (by kts_exm) ?_)
  intro _ _
  have hq₁ := (show q' = _ from hq'')
  have he₁ := (show e' = _ from he'')
  clear hq'' he''
  subst hq₁ he₁
  try dsimp only
  k_steps
  rename Fr _ _ _ _ => F₈
  exact ret_strF (s := s) (Q := Q) ret (by decide +kernel) T₇ F₈.keep

theorem hand_NoMate {g h : Heap} {L e t a : Addr} {name : Str} {cd : Value} {us : List Value} {news : List (Addr × Obj)} {m : Str → Option Value} {Q : Flow → Shared → Prop} (G : Gd (Mine.KK w.params) Mine.view (looseW Mine.view [Str.ofString "MOST_NOUGHTS", Str.ofString "MOST_SIGNS"]) mean mg mb base fr g) (hd : dp + 10 < recursionLimit) (hu : un + 200 < cLine)
    (F : Fr g L h m) (R : RaisedS base h (envOf name wB.1 L a cd :: fr) e (.ref 128) t us news s.heap) (U : h.UpToSlots s.heap)
    (ret : ∀ g' h' tk' t', KtsTurn (frs fr) g g' → g'.StaysIn h' → Q (.ret (.str (Str.ofString "mv") t')) { s with heap := h', toks := tk' }) :
    wpAny (model PySem.Challenge.rw_uf040037_06.row.prog w) (arA (dp + 1) (un + 3) gd (envOf name wB.1 L a cd :: fr)) (handleBy (.ref e) (envOf name wB.1 L a cd) wB.2) Q E s := by
  revert G; k_fill; intro G
  delta wB at *
  try dsimp only at R ⊢
  refine A_hitB G F R U (by kts_test) (fun h₇ g₇ tk₇ oe ot T₇ F₇ N₇ hc₇ hw₇ G₇ => ?_) rfl rfl
  have B₇ := G₇.below dp un gd
  have X₇ := G₇.kin
  have T₇' := G₇.top
  clear F R U G
  refine hideP fun q' e' hq' he' => ?_
  have hq'' := go_on hq'
  have he'' := go_on he'
  clear hq' he'
  try dsimp only
  refine hide1 fun r₁ hr₁ => ?_
  k_steps
  rename Fr _ _ _ _ => F₈
  rename News _ _ _ _ => N₈
  refine go_on (mulN_NoRow G₇ hd hu F₈ rfl N₈ hc₇ (Mine.excP_NoMate _) (by kernel_rfl) (by decide) ?_)
  intro _ _
  k_steps
  rename Fr _ _ _ _ => F₈
  rename News _ _ _ _ => N₈
  refine go_on (mulN_NoSign G₇ hd hu F₈ rfl N₈ hc₇ (Mine.excP_NoMate _) (by kernel_rfl) (by decide) ?_)
  intro _ _
  k_steps
  subst hr₁
  dsimp only
  refine hide1 fun r₁ hr₁ => ?_
  k_steps
  rename Fr _ _ _ _ => F₈
  rename News _ _ _ _ => N₈
  refine go_on (mulN_NoDivisor G₇ hd hu F₈ rfl N₈ hc₇ (Mine.excP_NoMate _) (by kernel_rfl) (by decide) ?_)
  intro _ _
  k_steps
  rename Fr _ _ _ _ => F₈
  rename News _ _ _ _ => N₈
  refine go_on (mulN_NoCount G₇ hd hu F₈ rfl N₈ hc₇ (Mine.excP_NoMate _) (by kernel_rfl) (by decide) ?_)
  intro _ _
  k_steps
  subst hr₁
  dsimp only
  refine hide1 fun r₁ hr₁ => ?_
  k_steps
  rename Fr _ _ _ _ => F₈
  rename News _ _ _ _ => N₈
  refine go_on (mulN_TooLong G₇ hd hu F₈ rfl N₈ hc₇ (Mine.excP_NoMate _) (by kernel_rfl) (by decide) ?_)
  intro _ _
  k_steps
  rename Fr _ _ _ _ => F₈
  rename News _ _ _ _ => N₈
  refine go_on (mulN_TooShort G₇ hd hu F₈ rfl N₈ hc₇ (Mine.excP_NoMate _) (by kernel_rfl) (by decide) ?_)
  intro _ _
  k_steps
  subst hr₁
  dsimp only
  refine hide1 fun r₁ hr₁ => ?_
  k_steps
  rename Fr _ _ _ _ => F₈
  rename News _ _ _ _ => N₈
  refine go_on (mulN_Broken G₇ hd hu F₈ rfl N₈ hc₇ (Mine.excP_NoMate _) (by kernel_rfl) (by decide) ?_)
  intro _ _
  k_steps
  rename Fr _ _ _ _ => F₈
  rename News _ _ _ _ => N₈
  refine go_on (mulY_NoMate G₇ hd hu F₈ rfl N₈ hc₇ (by kts_exm) ?_)
  intro _ _
  k_steps
  subst hr₁
  dsimp only
  k_steps
  rename Fr _ _ _ _ => F₈
  rename News _ _ _ _ => N₈
  refine go_on (mulN_NoText G₇ hd hu F₈ rfl N₈ hc₇ (Mine.excP_NoMate _) (by kernel_rfl) (by decide) ?_)
  intro _ _
  k_steps
  rename Fr _ _ _ _ => F₈
  rename News _ _ _ _ => N₈
  refine go_on (mulY_ValueError G₇ hd hu F₈ rfl N₈ hc₇ (by kts_exm) ?_)
  intro _ _
  have hq₁ := (show q' = _ from hq'')
  have he₁ := (show e' = _ from he'')
  clear hq'' he''
  subst hq₁ he₁
  try dsimp only
  k_steps
  rename Fr _ _ _ _ => F₈
  exact ret_strF (s := s) (Q := Q) ret (by decide +kernel) T₇ F₈.keep

theorem hand_NoText {g h : Heap} {L e t a : Addr} {name : Str} {cd : Value} {us : List Value} {news : List (Addr × Obj)} {m : Str → Option Value} {Q : Flow → Shared → Prop} (G : Gd (Mine.KK w.params) Mine.view (looseW Mine.view [Str.ofString "MOST_NOUGHTS", Str.ofString "MOST_SIGNS"]) mean mg mb base fr g) (hd : dp + 10 < recursionLimit) (hu : un + 200 < cLine)
    (F : Fr g L h m) (R : RaisedS base h (envOf name wB.1 L a cd :: fr) e (.ref 140) t us news s.heap) (U : h.UpToSlots s.heap)
    (ret : ∀ g' h' tk' t', KtsTurn (frs fr) g g' → g'.StaysIn h' → Q (.ret (.str (Str.ofString "tv") t')) { s with heap := h', toks := tk' }) :
    wpAny (model PySem.Challenge.rw_uf040037_06.row.prog w) (arA (dp + 1) (un + 3) gd (envOf name wB.1 L a cd :: fr)) (handleBy (.ref e) (envOf name wB.1 L a cd) wB.2) Q E s := by
  revert G; k_fill; intro G
  delta wB at *
  try dsimp only at R ⊢
  refine A_hitB G F R U (by kts_test) (fun h₇ g₇ tk₇ oe ot T₇ F₇ N₇ hc₇ hw₇ G₇ => ?_) rfl rfl
  have B₇ := G₇.below dp un gd
  have X₇ := G₇.kin
  have T₇' := G₇.top
  clear F R U G
  refine hideP fun q' e' hq' he' => ?_
  have hq'' := go_on hq'
  have he'' := go_on he'
  clear hq' he'
  try dsimp only
  refine hide1 fun r₁ hr₁ => ?_
  k_steps
  rename Fr _ _ _ _ => F₈
  rename News _ _ _ _ => N₈
  refine go_on (mulN_NoRow G₇ hd hu F₈ rfl N₈ hc₇ (Mine.excP_NoText _) (by kernel_rfl) (by decide) ?_)
  intro _ _
  k_steps
  rename Fr _ _ _ _ => F₈
  rename News _ _ _ _ => N₈
  refine go_on (mulN_NoSign G₇ hd hu F₈ rfl N₈ hc₇ (Mine.excP_NoText _) (by kernel_rfl) (by decide) ?_)
  intro _ _
  k_steps
  subst hr₁
  dsimp only
  refine hide1 fun r₁ hr₁ => ?_
  k_steps
  rename Fr _ _ _ _ => F₈
  rename News _ _ _ _ => N₈
  refine go_on (mulN_NoDivisor G₇ hd hu F₈ rfl N₈ hc₇ (Mine.excP_NoText _) (by kernel_rfl) (by decide) ?_)
  intro _ _
  k_steps
  rename Fr _ _ _ _ => F₈
  rename News _ _ _ _ => N₈
  refine go_on (mulN_NoCount G₇ hd hu F₈ rfl N₈ hc₇ (Mine.excP_NoText _) (by kernel_rfl) (by decide) ?_)
  intro _ _
  k_steps
  subst hr₁
  dsimp only
  refine hide1 fun r₁ hr₁ => ?_
  k_steps
  rename Fr _ _ _ _ => F₈
  rename News _ _ _ _ => N₈
  refine go_on (mulN_TooLong G₇ hd hu F₈ rfl N₈ hc₇ (Mine.excP_NoText _) (by kernel_rfl) (by decide) ?_)
  intro _ _
  k_steps
  rename Fr _ _ _ _ => F₈
  rename News _ _ _ _ => N₈
  refine go_on (mulN_TooShort G₇ hd hu F₈ rfl N₈ hc₇ (Mine.excP_NoText _) (by kernel_rfl) (by decide) ?_)
  intro _ _
  k_steps
  subst hr₁
  dsimp only
  refine hide1 fun r₁ hr₁ => ?_
  k_steps
  rename Fr _ _ _ _ => F₈
  rename News _ _ _ _ => N₈
  refine go_on (mulN_Broken G₇ hd hu F₈ rfl N₈ hc₇ (Mine.excP_NoText _) (by kernel_rfl) (by decide) ?_)
  intro _ _
  k_steps
  rename Fr _ _ _ _ => F₈
  rename News _ _ _ _ => N₈
  refine go_on (mulN_NoMate G₇ hd hu F₈ rfl N₈ hc₇ (Mine.excP_NoText _) (by kernel_rfl) (by decide) ?_)
  intro _ _
  k_steps
  subst hr₁
  dsimp only
  k_steps
  rename Fr _ _ _ _ => F₈
  rename News _ _ _ _ => N₈
  refine go_on (mulY_NoText G₇ hd hu F₈ rfl N₈ hc₇ (by kts_exm) ?_)
  intro _ _
  k_steps
  rename Fr _ _ _ _ => F₈
  rename News _ _ _ _ => N₈
  refine go_on (mulY_ValueError G₇ hd hu F₈ rfl N₈ hc₇ (by kts_exm) ?_)
  intro _ _
  have hq₁ := (show q' = _ from hq'')
  have he₁ := (show e' = _ from he'')
  clear hq'' he''
  subst hq₁ he₁
  try dsimp only
  k_steps
  rename Fr _ _ _ _ => F₈
  exact ret_strF (s := s) (Q := Q) ret (by decide +kernel) T₇ F₈.keep
end

theorem c_law_words_rows {v : Value} {x l : Addr} {P : Nat} {ds : List Int} {vs : List Value} {ns : List Int} {wh : Int} {t : Tok} (G : Gd (Mine.KK w.params) Mine.view (looseW Mine.view [Str.ofString "MOST_NOUGHTS", Str.ofString "MOST_SIGNS"]) mean mg mb base fr s.heap) (hd : dp + 10 < recursionLimit) (hu : un + 200 < cLine)
    (hG : GateAt w.params 276 s.heap x P ds) (hdv : IsDiv ds) (hP : Reach ds P) (hb : BadP (InH s.heap) v)  (hl : s.heap.IsList l vs.toArray) (hi : IntsAre vs ns) (hz : ns.length ≤ 300) (hr : IsRow ns) (hw0 : 0 ≤ wh) (hw1 : wh ≤ 8) 
    (ret : ∀ g' h' tk' t', KtsTurn (frs fr) s.heap g' → g'.StaysIn h' → Q (.str (Str.ofString ("rv")) t') { s with heap := h', toks := tk' }) :
    wpAny (model PySem.Challenge.rw_uf040037_06.row.prog w) (arA dp un gd fr) (call (.ref 411) [.int wh t, v, .ref l, .ref x]) Q E s := by
  revert G; k_fill; intro G
  refine' enter0 (binds := [(Str.ofString "_law_which", .int wh t), (Str.ofString "_law_bad_here", v), (Str.ofString "_law_row", .ref l), (Str.ofString "_law_gate", .ref x)]) G ?k6 ?k7 ?k8 ?k9 ?kB ?_ ?c2 ?c3 ?c4 ?c5
  case k6 => k_is
  case k7 => k_is
  case k8 => omega
  case k9 => exact BindsTo.of_eq rfl
  case kB => exact locs rfl
  case c2 => exact rfl
  case c3 => exact rfl
  case c4 => exact rfl
  case c5 => decide
  intro L' h' tk F'
  have N' : News s.heap L' h' [] := News.nil
  have B' := G.below dp un gd
  have X' := G.kin
  have T' := G.top
  have hb' := go_on hb
  have hG₀ := go_on hG
  clear hb hG
  k_steps
  refine go_on (wpAny_Try_except ?_)
  k_steps
  rename Fr _ _ _ _ => F₂
  rename News _ _ _ _ => N₂
  refine go_on (c_law_rows_called (G.push F₂ rfl) (by omega) (by omega) (BadP.mono F₂.keep hb') (lst_base F₂ hl) hi (by omega) hr hw0 hw1 (fun _ e t us h₃ tk₃ R U => ?_) trivial)
  refine A_look G F₂ N₂ R U (fun h₄ h₅ F₅ R₅ U₅ => ?_)
  exact hand_NoRow G hd hu F₅ R₅ U₅ (fun g' h' tk' t' T k => ret g' h' tk' t' T k)

theorem c_law_words_gate {v : Value} {x l : Addr} {P : Nat} {ds : List Int} {vs : List Value} {ns : List Int} {wh : Int} {t : Tok} (G : Gd (Mine.KK w.params) Mine.view (looseW Mine.view [Str.ofString "MOST_NOUGHTS", Str.ofString "MOST_SIGNS"]) mean mg mb base fr s.heap) (hd : dp + 10 < recursionLimit) (hu : un + 200 < cLine)
    (hG : GateAt w.params 276 s.heap x P ds) (hdv : IsDiv ds) (hP : Reach ds P) (hb : BadP (InH s.heap) v)  (hl : s.heap.IsList l vs.toArray) (hi : IntsAre vs ns) (hz : ns.length ≤ 300) (hr : IsRow ns) (hw0 : 9 ≤ wh) (hw1 : wh ≤ 15) 
    (ret : ∀ g' h' tk' t', KtsTurn (frs fr) s.heap g' → g'.StaysIn h' → Q (.str (Str.ofString ("rv")) t') { s with heap := h', toks := tk' }) :
    wpAny (model PySem.Challenge.rw_uf040037_06.row.prog w) (arA dp un gd fr) (call (.ref 411) [.int wh t, v, .ref l, .ref x]) Q E s := by
  revert G; k_fill; intro G
  refine' enter0 (binds := [(Str.ofString "_law_which", .int wh t), (Str.ofString "_law_bad_here", v), (Str.ofString "_law_row", .ref l), (Str.ofString "_law_gate", .ref x)]) G ?k6 ?k7 ?k8 ?k9 ?kB ?_ ?c2 ?c3 ?c4 ?c5
  case k6 => k_is
  case k7 => k_is
  case k8 => omega
  case k9 => exact BindsTo.of_eq rfl
  case kB => exact locs rfl
  case c2 => exact rfl
  case c3 => exact rfl
  case c4 => exact rfl
  case c5 => decide
  intro L' h' tk F'
  have N' : News s.heap L' h' [] := News.nil
  have B' := G.below dp un gd
  have X' := G.kin
  have T' := G.top
  have hb' := go_on hb
  have hG₀ := go_on hG
  clear hb hG
  k_steps
  refine go_on (wpAny_Try_except ?_)
  k_steps
  rename Fr _ _ _ _ => F₂
  rename News _ _ _ _ => N₂
  refine go_on (c_law_gate_called (G.push F₂ rfl) (by omega) (by omega) (gate_base F₂ hG₀) hdv hP (BadP.mono F₂.keep hb') hw0 hw1 (fun _ e t us h₃ tk₃ R U => ?_) trivial)
  refine A_look G F₂ N₂ R U (fun h₄ h₅ F₅ R₅ U₅ => ?_)
  exact hand_NoRow G hd hu F₅ R₅ U₅ (fun g' h' tk' t' T k => ret g' h' tk' t' T k)

theorem c_law_words_16 {v : Value} {x l : Addr} {P : Nat} {ds : List Int} {vs : List Value} {ns : List Int} {t : Tok} (G : Gd (Mine.KK w.params) Mine.view (looseW Mine.view [Str.ofString "MOST_NOUGHTS", Str.ofString "MOST_SIGNS"]) mean mg mb base fr s.heap) (hd : dp + 10 < recursionLimit) (hu : un + 200 < cLine)
    (hG : GateAt w.params 276 s.heap x P ds) (hdv : IsDiv ds) (hP : Reach ds P) (hb : BadP (InH s.heap) v)  (hl : s.heap.IsList l vs.toArray) (hi : IntsAre vs ns) (hz : ns.length ≤ 300) (hr : IsRow ns) (hds4 : ds.length = 4) (hP7 : P = 7) 
    (ret : ∀ g' h' tk' t', KtsTurn (frs fr) s.heap g' → g'.StaysIn h' → Q (.str (Str.ofString ("rv")) t') { s with heap := h', toks := tk' }) :
    wpAny (model PySem.Challenge.rw_uf040037_06.row.prog w) (arA dp un gd fr) (call (.ref 411) [.int 16 t, v, .ref l, .ref x]) Q E s := by
  revert G; k_fill; intro G
  refine' enter0 (binds := [(Str.ofString "_law_which", .int 16 t), (Str.ofString "_law_bad_here", v), (Str.ofString "_law_row", .ref l), (Str.ofString "_law_gate", .ref x)]) G ?k6 ?k7 ?k8 ?k9 ?kB ?_ ?c2 ?c3 ?c4 ?c5
  case k6 => k_is
  case k7 => k_is
  case k8 => omega
  case k9 => exact BindsTo.of_eq rfl
  case kB => exact locs rfl
  case c2 => exact rfl
  case c3 => exact rfl
  case c4 => exact rfl
  case c5 => decide
  intro L' h' tk F'
  have N' : News s.heap L' h' [] := News.nil
  have B' := G.below dp un gd
  have X' := G.kin
  have T' := G.top
  have hb' := go_on hb
  have hG₀ := go_on hG
  clear hb hG
  k_steps
  refine go_on (wpAny_Try_except ?_)
  k_steps
  rename Fr _ _ _ _ => F₂
  rename News _ _ _ _ => N₂
  refine go_on (c_law_else_called_16 (G.push F₂ rfl) (by omega) (by omega) (gate_base F₂ hG₀) hdv hP (lst_base F₂ hl) hi hz hr hds4 hP7 (fun _ e t us h₃ tk₃ R U => ?_) trivial)
  refine A_look G F₂ N₂ R U (fun h₄ h₅ F₅ R₅ U₅ => ?_)
  exact hand_NoRow G hd hu F₅ R₅ U₅ (fun g' h' tk' t' T k => ret g' h' tk' t' T k)

theorem c_law_words_17 {v : Value} {x l : Addr} {P : Nat} {ds : List Int} {vs : List Value} {ns : List Int} {t : Tok} (G : Gd (Mine.KK w.params) Mine.view (looseW Mine.view [Str.ofString "MOST_NOUGHTS", Str.ofString "MOST_SIGNS"]) mean mg mb base fr s.heap) (hd : dp + 10 < recursionLimit) (hu : un + 200 < cLine)
    (hG : GateAt w.params 276 s.heap x P ds) (hdv : IsDiv ds) (hP : Reach ds P) (hb : BadP (InH s.heap) v)  (hl : s.heap.IsList l vs.toArray) (hi : IntsAre vs ns) (hz : ns.length ≤ 300) (hr : IsRow ns) (hds4 : ds.length = 4) (hP7 : P = 7) 
    (ret : ∀ g' h' tk' t', KtsTurn (frs fr) s.heap g' → g'.StaysIn h' → Q (.str (Str.ofString ("rv")) t') { s with heap := h', toks := tk' }) :
    wpAny (model PySem.Challenge.rw_uf040037_06.row.prog w) (arA dp un gd fr) (call (.ref 411) [.int 17 t, v, .ref l, .ref x]) Q E s := by
  revert G; k_fill; intro G
  refine' enter0 (binds := [(Str.ofString "_law_which", .int 17 t), (Str.ofString "_law_bad_here", v), (Str.ofString "_law_row", .ref l), (Str.ofString "_law_gate", .ref x)]) G ?k6 ?k7 ?k8 ?k9 ?kB ?_ ?c2 ?c3 ?c4 ?c5
  case k6 => k_is
  case k7 => k_is
  case k8 => omega
  case k9 => exact BindsTo.of_eq rfl
  case kB => exact locs rfl
  case c2 => exact rfl
  case c3 => exact rfl
  case c4 => exact rfl
  case c5 => decide
  intro L' h' tk F'
  have N' : News s.heap L' h' [] := News.nil
  have B' := G.below dp un gd
  have X' := G.kin
  have T' := G.top
  have hb' := go_on hb
  have hG₀ := go_on hG
  clear hb hG
  k_steps
  refine go_on (wpAny_Try_except ?_)
  k_steps
  rename Fr _ _ _ _ => F₂
  rename News _ _ _ _ => N₂
  refine go_on (c_law_else_called_17 (G.push F₂ rfl) (by omega) (by omega) (gate_base F₂ hG₀) hdv hP (lst_base F₂ hl) hi hz hr hds4 hP7 (fun _ e t us h₃ tk₃ R U => ?_) trivial)
  refine A_look G F₂ N₂ R U (fun h₄ h₅ F₅ R₅ U₅ => ?_)
  exact hand_NoRow G hd hu F₅ R₅ U₅ (fun g' h' tk' t' T k => ret g' h' tk' t' T k)

theorem c_law_words_18 {v : Value} {x l : Addr} {P : Nat} {ds : List Int} {vs : List Value} {ns : List Int} {t : Tok} (G : Gd (Mine.KK w.params) Mine.view (looseW Mine.view [Str.ofString "MOST_NOUGHTS", Str.ofString "MOST_SIGNS"]) mean mg mb base fr s.heap) (hd : dp + 10 < recursionLimit) (hu : un + 200 < cLine)
    (hG : GateAt w.params 276 s.heap x P ds) (hdv : IsDiv ds) (hP : Reach ds P) (hb : BadP (InH s.heap) v)  (hl : s.heap.IsList l vs.toArray) (hi : IntsAre vs ns) (hz : ns.length ≤ 300) (hr : IsRow ns) (hds4 : ds.length = 4) (hP7 : P = 7) 
    (ret : ∀ g' h' tk' t', KtsTurn (frs fr) s.heap g' → g'.StaysIn h' → Q (.str (Str.ofString ("sv")) t') { s with heap := h', toks := tk' }) :
    wpAny (model PySem.Challenge.rw_uf040037_06.row.prog w) (arA dp un gd fr) (call (.ref 411) [.int 18 t, v, .ref l, .ref x]) Q E s := by
  revert G; k_fill; intro G
  refine' enter0 (binds := [(Str.ofString "_law_which", .int 18 t), (Str.ofString "_law_bad_here", v), (Str.ofString "_law_row", .ref l), (Str.ofString "_law_gate", .ref x)]) G ?k6 ?k7 ?k8 ?k9 ?kB ?_ ?c2 ?c3 ?c4 ?c5
  case k6 => k_is
  case k7 => k_is
  case k8 => omega
  case k9 => exact BindsTo.of_eq rfl
  case kB => exact locs rfl
  case c2 => exact rfl
  case c3 => exact rfl
  case c4 => exact rfl
  case c5 => decide
  intro L' h' tk F'
  have N' : News s.heap L' h' [] := News.nil
  have B' := G.below dp un gd
  have X' := G.kin
  have T' := G.top
  have hb' := go_on hb
  have hG₀ := go_on hG
  clear hb hG
  k_steps
  refine go_on (wpAny_Try_except ?_)
  k_steps
  rename Fr _ _ _ _ => F₂
  rename News _ _ _ _ => N₂
  refine go_on (c_law_else_called_18 (G.push F₂ rfl) (by omega) (by omega) (gate_base F₂ hG₀) hdv hP (lst_base F₂ hl) hi hz hr hds4 hP7 (fun _ e t us h₃ tk₃ R U => ?_) trivial)
  refine A_look G F₂ N₂ R U (fun h₄ h₅ F₅ R₅ U₅ => ?_)
  exact hand_NoSign G hd hu F₅ R₅ U₅ (fun g' h' tk' t' T k => ret g' h' tk' t' T k)

theorem c_law_words_19 {v : Value} {x l : Addr} {P : Nat} {ds : List Int} {vs : List Value} {ns : List Int} {t : Tok} (G : Gd (Mine.KK w.params) Mine.view (looseW Mine.view [Str.ofString "MOST_NOUGHTS", Str.ofString "MOST_SIGNS"]) mean mg mb base fr s.heap) (hd : dp + 10 < recursionLimit) (hu : un + 200 < cLine)
    (hG : GateAt w.params 276 s.heap x P ds) (hdv : IsDiv ds) (hP : Reach ds P) (hb : BadP (InH s.heap) v)  (hl : s.heap.IsList l vs.toArray) (hi : IntsAre vs ns) (hz : ns.length ≤ 300) (hr : IsRow ns) (hds4 : ds.length = 4) (hP7 : P = 7) 
    (ret : ∀ g' h' tk' t', KtsTurn (frs fr) s.heap g' → g'.StaysIn h' → Q (.str (Str.ofString ("dv")) t') { s with heap := h', toks := tk' }) :
    wpAny (model PySem.Challenge.rw_uf040037_06.row.prog w) (arA dp un gd fr) (call (.ref 411) [.int 19 t, v, .ref l, .ref x]) Q E s := by
  revert G; k_fill; intro G
  refine' enter0 (binds := [(Str.ofString "_law_which", .int 19 t), (Str.ofString "_law_bad_here", v), (Str.ofString "_law_row", .ref l), (Str.ofString "_law_gate", .ref x)]) G ?k6 ?k7 ?k8 ?k9 ?kB ?_ ?c2 ?c3 ?c4 ?c5
  case k6 => k_is
  case k7 => k_is
  case k8 => omega
  case k9 => exact BindsTo.of_eq rfl
  case kB => exact locs rfl
  case c2 => exact rfl
  case c3 => exact rfl
  case c4 => exact rfl
  case c5 => decide
  intro L' h' tk F'
  have N' : News s.heap L' h' [] := News.nil
  have B' := G.below dp un gd
  have X' := G.kin
  have T' := G.top
  have hb' := go_on hb
  have hG₀ := go_on hG
  clear hb hG
  k_steps
  refine go_on (wpAny_Try_except ?_)
  k_steps
  rename Fr _ _ _ _ => F₂
  rename News _ _ _ _ => N₂
  refine go_on (c_law_else_called_19 (G.push F₂ rfl) (by omega) (by omega) (gate_base F₂ hG₀) hdv hP (lst_base F₂ hl) hi hz hr hds4 hP7 (fun _ e t us h₃ tk₃ R U => ?_) trivial)
  refine A_look G F₂ N₂ R U (fun h₄ h₅ F₅ R₅ U₅ => ?_)
  exact hand_NoDivisor G hd hu F₅ R₅ U₅ (fun g' h' tk' t' T k => ret g' h' tk' t' T k)

theorem c_law_words_20 {v : Value} {x l : Addr} {P : Nat} {ds : List Int} {vs : List Value} {ns : List Int} {t : Tok} (G : Gd (Mine.KK w.params) Mine.view (looseW Mine.view [Str.ofString "MOST_NOUGHTS", Str.ofString "MOST_SIGNS"]) mean mg mb base fr s.heap) (hd : dp + 10 < recursionLimit) (hu : un + 200 < cLine)
    (hG : GateAt w.params 276 s.heap x P ds) (hdv : IsDiv ds) (hP : Reach ds P) (hb : BadP (InH s.heap) v)  (hl : s.heap.IsList l vs.toArray) (hi : IntsAre vs ns) (hz : ns.length ≤ 300) (hr : IsRow ns) (hds4 : ds.length = 4) (hP7 : P = 7) 
    (ret : ∀ g' h' tk' t', KtsTurn (frs fr) s.heap g' → g'.StaysIn h' → Q (.str (Str.ofString ("dv")) t') { s with heap := h', toks := tk' }) :
    wpAny (model PySem.Challenge.rw_uf040037_06.row.prog w) (arA dp un gd fr) (call (.ref 411) [.int 20 t, v, .ref l, .ref x]) Q E s := by
  revert G; k_fill; intro G
  refine' enter0 (binds := [(Str.ofString "_law_which", .int 20 t), (Str.ofString "_law_bad_here", v), (Str.ofString "_law_row", .ref l), (Str.ofString "_law_gate", .ref x)]) G ?k6 ?k7 ?k8 ?k9 ?kB ?_ ?c2 ?c3 ?c4 ?c5
  case k6 => k_is
  case k7 => k_is
  case k8 => omega
  case k9 => exact BindsTo.of_eq rfl
  case kB => exact locs rfl
  case c2 => exact rfl
  case c3 => exact rfl
  case c4 => exact rfl
  case c5 => decide
  intro L' h' tk F'
  have N' : News s.heap L' h' [] := News.nil
  have B' := G.below dp un gd
  have X' := G.kin
  have T' := G.top
  have hb' := go_on hb
  have hG₀ := go_on hG
  clear hb hG
  k_steps
  refine go_on (wpAny_Try_except ?_)
  k_steps
  rename Fr _ _ _ _ => F₂
  rename News _ _ _ _ => N₂
  refine go_on (c_law_else_called_20 (G.push F₂ rfl) (by omega) (by omega) (gate_base F₂ hG₀) hdv hP (lst_base F₂ hl) hi hz hr hds4 hP7 (fun _ e t us h₃ tk₃ R U => ?_) trivial)
  refine A_look G F₂ N₂ R U (fun h₄ h₅ F₅ R₅ U₅ => ?_)
  exact hand_NoDivisor G hd hu F₅ R₅ U₅ (fun g' h' tk' t' T k => ret g' h' tk' t' T k)

theorem c_law_words_21 {v : Value} {x l : Addr} {P : Nat} {ds : List Int} {vs : List Value} {ns : List Int} {t : Tok} (G : Gd (Mine.KK w.params) Mine.view (looseW Mine.view [Str.ofString "MOST_NOUGHTS", Str.ofString "MOST_SIGNS"]) mean mg mb base fr s.heap) (hd : dp + 10 < recursionLimit) (hu : un + 200 < cLine)
    (hG : GateAt w.params 276 s.heap x P ds) (hdv : IsDiv ds) (hP : Reach ds P) (hb : BadP (InH s.heap) v)  (hl : s.heap.IsList l vs.toArray) (hi : IntsAre vs ns) (hz : ns.length ≤ 300) (hr : IsRow ns) (hds4 : ds.length = 4) (hP7 : P = 7) 
    (ret : ∀ g' h' tk' t', KtsTurn (frs fr) s.heap g' → g'.StaysIn h' → Q (.str (Str.ofString ("cv")) t') { s with heap := h', toks := tk' }) :
    wpAny (model PySem.Challenge.rw_uf040037_06.row.prog w) (arA dp un gd fr) (call (.ref 411) [.int 21 t, v, .ref l, .ref x]) Q E s := by
  revert G; k_fill; intro G
  refine' enter0 (binds := [(Str.ofString "_law_which", .int 21 t), (Str.ofString "_law_bad_here", v), (Str.ofString "_law_row", .ref l), (Str.ofString "_law_gate", .ref x)]) G ?k6 ?k7 ?k8 ?k9 ?kB ?_ ?c2 ?c3 ?c4 ?c5
  case k6 => k_is
  case k7 => k_is
  case k8 => omega
  case k9 => exact BindsTo.of_eq rfl
  case kB => exact locs rfl
  case c2 => exact rfl
  case c3 => exact rfl
  case c4 => exact rfl
  case c5 => decide
  intro L' h' tk F'
  have N' : News s.heap L' h' [] := News.nil
  have B' := G.below dp un gd
  have X' := G.kin
  have T' := G.top
  have hb' := go_on hb
  have hG₀ := go_on hG
  clear hb hG
  k_steps
  refine go_on (wpAny_Try_except ?_)
  k_steps
  rename Fr _ _ _ _ => F₂
  rename News _ _ _ _ => N₂
  refine go_on (c_law_else_called_21 (G.push F₂ rfl) (by omega) (by omega) (gate_base F₂ hG₀) hdv hP (lst_base F₂ hl) hi hz hr hds4 hP7 (fun _ e t us h₃ tk₃ R U => ?_) trivial)
  refine A_look G F₂ N₂ R U (fun h₄ h₅ F₅ R₅ U₅ => ?_)
  exact hand_NoCount G hd hu F₅ R₅ U₅ (fun g' h' tk' t' T k => ret g' h' tk' t' T k)

theorem c_law_words_22 {v : Value} {x l : Addr} {P : Nat} {ds : List Int} {vs : List Value} {ns : List Int} {t : Tok} (G : Gd (Mine.KK w.params) Mine.view (looseW Mine.view [Str.ofString "MOST_NOUGHTS", Str.ofString "MOST_SIGNS"]) mean mg mb base fr s.heap) (hd : dp + 10 < recursionLimit) (hu : un + 200 < cLine)
    (hG : GateAt w.params 276 s.heap x P ds) (hdv : IsDiv ds) (hP : Reach ds P) (hb : BadP (InH s.heap) v)  (hl : s.heap.IsList l vs.toArray) (hi : IntsAre vs ns) (hz : ns.length ≤ 300) (hr : IsRow ns) (hds4 : ds.length = 4) (hP7 : P = 7) 
    (ret : ∀ g' h' tk' t', KtsTurn (frs fr) s.heap g' → g'.StaysIn h' → Q (.str (Str.ofString ("lv")) t') { s with heap := h', toks := tk' }) :
    wpAny (model PySem.Challenge.rw_uf040037_06.row.prog w) (arA dp un gd fr) (call (.ref 411) [.int 22 t, v, .ref l, .ref x]) Q E s := by
  revert G; k_fill; intro G
  refine' enter0 (binds := [(Str.ofString "_law_which", .int 22 t), (Str.ofString "_law_bad_here", v), (Str.ofString "_law_row", .ref l), (Str.ofString "_law_gate", .ref x)]) G ?k6 ?k7 ?k8 ?k9 ?kB ?_ ?c2 ?c3 ?c4 ?c5
  case k6 => k_is
  case k7 => k_is
  case k8 => omega
  case k9 => exact BindsTo.of_eq rfl
  case kB => exact locs rfl
  case c2 => exact rfl
  case c3 => exact rfl
  case c4 => exact rfl
  case c5 => decide
  intro L' h' tk F'
  have N' : News s.heap L' h' [] := News.nil
  have B' := G.below dp un gd
  have X' := G.kin
  have T' := G.top
  have hb' := go_on hb
  have hG₀ := go_on hG
  clear hb hG
  k_steps
  refine go_on (wpAny_Try_except ?_)
  k_steps
  rename Fr _ _ _ _ => F₂
  rename News _ _ _ _ => N₂
  refine go_on (c_law_else_called_22 (G.push F₂ rfl) (by omega) (by omega) (gate_base F₂ hG₀) hdv hP (lst_base F₂ hl) hi hz hr hds4 hP7 (fun _ e t us h₃ tk₃ R U => ?_) trivial)
  refine A_look G F₂ N₂ R U (fun h₄ h₅ F₅ R₅ U₅ => ?_)
  exact hand_TooLong G hd hu F₅ R₅ U₅ (fun g' h' tk' t' T k => ret g' h' tk' t' T k)

theorem c_law_words_23 {v : Value} {x l : Addr} {P : Nat} {ds : List Int} {vs : List Value} {ns : List Int} {t : Tok} (G : Gd (Mine.KK w.params) Mine.view (looseW Mine.view [Str.ofString "MOST_NOUGHTS", Str.ofString "MOST_SIGNS"]) mean mg mb base fr s.heap) (hd : dp + 10 < recursionLimit) (hu : un + 200 < cLine)
    (hG : GateAt w.params 276 s.heap x P ds) (hdv : IsDiv ds) (hP : Reach ds P) (hb : BadP (InH s.heap) v)  (hl : s.heap.IsList l vs.toArray) (hi : IntsAre vs ns) (hz : ns.length ≤ 300) (hr : IsRow ns) (hds4 : ds.length = 4) (hP7 : P = 7) 
    (ret : ∀ g' h' tk' t', KtsTurn (frs fr) s.heap g' → g'.StaysIn h' → Q (.str (Str.ofString ("hv")) t') { s with heap := h', toks := tk' }) :
    wpAny (model PySem.Challenge.rw_uf040037_06.row.prog w) (arA dp un gd fr) (call (.ref 411) [.int 23 t, v, .ref l, .ref x]) Q E s := by
  revert G; k_fill; intro G
  refine' enter0 (binds := [(Str.ofString "_law_which", .int 23 t), (Str.ofString "_law_bad_here", v), (Str.ofString "_law_row", .ref l), (Str.ofString "_law_gate", .ref x)]) G ?k6 ?k7 ?k8 ?k9 ?kB ?_ ?c2 ?c3 ?c4 ?c5
  case k6 => k_is
  case k7 => k_is
  case k8 => omega
  case k9 => exact BindsTo.of_eq rfl
  case kB => exact locs rfl
  case c2 => exact rfl
  case c3 => exact rfl
  case c4 => exact rfl
  case c5 => decide
  intro L' h' tk F'
  have N' : News s.heap L' h' [] := News.nil
  have B' := G.below dp un gd
  have X' := G.kin
  have T' := G.top
  have hb' := go_on hb
  have hG₀ := go_on hG
  clear hb hG
  k_steps
  refine go_on (wpAny_Try_except ?_)
  k_steps
  rename Fr _ _ _ _ => F₂
  rename News _ _ _ _ => N₂
  refine go_on (c_law_else_called_23 (G.push F₂ rfl) (by omega) (by omega) (gate_base F₂ hG₀) hdv hP (lst_base F₂ hl) hi hz hr hds4 hP7 (fun _ e t us h₃ tk₃ R U => ?_) trivial)
  refine A_look G F₂ N₂ R U (fun h₄ h₅ F₅ R₅ U₅ => ?_)
  exact hand_TooShort G hd hu F₅ R₅ U₅ (fun g' h' tk' t' T k => ret g' h' tk' t' T k)

theorem c_law_words_24 {v : Value} {x l : Addr} {P : Nat} {ds : List Int} {vs : List Value} {ns : List Int} {t : Tok} (G : Gd (Mine.KK w.params) Mine.view (looseW Mine.view [Str.ofString "MOST_NOUGHTS", Str.ofString "MOST_SIGNS"]) mean mg mb base fr s.heap) (hd : dp + 10 < recursionLimit) (hu : un + 200 < cLine)
    (hG : GateAt w.params 276 s.heap x P ds) (hdv : IsDiv ds) (hP : Reach ds P) (hb : BadP (InH s.heap) v)  (hl : s.heap.IsList l vs.toArray) (hi : IntsAre vs ns) (hz : ns.length ≤ 300) (hr : IsRow ns) (hds4 : ds.length = 4) (hP7 : P = 7) (hbr : (restBy [1, 0, 0, 0] ds).sum ≠ 0) 
    (ret : ∀ g' h' tk' t', KtsTurn (frs fr) s.heap g' → g'.StaysIn h' → Q (.str (Str.ofString ("bv")) t') { s with heap := h', toks := tk' }) :
    wpAny (model PySem.Challenge.rw_uf040037_06.row.prog w) (arA dp un gd fr) (call (.ref 411) [.int 24 t, v, .ref l, .ref x]) Q E s := by
  revert G; k_fill; intro G
  refine' enter0 (binds := [(Str.ofString "_law_which", .int 24 t), (Str.ofString "_law_bad_here", v), (Str.ofString "_law_row", .ref l), (Str.ofString "_law_gate", .ref x)]) G ?k6 ?k7 ?k8 ?k9 ?kB ?_ ?c2 ?c3 ?c4 ?c5
  case k6 => k_is
  case k7 => k_is
  case k8 => omega
  case k9 => exact BindsTo.of_eq rfl
  case kB => exact locs rfl
  case c2 => exact rfl
  case c3 => exact rfl
  case c4 => exact rfl
  case c5 => decide
  intro L' h' tk F'
  have N' : News s.heap L' h' [] := News.nil
  have B' := G.below dp un gd
  have X' := G.kin
  have T' := G.top
  have hb' := go_on hb
  have hG₀ := go_on hG
  clear hb hG
  k_steps
  refine go_on (wpAny_Try_except ?_)
  k_steps
  rename Fr _ _ _ _ => F₂
  rename News _ _ _ _ => N₂
  refine go_on (c_law_else_called_24 (G.push F₂ rfl) (by omega) (by omega) (gate_base F₂ hG₀) hdv hP (lst_base F₂ hl) hi hz hr hds4 hP7 hbr (fun _ e t us h₃ tk₃ R U => ?_) trivial)
  refine A_look G F₂ N₂ R U (fun h₄ h₅ F₅ R₅ U₅ => ?_)
  exact hand_Broken G hd hu F₅ R₅ U₅ (fun g' h' tk' t' T k => ret g' h' tk' t' T k)

theorem c_law_words_25 {v : Value} {x l : Addr} {P : Nat} {ds : List Int} {vs : List Value} {ns : List Int} {t : Tok} (G : Gd (Mine.KK w.params) Mine.view (looseW Mine.view [Str.ofString "MOST_NOUGHTS", Str.ofString "MOST_SIGNS"]) mean mg mb base fr s.heap) (hd : dp + 10 < recursionLimit) (hu : un + 200 < cLine)
    (hG : GateAt w.params 276 s.heap x P ds) (hdv : IsDiv ds) (hP : Reach ds P) (hb : BadP (InH s.heap) v)  (hl : s.heap.IsList l vs.toArray) (hi : IntsAre vs ns) (hz : ns.length ≤ 300) (hr : IsRow ns) (hds4 : ds.length = 4) (hP7 : P = 7) (hnm : NoMend ds [1, 1, 1]) 
    (ret : ∀ g' h' tk' t', KtsTurn (frs fr) s.heap g' → g'.StaysIn h' → Q (.str (Str.ofString ("bv")) t') { s with heap := h', toks := tk' }) :
    wpAny (model PySem.Challenge.rw_uf040037_06.row.prog w) (arA dp un gd fr) (call (.ref 411) [.int 25 t, v, .ref l, .ref x]) Q E s := by
  revert G; k_fill; intro G
  refine' enter0 (binds := [(Str.ofString "_law_which", .int 25 t), (Str.ofString "_law_bad_here", v), (Str.ofString "_law_row", .ref l), (Str.ofString "_law_gate", .ref x)]) G ?k6 ?k7 ?k8 ?k9 ?kB ?_ ?c2 ?c3 ?c4 ?c5
  case k6 => k_is
  case k7 => k_is
  case k8 => omega
  case k9 => exact BindsTo.of_eq rfl
  case kB => exact locs rfl
  case c2 => exact rfl
  case c3 => exact rfl
  case c4 => exact rfl
  case c5 => decide
  intro L' h' tk F'
  have N' : News s.heap L' h' [] := News.nil
  have B' := G.below dp un gd
  have X' := G.kin
  have T' := G.top
  have hb' := go_on hb
  have hG₀ := go_on hG
  clear hb hG
  k_steps
  refine go_on (wpAny_Try_except ?_)
  k_steps
  rename Fr _ _ _ _ => F₂
  rename News _ _ _ _ => N₂
  refine go_on (c_law_else_called_25 (G.push F₂ rfl) (by omega) (by omega) (gate_base F₂ hG₀) hdv hP (lst_base F₂ hl) hi hz hr hds4 hP7 hnm (fun _ e t us h₃ tk₃ R U => ?_) trivial)
  refine A_look G F₂ N₂ R U (fun h₄ h₅ F₅ R₅ U₅ => ?_)
  exact hand_Broken G hd hu F₅ R₅ U₅ (fun g' h' tk' t' T k => ret g' h' tk' t' T k)

theorem c_law_words_26 {v : Value} {x l : Addr} {P : Nat} {ds : List Int} {vs : List Value} {ns : List Int} {t : Tok} (G : Gd (Mine.KK w.params) Mine.view (looseW Mine.view [Str.ofString "MOST_NOUGHTS", Str.ofString "MOST_SIGNS"]) mean mg mb base fr s.heap) (hd : dp + 10 < recursionLimit) (hu : un + 200 < cLine)
    (hG : GateAt w.params 276 s.heap x P ds) (hdv : IsDiv ds) (hP : Reach ds P) (hb : BadP (InH s.heap) v)  (hl : s.heap.IsList l vs.toArray) (hi : IntsAre vs ns) (hz : ns.length ≤ 300) (hr : IsRow ns) (hds4 : ds.length = 4) (hP7 : P = 7) 
    (ret : ∀ g' h' tk' t', KtsTurn (frs fr) s.heap g' → g'.StaysIn h' → Q (.str (Str.ofString ("mv")) t') { s with heap := h', toks := tk' }) :
    wpAny (model PySem.Challenge.rw_uf040037_06.row.prog w) (arA dp un gd fr) (call (.ref 411) [.int 26 t, v, .ref l, .ref x]) Q E s := by
  revert G; k_fill; intro G
  refine' enter0 (binds := [(Str.ofString "_law_which", .int 26 t), (Str.ofString "_law_bad_here", v), (Str.ofString "_law_row", .ref l), (Str.ofString "_law_gate", .ref x)]) G ?k6 ?k7 ?k8 ?k9 ?kB ?_ ?c2 ?c3 ?c4 ?c5
  case k6 => k_is
  case k7 => k_is
  case k8 => omega
  case k9 => exact BindsTo.of_eq rfl
  case kB => exact locs rfl
  case c2 => exact rfl
  case c3 => exact rfl
  case c4 => exact rfl
  case c5 => decide
  intro L' h' tk F'
  have N' : News s.heap L' h' [] := News.nil
  have B' := G.below dp un gd
  have X' := G.kin
  have T' := G.top
  have hb' := go_on hb
  have hG₀ := go_on hG
  clear hb hG
  k_steps
  refine go_on (wpAny_Try_except ?_)
  k_steps
  rename Fr _ _ _ _ => F₂
  rename News _ _ _ _ => N₂
  refine go_on (c_law_else_called_26 (G.push F₂ rfl) (by omega) (by omega) (gate_base F₂ hG₀) hdv hP (lst_base F₂ hl) hi hz hr hds4 hP7 (fun _ e t us h₃ tk₃ R U => ?_) trivial)
  refine A_look G F₂ N₂ R U (fun h₄ h₅ F₅ R₅ U₅ => ?_)
  exact hand_NoMate G hd hu F₅ R₅ U₅ (fun g' h' tk' t' T k => ret g' h' tk' t' T k)

theorem c_law_words_27 {v : Value} {x l : Addr} {P : Nat} {ds : List Int} {vs : List Value} {ns : List Int} {t : Tok} (G : Gd (Mine.KK w.params) Mine.view (looseW Mine.view [Str.ofString "MOST_NOUGHTS", Str.ofString "MOST_SIGNS"]) mean mg mb base fr s.heap) (hd : dp + 10 < recursionLimit) (hu : un + 200 < cLine)
    (hG : GateAt w.params 276 s.heap x P ds) (hdv : IsDiv ds) (hP : Reach ds P) (hb : BadP (InH s.heap) v)  (hl : s.heap.IsList l vs.toArray) (hi : IntsAre vs ns) (hz : ns.length ≤ 300) (hr : IsRow ns) (hds4 : ds.length = 4) (hP7 : P = 7) 
    (ret : ∀ g' h' tk' t', KtsTurn (frs fr) s.heap g' → g'.StaysIn h' → Q (.str (Str.ofString ("tv")) t') { s with heap := h', toks := tk' }) :
    wpAny (model PySem.Challenge.rw_uf040037_06.row.prog w) (arA dp un gd fr) (call (.ref 411) [.int 27 t, v, .ref l, .ref x]) Q E s := by
  revert G; k_fill; intro G
  refine' enter0 (binds := [(Str.ofString "_law_which", .int 27 t), (Str.ofString "_law_bad_here", v), (Str.ofString "_law_row", .ref l), (Str.ofString "_law_gate", .ref x)]) G ?k6 ?k7 ?k8 ?k9 ?kB ?_ ?c2 ?c3 ?c4 ?c5
  case k6 => k_is
  case k7 => k_is
  case k8 => omega
  case k9 => exact BindsTo.of_eq rfl
  case kB => exact locs rfl
  case c2 => exact rfl
  case c3 => exact rfl
  case c4 => exact rfl
  case c5 => decide
  intro L' h' tk F'
  have N' : News s.heap L' h' [] := News.nil
  have B' := G.below dp un gd
  have X' := G.kin
  have T' := G.top
  have hb' := go_on hb
  have hG₀ := go_on hG
  clear hb hG
  k_steps
  refine go_on (wpAny_Try_except ?_)
  k_steps
  rename Fr _ _ _ _ => F₂
  rename News _ _ _ _ => N₂
  refine go_on (c_law_else_called_27 (G.push F₂ rfl) (by omega) (by omega) (gate_base F₂ hG₀) hdv hP (lst_base F₂ hl) hi hz hr hds4 hP7 (fun _ e t us h₃ tk₃ R U => ?_) trivial)
  refine A_look G F₂ N₂ R U (fun h₄ h₅ F₅ R₅ U₅ => ?_)
  exact hand_NoText G hd hu F₅ R₅ U₅ (fun g' h' tk' t' T k => ret g' h' tk' t' T k)

def Sz6 (s : Shared) (g : Heap) (L l : Addr) (s' : Shared) : Prop :=
  ∃ h tk m a ta, s' = { s with heap := h, toks := tk } ∧ Fr g L h m ∧ m (Str.ofString "_law_script") = some (.ref l) ∧ m (Str.ofString "_law_size") = some (.int a ta) ∧ 0 ≤ a ∧ a ≤ 300

theorem c_law {l : Addr} {vs : List Value} {ns : List Int} (G : Gd (Mine.KK w.params) Mine.view (looseW Mine.view [Str.ofString "MOST_NOUGHTS", Str.ofString "MOST_SIGNS"]) mean mg mb base fr s.heap) (hd : dp + 13 < recursionLimit) (hu : un + 230 < cLine)
    (hl : s.heap.IsList l vs.toArray) (hi : IntsAre vs ns) (hz : ns.length ≤ 63)
    (ret : ∀ g' h' tk', KtsTurn (frs fr) s.heap g' → g'.StaysIn h' → Q (.bool true) { s with heap := h', toks := tk' }) :
    wpAny (model PySem.Challenge.rw_uf040037_06.row.prog w) (arA dp un gd fr) (call (.ref 418) [.ref l]) Q E s := by
  revert G; k_fill; intro G
  refine' enter0 (binds := [(Str.ofString "_law_script", .ref l)]) G ?k6 ?k7 ?k8 ?k9 ?kB ?_ ?c2 ?c3 ?c4 ?c5
  case k6 => k_is
  case k7 => k_is
  case k8 => omega
  case k9 => exact BindsTo.of_eq rfl
  case kB => exact locs rfl
  case c2 => exact rfl
  case c3 => exact rfl
  case c4 => exact rfl
  case c5 => decide
  intro L' h' tk F'
  have N' : News s.heap L' h' [] := News.nil
  have B' := G.below dp un gd
  have X' := G.kin
  have T' := G.top
  refine hide1 fun r₁ hr₁ => ?_
  k_steps
  subst hr₁
  dsimp only
  rename Fr _ _ _ _ => F₁
  rename News _ _ _ _ => N₁
  refine cut (Sz6 s s.heap L' l) ?_ ?_
  · k_steps
    · rename Fr _ _ _ _ => F₈
      exact ⟨rfl, _, _, _, _, _, rfl, F₈, rfl, rfl, fm_ge _ _ (by decide), fm_le _ _ 300 (by decide) (by decide)⟩
    · rename Fr _ _ _ _ => F₈
      exact ⟨rfl, _, _, _, _, _, rfl, F₈, rfl, rfl, fm_ge _ _ (by decide), Int.le_trans (fm_le _ _ 20 (by decide) (by decide)) (by decide)⟩
  clear F₁ N₁
  rintro s' ⟨h₂, tk₂, m₂, a, ta, rfl, F₂, e1, e2, ha0, ha1⟩
  obtain ⟨a, rfl⟩ := Int.eq_ofNat_of_zero_le ha0
  replace F₂ := fr_know (Str.ofString "_law_size") (fr_know (Str.ofString "_law_script") F₂ e1) e2
  have N₂ : News s.heap L' h₂ [] := News.nil
  clear e1 e2 ha0
  refine hide2 fun r₁ hr₁ => ?_
  k_steps
  subst hr₁
  dsimp only
  rename IntsAre _ _ => hir
  rename IsRow _ => hrr
  rename_i Dr vr cr rr hlr _ _ _ _ _ _ F₃ N₃
  have hw0 := fm_ge (ns.getD (Int.toNat 2) 0) 28 (by decide)
  have hw1 := fm_le (ns.getD (Int.toNat 2) 0) 28 27 (by decide) (by decide)
  generalize (ns.getD (Int.toNat 2) 0).fmod 28 = wh at *
  have hb0 := fm_ge (ns.getD (Int.toNat 3) 0) 2 (by decide)
  have hb1 := fm_le (ns.getD (Int.toNat 3) 0) 2 1 (by decide) (by decide)
  k_steps
  generalize (ns.getD (Int.toNat 3) 0).fmod 2 = b at *
  have hb01' := go_on (show b = 0 ∨ b = 1 by omega)
  rename Fr _ _ _ _ => F₅
  rename News _ _ _ _ => N₅
  refine' go_on (c_Gate (ns := [1, b, 1 - b, 1]) (G.push F₅ rfl) ?hd ?hu ?b1 ?ii (by simp) (div_b hb01') ?r ?_)
  case hd => omega
  case hu => omega
  case b1 => exact lst_led (its := List.toArray [_, _, _, _]) N₅ (.head _)
  case ii => exact .cons _ _ (.cons _ _ (.cons _ _ (.cons _ _ .nil)))
  case r => exact fun h => absurd (isDiv_b hb01') h
  intro _ P' hP' h₆ tk₆ x dx lD vD cD t0 t1 t2 t3 tP tv k hx hdx hlD ox od ol hiD l1 l2
  obtain rfl : P' = 7 := hP'.unique (reach_b hb01')
  have nx := allNe_of (news_ne N₅ hx)
  have nd := allNe_of (news_ne N₅ hdx)
  have nl := allNe_of (news_ne N₅ hlD)
  simp only [AllNe, and_true] at nx nd nl
  have F₆ := fr_on F₅ k
  have N₆ := news_add F₅ (news_add F₅ (news_add F₅ (news_on N₅ k) hlD ol) hdx od) hx ox
  clear F₅ N₅ k hx hdx hlD ox od ol
  dsimp only
  k_steps
  rename Fr _ _ _ _ => F₇
  rename News _ _ _ _ => N₇
  refine go_on (c_law_bad (G.push F₇ rfl) (by omega) (by omega) (lst_led N₇ (by k_mem)) hir (by omega) hrr (fun h₈ tk₈ v₈ prs k₈ led₈ hbad => ?_))
  have F₈ := fr_on F₇ k₈
  have N₈ := news_many F₇ (news_on N₇ k₈) led₈
  have hbad' := go_on hbad
  clear F₇ N₇ k₈ led₈ hbad
  simp only [List.cons_append, List.nil_append] at N₈
  dsimp only
  have hw : wh ≤ 8 ∨ (9 ≤ wh ∧ wh ≤ 15) ∨ wh = 16 ∨ wh = 17 ∨ wh = 18 ∨ wh = 19 ∨ wh = 20 ∨ wh = 21 ∨ wh = 22 ∨ wh = 23 ∨ wh = 24 ∨ wh = 25 ∨ wh = 26 ∨ wh = 27 := by omega
  rcases hw with hw8 | ⟨hw9, hw15⟩ | rfl | rfl | rfl | rfl | rfl | rfl | rfl | rfl | rfl | rfl | rfl | rfl
  · k_steps
    rename Fr _ _ _ _ => FC1
    rename News _ _ _ _ => NC1
    refine' go_on (c_law_words_rows (P := 7) (ds := [1, b, 1 - b, 1]) (G.push FC1 rfl) ?hd ?hu ?gg (isDiv_b hb01') (reach_b hb01') ?bb ?ll hir ?lz hrr ?w0 ?w1 ?_)
    case hd => omega
    case hu => omega
    case gg => exact gate_led NC1 (by k_mem) (by k_mem) (by k_mem) hiD
    case bb => exact badP_led NC1 (fun p hp => by repeat (first | exact hp | refine List.Mem.tail _ ?_)) hbad'
    case ll => exact lst_led NC1 (by k_mem)
    case lz => omega
    case w0 => omega
    case w1 => omega
    intro gD1 hD1 tD1 sD1 TD1 kD1
    obtain ⟨gE1, TE1, FE1, NE1⟩ := turn_call G FC1 NC1 rfl TD1 kD1
    have GE1 := G.turn TE1
    have BE1 := GE1.below dp un gd
    have XE1 := GE1.kin
    have PE1 := GE1.top
    clear FC1 NC1 TD1 kD1 B' X' T'
    dsimp only
    k_steps
    rename Fr _ _ _ _ => FZ
    first | exact ret gE1 _ _ TE1 FZ.keep | (refine ret_boolT (s := s) (Q := Q) ret ?_ TE1 FZ.keep; decide +kernel)
  · k_steps
    rename Fr _ _ _ _ => FC2
    rename News _ _ _ _ => NC2
    refine' go_on (c_law_words_gate (P := 7) (ds := [1, b, 1 - b, 1]) (G.push FC2 rfl) ?hd ?hu ?gg (isDiv_b hb01') (reach_b hb01') ?bb ?ll hir ?lz hrr ?w0 ?w1 ?_)
    case hd => omega
    case hu => omega
    case gg => exact gate_led NC2 (by k_mem) (by k_mem) (by k_mem) hiD
    case bb => exact badP_led NC2 (fun p hp => by repeat (first | exact hp | refine List.Mem.tail _ ?_)) hbad'
    case ll => exact lst_led NC2 (by k_mem)
    case lz => omega
    case w0 => omega
    case w1 => omega
    intro gD2 hD2 tD2 sD2 TD2 kD2
    obtain ⟨gE2, TE2, FE2, NE2⟩ := turn_call G FC2 NC2 rfl TD2 kD2
    have GE2 := G.turn TE2
    have BE2 := GE2.below dp un gd
    have XE2 := GE2.kin
    have PE2 := GE2.top
    clear FC2 NC2 TD2 kD2 B' X' T'
    dsimp only
    k_steps
    rename Fr _ _ _ _ => FZ
    first | exact ret gE2 _ _ TE2 FZ.keep | (refine ret_boolT (s := s) (Q := Q) ret ?_ TE2 FZ.keep; decide +kernel)
  · k_steps
    rename Fr _ _ _ _ => FC16
    rename News _ _ _ _ => NC16
    refine' go_on (c_law_words_16 (P := 7) (ds := [1, b, 1 - b, 1]) (G.push FC16 rfl) ?hd ?hu ?gg (isDiv_b hb01') (reach_b hb01') ?bb ?ll hir ?lz hrr rfl rfl ?_)
    case hd => omega
    case hu => omega
    case gg => exact gate_led NC16 (by k_mem) (by k_mem) (by k_mem) hiD
    case bb => exact badP_led NC16 (fun p hp => by repeat (first | exact hp | refine List.Mem.tail _ ?_)) hbad'
    case ll => exact lst_led NC16 (by k_mem)
    case lz => omega
    intro gD16 hD16 tD16 sD16 TD16 kD16
    obtain ⟨gE16, TE16, FE16, NE16⟩ := turn_call G FC16 NC16 rfl TD16 kD16
    have GE16 := G.turn TE16
    have BE16 := GE16.below dp un gd
    have XE16 := GE16.kin
    have PE16 := GE16.top
    clear FC16 NC16 TD16 kD16 B' X' T'
    dsimp only
    k_steps
    rename Fr _ _ _ _ => FZ
    first | exact ret gE16 _ _ TE16 FZ.keep | (refine ret_boolT (s := s) (Q := Q) ret ?_ TE16 FZ.keep; decide +kernel)
  · k_steps
    rename Fr _ _ _ _ => FC17
    rename News _ _ _ _ => NC17
    refine' go_on (c_law_words_17 (P := 7) (ds := [1, b, 1 - b, 1]) (G.push FC17 rfl) ?hd ?hu ?gg (isDiv_b hb01') (reach_b hb01') ?bb ?ll hir ?lz hrr rfl rfl ?_)
    case hd => omega
    case hu => omega
    case gg => exact gate_led NC17 (by k_mem) (by k_mem) (by k_mem) hiD
    case bb => exact badP_led NC17 (fun p hp => by repeat (first | exact hp | refine List.Mem.tail _ ?_)) hbad'
    case ll => exact lst_led NC17 (by k_mem)
    case lz => omega
    intro gD17 hD17 tD17 sD17 TD17 kD17
    obtain ⟨gE17, TE17, FE17, NE17⟩ := turn_call G FC17 NC17 rfl TD17 kD17
    have GE17 := G.turn TE17
    have BE17 := GE17.below dp un gd
    have XE17 := GE17.kin
    have PE17 := GE17.top
    clear FC17 NC17 TD17 kD17 B' X' T'
    dsimp only
    k_steps
    rename Fr _ _ _ _ => FZ
    first | exact ret gE17 _ _ TE17 FZ.keep | (refine ret_boolT (s := s) (Q := Q) ret ?_ TE17 FZ.keep; decide +kernel)
  · k_steps
    rename Fr _ _ _ _ => FC18
    rename News _ _ _ _ => NC18
    refine' go_on (c_law_words_18 (P := 7) (ds := [1, b, 1 - b, 1]) (G.push FC18 rfl) ?hd ?hu ?gg (isDiv_b hb01') (reach_b hb01') ?bb ?ll hir ?lz hrr rfl rfl ?_)
    case hd => omega
    case hu => omega
    case gg => exact gate_led NC18 (by k_mem) (by k_mem) (by k_mem) hiD
    case bb => exact badP_led NC18 (fun p hp => by repeat (first | exact hp | refine List.Mem.tail _ ?_)) hbad'
    case ll => exact lst_led NC18 (by k_mem)
    case lz => omega
    intro gD18 hD18 tD18 sD18 TD18 kD18
    obtain ⟨gE18, TE18, FE18, NE18⟩ := turn_call G FC18 NC18 rfl TD18 kD18
    have GE18 := G.turn TE18
    have BE18 := GE18.below dp un gd
    have XE18 := GE18.kin
    have PE18 := GE18.top
    clear FC18 NC18 TD18 kD18 B' X' T'
    dsimp only
    k_steps
    rename Fr _ _ _ _ => FZ
    first | exact ret gE18 _ _ TE18 FZ.keep | (refine ret_boolT (s := s) (Q := Q) ret ?_ TE18 FZ.keep; decide +kernel)
  · k_steps
    rename Fr _ _ _ _ => FC19
    rename News _ _ _ _ => NC19
    refine' go_on (c_law_words_19 (P := 7) (ds := [1, b, 1 - b, 1]) (G.push FC19 rfl) ?hd ?hu ?gg (isDiv_b hb01') (reach_b hb01') ?bb ?ll hir ?lz hrr rfl rfl ?_)
    case hd => omega
    case hu => omega
    case gg => exact gate_led NC19 (by k_mem) (by k_mem) (by k_mem) hiD
    case bb => exact badP_led NC19 (fun p hp => by repeat (first | exact hp | refine List.Mem.tail _ ?_)) hbad'
    case ll => exact lst_led NC19 (by k_mem)
    case lz => omega
    intro gD19 hD19 tD19 sD19 TD19 kD19
    obtain ⟨gE19, TE19, FE19, NE19⟩ := turn_call G FC19 NC19 rfl TD19 kD19
    have GE19 := G.turn TE19
    have BE19 := GE19.below dp un gd
    have XE19 := GE19.kin
    have PE19 := GE19.top
    clear FC19 NC19 TD19 kD19 B' X' T'
    dsimp only
    k_steps
    rename Fr _ _ _ _ => FZ
    first | exact ret gE19 _ _ TE19 FZ.keep | (refine ret_boolT (s := s) (Q := Q) ret ?_ TE19 FZ.keep; decide +kernel)
  · k_steps
    rename Fr _ _ _ _ => FC20
    rename News _ _ _ _ => NC20
    refine' go_on (c_law_words_20 (P := 7) (ds := [1, b, 1 - b, 1]) (G.push FC20 rfl) ?hd ?hu ?gg (isDiv_b hb01') (reach_b hb01') ?bb ?ll hir ?lz hrr rfl rfl ?_)
    case hd => omega
    case hu => omega
    case gg => exact gate_led NC20 (by k_mem) (by k_mem) (by k_mem) hiD
    case bb => exact badP_led NC20 (fun p hp => by repeat (first | exact hp | refine List.Mem.tail _ ?_)) hbad'
    case ll => exact lst_led NC20 (by k_mem)
    case lz => omega
    intro gD20 hD20 tD20 sD20 TD20 kD20
    obtain ⟨gE20, TE20, FE20, NE20⟩ := turn_call G FC20 NC20 rfl TD20 kD20
    have GE20 := G.turn TE20
    have BE20 := GE20.below dp un gd
    have XE20 := GE20.kin
    have PE20 := GE20.top
    clear FC20 NC20 TD20 kD20 B' X' T'
    dsimp only
    k_steps
    rename Fr _ _ _ _ => FZ
    first | exact ret gE20 _ _ TE20 FZ.keep | (refine ret_boolT (s := s) (Q := Q) ret ?_ TE20 FZ.keep; decide +kernel)
  · k_steps
    rename Fr _ _ _ _ => FC21
    rename News _ _ _ _ => NC21
    refine' go_on (c_law_words_21 (P := 7) (ds := [1, b, 1 - b, 1]) (G.push FC21 rfl) ?hd ?hu ?gg (isDiv_b hb01') (reach_b hb01') ?bb ?ll hir ?lz hrr rfl rfl ?_)
    case hd => omega
    case hu => omega
    case gg => exact gate_led NC21 (by k_mem) (by k_mem) (by k_mem) hiD
    case bb => exact badP_led NC21 (fun p hp => by repeat (first | exact hp | refine List.Mem.tail _ ?_)) hbad'
    case ll => exact lst_led NC21 (by k_mem)
    case lz => omega
    intro gD21 hD21 tD21 sD21 TD21 kD21
    obtain ⟨gE21, TE21, FE21, NE21⟩ := turn_call G FC21 NC21 rfl TD21 kD21
    have GE21 := G.turn TE21
    have BE21 := GE21.below dp un gd
    have XE21 := GE21.kin
    have PE21 := GE21.top
    clear FC21 NC21 TD21 kD21 B' X' T'
    dsimp only
    k_steps
    rename Fr _ _ _ _ => FZ
    first | exact ret gE21 _ _ TE21 FZ.keep | (refine ret_boolT (s := s) (Q := Q) ret ?_ TE21 FZ.keep; decide +kernel)
  · k_steps
    rename Fr _ _ _ _ => FC22
    rename News _ _ _ _ => NC22
    refine' go_on (c_law_words_22 (P := 7) (ds := [1, b, 1 - b, 1]) (G.push FC22 rfl) ?hd ?hu ?gg (isDiv_b hb01') (reach_b hb01') ?bb ?ll hir ?lz hrr rfl rfl ?_)
    case hd => omega
    case hu => omega
    case gg => exact gate_led NC22 (by k_mem) (by k_mem) (by k_mem) hiD
    case bb => exact badP_led NC22 (fun p hp => by repeat (first | exact hp | refine List.Mem.tail _ ?_)) hbad'
    case ll => exact lst_led NC22 (by k_mem)
    case lz => omega
    intro gD22 hD22 tD22 sD22 TD22 kD22
    obtain ⟨gE22, TE22, FE22, NE22⟩ := turn_call G FC22 NC22 rfl TD22 kD22
    have GE22 := G.turn TE22
    have BE22 := GE22.below dp un gd
    have XE22 := GE22.kin
    have PE22 := GE22.top
    clear FC22 NC22 TD22 kD22 B' X' T'
    dsimp only
    k_steps
    rename Fr _ _ _ _ => FZ
    first | exact ret gE22 _ _ TE22 FZ.keep | (refine ret_boolT (s := s) (Q := Q) ret ?_ TE22 FZ.keep; decide +kernel)
  · k_steps
    rename Fr _ _ _ _ => FC23
    rename News _ _ _ _ => NC23
    refine' go_on (c_law_words_23 (P := 7) (ds := [1, b, 1 - b, 1]) (G.push FC23 rfl) ?hd ?hu ?gg (isDiv_b hb01') (reach_b hb01') ?bb ?ll hir ?lz hrr rfl rfl ?_)
    case hd => omega
    case hu => omega
    case gg => exact gate_led NC23 (by k_mem) (by k_mem) (by k_mem) hiD
    case bb => exact badP_led NC23 (fun p hp => by repeat (first | exact hp | refine List.Mem.tail _ ?_)) hbad'
    case ll => exact lst_led NC23 (by k_mem)
    case lz => omega
    intro gD23 hD23 tD23 sD23 TD23 kD23
    obtain ⟨gE23, TE23, FE23, NE23⟩ := turn_call G FC23 NC23 rfl TD23 kD23
    have GE23 := G.turn TE23
    have BE23 := GE23.below dp un gd
    have XE23 := GE23.kin
    have PE23 := GE23.top
    clear FC23 NC23 TD23 kD23 B' X' T'
    dsimp only
    k_steps
    rename Fr _ _ _ _ => FZ
    first | exact ret gE23 _ _ TE23 FZ.keep | (refine ret_boolT (s := s) (Q := Q) ret ?_ TE23 FZ.keep; decide +kernel)
  · k_steps
    rename Fr _ _ _ _ => FC24
    rename News _ _ _ _ => NC24
    refine' go_on (c_law_words_24 (P := 7) (ds := [1, b, 1 - b, 1]) (G.push FC24 rfl) ?hd ?hu ?gg (isDiv_b hb01') (reach_b hb01') ?bb ?ll hir ?lz hrr rfl rfl (rest_b hb01') ?_)
    case hd => omega
    case hu => omega
    case gg => exact gate_led NC24 (by k_mem) (by k_mem) (by k_mem) hiD
    case bb => exact badP_led NC24 (fun p hp => by repeat (first | exact hp | refine List.Mem.tail _ ?_)) hbad'
    case ll => exact lst_led NC24 (by k_mem)
    case lz => omega
    intro gD24 hD24 tD24 sD24 TD24 kD24
    obtain ⟨gE24, TE24, FE24, NE24⟩ := turn_call G FC24 NC24 rfl TD24 kD24
    have GE24 := G.turn TE24
    have BE24 := GE24.below dp un gd
    have XE24 := GE24.kin
    have PE24 := GE24.top
    clear FC24 NC24 TD24 kD24 B' X' T'
    dsimp only
    k_steps
    rename Fr _ _ _ _ => FZ
    first | exact ret gE24 _ _ TE24 FZ.keep | (refine ret_boolT (s := s) (Q := Q) ret ?_ TE24 FZ.keep; decide +kernel)
  · k_steps
    rename Fr _ _ _ _ => FC25
    rename News _ _ _ _ => NC25
    refine' go_on (c_law_words_25 (P := 7) (ds := [1, b, 1 - b, 1]) (G.push FC25 rfl) ?hd ?hu ?gg (isDiv_b hb01') (reach_b hb01') ?bb ?ll hir ?lz hrr rfl rfl (nomend_b hb01') ?_)
    case hd => omega
    case hu => omega
    case gg => exact gate_led NC25 (by k_mem) (by k_mem) (by k_mem) hiD
    case bb => exact badP_led NC25 (fun p hp => by repeat (first | exact hp | refine List.Mem.tail _ ?_)) hbad'
    case ll => exact lst_led NC25 (by k_mem)
    case lz => omega
    intro gD25 hD25 tD25 sD25 TD25 kD25
    obtain ⟨gE25, TE25, FE25, NE25⟩ := turn_call G FC25 NC25 rfl TD25 kD25
    have GE25 := G.turn TE25
    have BE25 := GE25.below dp un gd
    have XE25 := GE25.kin
    have PE25 := GE25.top
    clear FC25 NC25 TD25 kD25 B' X' T'
    dsimp only
    k_steps
    rename Fr _ _ _ _ => FZ
    first | exact ret gE25 _ _ TE25 FZ.keep | (refine ret_boolT (s := s) (Q := Q) ret ?_ TE25 FZ.keep; decide +kernel)
  · k_steps
    rename Fr _ _ _ _ => FC26
    rename News _ _ _ _ => NC26
    refine' go_on (c_law_words_26 (P := 7) (ds := [1, b, 1 - b, 1]) (G.push FC26 rfl) ?hd ?hu ?gg (isDiv_b hb01') (reach_b hb01') ?bb ?ll hir ?lz hrr rfl rfl ?_)
    case hd => omega
    case hu => omega
    case gg => exact gate_led NC26 (by k_mem) (by k_mem) (by k_mem) hiD
    case bb => exact badP_led NC26 (fun p hp => by repeat (first | exact hp | refine List.Mem.tail _ ?_)) hbad'
    case ll => exact lst_led NC26 (by k_mem)
    case lz => omega
    intro gD26 hD26 tD26 sD26 TD26 kD26
    obtain ⟨gE26, TE26, FE26, NE26⟩ := turn_call G FC26 NC26 rfl TD26 kD26
    have GE26 := G.turn TE26
    have BE26 := GE26.below dp un gd
    have XE26 := GE26.kin
    have PE26 := GE26.top
    clear FC26 NC26 TD26 kD26 B' X' T'
    dsimp only
    k_steps
    rename Fr _ _ _ _ => FZ
    first | exact ret gE26 _ _ TE26 FZ.keep | (refine ret_boolT (s := s) (Q := Q) ret ?_ TE26 FZ.keep; decide +kernel)
  · k_steps
    rename Fr _ _ _ _ => FC27
    rename News _ _ _ _ => NC27
    refine' go_on (c_law_words_27 (P := 7) (ds := [1, b, 1 - b, 1]) (G.push FC27 rfl) ?hd ?hu ?gg (isDiv_b hb01') (reach_b hb01') ?bb ?ll hir ?lz hrr rfl rfl ?_)
    case hd => omega
    case hu => omega
    case gg => exact gate_led NC27 (by k_mem) (by k_mem) (by k_mem) hiD
    case bb => exact badP_led NC27 (fun p hp => by repeat (first | exact hp | refine List.Mem.tail _ ?_)) hbad'
    case ll => exact lst_led NC27 (by k_mem)
    case lz => omega
    intro gD27 hD27 tD27 sD27 TD27 kD27
    obtain ⟨gE27, TE27, FE27, NE27⟩ := turn_call G FC27 NC27 rfl TD27 kD27
    have GE27 := G.turn TE27
    have BE27 := GE27.below dp un gd
    have XE27 := GE27.kin
    have PE27 := GE27.top
    clear FC27 NC27 TD27 kD27 B' X' T'
    dsimp only
    k_steps
    rename Fr _ _ _ _ => FZ
    first | exact ret gE27 _ _ TE27 FZ.keep | (refine ret_boolT (s := s) (Q := Q) ret ?_ TE27 FZ.keep; decide +kernel)

end
end Mine
end

namespace Mine
open PySem PySem.W PyProof.Rows
theorem good_true {c : ClaimW} {cl : Str → Option Addr} {mean : ExcName → Option Value} {args : List WData} {s₁ : Shared} {h' : Heap} {tk : Nat} (hg : s₁.gens = #[]) (hr : ∀ cls, c.raises args cls = false) (hp : c.post args (.bool true) args = true) (k : s₁.heap.StaysIn h') :
    GoodWG c cl mean args s₁ (.ok (.ret (.bool true))) { s₁ with heap := h', toks := tk } :=
  GoodW.toG ⟨.inl ⟨_, .bool true, [], rfl, hr, .bool true, hp, fun _ => ⟨List.nodup_nil, fun _ h => nomatch h⟩⟩, k, rfl, hg⟩
end Mine
theorem PySem.Challenge.cw_uf040037_06_holds : PySem.Challenge.rw_uf040037_06.Holds := by
  w_on; o_law
  refine PySem.W.holds_open (q := Mine.view) (loose := [Str.ofString "MOST_NOUGHTS", Str.ofString "MOST_SIGNS"]) (Xt := fun s => xlAt Mine.view [(PySem.Str.ofString "MOST_NOUGHTS", .int 1000000000000000000), (PySem.Str.ofString "MOST_SIGNS", .int 1000000000000000000)] s && recOk (RowW.records PySem.Challenge.rw_uf040037_06.row.toRowW) s) (XP := XL Mine.view [(PySem.Str.ofString "MOST_NOUGHTS", .int 1000000000000000000), (PySem.Str.ofString "MOST_SIGNS", .int 1000000000000000000)]) (Yf := Hook.obs Mine.kkHook) (Ya := Hook.val Mine.kkHook) (YP := Hook.says Mine.kkHook) (N := 7748) ?hl (Hook.of Mine.kkHook) (Hook.keeps Mine.kkHook) (fun s e => xl_of s (Bool.and_eq_true_iff.mp e).1) XL.keeps (by rfl) (by rfl) (by rfl) (fun s e => recFacts_of (Bool.and_eq_true_iff.mp e).2) (by rfl) (by first | assumption | decide +kernel) (by decide +kernel) ⟨rfl, rfl, rfl, rfl, rfl, by decide +kernel⟩ ?hw ?hc
  case hl => exact Mine.left_
  case hw => w_witness2
  k_fill
  intro w s₀ s₁ mg mb G Y fa o pm cd doc dV kV ho hd hcd hD hmg hg args vals as hpre hlay hrd hwl hlo
  have KX := kIn_of Y
  refine Ground.open G ?_
  intro T B D TE TW
  wrow_args hpre hlay hrd hwl hlo
  have hf : mg (Str.ofString "law") = some (.ref 418) := mg_of KX T.g (by k_is)
  obtain rfl : fa = 418 := Value.ref.inj (Option.some.inj (hmg.symm.trans hf))
  rename s₁.heap.IsList _ _ => hL
  rename IntsAre _ _ => hI
  refine Mine.c_law (dp := 301) (un := 4) (gd := some []) (fr := []) ⟨fun _ _ e => e, trivial, KX, T, KX, T, ktsDicts_nil⟩ (by decide) (by decide) hL hI (by omega) fun g' h' tk' T' k' => ?_
  have k : s₁.heap.StaysIn h' := fun b o e => k' b o (Mine.turn_nil T' b o e)
  exact Mine.good_true hg (fun _ => rfl) (postW_of (X := (true == true)) rfl (w_eq_bool (k := true) (l := true) (w_res rfl) w_lit) rfl) k
