import PyProof.Rows.All
import Wide.All
import OpenK.AllK
import Wide.FinOn
import Lean
import PySem.Challenge.RW_np0066_01
open PySem PySem.W PyProof.Rows PySem.Calls
set_option Elab.async false
set_option compiler.extract_closed false
set_option maxRecDepth 1000000
set_option maxHeartbeats 0
set_option rowWalk.seconds 0
set_option linter.unusedVariables false
namespace Mine
/-- the head, small: what the run of the top leaves, written out once; the program's own parts by projection -/
def fnArgs : Stmt → Arguments
  | .FunctionDef _ args _ _ _ _ _ _ _ _ => args
  | _ => ⟨[], [], none, [], [], none, []⟩
def bodyOf : Stmt → List Stmt
  | .FunctionDef _ _ body _ _ _ _ _ _ _ => body
  | _ => []
def scopeOf : Stmt → Scope → Scope
  | .FunctionDef _ _ _ _ _ _ scope _ _ _, _ => scope
  | _, d => d
def clsBody : Stmt → List Stmt
  | .ClassDef (body := body) .. => body
  | _ => []
noncomputable def stAt (i : Nat) : Stmt := PySem.Challenge.pw_np0066_01.main.body.getD i (.Pass ⟨0, 0, 0, 0⟩)
noncomputable def stIn (i j : Nat) : Stmt := (clsBody (stAt i)).getD j (.Pass ⟨0, 0, 0, 0⟩)
noncomputable def fnScope (s : Stmt) : Scope := scopeOf s PySem.Challenge.pw_np0066_01.main.scope
noncomputable def view : Program := { PySem.Challenge.pw_np0066_01 with main := { PySem.Challenge.pw_np0066_01.main with body := [stAt 0, stAt 2, stAt 4, stAt 5, stAt 6, stAt 7, stAt 8, stAt 9, stAt 10, stAt 11, stAt 12, stAt 14, stAt 15, stAt 17, stAt 19, stAt 21, stAt 22, stAt 24, stAt 26, stAt 28, stAt 30, stAt 31, stAt 32, stAt 33, stAt 34, stAt 35, stAt 36] } }
noncomputable abbrev o2 (P : Params) : Obj := (Obj.mk Value.none none (Data.dict (List.toArray [(DictEntry.mk (PyData.keyHash P (Str.ofString "type.__subclasses__.Exception.0")) (Value.str (Str.ofString "type.__subclasses__.Exception.0") 223) (Value.int (38 : Int) 0)), (DictEntry.mk (PyData.keyHash P (Str.ofString "type.__subclasses__.Exception.n")) (Value.str (Str.ofString "type.__subclasses__.Exception.n") 224) (Value.int (1 : Int) 0))]) 2) (List.toArray []))
noncomputable abbrev o3 (P : Params) : Obj := (Obj.mk (Value.type "dict") none (Data.dict (List.toArray [(DictEntry.mk (PyData.keyHash P (Str.ofString "__name__")) (Value.str (Str.ofString "__name__") 165) (Value.str (Str.ofString "law_np0066_01") 831)), (DictEntry.mk (PyData.keyHash P (Str.ofString "__doc__")) (Value.str (Str.ofString "__doc__") 166) Value.none), (DictEntry.mk (PyData.keyHash P (Str.ofString "__package__")) (Value.str (Str.ofString "__package__") 167) Value.none), (DictEntry.mk (PyData.keyHash P (Str.ofString "__loader__")) (Value.str (Str.ofString "__loader__") 168) (Value.builtin "__main__.__loader__#opaque")), (DictEntry.mk (PyData.keyHash P (Str.ofString "__spec__")) (Value.str (Str.ofString "__spec__") 169) Value.none), (DictEntry.mk (PyData.keyHash P (Str.ofString "__annotations__")) (Value.str (Str.ofString "__annotations__") 170) (Value.ref 6)), (DictEntry.mk (PyData.keyHash P (Str.ofString "__builtins__")) (Value.str (Str.ofString "__builtins__") 171) (Value.ref 4)), (DictEntry.mk (PyData.keyHash P (Str.ofString "__file__")) (Value.str (Str.ofString "__file__") 173) (Value.str (Str.ofString "/claim/cut.py") 172)), (DictEntry.mk (PyData.keyHash P (Str.ofString "__cached__")) (Value.str (Str.ofString "__cached__") 174) Value.none), (DictEntry.mk (PyData.keyHash P (Str.ofString "_wall")) (Value.str (Str.ofString "_wall") 193) (Value.ref 21)), (DictEntry.mk (PyData.keyHash P (Str.ofString "LispSignal")) (Value.str (Str.ofString "LispSignal") 226) (Value.ref 38)), (DictEntry.mk (PyData.keyHash P (Str.ofString "need_writable")) (Value.str (Str.ofString "need_writable") 235) (Value.ref 48)), (DictEntry.mk (PyData.keyHash P (Str.ofString "reached")) (Value.str (Str.ofString "reached") 246) (Value.ref 55)), (DictEntry.mk (PyData.keyHash P (Str.ofString "tell_ahead")) (Value.str (Str.ofString "tell_ahead") 256) (Value.ref 62)), (DictEntry.mk (PyData.keyHash P (Str.ofString "tell_behind")) (Value.str (Str.ofString "tell_behind") 267) (Value.ref 69)), (DictEntry.mk (PyData.keyHash P (Str.ofString "text_out")) (Value.str (Str.ofString "text_out") 277) (Value.ref 76)), (DictEntry.mk (PyData.keyHash P (Str.ofString "text_in")) (Value.str (Str.ofString "text_in") 286) (Value.ref 83)), (DictEntry.mk (PyData.keyHash P (Str.ofString "hung_out")) (Value.str (Str.ofString "hung_out") 295) (Value.ref 90)), (DictEntry.mk (PyData.keyHash P (Str.ofString "hung_in")) (Value.str (Str.ofString "hung_in") 305) (Value.ref 97)), (DictEntry.mk (PyData.keyHash P (Str.ofString "put_in")) (Value.str (Str.ofString "put_in") 316) (Value.ref 104)), (DictEntry.mk (PyData.keyHash P (Str.ofString "insert_at")) (Value.str (Str.ofString "insert_at") 326) (Value.ref 112)), (DictEntry.mk (PyData.keyHash P (Str.ofString "delete")) (Value.str (Str.ofString "delete") 338) (Value.ref 119)), (DictEntry.mk (PyData.keyHash P (Str.ofString "replace")) (Value.str (Str.ofString "replace") 352) (Value.ref 126)), (DictEntry.mk (PyData.keyHash P (Str.ofString "GapText")) (Value.str (Str.ofString "GapText") 472) (Value.ref 213)), (DictEntry.mk (PyData.keyHash P (Str.ofString "Opaque")) (Value.str (Str.ofString "Opaque") 516) (Value.ref 248)), (DictEntry.mk (PyData.keyHash P (Str.ofString "Marker")) (Value.str (Str.ofString "Marker") 569) (Value.ref 290)), (DictEntry.mk (PyData.keyHash P (Str.ofString "Markers")) (Value.str (Str.ofString "Markers") 667) (Value.ref 358)), (DictEntry.mk (PyData.keyHash P (Str.ofString "Buffer")) (Value.str (Str.ofString "Buffer") 806) (Value.ref 464)), (DictEntry.mk (PyData.keyHash P (Str.ofString "narrow")) (Value.str (Str.ofString "narrow") 819) (Value.ref 473)), (DictEntry.mk (PyData.keyHash P (Str.ofString "set_marker")) (Value.str (Str.ofString "set_marker") 830) (Value.ref 480)), (DictEntry.mk (PyData.keyHash P (Str.ofString "_law_draw")) (Value.str (Str.ofString "_law_draw") 840) (Value.ref 487)), (DictEntry.mk (PyData.keyHash P (Str.ofString "_law_edit")) (Value.str (Str.ofString "_law_edit") 846) (Value.ref 492)), (DictEntry.mk (PyData.keyHash P (Str.ofString "_law_buffer")) (Value.str (Str.ofString "_law_buffer") 861) (Value.ref 499)), (DictEntry.mk (PyData.keyHash P (Str.ofString "_law_done")) (Value.str (Str.ofString "_law_done") 874) (Value.ref 506)), (DictEntry.mk (PyData.keyHash P (Str.ofString "_law_place")) (Value.str (Str.ofString "_law_place") 887) (Value.ref 513)), (DictEntry.mk (PyData.keyHash P (Str.ofString "_law_state")) (Value.str (Str.ofString "_law_state") 893) (Value.ref 518)), (DictEntry.mk (PyData.keyHash P (Str.ofString "law")) (Value.str (Str.ofString "law") 899) (Value.ref 523))]) 37) (List.toArray []))
noncomputable abbrev o11 (P : Params) : Obj := (Obj.mk (Value.type "tuple") none (Data.seq (List.toArray []) 0) (List.toArray []))
noncomputable abbrev o12 (P : Params) : Obj := (Obj.mk Value.none none (Data.fields (List.toArray [(Value.int (1 : Int) 0), (Value.int (0 : Int) 0), (Value.ref 20), (Value.int (5 : Int) 0), (Value.int (0 : Int) 0), (Value.ref 27), (Value.int (11 : Int) 0), (Value.int (0 : Int) 0), (Value.ref 47), (Value.int (14 : Int) 0), (Value.int (0 : Int) 0), (Value.ref 54), (Value.int (19 : Int) 0), (Value.int (0 : Int) 0), (Value.ref 61), (Value.int (22 : Int) 0), (Value.int (0 : Int) 0), (Value.ref 68), (Value.int (26 : Int) 0), (Value.int (0 : Int) 0), (Value.ref 75), (Value.int (34 : Int) 0), (Value.int (0 : Int) 0), (Value.ref 82), (Value.int (41 : Int) 0), (Value.int (0 : Int) 0), (Value.ref 89), (Value.int (46 : Int) 0), (Value.int (0 : Int) 0), (Value.ref 96), (Value.int (51 : Int) 0), (Value.int (0 : Int) 0), (Value.ref 103), (Value.int (63 : Int) 0), (Value.int (0 : Int) 0), (Value.ref 111), (Value.int (65 : Int) 0), (Value.int (0 : Int) 0), (Value.ref 118), (Value.int (76 : Int) 0), (Value.int (0 : Int) 0), (Value.ref 125), (Value.int (96 : Int) 0), (Value.int (0 : Int) 0), (Value.ref 132), (Value.int (162 : Int) 0), (Value.int (0 : Int) 0), (Value.ref 223), (Value.int (173 : Int) 0), (Value.int (0 : Int) 0), (Value.ref 258), (Value.int (189 : Int) 0), (Value.int (0 : Int) 0), (Value.ref 298), (Value.int (234 : Int) 0), (Value.int (0 : Int) 0), (Value.ref 368), (Value.int (297 : Int) 0), (Value.int (0 : Int) 0), (Value.ref 472), (Value.int (304 : Int) 0), (Value.int (0 : Int) 0), (Value.ref 479), (Value.int (313 : Int) 0), (Value.int (0 : Int) 0), (Value.ref 486), (Value.int (318 : Int) 0), (Value.int (0 : Int) 0), (Value.ref 491), (Value.int (323 : Int) 0), (Value.int (0 : Int) 0), (Value.ref 498), (Value.int (335 : Int) 0), (Value.int (0 : Int) 0), (Value.ref 505), (Value.int (343 : Int) 0), (Value.int (0 : Int) 0), (Value.ref 512), (Value.int (350 : Int) 0), (Value.int (0 : Int) 0), (Value.ref 517), (Value.int (353 : Int) 0), (Value.int (0 : Int) 0), (Value.ref 522)])) (List.toArray []))
noncomputable abbrev o13 (P : Params) : Obj := (Obj.mk (Value.type "code") none (Data.fields (List.toArray [(Value.str (Str.ofString "<module>") 182), (Value.str (Str.ofString "<module>") 183), (Value.str (Str.ofString "/claim/cut.py") 184), (Value.int (1 : Int) 0), (Value.int (0 : Int) 0), (Value.int (0 : Int) 0), (Value.int (0 : Int) 0), (Value.int (0 : Int) 0), (Value.ref 11), (Value.bool Bool.false), (Value.int (181 : Int) 0), (Value.ref 12), Value.none, Value.none, Value.none, Value.none, (Value.int (185 : Int) 0), (Value.int (1 : Int) 0), (Value.str (Str.ofString "/claim/cut.py") 186)])) (List.toArray []))
noncomputable abbrev o14 (P : Params) : Obj := (Obj.mk (Value.type "frame") none Data.plain (List.toArray [(some (Value.ref 13)), (some (Value.ref 3)), (some (Value.ref 3)), none, (some (Value.str (Str.ofString "__main__") 164)), none, (some (Value.ref 0))]))
noncomputable abbrev o15 (P : Params) : Obj := (Obj.mk (Value.type "tuple") none (Data.seq (List.toArray []) 0) (List.toArray []))
noncomputable abbrev o16 (P : Params) : Obj := (Obj.mk Value.none none (Data.fields (List.toArray [])) (List.toArray []))
noncomputable abbrev o17 (P : Params) : Obj := (Obj.mk (Value.type "tuple") none (Data.seq (List.toArray [(Value.str (Str.ofString "k") 190)]) 0) (List.toArray []))
noncomputable abbrev o18 (P : Params) : Obj := (Obj.mk (Value.type "tuple") none (Data.seq (List.toArray []) 0) (List.toArray []))
noncomputable abbrev o19 (P : Params) : Obj := (Obj.mk Value.none none (Data.func (FuncData.mk (Str.ofString "_wall") (Str.ofString "_wall") (fnArgs (stAt 0)) (FuncBody.stmts (bodyOf (stAt 0))) (fnScope (stAt 0)) 0 [] Value.none Value.none Value.none Value.none none Value.none Value.none 0)) (List.toArray []))
noncomputable abbrev o20 (P : Params) : Obj := (Obj.mk (Value.type "code") none (Data.fields (List.toArray [(Value.str (Str.ofString "_wall") 187), (Value.str (Str.ofString "_wall") 188), (Value.str (Str.ofString "/claim/cut.py") 189), (Value.int (1 : Int) 0), (Value.int (1 : Int) 0), (Value.int (0 : Int) 0), (Value.int (0 : Int) 0), (Value.int (3 : Int) 0), (Value.ref 15), (Value.bool Bool.true), (Value.int (181 : Int) 0), (Value.ref 16), Value.none, (Value.ref 17), (Value.ref 18), (Value.ref 19), (Value.int (191 : Int) 0), (Value.int (1 : Int) 0), (Value.str (Str.ofString "/claim/cut.py") 192)])) (List.toArray []))
noncomputable abbrev o21 (P : Params) : Obj := (Obj.mk (Value.type "function") none (Data.func (FuncData.mk (Str.ofString "_wall") (Str.ofString "_wall") (fnArgs (stAt 0)) (FuncBody.stmts (bodyOf (stAt 0))) (fnScope (stAt 0)) 3 [] Value.none Value.none Value.none (Value.str (Str.ofString "__main__") 164) none (Value.ref 20) Value.none 0)) (List.toArray []))
noncomputable abbrev o22 (P : Params) : Obj := (Obj.mk (Value.type "tuple") none (Data.seq (List.toArray [(Value.type "Exception")]) 0) (List.toArray []))
noncomputable abbrev o23 (P : Params) : Obj := (Obj.mk (Value.type "builtin_function_or_method") none (Data.fields (List.toArray [(Value.builtin "type.__prepare__"), (Value.type "type")])) (List.toArray []))
noncomputable abbrev o24 (P : Params) : Obj := (Obj.mk (Value.type "dict") none (Data.dict (List.toArray [(DictEntry.mk (PyData.keyHash P (Str.ofString "__module__")) (Value.str (Str.ofString "__module__") 203) (Value.str (Str.ofString "emacs.errors") 194)), (DictEntry.mk (PyData.keyHash P (Str.ofString "__qualname__")) (Value.str (Str.ofString "__qualname__") 205) (Value.str (Str.ofString "LispSignal") 204)), (DictEntry.mk (PyData.keyHash P (Str.ofString "__firstlineno__")) (Value.str (Str.ofString "__firstlineno__") 207) (Value.int (5 : Int) 206)), (DictEntry.mk (PyData.keyHash P (Str.ofString "__init__")) (Value.str (Str.ofString "__init__") 216) (Value.ref 35)), (DictEntry.mk (PyData.keyHash P (Str.ofString "__static_attributes__")) (Value.str (Str.ofString "__static_attributes__") 219) (Value.ref 36))]) 5) (List.toArray []))
noncomputable abbrev o25 (P : Params) : Obj := (Obj.mk (Value.type "tuple") none (Data.seq (List.toArray []) 0) (List.toArray []))
noncomputable abbrev o26 (P : Params) : Obj := (Obj.mk Value.none none (Data.fields (List.toArray [(Value.int (7 : Int) 0), (Value.int (4 : Int) 0), (Value.ref 34)])) (List.toArray []))
noncomputable abbrev o27 (P : Params) : Obj := (Obj.mk (Value.type "code") none (Data.fields (List.toArray [(Value.str (Str.ofString "LispSignal") 198), (Value.str (Str.ofString "LispSignal") 199), (Value.str (Str.ofString "/claim/cut.py") 200), (Value.int (5 : Int) 0), (Value.int (0 : Int) 0), (Value.int (0 : Int) 0), (Value.int (0 : Int) 0), (Value.int (0 : Int) 0), (Value.ref 25), (Value.bool Bool.false), (Value.int (181 : Int) 0), (Value.ref 26), Value.none, Value.none, Value.none, Value.none, (Value.int (201 : Int) 0), (Value.int (5 : Int) 0), (Value.str (Str.ofString "/claim/cut.py") 202)])) (List.toArray []))
noncomputable abbrev o28 (P : Params) : Obj := (Obj.mk (Value.type "frame") none Data.plain (List.toArray [(some (Value.ref 27)), (some (Value.ref 3)), (some (Value.ref 24)), none, (some (Value.str (Str.ofString "emacs.errors") 194)), none, (some (Value.ref 0))]))
noncomputable abbrev o29 (P : Params) : Obj := (Obj.mk (Value.type "tuple") none (Data.seq (List.toArray []) 0) (List.toArray []))
noncomputable abbrev o30 (P : Params) : Obj := (Obj.mk Value.none none (Data.fields (List.toArray [])) (List.toArray []))
noncomputable abbrev o31 (P : Params) : Obj := (Obj.mk (Value.type "tuple") none (Data.seq (List.toArray [(Value.str (Str.ofString "self") 211), (Value.str (Str.ofString "symbol") 212), (Value.str (Str.ofString "data") 213)]) 0) (List.toArray []))
noncomputable abbrev o32 (P : Params) : Obj := (Obj.mk (Value.type "tuple") none (Data.seq (List.toArray []) 0) (List.toArray []))
noncomputable abbrev o33 (P : Params) : Obj := (Obj.mk Value.none none (Data.func (FuncData.mk (Str.ofString "__init__") (Str.ofString "LispSignal.__init__") (fnArgs (stIn 2 0)) (FuncBody.stmts (bodyOf (stIn 2 0))) (fnScope (stIn 2 0)) 0 [] Value.none Value.none Value.none Value.none none Value.none Value.none 0)) (List.toArray []))
noncomputable abbrev o34 (P : Params) : Obj := (Obj.mk (Value.type "code") none (Data.fields (List.toArray [(Value.str (Str.ofString "__init__") 208), (Value.str (Str.ofString "LispSignal.__init__") 209), (Value.str (Str.ofString "/claim/cut.py") 210), (Value.int (7 : Int) 0), (Value.int (3 : Int) 0), (Value.int (0 : Int) 0), (Value.int (0 : Int) 0), (Value.int (3 : Int) 0), (Value.ref 29), (Value.bool Bool.true), (Value.int (181 : Int) 0), (Value.ref 30), Value.none, (Value.ref 31), (Value.ref 32), (Value.ref 33), (Value.int (214 : Int) 0), (Value.int (7 : Int) 0), (Value.str (Str.ofString "/claim/cut.py") 215)])) (List.toArray []))
noncomputable abbrev o35 (P : Params) : Obj := (Obj.mk (Value.type "function") none (Data.func (FuncData.mk (Str.ofString "__init__") (Str.ofString "LispSignal.__init__") (fnArgs (stIn 2 0)) (FuncBody.stmts (bodyOf (stIn 2 0))) (fnScope (stIn 2 0)) 3 [] Value.none Value.none Value.none (Value.str (Str.ofString "emacs.errors") 194) none (Value.ref 34) Value.none 0)) (List.toArray []))
noncomputable abbrev o36 (P : Params) : Obj := (Obj.mk (Value.type "tuple") none (Data.seq (List.toArray [(Value.str (Str.ofString "data") 217), (Value.str (Str.ofString "symbol") 218)]) 0) (List.toArray []))
noncomputable abbrev o37 (P : Params) : Obj := (Obj.mk (Value.type "dict") none (Data.dict (List.toArray [(DictEntry.mk (PyData.keyHash P (Str.ofString "__module__")) (Value.str (Str.ofString "__module__") 203) (Value.str (Str.ofString "emacs.errors") 194)), (DictEntry.mk (PyData.keyHash P (Str.ofString "__firstlineno__")) (Value.str (Str.ofString "__firstlineno__") 207) (Value.int (5 : Int) 206)), (DictEntry.mk (PyData.keyHash P (Str.ofString "__init__")) (Value.str (Str.ofString "__init__") 216) (Value.ref 35)), (DictEntry.mk (PyData.keyHash P (Str.ofString "__static_attributes__")) (Value.str (Str.ofString "__static_attributes__") 219) (Value.ref 36)), (DictEntry.mk (PyData.keyHash P (Str.ofString "__weakref__")) (Value.str (Str.ofString "__weakref__") 221) (Value.ref 39)), (DictEntry.mk (PyData.keyHash P (Str.ofString "__doc__")) (Value.str (Str.ofString "__doc__") 222) Value.none)]) 3) (List.toArray []))
noncomputable abbrev o38 (P : Params) : Obj := (Obj.mk (Value.type "type") none (Data.cls (ClassData.mk (Str.ofString "LispSignal") [(Value.type "Exception")] [(Value.ref 38), (Value.type "Exception"), (Value.type "BaseException"), (Value.type "object")] 37 (Str.ofString "LispSignal") Bool.true [] [] Bool.false none Bool.false)) (List.toArray [(some (Value.ref 22)), none, (some (Value.str (Str.ofString "LispSignal") 196)), (some (Value.str (Str.ofString "LispSignal") 204)), (some (Value.builtin "Exception.__new__")), (some (Value.bool Bool.true))]))
noncomputable abbrev o39 (P : Params) : Obj := (Obj.mk (Value.type "getset_descriptor") none (Data.fields (List.toArray [(Value.str (Str.ofString "__weakref__") 220), (Value.ref 38), (Value.builtin "ExceptionGroup.__weakref__"), Value.none])) (List.toArray []))
noncomputable abbrev o40 (P : Params) : Obj := (Obj.mk (Value.type "super") none (Data.fields (List.toArray [(Value.ref 38), (Value.ref 38), (Value.ref 38)])) (List.toArray []))
noncomputable abbrev o41 (P : Params) : Obj := (Obj.mk (Value.type "builtin_function_or_method") none (Data.fields (List.toArray [(Value.builtin "object.__init_subclass__"), (Value.ref 38)])) (List.toArray []))
noncomputable abbrev o42 (P : Params) : Obj := (Obj.mk (Value.type "tuple") none (Data.seq (List.toArray []) 0) (List.toArray []))
noncomputable abbrev o43 (P : Params) : Obj := (Obj.mk Value.none none (Data.fields (List.toArray [])) (List.toArray []))
noncomputable abbrev o44 (P : Params) : Obj := (Obj.mk (Value.type "tuple") none (Data.seq (List.toArray [(Value.str (Str.ofString "buffer") 232)]) 0) (List.toArray []))
noncomputable abbrev o45 (P : Params) : Obj := (Obj.mk (Value.type "tuple") none (Data.seq (List.toArray []) 0) (List.toArray []))
noncomputable abbrev o46 (P : Params) : Obj := (Obj.mk Value.none none (Data.func (FuncData.mk (Str.ofString "need_writable") (Str.ofString "need_writable") (fnArgs (stAt 4)) (FuncBody.stmts (bodyOf (stAt 4))) (fnScope (stAt 4)) 0 [] Value.none Value.none Value.none Value.none none Value.none Value.none 0)) (List.toArray []))
noncomputable abbrev o47 (P : Params) : Obj := (Obj.mk (Value.type "code") none (Data.fields (List.toArray [(Value.str (Str.ofString "need_writable") 229), (Value.str (Str.ofString "need_writable") 230), (Value.str (Str.ofString "/claim/cut.py") 231), (Value.int (11 : Int) 0), (Value.int (1 : Int) 0), (Value.int (0 : Int) 0), (Value.int (0 : Int) 0), (Value.int (3 : Int) 0), (Value.ref 42), (Value.bool Bool.true), (Value.int (181 : Int) 0), (Value.ref 43), Value.none, (Value.ref 44), (Value.ref 45), (Value.ref 46), (Value.int (233 : Int) 0), (Value.int (11 : Int) 0), (Value.str (Str.ofString "/claim/cut.py") 234)])) (List.toArray []))
noncomputable abbrev o48 (P : Params) : Obj := (Obj.mk (Value.type "function") none (Data.func (FuncData.mk (Str.ofString "need_writable") (Str.ofString "need_writable") (fnArgs (stAt 4)) (FuncBody.stmts (bodyOf (stAt 4))) (fnScope (stAt 4)) 3 [] Value.none Value.none Value.none (Value.str (Str.ofString "emacs.editing") 227) none (Value.ref 47) Value.none 0)) (List.toArray []))
noncomputable abbrev o49 (P : Params) : Obj := (Obj.mk (Value.type "tuple") none (Data.seq (List.toArray []) 0) (List.toArray []))
noncomputable abbrev o50 (P : Params) : Obj := (Obj.mk Value.none none (Data.fields (List.toArray [])) (List.toArray []))
noncomputable abbrev o51 (P : Params) : Obj := (Obj.mk (Value.type "tuple") none (Data.seq (List.toArray [(Value.str (Str.ofString "buffer") 239), (Value.str (Str.ofString "start") 240), (Value.str (Str.ofString "end") 241), (Value.str (Str.ofString "low") 242), (Value.str (Str.ofString "high") 243)]) 0) (List.toArray []))
noncomputable abbrev o52 (P : Params) : Obj := (Obj.mk (Value.type "tuple") none (Data.seq (List.toArray []) 0) (List.toArray []))
noncomputable abbrev o53 (P : Params) : Obj := (Obj.mk Value.none none (Data.func (FuncData.mk (Str.ofString "reached") (Str.ofString "reached") (fnArgs (stAt 5)) (FuncBody.stmts (bodyOf (stAt 5))) (fnScope (stAt 5)) 0 [] Value.none Value.none Value.none Value.none none Value.none Value.none 0)) (List.toArray []))
noncomputable abbrev o54 (P : Params) : Obj := (Obj.mk (Value.type "code") none (Data.fields (List.toArray [(Value.str (Str.ofString "reached") 236), (Value.str (Str.ofString "reached") 237), (Value.str (Str.ofString "/claim/cut.py") 238), (Value.int (14 : Int) 0), (Value.int (3 : Int) 0), (Value.int (0 : Int) 0), (Value.int (0 : Int) 0), (Value.int (3 : Int) 0), (Value.ref 49), (Value.bool Bool.true), (Value.int (181 : Int) 0), (Value.ref 50), Value.none, (Value.ref 51), (Value.ref 52), (Value.ref 53), (Value.int (244 : Int) 0), (Value.int (14 : Int) 0), (Value.str (Str.ofString "/claim/cut.py") 245)])) (List.toArray []))
noncomputable abbrev o55 (P : Params) : Obj := (Obj.mk (Value.type "function") none (Data.func (FuncData.mk (Str.ofString "reached") (Str.ofString "reached") (fnArgs (stAt 5)) (FuncBody.stmts (bodyOf (stAt 5))) (fnScope (stAt 5)) 3 [] Value.none Value.none Value.none (Value.str (Str.ofString "emacs.editing") 227) none (Value.ref 54) Value.none 0)) (List.toArray []))
noncomputable abbrev o56 (P : Params) : Obj := (Obj.mk (Value.type "tuple") none (Data.seq (List.toArray []) 0) (List.toArray []))
noncomputable abbrev o57 (P : Params) : Obj := (Obj.mk Value.none none (Data.fields (List.toArray [])) (List.toArray []))
noncomputable abbrev o58 (P : Params) : Obj := (Obj.mk (Value.type "tuple") none (Data.seq (List.toArray [(Value.str (Str.ofString "buffer") 250), (Value.str (Str.ofString "start") 251), (Value.str (Str.ofString "end") 252), (Value.str (Str.ofString "listener") 253)]) 0) (List.toArray []))
noncomputable abbrev o59 (P : Params) : Obj := (Obj.mk (Value.type "tuple") none (Data.seq (List.toArray []) 0) (List.toArray []))
noncomputable abbrev o60 (P : Params) : Obj := (Obj.mk Value.none none (Data.func (FuncData.mk (Str.ofString "tell_ahead") (Str.ofString "tell_ahead") (fnArgs (stAt 6)) (FuncBody.stmts (bodyOf (stAt 6))) (fnScope (stAt 6)) 0 [] Value.none Value.none Value.none Value.none none Value.none Value.none 0)) (List.toArray []))
noncomputable abbrev o61 (P : Params) : Obj := (Obj.mk (Value.type "code") none (Data.fields (List.toArray [(Value.str (Str.ofString "tell_ahead") 247), (Value.str (Str.ofString "tell_ahead") 248), (Value.str (Str.ofString "/claim/cut.py") 249), (Value.int (19 : Int) 0), (Value.int (3 : Int) 0), (Value.int (0 : Int) 0), (Value.int (0 : Int) 0), (Value.int (3 : Int) 0), (Value.ref 56), (Value.bool Bool.true), (Value.int (181 : Int) 0), (Value.ref 57), Value.none, (Value.ref 58), (Value.ref 59), (Value.ref 60), (Value.int (254 : Int) 0), (Value.int (19 : Int) 0), (Value.str (Str.ofString "/claim/cut.py") 255)])) (List.toArray []))
noncomputable abbrev o62 (P : Params) : Obj := (Obj.mk (Value.type "function") none (Data.func (FuncData.mk (Str.ofString "tell_ahead") (Str.ofString "tell_ahead") (fnArgs (stAt 6)) (FuncBody.stmts (bodyOf (stAt 6))) (fnScope (stAt 6)) 3 [] Value.none Value.none Value.none (Value.str (Str.ofString "emacs.editing") 227) none (Value.ref 61) Value.none 0)) (List.toArray []))
noncomputable abbrev o63 (P : Params) : Obj := (Obj.mk (Value.type "tuple") none (Data.seq (List.toArray []) 0) (List.toArray []))
noncomputable abbrev o64 (P : Params) : Obj := (Obj.mk Value.none none (Data.fields (List.toArray [])) (List.toArray []))
noncomputable abbrev o65 (P : Params) : Obj := (Obj.mk (Value.type "tuple") none (Data.seq (List.toArray [(Value.str (Str.ofString "buffer") 260), (Value.str (Str.ofString "start") 261), (Value.str (Str.ofString "end") 262), (Value.str (Str.ofString "old_length") 263), (Value.str (Str.ofString "listener") 264)]) 0) (List.toArray []))
noncomputable abbrev o66 (P : Params) : Obj := (Obj.mk (Value.type "tuple") none (Data.seq (List.toArray []) 0) (List.toArray []))
noncomputable abbrev o67 (P : Params) : Obj := (Obj.mk Value.none none (Data.func (FuncData.mk (Str.ofString "tell_behind") (Str.ofString "tell_behind") (fnArgs (stAt 7)) (FuncBody.stmts (bodyOf (stAt 7))) (fnScope (stAt 7)) 0 [] Value.none Value.none Value.none Value.none none Value.none Value.none 0)) (List.toArray []))
noncomputable abbrev o68 (P : Params) : Obj := (Obj.mk (Value.type "code") none (Data.fields (List.toArray [(Value.str (Str.ofString "tell_behind") 257), (Value.str (Str.ofString "tell_behind") 258), (Value.str (Str.ofString "/claim/cut.py") 259), (Value.int (22 : Int) 0), (Value.int (4 : Int) 0), (Value.int (0 : Int) 0), (Value.int (0 : Int) 0), (Value.int (3 : Int) 0), (Value.ref 63), (Value.bool Bool.true), (Value.int (181 : Int) 0), (Value.ref 64), Value.none, (Value.ref 65), (Value.ref 66), (Value.ref 67), (Value.int (265 : Int) 0), (Value.int (22 : Int) 0), (Value.str (Str.ofString "/claim/cut.py") 266)])) (List.toArray []))
noncomputable abbrev o69 (P : Params) : Obj := (Obj.mk (Value.type "function") none (Data.func (FuncData.mk (Str.ofString "tell_behind") (Str.ofString "tell_behind") (fnArgs (stAt 7)) (FuncBody.stmts (bodyOf (stAt 7))) (fnScope (stAt 7)) 3 [] Value.none Value.none Value.none (Value.str (Str.ofString "emacs.editing") 227) none (Value.ref 68) Value.none 0)) (List.toArray []))
noncomputable abbrev o70 (P : Params) : Obj := (Obj.mk (Value.type "tuple") none (Data.seq (List.toArray []) 0) (List.toArray []))
noncomputable abbrev o71 (P : Params) : Obj := (Obj.mk Value.none none (Data.fields (List.toArray [])) (List.toArray []))
noncomputable abbrev o72 (P : Params) : Obj := (Obj.mk (Value.type "tuple") none (Data.seq (List.toArray [(Value.str (Str.ofString "buffer") 271), (Value.str (Str.ofString "start") 272), (Value.str (Str.ofString "end") 273), (Value.str (Str.ofString "gone") 274)]) 0) (List.toArray []))
noncomputable abbrev o73 (P : Params) : Obj := (Obj.mk (Value.type "tuple") none (Data.seq (List.toArray []) 0) (List.toArray []))
noncomputable abbrev o74 (P : Params) : Obj := (Obj.mk Value.none none (Data.func (FuncData.mk (Str.ofString "text_out") (Str.ofString "text_out") (fnArgs (stAt 8)) (FuncBody.stmts (bodyOf (stAt 8))) (fnScope (stAt 8)) 0 [] Value.none Value.none Value.none Value.none none Value.none Value.none 0)) (List.toArray []))
noncomputable abbrev o75 (P : Params) : Obj := (Obj.mk (Value.type "code") none (Data.fields (List.toArray [(Value.str (Str.ofString "text_out") 268), (Value.str (Str.ofString "text_out") 269), (Value.str (Str.ofString "/claim/cut.py") 270), (Value.int (26 : Int) 0), (Value.int (3 : Int) 0), (Value.int (0 : Int) 0), (Value.int (0 : Int) 0), (Value.int (3 : Int) 0), (Value.ref 70), (Value.bool Bool.true), (Value.int (181 : Int) 0), (Value.ref 71), Value.none, (Value.ref 72), (Value.ref 73), (Value.ref 74), (Value.int (275 : Int) 0), (Value.int (26 : Int) 0), (Value.str (Str.ofString "/claim/cut.py") 276)])) (List.toArray []))
noncomputable abbrev o76 (P : Params) : Obj := (Obj.mk (Value.type "function") none (Data.func (FuncData.mk (Str.ofString "text_out") (Str.ofString "text_out") (fnArgs (stAt 8)) (FuncBody.stmts (bodyOf (stAt 8))) (fnScope (stAt 8)) 3 [] Value.none Value.none Value.none (Value.str (Str.ofString "emacs.editing") 227) none (Value.ref 75) Value.none 0)) (List.toArray []))
noncomputable abbrev o77 (P : Params) : Obj := (Obj.mk (Value.type "tuple") none (Data.seq (List.toArray []) 0) (List.toArray []))
noncomputable abbrev o78 (P : Params) : Obj := (Obj.mk Value.none none (Data.fields (List.toArray [])) (List.toArray []))
noncomputable abbrev o79 (P : Params) : Obj := (Obj.mk (Value.type "tuple") none (Data.seq (List.toArray [(Value.str (Str.ofString "buffer") 281), (Value.str (Str.ofString "place") 282), (Value.str (Str.ofString "codes") 283)]) 0) (List.toArray []))
noncomputable abbrev o80 (P : Params) : Obj := (Obj.mk (Value.type "tuple") none (Data.seq (List.toArray []) 0) (List.toArray []))
noncomputable abbrev o81 (P : Params) : Obj := (Obj.mk Value.none none (Data.func (FuncData.mk (Str.ofString "text_in") (Str.ofString "text_in") (fnArgs (stAt 9)) (FuncBody.stmts (bodyOf (stAt 9))) (fnScope (stAt 9)) 0 [] Value.none Value.none Value.none Value.none none Value.none Value.none 0)) (List.toArray []))
noncomputable abbrev o82 (P : Params) : Obj := (Obj.mk (Value.type "code") none (Data.fields (List.toArray [(Value.str (Str.ofString "text_in") 278), (Value.str (Str.ofString "text_in") 279), (Value.str (Str.ofString "/claim/cut.py") 280), (Value.int (34 : Int) 0), (Value.int (3 : Int) 0), (Value.int (0 : Int) 0), (Value.int (0 : Int) 0), (Value.int (3 : Int) 0), (Value.ref 77), (Value.bool Bool.true), (Value.int (181 : Int) 0), (Value.ref 78), Value.none, (Value.ref 79), (Value.ref 80), (Value.ref 81), (Value.int (284 : Int) 0), (Value.int (34 : Int) 0), (Value.str (Str.ofString "/claim/cut.py") 285)])) (List.toArray []))
noncomputable abbrev o83 (P : Params) : Obj := (Obj.mk (Value.type "function") none (Data.func (FuncData.mk (Str.ofString "text_in") (Str.ofString "text_in") (fnArgs (stAt 9)) (FuncBody.stmts (bodyOf (stAt 9))) (fnScope (stAt 9)) 3 [] Value.none Value.none Value.none (Value.str (Str.ofString "emacs.editing") 227) none (Value.ref 82) Value.none 0)) (List.toArray []))
noncomputable abbrev o84 (P : Params) : Obj := (Obj.mk (Value.type "tuple") none (Data.seq (List.toArray []) 0) (List.toArray []))
noncomputable abbrev o85 (P : Params) : Obj := (Obj.mk Value.none none (Data.fields (List.toArray [])) (List.toArray []))
noncomputable abbrev o86 (P : Params) : Obj := (Obj.mk (Value.type "tuple") none (Data.seq (List.toArray [(Value.str (Str.ofString "buffer") 290), (Value.str (Str.ofString "start") 291), (Value.str (Str.ofString "end") 292)]) 0) (List.toArray []))
noncomputable abbrev o87 (P : Params) : Obj := (Obj.mk (Value.type "tuple") none (Data.seq (List.toArray []) 0) (List.toArray []))
noncomputable abbrev o88 (P : Params) : Obj := (Obj.mk Value.none none (Data.func (FuncData.mk (Str.ofString "hung_out") (Str.ofString "hung_out") (fnArgs (stAt 10)) (FuncBody.stmts (bodyOf (stAt 10))) (fnScope (stAt 10)) 0 [] Value.none Value.none Value.none Value.none none Value.none Value.none 0)) (List.toArray []))
noncomputable abbrev o89 (P : Params) : Obj := (Obj.mk (Value.type "code") none (Data.fields (List.toArray [(Value.str (Str.ofString "hung_out") 287), (Value.str (Str.ofString "hung_out") 288), (Value.str (Str.ofString "/claim/cut.py") 289), (Value.int (41 : Int) 0), (Value.int (3 : Int) 0), (Value.int (0 : Int) 0), (Value.int (0 : Int) 0), (Value.int (3 : Int) 0), (Value.ref 84), (Value.bool Bool.true), (Value.int (181 : Int) 0), (Value.ref 85), Value.none, (Value.ref 86), (Value.ref 87), (Value.ref 88), (Value.int (293 : Int) 0), (Value.int (41 : Int) 0), (Value.str (Str.ofString "/claim/cut.py") 294)])) (List.toArray []))
noncomputable abbrev o90 (P : Params) : Obj := (Obj.mk (Value.type "function") none (Data.func (FuncData.mk (Str.ofString "hung_out") (Str.ofString "hung_out") (fnArgs (stAt 10)) (FuncBody.stmts (bodyOf (stAt 10))) (fnScope (stAt 10)) 3 [] Value.none Value.none Value.none (Value.str (Str.ofString "emacs.editing") 227) none (Value.ref 89) Value.none 0)) (List.toArray []))
noncomputable abbrev o91 (P : Params) : Obj := (Obj.mk (Value.type "tuple") none (Data.seq (List.toArray []) 0) (List.toArray []))
noncomputable abbrev o92 (P : Params) : Obj := (Obj.mk Value.none none (Data.fields (List.toArray [])) (List.toArray []))
noncomputable abbrev o93 (P : Params) : Obj := (Obj.mk (Value.type "tuple") none (Data.seq (List.toArray [(Value.str (Str.ofString "buffer") 299), (Value.str (Str.ofString "place") 300), (Value.str (Str.ofString "many") 301), (Value.str (Str.ofString "before_markers") 302)]) 0) (List.toArray []))
noncomputable abbrev o94 (P : Params) : Obj := (Obj.mk (Value.type "tuple") none (Data.seq (List.toArray []) 0) (List.toArray []))
noncomputable abbrev o95 (P : Params) : Obj := (Obj.mk Value.none none (Data.func (FuncData.mk (Str.ofString "hung_in") (Str.ofString "hung_in") (fnArgs (stAt 11)) (FuncBody.stmts (bodyOf (stAt 11))) (fnScope (stAt 11)) 0 [] Value.none Value.none Value.none Value.none none Value.none Value.none 0)) (List.toArray []))
noncomputable abbrev o96 (P : Params) : Obj := (Obj.mk (Value.type "code") none (Data.fields (List.toArray [(Value.str (Str.ofString "hung_in") 296), (Value.str (Str.ofString "hung_in") 297), (Value.str (Str.ofString "/claim/cut.py") 298), (Value.int (46 : Int) 0), (Value.int (4 : Int) 0), (Value.int (0 : Int) 0), (Value.int (0 : Int) 0), (Value.int (3 : Int) 0), (Value.ref 91), (Value.bool Bool.true), (Value.int (181 : Int) 0), (Value.ref 92), Value.none, (Value.ref 93), (Value.ref 94), (Value.ref 95), (Value.int (303 : Int) 0), (Value.int (46 : Int) 0), (Value.str (Str.ofString "/claim/cut.py") 304)])) (List.toArray []))
noncomputable abbrev o97 (P : Params) : Obj := (Obj.mk (Value.type "function") none (Data.func (FuncData.mk (Str.ofString "hung_in") (Str.ofString "hung_in") (fnArgs (stAt 11)) (FuncBody.stmts (bodyOf (stAt 11))) (fnScope (stAt 11)) 3 [] Value.none Value.none Value.none (Value.str (Str.ofString "emacs.editing") 227) none (Value.ref 96) Value.none 0)) (List.toArray []))
noncomputable abbrev o98 (P : Params) : Obj := (Obj.mk (Value.type "tuple") none (Data.seq (List.toArray []) 0) (List.toArray []))
noncomputable abbrev o99 (P : Params) : Obj := (Obj.mk Value.none none (Data.fields (List.toArray [])) (List.toArray []))
noncomputable abbrev o100 (P : Params) : Obj := (Obj.mk (Value.type "tuple") none (Data.seq (List.toArray [(Value.str (Str.ofString "buffer") 309), (Value.str (Str.ofString "place") 310), (Value.str (Str.ofString "codes") 311), (Value.str (Str.ofString "before_markers") 312), (Value.str (Str.ofString "is_point_behind") 313)]) 0) (List.toArray []))
noncomputable abbrev o101 (P : Params) : Obj := (Obj.mk (Value.type "tuple") none (Data.seq (List.toArray []) 0) (List.toArray []))
noncomputable abbrev o102 (P : Params) : Obj := (Obj.mk Value.none none (Data.func (FuncData.mk (Str.ofString "put_in") (Str.ofString "put_in") (fnArgs (stAt 12)) (FuncBody.stmts (bodyOf (stAt 12))) (fnScope (stAt 12)) 0 [] Value.none Value.none Value.none Value.none none Value.none Value.none 0)) (List.toArray []))
noncomputable abbrev o103 (P : Params) : Obj := (Obj.mk (Value.type "code") none (Data.fields (List.toArray [(Value.str (Str.ofString "put_in") 306), (Value.str (Str.ofString "put_in") 307), (Value.str (Str.ofString "/claim/cut.py") 308), (Value.int (51 : Int) 0), (Value.int (5 : Int) 0), (Value.int (0 : Int) 0), (Value.int (0 : Int) 0), (Value.int (3 : Int) 0), (Value.ref 98), (Value.bool Bool.true), (Value.int (181 : Int) 0), (Value.ref 99), Value.none, (Value.ref 100), (Value.ref 101), (Value.ref 102), (Value.int (314 : Int) 0), (Value.int (51 : Int) 0), (Value.str (Str.ofString "/claim/cut.py") 315)])) (List.toArray []))
noncomputable abbrev o104 (P : Params) : Obj := (Obj.mk (Value.type "function") none (Data.func (FuncData.mk (Str.ofString "put_in") (Str.ofString "put_in") (fnArgs (stAt 12)) (FuncBody.stmts (bodyOf (stAt 12))) (fnScope (stAt 12)) 3 [] Value.none Value.none Value.none (Value.str (Str.ofString "emacs.editing") 227) none (Value.ref 103) Value.none 0)) (List.toArray []))
noncomputable abbrev o105 (P : Params) : Obj := (Obj.mk (Value.type "tuple") none (Data.seq (List.toArray [(Value.bool Bool.false)]) 0) (List.toArray []))
noncomputable abbrev o106 (P : Params) : Obj := (Obj.mk (Value.type "tuple") none (Data.seq (List.toArray []) 0) (List.toArray []))
noncomputable abbrev o107 (P : Params) : Obj := (Obj.mk Value.none none (Data.fields (List.toArray [])) (List.toArray []))
noncomputable abbrev o108 (P : Params) : Obj := (Obj.mk (Value.type "tuple") none (Data.seq (List.toArray [(Value.str (Str.ofString "buffer") 320), (Value.str (Str.ofString "place") 321), (Value.str (Str.ofString "codes") 322), (Value.str (Str.ofString "before_markers") 323)]) 0) (List.toArray []))
noncomputable abbrev o109 (P : Params) : Obj := (Obj.mk (Value.type "tuple") none (Data.seq (List.toArray []) 0) (List.toArray []))
noncomputable abbrev o110 (P : Params) : Obj := (Obj.mk Value.none none (Data.func (FuncData.mk (Str.ofString "insert_at") (Str.ofString "insert_at") (fnArgs (stAt 13)) (FuncBody.stmts (bodyOf (stAt 13))) (fnScope (stAt 13)) 0 [] Value.none Value.none Value.none Value.none none Value.none Value.none 0)) (List.toArray []))
noncomputable abbrev o111 (P : Params) : Obj := (Obj.mk (Value.type "code") none (Data.fields (List.toArray [(Value.str (Str.ofString "insert_at") 317), (Value.str (Str.ofString "insert_at") 318), (Value.str (Str.ofString "/claim/cut.py") 319), (Value.int (63 : Int) 0), (Value.int (4 : Int) 0), (Value.int (0 : Int) 0), (Value.int (0 : Int) 0), (Value.int (3 : Int) 0), (Value.ref 106), (Value.bool Bool.true), (Value.int (181 : Int) 0), (Value.ref 107), Value.none, (Value.ref 108), (Value.ref 109), (Value.ref 110), (Value.int (324 : Int) 0), (Value.int (63 : Int) 0), (Value.str (Str.ofString "/claim/cut.py") 325)])) (List.toArray []))
noncomputable abbrev o112 (P : Params) : Obj := (Obj.mk (Value.type "function") none (Data.func (FuncData.mk (Str.ofString "insert_at") (Str.ofString "insert_at") (fnArgs (stAt 13)) (FuncBody.stmts (bodyOf (stAt 13))) (fnScope (stAt 13)) 3 [] (Value.ref 105) Value.none Value.none (Value.str (Str.ofString "emacs.editing") 227) none (Value.ref 111) Value.none 0)) (List.toArray []))
noncomputable abbrev o113 (P : Params) : Obj := (Obj.mk (Value.type "tuple") none (Data.seq (List.toArray []) 0) (List.toArray []))
noncomputable abbrev o114 (P : Params) : Obj := (Obj.mk Value.none none (Data.fields (List.toArray [])) (List.toArray []))
noncomputable abbrev o115 (P : Params) : Obj := (Obj.mk (Value.type "tuple") none (Data.seq (List.toArray [(Value.str (Str.ofString "buffer") 330), (Value.str (Str.ofString "start") 331), (Value.str (Str.ofString "end") 332), (Value.str (Str.ofString "low") 333), (Value.str (Str.ofString "high") 334), (Value.str (Str.ofString "gone") 335)]) 0) (List.toArray []))
noncomputable abbrev o116 (P : Params) : Obj := (Obj.mk (Value.type "tuple") none (Data.seq (List.toArray []) 0) (List.toArray []))
noncomputable abbrev o117 (P : Params) : Obj := (Obj.mk Value.none none (Data.func (FuncData.mk (Str.ofString "delete") (Str.ofString "delete") (fnArgs (stAt 14)) (FuncBody.stmts (bodyOf (stAt 14))) (fnScope (stAt 14)) 0 [] Value.none Value.none Value.none Value.none none Value.none Value.none 0)) (List.toArray []))
noncomputable abbrev o118 (P : Params) : Obj := (Obj.mk (Value.type "code") none (Data.fields (List.toArray [(Value.str (Str.ofString "delete") 327), (Value.str (Str.ofString "delete") 328), (Value.str (Str.ofString "/claim/cut.py") 329), (Value.int (65 : Int) 0), (Value.int (3 : Int) 0), (Value.int (0 : Int) 0), (Value.int (0 : Int) 0), (Value.int (3 : Int) 0), (Value.ref 113), (Value.bool Bool.true), (Value.int (181 : Int) 0), (Value.ref 114), Value.none, (Value.ref 115), (Value.ref 116), (Value.ref 117), (Value.int (336 : Int) 0), (Value.int (65 : Int) 0), (Value.str (Str.ofString "/claim/cut.py") 337)])) (List.toArray []))
noncomputable abbrev o119 (P : Params) : Obj := (Obj.mk (Value.type "function") none (Data.func (FuncData.mk (Str.ofString "delete") (Str.ofString "delete") (fnArgs (stAt 14)) (FuncBody.stmts (bodyOf (stAt 14))) (fnScope (stAt 14)) 3 [] Value.none Value.none Value.none (Value.str (Str.ofString "emacs.editing") 227) none (Value.ref 118) Value.none 0)) (List.toArray []))
noncomputable abbrev o120 (P : Params) : Obj := (Obj.mk (Value.type "tuple") none (Data.seq (List.toArray []) 0) (List.toArray []))
noncomputable abbrev o121 (P : Params) : Obj := (Obj.mk Value.none none (Data.fields (List.toArray [])) (List.toArray []))
noncomputable abbrev o122 (P : Params) : Obj := (Obj.mk (Value.type "tuple") none (Data.seq (List.toArray [(Value.str (Str.ofString "buffer") 342), (Value.str (Str.ofString "start") 343), (Value.str (Str.ofString "end") 344), (Value.str (Str.ofString "codes") 345), (Value.str (Str.ofString "low") 346), (Value.str (Str.ofString "high") 347), (Value.str (Str.ofString "point") 348), (Value.str (Str.ofString "gone") 349)]) 0) (List.toArray []))
noncomputable abbrev o123 (P : Params) : Obj := (Obj.mk (Value.type "tuple") none (Data.seq (List.toArray []) 0) (List.toArray []))
noncomputable abbrev o124 (P : Params) : Obj := (Obj.mk Value.none none (Data.func (FuncData.mk (Str.ofString "replace") (Str.ofString "replace") (fnArgs (stAt 15)) (FuncBody.stmts (bodyOf (stAt 15))) (fnScope (stAt 15)) 0 [] Value.none Value.none Value.none Value.none none Value.none Value.none 0)) (List.toArray []))
noncomputable abbrev o125 (P : Params) : Obj := (Obj.mk (Value.type "code") none (Data.fields (List.toArray [(Value.str (Str.ofString "replace") 339), (Value.str (Str.ofString "replace") 340), (Value.str (Str.ofString "/claim/cut.py") 341), (Value.int (76 : Int) 0), (Value.int (4 : Int) 0), (Value.int (0 : Int) 0), (Value.int (0 : Int) 0), (Value.int (3 : Int) 0), (Value.ref 120), (Value.bool Bool.true), (Value.int (181 : Int) 0), (Value.ref 121), Value.none, (Value.ref 122), (Value.ref 123), (Value.ref 124), (Value.int (350 : Int) 0), (Value.int (76 : Int) 0), (Value.str (Str.ofString "/claim/cut.py") 351)])) (List.toArray []))
noncomputable abbrev o126 (P : Params) : Obj := (Obj.mk (Value.type "function") none (Data.func (FuncData.mk (Str.ofString "replace") (Str.ofString "replace") (fnArgs (stAt 15)) (FuncBody.stmts (bodyOf (stAt 15))) (fnScope (stAt 15)) 3 [] Value.none Value.none Value.none (Value.str (Str.ofString "emacs.editing") 227) none (Value.ref 125) Value.none 0)) (List.toArray []))
noncomputable abbrev o127 (P : Params) : Obj := (Obj.mk (Value.type "tuple") none (Data.seq (List.toArray []) 0) (List.toArray []))
noncomputable abbrev o128 (P : Params) : Obj := (Obj.mk (Value.type "builtin_function_or_method") none (Data.fields (List.toArray [(Value.builtin "type.__prepare__"), (Value.type "type")])) (List.toArray []))
noncomputable abbrev o129 (P : Params) : Obj := (Obj.mk (Value.type "dict") none (Data.dict (List.toArray [(DictEntry.mk (PyData.keyHash P (Str.ofString "__module__")) (Value.str (Str.ofString "__module__") 362) (Value.str (Str.ofString "emacs.gap") 353)), (DictEntry.mk (PyData.keyHash P (Str.ofString "__qualname__")) (Value.str (Str.ofString "__qualname__") 364) (Value.str (Str.ofString "GapText") 363)), (DictEntry.mk (PyData.keyHash P (Str.ofString "__firstlineno__")) (Value.str (Str.ofString "__firstlineno__") 366) (Value.int (96 : Int) 365)), (DictEntry.mk (PyData.keyHash P (Str.ofString "__init__")) (Value.str (Str.ofString "__init__") 375) (Value.ref 140)), (DictEntry.mk (PyData.keyHash P (Str.ofString "size")) (Value.str (Str.ofString "size") 382) (Value.ref 147)), (DictEntry.mk (PyData.keyHash P (Str.ofString "code")) (Value.str (Str.ofString "code") 390) (Value.ref 154)), (DictEntry.mk (PyData.keyHash P (Str.ofString "codes")) (Value.str (Str.ofString "codes") 400) (Value.ref 161)), (DictEntry.mk (PyData.keyHash P (Str.ofString "move_gap")) (Value.str (Str.ofString "move_gap") 409) (Value.ref 168)), (DictEntry.mk (PyData.keyHash P (Str.ofString "widen_gap")) (Value.str (Str.ofString "widen_gap") 418) (Value.ref 175)), (DictEntry.mk (PyData.keyHash P (Str.ofString "insert")) (Value.str (Str.ofString "insert") 427) (Value.ref 182)), (DictEntry.mk (PyData.keyHash P (Str.ofString "delete")) (Value.str (Str.ofString "delete") 437) (Value.ref 189)), (DictEntry.mk (PyData.keyHash P (Str.ofString "put")) (Value.str (Str.ofString "put") 446) (Value.ref 196)), (DictEntry.mk (PyData.keyHash P (Str.ofString "narrow_gap")) (Value.str (Str.ofString "narrow_gap") 453) (Value.ref 203)), (DictEntry.mk (PyData.keyHash P (Str.ofString "is_whole")) (Value.str (Str.ofString "is_whole") 460) (Value.ref 210)), (DictEntry.mk (PyData.keyHash P (Str.ofString "__static_attributes__")) (Value.str (Str.ofString "__static_attributes__") 465) (Value.ref 211))]) 15) (List.toArray []))
noncomputable abbrev o130 (P : Params) : Obj := (Obj.mk (Value.type "tuple") none (Data.seq (List.toArray []) 0) (List.toArray []))
noncomputable abbrev o131 (P : Params) : Obj := (Obj.mk Value.none none (Data.fields (List.toArray [(Value.int (98 : Int) 0), (Value.int (4 : Int) 0), (Value.ref 139), (Value.int (104 : Int) 0), (Value.int (4 : Int) 0), (Value.ref 146), (Value.int (107 : Int) 0), (Value.int (4 : Int) 0), (Value.ref 153), (Value.int (112 : Int) 0), (Value.int (4 : Int) 0), (Value.ref 160), (Value.int (120 : Int) 0), (Value.int (4 : Int) 0), (Value.ref 167), (Value.int (131 : Int) 0), (Value.int (4 : Int) 0), (Value.ref 174), (Value.int (137 : Int) 0), (Value.int (4 : Int) 0), (Value.ref 181), (Value.int (143 : Int) 0), (Value.int (4 : Int) 0), (Value.ref 188), (Value.int (153 : Int) 0), (Value.int (4 : Int) 0), (Value.ref 195), (Value.int (156 : Int) 0), (Value.int (4 : Int) 0), (Value.ref 202), (Value.int (159 : Int) 0), (Value.int (4 : Int) 0), (Value.ref 209)])) (List.toArray []))
noncomputable abbrev o132 (P : Params) : Obj := (Obj.mk (Value.type "code") none (Data.fields (List.toArray [(Value.str (Str.ofString "GapText") 357), (Value.str (Str.ofString "GapText") 358), (Value.str (Str.ofString "/claim/cut.py") 359), (Value.int (96 : Int) 0), (Value.int (0 : Int) 0), (Value.int (0 : Int) 0), (Value.int (0 : Int) 0), (Value.int (0 : Int) 0), (Value.ref 130), (Value.bool Bool.false), (Value.int (181 : Int) 0), (Value.ref 131), Value.none, Value.none, Value.none, Value.none, (Value.int (360 : Int) 0), (Value.int (96 : Int) 0), (Value.str (Str.ofString "/claim/cut.py") 361)])) (List.toArray []))
noncomputable abbrev o133 (P : Params) : Obj := (Obj.mk (Value.type "frame") none Data.plain (List.toArray [(some (Value.ref 132)), (some (Value.ref 3)), (some (Value.ref 129)), none, (some (Value.str (Str.ofString "emacs.gap") 353)), none, (some (Value.ref 0))]))
noncomputable abbrev o134 (P : Params) : Obj := (Obj.mk (Value.type "tuple") none (Data.seq (List.toArray []) 0) (List.toArray []))
noncomputable abbrev o135 (P : Params) : Obj := (Obj.mk Value.none none (Data.fields (List.toArray [])) (List.toArray []))
noncomputable abbrev o136 (P : Params) : Obj := (Obj.mk (Value.type "tuple") none (Data.seq (List.toArray [(Value.str (Str.ofString "self") 370), (Value.str (Str.ofString "codes") 371), (Value.str (Str.ofString "room") 372)]) 0) (List.toArray []))
noncomputable abbrev o137 (P : Params) : Obj := (Obj.mk (Value.type "tuple") none (Data.seq (List.toArray []) 0) (List.toArray []))
noncomputable abbrev o138 (P : Params) : Obj := (Obj.mk Value.none none (Data.func (FuncData.mk (Str.ofString "__init__") (Str.ofString "GapText.__init__") (fnArgs (stIn 17 0)) (FuncBody.stmts (bodyOf (stIn 17 0))) (fnScope (stIn 17 0)) 0 [] Value.none Value.none Value.none Value.none none Value.none Value.none 0)) (List.toArray []))
noncomputable abbrev o139 (P : Params) : Obj := (Obj.mk (Value.type "code") none (Data.fields (List.toArray [(Value.str (Str.ofString "__init__") 367), (Value.str (Str.ofString "GapText.__init__") 368), (Value.str (Str.ofString "/claim/cut.py") 369), (Value.int (98 : Int) 0), (Value.int (3 : Int) 0), (Value.int (0 : Int) 0), (Value.int (0 : Int) 0), (Value.int (3 : Int) 0), (Value.ref 134), (Value.bool Bool.true), (Value.int (181 : Int) 0), (Value.ref 135), Value.none, (Value.ref 136), (Value.ref 137), (Value.ref 138), (Value.int (373 : Int) 0), (Value.int (98 : Int) 0), (Value.str (Str.ofString "/claim/cut.py") 374)])) (List.toArray []))
noncomputable abbrev o140 (P : Params) : Obj := (Obj.mk (Value.type "function") none (Data.func (FuncData.mk (Str.ofString "__init__") (Str.ofString "GapText.__init__") (fnArgs (stIn 17 0)) (FuncBody.stmts (bodyOf (stIn 17 0))) (fnScope (stIn 17 0)) 3 [] Value.none Value.none Value.none (Value.str (Str.ofString "emacs.gap") 353) none (Value.ref 139) Value.none 0)) (List.toArray []))
noncomputable abbrev o141 (P : Params) : Obj := (Obj.mk (Value.type "tuple") none (Data.seq (List.toArray []) 0) (List.toArray []))
noncomputable abbrev o142 (P : Params) : Obj := (Obj.mk Value.none none (Data.fields (List.toArray [])) (List.toArray []))
noncomputable abbrev o143 (P : Params) : Obj := (Obj.mk (Value.type "tuple") none (Data.seq (List.toArray [(Value.str (Str.ofString "self") 379)]) 0) (List.toArray []))
noncomputable abbrev o144 (P : Params) : Obj := (Obj.mk (Value.type "tuple") none (Data.seq (List.toArray []) 0) (List.toArray []))
noncomputable abbrev o145 (P : Params) : Obj := (Obj.mk Value.none none (Data.func (FuncData.mk (Str.ofString "size") (Str.ofString "GapText.size") (fnArgs (stIn 17 1)) (FuncBody.stmts (bodyOf (stIn 17 1))) (fnScope (stIn 17 1)) 0 [] Value.none Value.none Value.none Value.none none Value.none Value.none 0)) (List.toArray []))
noncomputable abbrev o146 (P : Params) : Obj := (Obj.mk (Value.type "code") none (Data.fields (List.toArray [(Value.str (Str.ofString "size") 376), (Value.str (Str.ofString "GapText.size") 377), (Value.str (Str.ofString "/claim/cut.py") 378), (Value.int (104 : Int) 0), (Value.int (1 : Int) 0), (Value.int (0 : Int) 0), (Value.int (0 : Int) 0), (Value.int (3 : Int) 0), (Value.ref 141), (Value.bool Bool.true), (Value.int (181 : Int) 0), (Value.ref 142), Value.none, (Value.ref 143), (Value.ref 144), (Value.ref 145), (Value.int (380 : Int) 0), (Value.int (104 : Int) 0), (Value.str (Str.ofString "/claim/cut.py") 381)])) (List.toArray []))
noncomputable abbrev o147 (P : Params) : Obj := (Obj.mk (Value.type "function") none (Data.func (FuncData.mk (Str.ofString "size") (Str.ofString "GapText.size") (fnArgs (stIn 17 1)) (FuncBody.stmts (bodyOf (stIn 17 1))) (fnScope (stIn 17 1)) 3 [] Value.none Value.none Value.none (Value.str (Str.ofString "emacs.gap") 353) none (Value.ref 146) Value.none 0)) (List.toArray []))
noncomputable abbrev o148 (P : Params) : Obj := (Obj.mk (Value.type "tuple") none (Data.seq (List.toArray []) 0) (List.toArray []))
noncomputable abbrev o149 (P : Params) : Obj := (Obj.mk Value.none none (Data.fields (List.toArray [])) (List.toArray []))
noncomputable abbrev o150 (P : Params) : Obj := (Obj.mk (Value.type "tuple") none (Data.seq (List.toArray [(Value.str (Str.ofString "self") 386), (Value.str (Str.ofString "at") 387)]) 0) (List.toArray []))
noncomputable abbrev o151 (P : Params) : Obj := (Obj.mk (Value.type "tuple") none (Data.seq (List.toArray []) 0) (List.toArray []))
noncomputable abbrev o152 (P : Params) : Obj := (Obj.mk Value.none none (Data.func (FuncData.mk (Str.ofString "code") (Str.ofString "GapText.code") (fnArgs (stIn 17 2)) (FuncBody.stmts (bodyOf (stIn 17 2))) (fnScope (stIn 17 2)) 0 [] Value.none Value.none Value.none Value.none none Value.none Value.none 0)) (List.toArray []))
noncomputable abbrev o153 (P : Params) : Obj := (Obj.mk (Value.type "code") none (Data.fields (List.toArray [(Value.str (Str.ofString "code") 383), (Value.str (Str.ofString "GapText.code") 384), (Value.str (Str.ofString "/claim/cut.py") 385), (Value.int (107 : Int) 0), (Value.int (2 : Int) 0), (Value.int (0 : Int) 0), (Value.int (0 : Int) 0), (Value.int (3 : Int) 0), (Value.ref 148), (Value.bool Bool.true), (Value.int (181 : Int) 0), (Value.ref 149), Value.none, (Value.ref 150), (Value.ref 151), (Value.ref 152), (Value.int (388 : Int) 0), (Value.int (107 : Int) 0), (Value.str (Str.ofString "/claim/cut.py") 389)])) (List.toArray []))
noncomputable abbrev o154 (P : Params) : Obj := (Obj.mk (Value.type "function") none (Data.func (FuncData.mk (Str.ofString "code") (Str.ofString "GapText.code") (fnArgs (stIn 17 2)) (FuncBody.stmts (bodyOf (stIn 17 2))) (fnScope (stIn 17 2)) 3 [] Value.none Value.none Value.none (Value.str (Str.ofString "emacs.gap") 353) none (Value.ref 153) Value.none 0)) (List.toArray []))
noncomputable abbrev o155 (P : Params) : Obj := (Obj.mk (Value.type "tuple") none (Data.seq (List.toArray []) 0) (List.toArray []))
noncomputable abbrev o156 (P : Params) : Obj := (Obj.mk Value.none none (Data.fields (List.toArray [])) (List.toArray []))
noncomputable abbrev o157 (P : Params) : Obj := (Obj.mk (Value.type "tuple") none (Data.seq (List.toArray [(Value.str (Str.ofString "self") 394), (Value.str (Str.ofString "start") 395), (Value.str (Str.ofString "end") 396), (Value.str (Str.ofString "shift") 397)]) 0) (List.toArray []))
noncomputable abbrev o158 (P : Params) : Obj := (Obj.mk (Value.type "tuple") none (Data.seq (List.toArray []) 0) (List.toArray []))
noncomputable abbrev o159 (P : Params) : Obj := (Obj.mk Value.none none (Data.func (FuncData.mk (Str.ofString "codes") (Str.ofString "GapText.codes") (fnArgs (stIn 17 3)) (FuncBody.stmts (bodyOf (stIn 17 3))) (fnScope (stIn 17 3)) 0 [] Value.none Value.none Value.none Value.none none Value.none Value.none 0)) (List.toArray []))
noncomputable abbrev o160 (P : Params) : Obj := (Obj.mk (Value.type "code") none (Data.fields (List.toArray [(Value.str (Str.ofString "codes") 391), (Value.str (Str.ofString "GapText.codes") 392), (Value.str (Str.ofString "/claim/cut.py") 393), (Value.int (112 : Int) 0), (Value.int (3 : Int) 0), (Value.int (0 : Int) 0), (Value.int (0 : Int) 0), (Value.int (3 : Int) 0), (Value.ref 155), (Value.bool Bool.true), (Value.int (181 : Int) 0), (Value.ref 156), Value.none, (Value.ref 157), (Value.ref 158), (Value.ref 159), (Value.int (398 : Int) 0), (Value.int (112 : Int) 0), (Value.str (Str.ofString "/claim/cut.py") 399)])) (List.toArray []))
noncomputable abbrev o161 (P : Params) : Obj := (Obj.mk (Value.type "function") none (Data.func (FuncData.mk (Str.ofString "codes") (Str.ofString "GapText.codes") (fnArgs (stIn 17 3)) (FuncBody.stmts (bodyOf (stIn 17 3))) (fnScope (stIn 17 3)) 3 [] Value.none Value.none Value.none (Value.str (Str.ofString "emacs.gap") 353) none (Value.ref 160) Value.none 0)) (List.toArray []))
noncomputable abbrev o162 (P : Params) : Obj := (Obj.mk (Value.type "tuple") none (Data.seq (List.toArray []) 0) (List.toArray []))
noncomputable abbrev o163 (P : Params) : Obj := (Obj.mk Value.none none (Data.fields (List.toArray [])) (List.toArray []))
noncomputable abbrev o164 (P : Params) : Obj := (Obj.mk (Value.type "tuple") none (Data.seq (List.toArray [(Value.str (Str.ofString "self") 404), (Value.str (Str.ofString "at") 405), (Value.str (Str.ofString "moved") 406)]) 0) (List.toArray []))
noncomputable abbrev o165 (P : Params) : Obj := (Obj.mk (Value.type "tuple") none (Data.seq (List.toArray []) 0) (List.toArray []))
noncomputable abbrev o166 (P : Params) : Obj := (Obj.mk Value.none none (Data.func (FuncData.mk (Str.ofString "move_gap") (Str.ofString "GapText.move_gap") (fnArgs (stIn 17 4)) (FuncBody.stmts (bodyOf (stIn 17 4))) (fnScope (stIn 17 4)) 0 [] Value.none Value.none Value.none Value.none none Value.none Value.none 0)) (List.toArray []))
noncomputable abbrev o167 (P : Params) : Obj := (Obj.mk (Value.type "code") none (Data.fields (List.toArray [(Value.str (Str.ofString "move_gap") 401), (Value.str (Str.ofString "GapText.move_gap") 402), (Value.str (Str.ofString "/claim/cut.py") 403), (Value.int (120 : Int) 0), (Value.int (2 : Int) 0), (Value.int (0 : Int) 0), (Value.int (0 : Int) 0), (Value.int (3 : Int) 0), (Value.ref 162), (Value.bool Bool.true), (Value.int (181 : Int) 0), (Value.ref 163), Value.none, (Value.ref 164), (Value.ref 165), (Value.ref 166), (Value.int (407 : Int) 0), (Value.int (120 : Int) 0), (Value.str (Str.ofString "/claim/cut.py") 408)])) (List.toArray []))
noncomputable abbrev o168 (P : Params) : Obj := (Obj.mk (Value.type "function") none (Data.func (FuncData.mk (Str.ofString "move_gap") (Str.ofString "GapText.move_gap") (fnArgs (stIn 17 4)) (FuncBody.stmts (bodyOf (stIn 17 4))) (fnScope (stIn 17 4)) 3 [] Value.none Value.none Value.none (Value.str (Str.ofString "emacs.gap") 353) none (Value.ref 167) Value.none 0)) (List.toArray []))
noncomputable abbrev o169 (P : Params) : Obj := (Obj.mk (Value.type "tuple") none (Data.seq (List.toArray []) 0) (List.toArray []))
noncomputable abbrev o170 (P : Params) : Obj := (Obj.mk Value.none none (Data.fields (List.toArray [])) (List.toArray []))
noncomputable abbrev o171 (P : Params) : Obj := (Obj.mk (Value.type "tuple") none (Data.seq (List.toArray [(Value.str (Str.ofString "self") 413), (Value.str (Str.ofString "wanted") 414), (Value.str (Str.ofString "lack") 415)]) 0) (List.toArray []))
noncomputable abbrev o172 (P : Params) : Obj := (Obj.mk (Value.type "tuple") none (Data.seq (List.toArray []) 0) (List.toArray []))
noncomputable abbrev o173 (P : Params) : Obj := (Obj.mk Value.none none (Data.func (FuncData.mk (Str.ofString "widen_gap") (Str.ofString "GapText.widen_gap") (fnArgs (stIn 17 5)) (FuncBody.stmts (bodyOf (stIn 17 5))) (fnScope (stIn 17 5)) 0 [] Value.none Value.none Value.none Value.none none Value.none Value.none 0)) (List.toArray []))
noncomputable abbrev o174 (P : Params) : Obj := (Obj.mk (Value.type "code") none (Data.fields (List.toArray [(Value.str (Str.ofString "widen_gap") 410), (Value.str (Str.ofString "GapText.widen_gap") 411), (Value.str (Str.ofString "/claim/cut.py") 412), (Value.int (131 : Int) 0), (Value.int (2 : Int) 0), (Value.int (0 : Int) 0), (Value.int (0 : Int) 0), (Value.int (3 : Int) 0), (Value.ref 169), (Value.bool Bool.true), (Value.int (181 : Int) 0), (Value.ref 170), Value.none, (Value.ref 171), (Value.ref 172), (Value.ref 173), (Value.int (416 : Int) 0), (Value.int (131 : Int) 0), (Value.str (Str.ofString "/claim/cut.py") 417)])) (List.toArray []))
noncomputable abbrev o175 (P : Params) : Obj := (Obj.mk (Value.type "function") none (Data.func (FuncData.mk (Str.ofString "widen_gap") (Str.ofString "GapText.widen_gap") (fnArgs (stIn 17 5)) (FuncBody.stmts (bodyOf (stIn 17 5))) (fnScope (stIn 17 5)) 3 [] Value.none Value.none Value.none (Value.str (Str.ofString "emacs.gap") 353) none (Value.ref 174) Value.none 0)) (List.toArray []))
noncomputable abbrev o176 (P : Params) : Obj := (Obj.mk (Value.type "tuple") none (Data.seq (List.toArray []) 0) (List.toArray []))
noncomputable abbrev o177 (P : Params) : Obj := (Obj.mk Value.none none (Data.fields (List.toArray [])) (List.toArray []))
noncomputable abbrev o178 (P : Params) : Obj := (Obj.mk (Value.type "tuple") none (Data.seq (List.toArray [(Value.str (Str.ofString "self") 422), (Value.str (Str.ofString "at") 423), (Value.str (Str.ofString "codes") 424)]) 0) (List.toArray []))
noncomputable abbrev o179 (P : Params) : Obj := (Obj.mk (Value.type "tuple") none (Data.seq (List.toArray []) 0) (List.toArray []))
noncomputable abbrev o180 (P : Params) : Obj := (Obj.mk Value.none none (Data.func (FuncData.mk (Str.ofString "insert") (Str.ofString "GapText.insert") (fnArgs (stIn 17 6)) (FuncBody.stmts (bodyOf (stIn 17 6))) (fnScope (stIn 17 6)) 0 [] Value.none Value.none Value.none Value.none none Value.none Value.none 0)) (List.toArray []))
noncomputable abbrev o181 (P : Params) : Obj := (Obj.mk (Value.type "code") none (Data.fields (List.toArray [(Value.str (Str.ofString "insert") 419), (Value.str (Str.ofString "GapText.insert") 420), (Value.str (Str.ofString "/claim/cut.py") 421), (Value.int (137 : Int) 0), (Value.int (3 : Int) 0), (Value.int (0 : Int) 0), (Value.int (0 : Int) 0), (Value.int (3 : Int) 0), (Value.ref 176), (Value.bool Bool.true), (Value.int (181 : Int) 0), (Value.ref 177), Value.none, (Value.ref 178), (Value.ref 179), (Value.ref 180), (Value.int (425 : Int) 0), (Value.int (137 : Int) 0), (Value.str (Str.ofString "/claim/cut.py") 426)])) (List.toArray []))
noncomputable abbrev o182 (P : Params) : Obj := (Obj.mk (Value.type "function") none (Data.func (FuncData.mk (Str.ofString "insert") (Str.ofString "GapText.insert") (fnArgs (stIn 17 6)) (FuncBody.stmts (bodyOf (stIn 17 6))) (fnScope (stIn 17 6)) 3 [] Value.none Value.none Value.none (Value.str (Str.ofString "emacs.gap") 353) none (Value.ref 181) Value.none 0)) (List.toArray []))
noncomputable abbrev o183 (P : Params) : Obj := (Obj.mk (Value.type "tuple") none (Data.seq (List.toArray []) 0) (List.toArray []))
noncomputable abbrev o184 (P : Params) : Obj := (Obj.mk Value.none none (Data.fields (List.toArray [])) (List.toArray []))
noncomputable abbrev o185 (P : Params) : Obj := (Obj.mk (Value.type "tuple") none (Data.seq (List.toArray [(Value.str (Str.ofString "self") 431), (Value.str (Str.ofString "start") 432), (Value.str (Str.ofString "end") 433), (Value.str (Str.ofString "gone") 434)]) 0) (List.toArray []))
noncomputable abbrev o186 (P : Params) : Obj := (Obj.mk (Value.type "tuple") none (Data.seq (List.toArray []) 0) (List.toArray []))
noncomputable abbrev o187 (P : Params) : Obj := (Obj.mk Value.none none (Data.func (FuncData.mk (Str.ofString "delete") (Str.ofString "GapText.delete") (fnArgs (stIn 17 7)) (FuncBody.stmts (bodyOf (stIn 17 7))) (fnScope (stIn 17 7)) 0 [] Value.none Value.none Value.none Value.none none Value.none Value.none 0)) (List.toArray []))
noncomputable abbrev o188 (P : Params) : Obj := (Obj.mk (Value.type "code") none (Data.fields (List.toArray [(Value.str (Str.ofString "delete") 428), (Value.str (Str.ofString "GapText.delete") 429), (Value.str (Str.ofString "/claim/cut.py") 430), (Value.int (143 : Int) 0), (Value.int (3 : Int) 0), (Value.int (0 : Int) 0), (Value.int (0 : Int) 0), (Value.int (3 : Int) 0), (Value.ref 183), (Value.bool Bool.true), (Value.int (181 : Int) 0), (Value.ref 184), Value.none, (Value.ref 185), (Value.ref 186), (Value.ref 187), (Value.int (435 : Int) 0), (Value.int (143 : Int) 0), (Value.str (Str.ofString "/claim/cut.py") 436)])) (List.toArray []))
noncomputable abbrev o189 (P : Params) : Obj := (Obj.mk (Value.type "function") none (Data.func (FuncData.mk (Str.ofString "delete") (Str.ofString "GapText.delete") (fnArgs (stIn 17 7)) (FuncBody.stmts (bodyOf (stIn 17 7))) (fnScope (stIn 17 7)) 3 [] Value.none Value.none Value.none (Value.str (Str.ofString "emacs.gap") 353) none (Value.ref 188) Value.none 0)) (List.toArray []))
noncomputable abbrev o190 (P : Params) : Obj := (Obj.mk (Value.type "tuple") none (Data.seq (List.toArray []) 0) (List.toArray []))
noncomputable abbrev o191 (P : Params) : Obj := (Obj.mk Value.none none (Data.fields (List.toArray [])) (List.toArray []))
noncomputable abbrev o192 (P : Params) : Obj := (Obj.mk (Value.type "tuple") none (Data.seq (List.toArray [(Value.str (Str.ofString "self") 441), (Value.str (Str.ofString "at") 442), (Value.str (Str.ofString "code") 443)]) 0) (List.toArray []))
noncomputable abbrev o193 (P : Params) : Obj := (Obj.mk (Value.type "tuple") none (Data.seq (List.toArray []) 0) (List.toArray []))
noncomputable abbrev o194 (P : Params) : Obj := (Obj.mk Value.none none (Data.func (FuncData.mk (Str.ofString "put") (Str.ofString "GapText.put") (fnArgs (stIn 17 8)) (FuncBody.stmts (bodyOf (stIn 17 8))) (fnScope (stIn 17 8)) 0 [] Value.none Value.none Value.none Value.none none Value.none Value.none 0)) (List.toArray []))
noncomputable abbrev o195 (P : Params) : Obj := (Obj.mk (Value.type "code") none (Data.fields (List.toArray [(Value.str (Str.ofString "put") 438), (Value.str (Str.ofString "GapText.put") 439), (Value.str (Str.ofString "/claim/cut.py") 440), (Value.int (153 : Int) 0), (Value.int (3 : Int) 0), (Value.int (0 : Int) 0), (Value.int (0 : Int) 0), (Value.int (3 : Int) 0), (Value.ref 190), (Value.bool Bool.true), (Value.int (181 : Int) 0), (Value.ref 191), Value.none, (Value.ref 192), (Value.ref 193), (Value.ref 194), (Value.int (444 : Int) 0), (Value.int (153 : Int) 0), (Value.str (Str.ofString "/claim/cut.py") 445)])) (List.toArray []))
noncomputable abbrev o196 (P : Params) : Obj := (Obj.mk (Value.type "function") none (Data.func (FuncData.mk (Str.ofString "put") (Str.ofString "GapText.put") (fnArgs (stIn 17 8)) (FuncBody.stmts (bodyOf (stIn 17 8))) (fnScope (stIn 17 8)) 3 [] Value.none Value.none Value.none (Value.str (Str.ofString "emacs.gap") 353) none (Value.ref 195) Value.none 0)) (List.toArray []))
noncomputable abbrev o197 (P : Params) : Obj := (Obj.mk (Value.type "tuple") none (Data.seq (List.toArray []) 0) (List.toArray []))
noncomputable abbrev o198 (P : Params) : Obj := (Obj.mk Value.none none (Data.fields (List.toArray [])) (List.toArray []))
noncomputable abbrev o199 (P : Params) : Obj := (Obj.mk (Value.type "tuple") none (Data.seq (List.toArray [(Value.str (Str.ofString "self") 450)]) 0) (List.toArray []))
noncomputable abbrev o200 (P : Params) : Obj := (Obj.mk (Value.type "tuple") none (Data.seq (List.toArray []) 0) (List.toArray []))
noncomputable abbrev o201 (P : Params) : Obj := (Obj.mk Value.none none (Data.func (FuncData.mk (Str.ofString "narrow_gap") (Str.ofString "GapText.narrow_gap") (fnArgs (stIn 17 9)) (FuncBody.stmts (bodyOf (stIn 17 9))) (fnScope (stIn 17 9)) 0 [] Value.none Value.none Value.none Value.none none Value.none Value.none 0)) (List.toArray []))
noncomputable abbrev o202 (P : Params) : Obj := (Obj.mk (Value.type "code") none (Data.fields (List.toArray [(Value.str (Str.ofString "narrow_gap") 447), (Value.str (Str.ofString "GapText.narrow_gap") 448), (Value.str (Str.ofString "/claim/cut.py") 449), (Value.int (156 : Int) 0), (Value.int (1 : Int) 0), (Value.int (0 : Int) 0), (Value.int (0 : Int) 0), (Value.int (3 : Int) 0), (Value.ref 197), (Value.bool Bool.true), (Value.int (181 : Int) 0), (Value.ref 198), Value.none, (Value.ref 199), (Value.ref 200), (Value.ref 201), (Value.int (451 : Int) 0), (Value.int (156 : Int) 0), (Value.str (Str.ofString "/claim/cut.py") 452)])) (List.toArray []))
noncomputable abbrev o203 (P : Params) : Obj := (Obj.mk (Value.type "function") none (Data.func (FuncData.mk (Str.ofString "narrow_gap") (Str.ofString "GapText.narrow_gap") (fnArgs (stIn 17 9)) (FuncBody.stmts (bodyOf (stIn 17 9))) (fnScope (stIn 17 9)) 3 [] Value.none Value.none Value.none (Value.str (Str.ofString "emacs.gap") 353) none (Value.ref 202) Value.none 0)) (List.toArray []))
noncomputable abbrev o204 (P : Params) : Obj := (Obj.mk (Value.type "tuple") none (Data.seq (List.toArray []) 0) (List.toArray []))
noncomputable abbrev o205 (P : Params) : Obj := (Obj.mk Value.none none (Data.fields (List.toArray [])) (List.toArray []))
noncomputable abbrev o206 (P : Params) : Obj := (Obj.mk (Value.type "tuple") none (Data.seq (List.toArray [(Value.str (Str.ofString "self") 457)]) 0) (List.toArray []))
noncomputable abbrev o207 (P : Params) : Obj := (Obj.mk (Value.type "tuple") none (Data.seq (List.toArray []) 0) (List.toArray []))
noncomputable abbrev o208 (P : Params) : Obj := (Obj.mk Value.none none (Data.func (FuncData.mk (Str.ofString "is_whole") (Str.ofString "GapText.is_whole") (fnArgs (stIn 17 10)) (FuncBody.stmts (bodyOf (stIn 17 10))) (fnScope (stIn 17 9)) 0 [] Value.none Value.none Value.none Value.none none Value.none Value.none 0)) (List.toArray []))
noncomputable abbrev o209 (P : Params) : Obj := (Obj.mk (Value.type "code") none (Data.fields (List.toArray [(Value.str (Str.ofString "is_whole") 454), (Value.str (Str.ofString "GapText.is_whole") 455), (Value.str (Str.ofString "/claim/cut.py") 456), (Value.int (159 : Int) 0), (Value.int (1 : Int) 0), (Value.int (0 : Int) 0), (Value.int (0 : Int) 0), (Value.int (3 : Int) 0), (Value.ref 204), (Value.bool Bool.true), (Value.int (181 : Int) 0), (Value.ref 205), Value.none, (Value.ref 206), (Value.ref 207), (Value.ref 208), (Value.int (458 : Int) 0), (Value.int (159 : Int) 0), (Value.str (Str.ofString "/claim/cut.py") 459)])) (List.toArray []))
noncomputable abbrev o210 (P : Params) : Obj := (Obj.mk (Value.type "function") none (Data.func (FuncData.mk (Str.ofString "is_whole") (Str.ofString "GapText.is_whole") (fnArgs (stIn 17 10)) (FuncBody.stmts (bodyOf (stIn 17 10))) (fnScope (stIn 17 9)) 3 [] Value.none Value.none Value.none (Value.str (Str.ofString "emacs.gap") 353) none (Value.ref 209) Value.none 0)) (List.toArray []))
noncomputable abbrev o211 (P : Params) : Obj := (Obj.mk (Value.type "tuple") none (Data.seq (List.toArray [(Value.str (Str.ofString "cells") 461), (Value.str (Str.ofString "gap_end") 462), (Value.str (Str.ofString "gap_start") 463), (Value.str (Str.ofString "room") 464)]) 0) (List.toArray []))
noncomputable abbrev o212 (P : Params) : Obj := (Obj.mk (Value.type "dict") none (Data.dict (List.toArray [(DictEntry.mk (PyData.keyHash P (Str.ofString "__module__")) (Value.str (Str.ofString "__module__") 362) (Value.str (Str.ofString "emacs.gap") 353)), (DictEntry.mk (PyData.keyHash P (Str.ofString "__firstlineno__")) (Value.str (Str.ofString "__firstlineno__") 366) (Value.int (96 : Int) 365)), (DictEntry.mk (PyData.keyHash P (Str.ofString "__init__")) (Value.str (Str.ofString "__init__") 375) (Value.ref 140)), (DictEntry.mk (PyData.keyHash P (Str.ofString "size")) (Value.str (Str.ofString "size") 382) (Value.ref 147)), (DictEntry.mk (PyData.keyHash P (Str.ofString "code")) (Value.str (Str.ofString "code") 390) (Value.ref 154)), (DictEntry.mk (PyData.keyHash P (Str.ofString "codes")) (Value.str (Str.ofString "codes") 400) (Value.ref 161)), (DictEntry.mk (PyData.keyHash P (Str.ofString "move_gap")) (Value.str (Str.ofString "move_gap") 409) (Value.ref 168)), (DictEntry.mk (PyData.keyHash P (Str.ofString "widen_gap")) (Value.str (Str.ofString "widen_gap") 418) (Value.ref 175)), (DictEntry.mk (PyData.keyHash P (Str.ofString "insert")) (Value.str (Str.ofString "insert") 427) (Value.ref 182)), (DictEntry.mk (PyData.keyHash P (Str.ofString "delete")) (Value.str (Str.ofString "delete") 437) (Value.ref 189)), (DictEntry.mk (PyData.keyHash P (Str.ofString "put")) (Value.str (Str.ofString "put") 446) (Value.ref 196)), (DictEntry.mk (PyData.keyHash P (Str.ofString "narrow_gap")) (Value.str (Str.ofString "narrow_gap") 453) (Value.ref 203)), (DictEntry.mk (PyData.keyHash P (Str.ofString "is_whole")) (Value.str (Str.ofString "is_whole") 460) (Value.ref 210)), (DictEntry.mk (PyData.keyHash P (Str.ofString "__static_attributes__")) (Value.str (Str.ofString "__static_attributes__") 465) (Value.ref 211)), (DictEntry.mk (PyData.keyHash P (Str.ofString "__dict__")) (Value.str (Str.ofString "__dict__") 467) (Value.ref 214)), (DictEntry.mk (PyData.keyHash P (Str.ofString "__weakref__")) (Value.str (Str.ofString "__weakref__") 469) (Value.ref 215)), (DictEntry.mk (PyData.keyHash P (Str.ofString "__doc__")) (Value.str (Str.ofString "__doc__") 470) Value.none)]) 4) (List.toArray []))
noncomputable abbrev o213 (P : Params) : Obj := (Obj.mk (Value.type "type") none (Data.cls (ClassData.mk (Str.ofString "GapText") [(Value.type "object")] [(Value.ref 213), (Value.type "object")] 212 (Str.ofString "GapText") Bool.true [] [] Bool.false none Bool.false)) (List.toArray [none, none, (some (Value.str (Str.ofString "GapText") 355)), (some (Value.str (Str.ofString "GapText") 363)), (some (Value.builtin "object.__new__")), (some (Value.bool Bool.true))]))
noncomputable abbrev o214 (P : Params) : Obj := (Obj.mk (Value.type "getset_descriptor") none (Data.fields (List.toArray [(Value.str (Str.ofString "__dict__") 466), (Value.ref 213), (Value.builtin "function.__dict__"), (Value.builtin "function.__dict__#set")])) (List.toArray []))
noncomputable abbrev o215 (P : Params) : Obj := (Obj.mk (Value.type "getset_descriptor") none (Data.fields (List.toArray [(Value.str (Str.ofString "__weakref__") 468), (Value.ref 213), (Value.builtin "ExceptionGroup.__weakref__"), Value.none])) (List.toArray []))
noncomputable abbrev o216 (P : Params) : Obj := (Obj.mk (Value.type "super") none (Data.fields (List.toArray [(Value.ref 213), (Value.ref 213), (Value.ref 213)])) (List.toArray []))
noncomputable abbrev o217 (P : Params) : Obj := (Obj.mk (Value.type "builtin_function_or_method") none (Data.fields (List.toArray [(Value.builtin "object.__init_subclass__"), (Value.ref 213)])) (List.toArray []))
noncomputable abbrev o218 (P : Params) : Obj := (Obj.mk (Value.type "tuple") none (Data.seq (List.toArray []) 0) (List.toArray []))
noncomputable abbrev o219 (P : Params) : Obj := (Obj.mk (Value.type "builtin_function_or_method") none (Data.fields (List.toArray [(Value.builtin "type.__prepare__"), (Value.type "type")])) (List.toArray []))
noncomputable abbrev o220 (P : Params) : Obj := (Obj.mk (Value.type "dict") none (Data.dict (List.toArray [(DictEntry.mk (PyData.keyHash P (Str.ofString "__module__")) (Value.str (Str.ofString "__module__") 482) (Value.str (Str.ofString "emacs.objects") 473)), (DictEntry.mk (PyData.keyHash P (Str.ofString "__qualname__")) (Value.str (Str.ofString "__qualname__") 484) (Value.str (Str.ofString "Opaque") 483)), (DictEntry.mk (PyData.keyHash P (Str.ofString "__firstlineno__")) (Value.str (Str.ofString "__firstlineno__") 486) (Value.int (162 : Int) 485)), (DictEntry.mk (PyData.keyHash P (Str.ofString "shown")) (Value.str (Str.ofString "shown") 493) (Value.ref 231)), (DictEntry.mk (PyData.keyHash P (Str.ofString "kind")) (Value.str (Str.ofString "kind") 500) (Value.ref 238)), (DictEntry.mk (PyData.keyHash P (Str.ofString "same_as")) (Value.str (Str.ofString "same_as") 508) (Value.ref 245)), (DictEntry.mk (PyData.keyHash P (Str.ofString "__static_attributes__")) (Value.str (Str.ofString "__static_attributes__") 509) (Value.ref 246))]) 7) (List.toArray []))
noncomputable abbrev o221 (P : Params) : Obj := (Obj.mk (Value.type "tuple") none (Data.seq (List.toArray []) 0) (List.toArray []))
noncomputable abbrev o222 (P : Params) : Obj := (Obj.mk Value.none none (Data.fields (List.toArray [(Value.int (164 : Int) 0), (Value.int (4 : Int) 0), (Value.ref 230), (Value.int (167 : Int) 0), (Value.int (4 : Int) 0), (Value.ref 237), (Value.int (170 : Int) 0), (Value.int (4 : Int) 0), (Value.ref 244)])) (List.toArray []))
noncomputable abbrev o223 (P : Params) : Obj := (Obj.mk (Value.type "code") none (Data.fields (List.toArray [(Value.str (Str.ofString "Opaque") 477), (Value.str (Str.ofString "Opaque") 478), (Value.str (Str.ofString "/claim/cut.py") 479), (Value.int (162 : Int) 0), (Value.int (0 : Int) 0), (Value.int (0 : Int) 0), (Value.int (0 : Int) 0), (Value.int (0 : Int) 0), (Value.ref 221), (Value.bool Bool.false), (Value.int (181 : Int) 0), (Value.ref 222), Value.none, Value.none, Value.none, Value.none, (Value.int (480 : Int) 0), (Value.int (162 : Int) 0), (Value.str (Str.ofString "/claim/cut.py") 481)])) (List.toArray []))
noncomputable abbrev o224 (P : Params) : Obj := (Obj.mk (Value.type "frame") none Data.plain (List.toArray [(some (Value.ref 223)), (some (Value.ref 3)), (some (Value.ref 220)), none, (some (Value.str (Str.ofString "emacs.objects") 473)), none, (some (Value.ref 0))]))
noncomputable abbrev o225 (P : Params) : Obj := (Obj.mk (Value.type "tuple") none (Data.seq (List.toArray []) 0) (List.toArray []))
noncomputable abbrev o226 (P : Params) : Obj := (Obj.mk Value.none none (Data.fields (List.toArray [])) (List.toArray []))
noncomputable abbrev o227 (P : Params) : Obj := (Obj.mk (Value.type "tuple") none (Data.seq (List.toArray [(Value.str (Str.ofString "self") 490)]) 0) (List.toArray []))
noncomputable abbrev o228 (P : Params) : Obj := (Obj.mk (Value.type "tuple") none (Data.seq (List.toArray []) 0) (List.toArray []))
noncomputable abbrev o229 (P : Params) : Obj := (Obj.mk Value.none none (Data.func (FuncData.mk (Str.ofString "shown") (Str.ofString "Opaque.shown") (fnArgs (stIn 19 0)) (FuncBody.stmts (bodyOf (stIn 19 0))) (fnScope (stIn 17 9)) 0 [] Value.none Value.none Value.none Value.none none Value.none Value.none 0)) (List.toArray []))
noncomputable abbrev o230 (P : Params) : Obj := (Obj.mk (Value.type "code") none (Data.fields (List.toArray [(Value.str (Str.ofString "shown") 487), (Value.str (Str.ofString "Opaque.shown") 488), (Value.str (Str.ofString "/claim/cut.py") 489), (Value.int (164 : Int) 0), (Value.int (1 : Int) 0), (Value.int (0 : Int) 0), (Value.int (0 : Int) 0), (Value.int (3 : Int) 0), (Value.ref 225), (Value.bool Bool.true), (Value.int (181 : Int) 0), (Value.ref 226), Value.none, (Value.ref 227), (Value.ref 228), (Value.ref 229), (Value.int (491 : Int) 0), (Value.int (164 : Int) 0), (Value.str (Str.ofString "/claim/cut.py") 492)])) (List.toArray []))
noncomputable abbrev o231 (P : Params) : Obj := (Obj.mk (Value.type "function") none (Data.func (FuncData.mk (Str.ofString "shown") (Str.ofString "Opaque.shown") (fnArgs (stIn 19 0)) (FuncBody.stmts (bodyOf (stIn 19 0))) (fnScope (stIn 17 9)) 3 [] Value.none Value.none Value.none (Value.str (Str.ofString "emacs.objects") 473) none (Value.ref 230) Value.none 0)) (List.toArray []))
noncomputable abbrev o232 (P : Params) : Obj := (Obj.mk (Value.type "tuple") none (Data.seq (List.toArray []) 0) (List.toArray []))
noncomputable abbrev o233 (P : Params) : Obj := (Obj.mk Value.none none (Data.fields (List.toArray [])) (List.toArray []))
noncomputable abbrev o234 (P : Params) : Obj := (Obj.mk (Value.type "tuple") none (Data.seq (List.toArray [(Value.str (Str.ofString "self") 497)]) 0) (List.toArray []))
noncomputable abbrev o235 (P : Params) : Obj := (Obj.mk (Value.type "tuple") none (Data.seq (List.toArray []) 0) (List.toArray []))
noncomputable abbrev o236 (P : Params) : Obj := (Obj.mk Value.none none (Data.func (FuncData.mk (Str.ofString "kind") (Str.ofString "Opaque.kind") (fnArgs (stIn 19 1)) (FuncBody.stmts (bodyOf (stIn 19 1))) (fnScope (stIn 17 9)) 0 [] Value.none Value.none Value.none Value.none none Value.none Value.none 0)) (List.toArray []))
noncomputable abbrev o237 (P : Params) : Obj := (Obj.mk (Value.type "code") none (Data.fields (List.toArray [(Value.str (Str.ofString "kind") 494), (Value.str (Str.ofString "Opaque.kind") 495), (Value.str (Str.ofString "/claim/cut.py") 496), (Value.int (167 : Int) 0), (Value.int (1 : Int) 0), (Value.int (0 : Int) 0), (Value.int (0 : Int) 0), (Value.int (3 : Int) 0), (Value.ref 232), (Value.bool Bool.true), (Value.int (181 : Int) 0), (Value.ref 233), Value.none, (Value.ref 234), (Value.ref 235), (Value.ref 236), (Value.int (498 : Int) 0), (Value.int (167 : Int) 0), (Value.str (Str.ofString "/claim/cut.py") 499)])) (List.toArray []))
noncomputable abbrev o238 (P : Params) : Obj := (Obj.mk (Value.type "function") none (Data.func (FuncData.mk (Str.ofString "kind") (Str.ofString "Opaque.kind") (fnArgs (stIn 19 1)) (FuncBody.stmts (bodyOf (stIn 19 1))) (fnScope (stIn 17 9)) 3 [] Value.none Value.none Value.none (Value.str (Str.ofString "emacs.objects") 473) none (Value.ref 237) Value.none 0)) (List.toArray []))
noncomputable abbrev o239 (P : Params) : Obj := (Obj.mk (Value.type "tuple") none (Data.seq (List.toArray []) 0) (List.toArray []))
noncomputable abbrev o240 (P : Params) : Obj := (Obj.mk Value.none none (Data.fields (List.toArray [])) (List.toArray []))
noncomputable abbrev o241 (P : Params) : Obj := (Obj.mk (Value.type "tuple") none (Data.seq (List.toArray [(Value.str (Str.ofString "self") 504), (Value.str (Str.ofString "other") 505)]) 0) (List.toArray []))
noncomputable abbrev o242 (P : Params) : Obj := (Obj.mk (Value.type "tuple") none (Data.seq (List.toArray []) 0) (List.toArray []))
noncomputable abbrev o243 (P : Params) : Obj := (Obj.mk Value.none none (Data.func (FuncData.mk (Str.ofString "same_as") (Str.ofString "Opaque.same_as") (fnArgs (stIn 19 2)) (FuncBody.stmts (bodyOf (stIn 19 2))) (fnScope (stIn 19 2)) 0 [] Value.none Value.none Value.none Value.none none Value.none Value.none 0)) (List.toArray []))
noncomputable abbrev o244 (P : Params) : Obj := (Obj.mk (Value.type "code") none (Data.fields (List.toArray [(Value.str (Str.ofString "same_as") 501), (Value.str (Str.ofString "Opaque.same_as") 502), (Value.str (Str.ofString "/claim/cut.py") 503), (Value.int (170 : Int) 0), (Value.int (2 : Int) 0), (Value.int (0 : Int) 0), (Value.int (0 : Int) 0), (Value.int (3 : Int) 0), (Value.ref 239), (Value.bool Bool.true), (Value.int (181 : Int) 0), (Value.ref 240), Value.none, (Value.ref 241), (Value.ref 242), (Value.ref 243), (Value.int (506 : Int) 0), (Value.int (170 : Int) 0), (Value.str (Str.ofString "/claim/cut.py") 507)])) (List.toArray []))
noncomputable abbrev o245 (P : Params) : Obj := (Obj.mk (Value.type "function") none (Data.func (FuncData.mk (Str.ofString "same_as") (Str.ofString "Opaque.same_as") (fnArgs (stIn 19 2)) (FuncBody.stmts (bodyOf (stIn 19 2))) (fnScope (stIn 19 2)) 3 [] Value.none Value.none Value.none (Value.str (Str.ofString "emacs.objects") 473) none (Value.ref 244) Value.none 0)) (List.toArray []))
noncomputable abbrev o246 (P : Params) : Obj := (Obj.mk (Value.type "tuple") none (Data.seq (List.toArray []) 0) (List.toArray []))
noncomputable abbrev o247 (P : Params) : Obj := (Obj.mk (Value.type "dict") none (Data.dict (List.toArray [(DictEntry.mk (PyData.keyHash P (Str.ofString "__module__")) (Value.str (Str.ofString "__module__") 482) (Value.str (Str.ofString "emacs.objects") 473)), (DictEntry.mk (PyData.keyHash P (Str.ofString "__firstlineno__")) (Value.str (Str.ofString "__firstlineno__") 486) (Value.int (162 : Int) 485)), (DictEntry.mk (PyData.keyHash P (Str.ofString "shown")) (Value.str (Str.ofString "shown") 493) (Value.ref 231)), (DictEntry.mk (PyData.keyHash P (Str.ofString "kind")) (Value.str (Str.ofString "kind") 500) (Value.ref 238)), (DictEntry.mk (PyData.keyHash P (Str.ofString "same_as")) (Value.str (Str.ofString "same_as") 508) (Value.ref 245)), (DictEntry.mk (PyData.keyHash P (Str.ofString "__static_attributes__")) (Value.str (Str.ofString "__static_attributes__") 509) (Value.ref 246)), (DictEntry.mk (PyData.keyHash P (Str.ofString "__dict__")) (Value.str (Str.ofString "__dict__") 511) (Value.ref 249)), (DictEntry.mk (PyData.keyHash P (Str.ofString "__weakref__")) (Value.str (Str.ofString "__weakref__") 513) (Value.ref 250)), (DictEntry.mk (PyData.keyHash P (Str.ofString "__doc__")) (Value.str (Str.ofString "__doc__") 514) Value.none)]) 4) (List.toArray []))
noncomputable abbrev o248 (P : Params) : Obj := (Obj.mk (Value.type "type") none (Data.cls (ClassData.mk (Str.ofString "Opaque") [(Value.type "object")] [(Value.ref 248), (Value.type "object")] 247 (Str.ofString "Opaque") Bool.true [] [(Value.ref 290), (Value.ref 464)] Bool.false none Bool.false)) (List.toArray [none, none, (some (Value.str (Str.ofString "Opaque") 475)), (some (Value.str (Str.ofString "Opaque") 483)), (some (Value.builtin "object.__new__")), (some (Value.bool Bool.true))]))
noncomputable abbrev o249 (P : Params) : Obj := (Obj.mk (Value.type "getset_descriptor") none (Data.fields (List.toArray [(Value.str (Str.ofString "__dict__") 510), (Value.ref 248), (Value.builtin "function.__dict__"), (Value.builtin "function.__dict__#set")])) (List.toArray []))
noncomputable abbrev o250 (P : Params) : Obj := (Obj.mk (Value.type "getset_descriptor") none (Data.fields (List.toArray [(Value.str (Str.ofString "__weakref__") 512), (Value.ref 248), (Value.builtin "ExceptionGroup.__weakref__"), Value.none])) (List.toArray []))
noncomputable abbrev o251 (P : Params) : Obj := (Obj.mk (Value.type "super") none (Data.fields (List.toArray [(Value.ref 248), (Value.ref 248), (Value.ref 248)])) (List.toArray []))
noncomputable abbrev o252 (P : Params) : Obj := (Obj.mk (Value.type "builtin_function_or_method") none (Data.fields (List.toArray [(Value.builtin "object.__init_subclass__"), (Value.ref 248)])) (List.toArray []))
noncomputable abbrev o253 (P : Params) : Obj := (Obj.mk (Value.type "tuple") none (Data.seq (List.toArray [(Value.ref 248)]) 0) (List.toArray []))
noncomputable abbrev o254 (P : Params) : Obj := (Obj.mk (Value.type "builtin_function_or_method") none (Data.fields (List.toArray [(Value.builtin "type.__prepare__"), (Value.type "type")])) (List.toArray []))
noncomputable abbrev o255 (P : Params) : Obj := (Obj.mk (Value.type "dict") none (Data.dict (List.toArray [(DictEntry.mk (PyData.keyHash P (Str.ofString "__module__")) (Value.str (Str.ofString "__module__") 526) (Value.str (Str.ofString "emacs.markers") 517)), (DictEntry.mk (PyData.keyHash P (Str.ofString "__qualname__")) (Value.str (Str.ofString "__qualname__") 528) (Value.str (Str.ofString "Marker") 527)), (DictEntry.mk (PyData.keyHash P (Str.ofString "__firstlineno__")) (Value.str (Str.ofString "__firstlineno__") 530) (Value.int (173 : Int) 529)), (DictEntry.mk (PyData.keyHash P (Str.ofString "__init__")) (Value.str (Str.ofString "__init__") 539) (Value.ref 266)), (DictEntry.mk (PyData.keyHash P (Str.ofString "shown")) (Value.str (Str.ofString "shown") 546) (Value.ref 273)), (DictEntry.mk (PyData.keyHash P (Str.ofString "kind")) (Value.str (Str.ofString "kind") 553) (Value.ref 280)), (DictEntry.mk (PyData.keyHash P (Str.ofString "same_as")) (Value.str (Str.ofString "same_as") 561) (Value.ref 287)), (DictEntry.mk (PyData.keyHash P (Str.ofString "__static_attributes__")) (Value.str (Str.ofString "__static_attributes__") 566) (Value.ref 288))]) 8) (List.toArray []))
noncomputable abbrev o256 (P : Params) : Obj := (Obj.mk (Value.type "tuple") none (Data.seq (List.toArray []) 0) (List.toArray []))
noncomputable abbrev o257 (P : Params) : Obj := (Obj.mk Value.none none (Data.fields (List.toArray [(Value.int (175 : Int) 0), (Value.int (4 : Int) 0), (Value.ref 265), (Value.int (181 : Int) 0), (Value.int (4 : Int) 0), (Value.ref 272), (Value.int (184 : Int) 0), (Value.int (4 : Int) 0), (Value.ref 279), (Value.int (187 : Int) 0), (Value.int (4 : Int) 0), (Value.ref 286)])) (List.toArray []))
noncomputable abbrev o258 (P : Params) : Obj := (Obj.mk (Value.type "code") none (Data.fields (List.toArray [(Value.str (Str.ofString "Marker") 521), (Value.str (Str.ofString "Marker") 522), (Value.str (Str.ofString "/claim/cut.py") 523), (Value.int (173 : Int) 0), (Value.int (0 : Int) 0), (Value.int (0 : Int) 0), (Value.int (0 : Int) 0), (Value.int (0 : Int) 0), (Value.ref 256), (Value.bool Bool.false), (Value.int (181 : Int) 0), (Value.ref 257), Value.none, Value.none, Value.none, Value.none, (Value.int (524 : Int) 0), (Value.int (173 : Int) 0), (Value.str (Str.ofString "/claim/cut.py") 525)])) (List.toArray []))
noncomputable abbrev o259 (P : Params) : Obj := (Obj.mk (Value.type "frame") none Data.plain (List.toArray [(some (Value.ref 258)), (some (Value.ref 3)), (some (Value.ref 255)), none, (some (Value.str (Str.ofString "emacs.markers") 517)), none, (some (Value.ref 0))]))
noncomputable abbrev o260 (P : Params) : Obj := (Obj.mk (Value.type "tuple") none (Data.seq (List.toArray []) 0) (List.toArray []))
noncomputable abbrev o261 (P : Params) : Obj := (Obj.mk Value.none none (Data.fields (List.toArray [])) (List.toArray []))
noncomputable abbrev o262 (P : Params) : Obj := (Obj.mk (Value.type "tuple") none (Data.seq (List.toArray [(Value.str (Str.ofString "self") 534), (Value.str (Str.ofString "number") 535), (Value.str (Str.ofString "advances") 536)]) 0) (List.toArray []))
noncomputable abbrev o263 (P : Params) : Obj := (Obj.mk (Value.type "tuple") none (Data.seq (List.toArray []) 0) (List.toArray []))
noncomputable abbrev o264 (P : Params) : Obj := (Obj.mk Value.none none (Data.func (FuncData.mk (Str.ofString "__init__") (Str.ofString "Marker.__init__") (fnArgs (stIn 21 0)) (FuncBody.stmts (bodyOf (stIn 21 0))) (fnScope (stIn 21 0)) 0 [] Value.none Value.none Value.none Value.none none Value.none Value.none 0)) (List.toArray []))
noncomputable abbrev o265 (P : Params) : Obj := (Obj.mk (Value.type "code") none (Data.fields (List.toArray [(Value.str (Str.ofString "__init__") 531), (Value.str (Str.ofString "Marker.__init__") 532), (Value.str (Str.ofString "/claim/cut.py") 533), (Value.int (175 : Int) 0), (Value.int (3 : Int) 0), (Value.int (0 : Int) 0), (Value.int (0 : Int) 0), (Value.int (3 : Int) 0), (Value.ref 260), (Value.bool Bool.true), (Value.int (181 : Int) 0), (Value.ref 261), Value.none, (Value.ref 262), (Value.ref 263), (Value.ref 264), (Value.int (537 : Int) 0), (Value.int (175 : Int) 0), (Value.str (Str.ofString "/claim/cut.py") 538)])) (List.toArray []))
noncomputable abbrev o266 (P : Params) : Obj := (Obj.mk (Value.type "function") none (Data.func (FuncData.mk (Str.ofString "__init__") (Str.ofString "Marker.__init__") (fnArgs (stIn 21 0)) (FuncBody.stmts (bodyOf (stIn 21 0))) (fnScope (stIn 21 0)) 3 [] Value.none Value.none Value.none (Value.str (Str.ofString "emacs.markers") 517) none (Value.ref 265) Value.none 0)) (List.toArray []))
noncomputable abbrev o267 (P : Params) : Obj := (Obj.mk (Value.type "tuple") none (Data.seq (List.toArray []) 0) (List.toArray []))
noncomputable abbrev o268 (P : Params) : Obj := (Obj.mk Value.none none (Data.fields (List.toArray [])) (List.toArray []))
noncomputable abbrev o269 (P : Params) : Obj := (Obj.mk (Value.type "tuple") none (Data.seq (List.toArray [(Value.str (Str.ofString "self") 543)]) 0) (List.toArray []))
noncomputable abbrev o270 (P : Params) : Obj := (Obj.mk (Value.type "tuple") none (Data.seq (List.toArray []) 0) (List.toArray []))
noncomputable abbrev o271 (P : Params) : Obj := (Obj.mk Value.none none (Data.func (FuncData.mk (Str.ofString "shown") (Str.ofString "Marker.shown") (fnArgs (stIn 21 1)) (FuncBody.stmts (bodyOf (stIn 21 1))) (fnScope (stIn 17 9)) 0 [] Value.none Value.none Value.none Value.none none Value.none Value.none 0)) (List.toArray []))
noncomputable abbrev o272 (P : Params) : Obj := (Obj.mk (Value.type "code") none (Data.fields (List.toArray [(Value.str (Str.ofString "shown") 540), (Value.str (Str.ofString "Marker.shown") 541), (Value.str (Str.ofString "/claim/cut.py") 542), (Value.int (181 : Int) 0), (Value.int (1 : Int) 0), (Value.int (0 : Int) 0), (Value.int (0 : Int) 0), (Value.int (3 : Int) 0), (Value.ref 267), (Value.bool Bool.true), (Value.int (181 : Int) 0), (Value.ref 268), Value.none, (Value.ref 269), (Value.ref 270), (Value.ref 271), (Value.int (544 : Int) 0), (Value.int (181 : Int) 0), (Value.str (Str.ofString "/claim/cut.py") 545)])) (List.toArray []))
noncomputable abbrev o273 (P : Params) : Obj := (Obj.mk (Value.type "function") none (Data.func (FuncData.mk (Str.ofString "shown") (Str.ofString "Marker.shown") (fnArgs (stIn 21 1)) (FuncBody.stmts (bodyOf (stIn 21 1))) (fnScope (stIn 17 9)) 3 [] Value.none Value.none Value.none (Value.str (Str.ofString "emacs.markers") 517) none (Value.ref 272) Value.none 0)) (List.toArray []))
noncomputable abbrev o274 (P : Params) : Obj := (Obj.mk (Value.type "tuple") none (Data.seq (List.toArray []) 0) (List.toArray []))
noncomputable abbrev o275 (P : Params) : Obj := (Obj.mk Value.none none (Data.fields (List.toArray [])) (List.toArray []))
noncomputable abbrev o276 (P : Params) : Obj := (Obj.mk (Value.type "tuple") none (Data.seq (List.toArray [(Value.str (Str.ofString "self") 550)]) 0) (List.toArray []))
noncomputable abbrev o277 (P : Params) : Obj := (Obj.mk (Value.type "tuple") none (Data.seq (List.toArray []) 0) (List.toArray []))
noncomputable abbrev o278 (P : Params) : Obj := (Obj.mk Value.none none (Data.func (FuncData.mk (Str.ofString "kind") (Str.ofString "Marker.kind") (fnArgs (stIn 21 2)) (FuncBody.stmts (bodyOf (stIn 21 2))) (fnScope (stIn 17 9)) 0 [] Value.none Value.none Value.none Value.none none Value.none Value.none 0)) (List.toArray []))
noncomputable abbrev o279 (P : Params) : Obj := (Obj.mk (Value.type "code") none (Data.fields (List.toArray [(Value.str (Str.ofString "kind") 547), (Value.str (Str.ofString "Marker.kind") 548), (Value.str (Str.ofString "/claim/cut.py") 549), (Value.int (184 : Int) 0), (Value.int (1 : Int) 0), (Value.int (0 : Int) 0), (Value.int (0 : Int) 0), (Value.int (3 : Int) 0), (Value.ref 274), (Value.bool Bool.true), (Value.int (181 : Int) 0), (Value.ref 275), Value.none, (Value.ref 276), (Value.ref 277), (Value.ref 278), (Value.int (551 : Int) 0), (Value.int (184 : Int) 0), (Value.str (Str.ofString "/claim/cut.py") 552)])) (List.toArray []))
noncomputable abbrev o280 (P : Params) : Obj := (Obj.mk (Value.type "function") none (Data.func (FuncData.mk (Str.ofString "kind") (Str.ofString "Marker.kind") (fnArgs (stIn 21 2)) (FuncBody.stmts (bodyOf (stIn 21 2))) (fnScope (stIn 17 9)) 3 [] Value.none Value.none Value.none (Value.str (Str.ofString "emacs.markers") 517) none (Value.ref 279) Value.none 0)) (List.toArray []))
noncomputable abbrev o281 (P : Params) : Obj := (Obj.mk (Value.type "tuple") none (Data.seq (List.toArray []) 0) (List.toArray []))
noncomputable abbrev o282 (P : Params) : Obj := (Obj.mk Value.none none (Data.fields (List.toArray [])) (List.toArray []))
noncomputable abbrev o283 (P : Params) : Obj := (Obj.mk (Value.type "tuple") none (Data.seq (List.toArray [(Value.str (Str.ofString "self") 557), (Value.str (Str.ofString "other") 558)]) 0) (List.toArray []))
noncomputable abbrev o284 (P : Params) : Obj := (Obj.mk (Value.type "tuple") none (Data.seq (List.toArray []) 0) (List.toArray []))
noncomputable abbrev o285 (P : Params) : Obj := (Obj.mk Value.none none (Data.func (FuncData.mk (Str.ofString "same_as") (Str.ofString "Marker.same_as") (fnArgs (stIn 21 3)) (FuncBody.stmts (bodyOf (stIn 21 3))) (fnScope (stIn 19 2)) 0 [] Value.none Value.none Value.none Value.none none Value.none Value.none 0)) (List.toArray []))
noncomputable abbrev o286 (P : Params) : Obj := (Obj.mk (Value.type "code") none (Data.fields (List.toArray [(Value.str (Str.ofString "same_as") 554), (Value.str (Str.ofString "Marker.same_as") 555), (Value.str (Str.ofString "/claim/cut.py") 556), (Value.int (187 : Int) 0), (Value.int (2 : Int) 0), (Value.int (0 : Int) 0), (Value.int (0 : Int) 0), (Value.int (3 : Int) 0), (Value.ref 281), (Value.bool Bool.true), (Value.int (181 : Int) 0), (Value.ref 282), Value.none, (Value.ref 283), (Value.ref 284), (Value.ref 285), (Value.int (559 : Int) 0), (Value.int (187 : Int) 0), (Value.str (Str.ofString "/claim/cut.py") 560)])) (List.toArray []))
noncomputable abbrev o287 (P : Params) : Obj := (Obj.mk (Value.type "function") none (Data.func (FuncData.mk (Str.ofString "same_as") (Str.ofString "Marker.same_as") (fnArgs (stIn 21 3)) (FuncBody.stmts (bodyOf (stIn 21 3))) (fnScope (stIn 19 2)) 3 [] Value.none Value.none Value.none (Value.str (Str.ofString "emacs.markers") 517) none (Value.ref 286) Value.none 0)) (List.toArray []))
noncomputable abbrev o288 (P : Params) : Obj := (Obj.mk (Value.type "tuple") none (Data.seq (List.toArray [(Value.str (Str.ofString "advances") 562), (Value.str (Str.ofString "buffer") 563), (Value.str (Str.ofString "number") 564), (Value.str (Str.ofString "position") 565)]) 0) (List.toArray []))
noncomputable abbrev o289 (P : Params) : Obj := (Obj.mk (Value.type "dict") none (Data.dict (List.toArray [(DictEntry.mk (PyData.keyHash P (Str.ofString "__module__")) (Value.str (Str.ofString "__module__") 526) (Value.str (Str.ofString "emacs.markers") 517)), (DictEntry.mk (PyData.keyHash P (Str.ofString "__firstlineno__")) (Value.str (Str.ofString "__firstlineno__") 530) (Value.int (173 : Int) 529)), (DictEntry.mk (PyData.keyHash P (Str.ofString "__init__")) (Value.str (Str.ofString "__init__") 539) (Value.ref 266)), (DictEntry.mk (PyData.keyHash P (Str.ofString "shown")) (Value.str (Str.ofString "shown") 546) (Value.ref 273)), (DictEntry.mk (PyData.keyHash P (Str.ofString "kind")) (Value.str (Str.ofString "kind") 553) (Value.ref 280)), (DictEntry.mk (PyData.keyHash P (Str.ofString "same_as")) (Value.str (Str.ofString "same_as") 561) (Value.ref 287)), (DictEntry.mk (PyData.keyHash P (Str.ofString "__static_attributes__")) (Value.str (Str.ofString "__static_attributes__") 566) (Value.ref 288)), (DictEntry.mk (PyData.keyHash P (Str.ofString "__doc__")) (Value.str (Str.ofString "__doc__") 567) Value.none)]) 2) (List.toArray []))
noncomputable abbrev o290 (P : Params) : Obj := (Obj.mk (Value.type "type") none (Data.cls (ClassData.mk (Str.ofString "Marker") [(Value.ref 248)] [(Value.ref 290), (Value.ref 248), (Value.type "object")] 289 (Str.ofString "Marker") Bool.true [] [] Bool.false none Bool.false)) (List.toArray [(some (Value.ref 253)), none, (some (Value.str (Str.ofString "Marker") 519)), (some (Value.str (Str.ofString "Marker") 527)), (some (Value.builtin "object.__new__")), (some (Value.bool Bool.true))]))
noncomputable abbrev o291 (P : Params) : Obj := (Obj.mk (Value.type "super") none (Data.fields (List.toArray [(Value.ref 290), (Value.ref 290), (Value.ref 290)])) (List.toArray []))
noncomputable abbrev o292 (P : Params) : Obj := (Obj.mk (Value.type "builtin_function_or_method") none (Data.fields (List.toArray [(Value.builtin "object.__init_subclass__"), (Value.ref 290)])) (List.toArray []))
noncomputable abbrev o293 (P : Params) : Obj := (Obj.mk (Value.type "tuple") none (Data.seq (List.toArray []) 0) (List.toArray []))
noncomputable abbrev o294 (P : Params) : Obj := (Obj.mk (Value.type "builtin_function_or_method") none (Data.fields (List.toArray [(Value.builtin "type.__prepare__"), (Value.type "type")])) (List.toArray []))
noncomputable abbrev o295 (P : Params) : Obj := (Obj.mk (Value.type "dict") none (Data.dict (List.toArray [(DictEntry.mk (PyData.keyHash P (Str.ofString "__module__")) (Value.str (Str.ofString "__module__") 577) (Value.str (Str.ofString "emacs.markers") 517)), (DictEntry.mk (PyData.keyHash P (Str.ofString "__qualname__")) (Value.str (Str.ofString "__qualname__") 579) (Value.str (Str.ofString "Markers") 578)), (DictEntry.mk (PyData.keyHash P (Str.ofString "__firstlineno__")) (Value.str (Str.ofString "__firstlineno__") 581) (Value.int (189 : Int) 580)), (DictEntry.mk (PyData.keyHash P (Str.ofString "__init__")) (Value.str (Str.ofString "__init__") 588) (Value.ref 306)), (DictEntry.mk (PyData.keyHash P (Str.ofString "numbers")) (Value.str (Str.ofString "numbers") 595) (Value.ref 313)), (DictEntry.mk (PyData.keyHash P (Str.ofString "put")) (Value.str (Str.ofString "put") 604) (Value.ref 320)), (DictEntry.mk (PyData.keyHash P (Str.ofString "drop")) (Value.str (Str.ofString "drop") 612) (Value.ref 327)), (DictEntry.mk (PyData.keyHash P (Str.ofString "within")) (Value.str (Str.ofString "within") 623) (Value.ref 334)), (DictEntry.mk (PyData.keyHash P (Str.ofString "inserted")) (Value.str (Str.ofString "inserted") 635) (Value.ref 341)), (DictEntry.mk (PyData.keyHash P (Str.ofString "deleted")) (Value.str (Str.ofString "deleted") 646) (Value.ref 348)), (DictEntry.mk (PyData.keyHash P (Str.ofString "replaced")) (Value.str (Str.ofString "replaced") 658) (Value.ref 355)), (DictEntry.mk (PyData.keyHash P (Str.ofString "__static_attributes__")) (Value.str (Str.ofString "__static_attributes__") 660) (Value.ref 356))]) 12) (List.toArray []))
noncomputable abbrev o296 (P : Params) : Obj := (Obj.mk (Value.type "tuple") none (Data.seq (List.toArray []) 0) (List.toArray []))
noncomputable abbrev o297 (P : Params) : Obj := (Obj.mk Value.none none (Data.fields (List.toArray [(Value.int (191 : Int) 0), (Value.int (4 : Int) 0), (Value.ref 305), (Value.int (194 : Int) 0), (Value.int (4 : Int) 0), (Value.ref 312), (Value.int (197 : Int) 0), (Value.int (4 : Int) 0), (Value.ref 319), (Value.int (201 : Int) 0), (Value.int (4 : Int) 0), (Value.ref 326), (Value.int (205 : Int) 0), (Value.int (4 : Int) 0), (Value.ref 333), (Value.int (212 : Int) 0), (Value.int (4 : Int) 0), (Value.ref 340), (Value.int (218 : Int) 0), (Value.int (4 : Int) 0), (Value.ref 347), (Value.int (226 : Int) 0), (Value.int (4 : Int) 0), (Value.ref 354)])) (List.toArray []))
noncomputable abbrev o298 (P : Params) : Obj := (Obj.mk (Value.type "code") none (Data.fields (List.toArray [(Value.str (Str.ofString "Markers") 572), (Value.str (Str.ofString "Markers") 573), (Value.str (Str.ofString "/claim/cut.py") 574), (Value.int (189 : Int) 0), (Value.int (0 : Int) 0), (Value.int (0 : Int) 0), (Value.int (0 : Int) 0), (Value.int (0 : Int) 0), (Value.ref 296), (Value.bool Bool.false), (Value.int (181 : Int) 0), (Value.ref 297), Value.none, Value.none, Value.none, Value.none, (Value.int (575 : Int) 0), (Value.int (189 : Int) 0), (Value.str (Str.ofString "/claim/cut.py") 576)])) (List.toArray []))
noncomputable abbrev o299 (P : Params) : Obj := (Obj.mk (Value.type "frame") none Data.plain (List.toArray [(some (Value.ref 298)), (some (Value.ref 3)), (some (Value.ref 295)), none, (some (Value.str (Str.ofString "emacs.markers") 517)), none, (some (Value.ref 0))]))
noncomputable abbrev o300 (P : Params) : Obj := (Obj.mk (Value.type "tuple") none (Data.seq (List.toArray []) 0) (List.toArray []))
noncomputable abbrev o301 (P : Params) : Obj := (Obj.mk Value.none none (Data.fields (List.toArray [])) (List.toArray []))
noncomputable abbrev o302 (P : Params) : Obj := (Obj.mk (Value.type "tuple") none (Data.seq (List.toArray [(Value.str (Str.ofString "self") 585)]) 0) (List.toArray []))
noncomputable abbrev o303 (P : Params) : Obj := (Obj.mk (Value.type "tuple") none (Data.seq (List.toArray []) 0) (List.toArray []))
noncomputable abbrev o304 (P : Params) : Obj := (Obj.mk Value.none none (Data.func (FuncData.mk (Str.ofString "__init__") (Str.ofString "Markers.__init__") (fnArgs (stIn 22 0)) (FuncBody.stmts (bodyOf (stIn 22 0))) (fnScope (stIn 22 0)) 0 [] Value.none Value.none Value.none Value.none none Value.none Value.none 0)) (List.toArray []))
noncomputable abbrev o305 (P : Params) : Obj := (Obj.mk (Value.type "code") none (Data.fields (List.toArray [(Value.str (Str.ofString "__init__") 582), (Value.str (Str.ofString "Markers.__init__") 583), (Value.str (Str.ofString "/claim/cut.py") 584), (Value.int (191 : Int) 0), (Value.int (1 : Int) 0), (Value.int (0 : Int) 0), (Value.int (0 : Int) 0), (Value.int (3 : Int) 0), (Value.ref 300), (Value.bool Bool.true), (Value.int (181 : Int) 0), (Value.ref 301), Value.none, (Value.ref 302), (Value.ref 303), (Value.ref 304), (Value.int (586 : Int) 0), (Value.int (191 : Int) 0), (Value.str (Str.ofString "/claim/cut.py") 587)])) (List.toArray []))
noncomputable abbrev o306 (P : Params) : Obj := (Obj.mk (Value.type "function") none (Data.func (FuncData.mk (Str.ofString "__init__") (Str.ofString "Markers.__init__") (fnArgs (stIn 22 0)) (FuncBody.stmts (bodyOf (stIn 22 0))) (fnScope (stIn 22 0)) 3 [] Value.none Value.none Value.none (Value.str (Str.ofString "emacs.markers") 517) none (Value.ref 305) Value.none 0)) (List.toArray []))
noncomputable abbrev o307 (P : Params) : Obj := (Obj.mk (Value.type "tuple") none (Data.seq (List.toArray []) 0) (List.toArray []))
noncomputable abbrev o308 (P : Params) : Obj := (Obj.mk Value.none none (Data.fields (List.toArray [])) (List.toArray []))
noncomputable abbrev o309 (P : Params) : Obj := (Obj.mk (Value.type "tuple") none (Data.seq (List.toArray [(Value.str (Str.ofString "self") 592)]) 0) (List.toArray []))
noncomputable abbrev o310 (P : Params) : Obj := (Obj.mk (Value.type "tuple") none (Data.seq (List.toArray []) 0) (List.toArray []))
noncomputable abbrev o311 (P : Params) : Obj := (Obj.mk Value.none none (Data.func (FuncData.mk (Str.ofString "numbers") (Str.ofString "Markers.numbers") (fnArgs (stIn 22 1)) (FuncBody.stmts (bodyOf (stIn 22 1))) (fnScope (stIn 22 1)) 0 [] Value.none Value.none Value.none Value.none none Value.none Value.none 0)) (List.toArray []))
noncomputable abbrev o312 (P : Params) : Obj := (Obj.mk (Value.type "code") none (Data.fields (List.toArray [(Value.str (Str.ofString "numbers") 589), (Value.str (Str.ofString "Markers.numbers") 590), (Value.str (Str.ofString "/claim/cut.py") 591), (Value.int (194 : Int) 0), (Value.int (1 : Int) 0), (Value.int (0 : Int) 0), (Value.int (0 : Int) 0), (Value.int (3 : Int) 0), (Value.ref 307), (Value.bool Bool.true), (Value.int (181 : Int) 0), (Value.ref 308), Value.none, (Value.ref 309), (Value.ref 310), (Value.ref 311), (Value.int (593 : Int) 0), (Value.int (194 : Int) 0), (Value.str (Str.ofString "/claim/cut.py") 594)])) (List.toArray []))
noncomputable abbrev o313 (P : Params) : Obj := (Obj.mk (Value.type "function") none (Data.func (FuncData.mk (Str.ofString "numbers") (Str.ofString "Markers.numbers") (fnArgs (stIn 22 1)) (FuncBody.stmts (bodyOf (stIn 22 1))) (fnScope (stIn 22 1)) 3 [] Value.none Value.none Value.none (Value.str (Str.ofString "emacs.markers") 517) none (Value.ref 312) Value.none 0)) (List.toArray []))
noncomputable abbrev o314 (P : Params) : Obj := (Obj.mk (Value.type "tuple") none (Data.seq (List.toArray []) 0) (List.toArray []))
noncomputable abbrev o315 (P : Params) : Obj := (Obj.mk Value.none none (Data.fields (List.toArray [])) (List.toArray []))
noncomputable abbrev o316 (P : Params) : Obj := (Obj.mk (Value.type "tuple") none (Data.seq (List.toArray [(Value.str (Str.ofString "self") 599), (Value.str (Str.ofString "marker") 600), (Value.str (Str.ofString "position") 601)]) 0) (List.toArray []))
noncomputable abbrev o317 (P : Params) : Obj := (Obj.mk (Value.type "tuple") none (Data.seq (List.toArray []) 0) (List.toArray []))
noncomputable abbrev o318 (P : Params) : Obj := (Obj.mk Value.none none (Data.func (FuncData.mk (Str.ofString "put") (Str.ofString "Markers.put") (fnArgs (stIn 22 2)) (FuncBody.stmts (bodyOf (stIn 22 2))) (fnScope (stIn 22 2)) 0 [] Value.none Value.none Value.none Value.none none Value.none Value.none 0)) (List.toArray []))
noncomputable abbrev o319 (P : Params) : Obj := (Obj.mk (Value.type "code") none (Data.fields (List.toArray [(Value.str (Str.ofString "put") 596), (Value.str (Str.ofString "Markers.put") 597), (Value.str (Str.ofString "/claim/cut.py") 598), (Value.int (197 : Int) 0), (Value.int (3 : Int) 0), (Value.int (0 : Int) 0), (Value.int (0 : Int) 0), (Value.int (3 : Int) 0), (Value.ref 314), (Value.bool Bool.true), (Value.int (181 : Int) 0), (Value.ref 315), Value.none, (Value.ref 316), (Value.ref 317), (Value.ref 318), (Value.int (602 : Int) 0), (Value.int (197 : Int) 0), (Value.str (Str.ofString "/claim/cut.py") 603)])) (List.toArray []))
noncomputable abbrev o320 (P : Params) : Obj := (Obj.mk (Value.type "function") none (Data.func (FuncData.mk (Str.ofString "put") (Str.ofString "Markers.put") (fnArgs (stIn 22 2)) (FuncBody.stmts (bodyOf (stIn 22 2))) (fnScope (stIn 22 2)) 3 [] Value.none Value.none Value.none (Value.str (Str.ofString "emacs.markers") 517) none (Value.ref 319) Value.none 0)) (List.toArray []))
noncomputable abbrev o321 (P : Params) : Obj := (Obj.mk (Value.type "tuple") none (Data.seq (List.toArray []) 0) (List.toArray []))
noncomputable abbrev o322 (P : Params) : Obj := (Obj.mk Value.none none (Data.fields (List.toArray [])) (List.toArray []))
noncomputable abbrev o323 (P : Params) : Obj := (Obj.mk (Value.type "tuple") none (Data.seq (List.toArray [(Value.str (Str.ofString "self") 608), (Value.str (Str.ofString "marker") 609)]) 0) (List.toArray []))
noncomputable abbrev o324 (P : Params) : Obj := (Obj.mk (Value.type "tuple") none (Data.seq (List.toArray []) 0) (List.toArray []))
noncomputable abbrev o325 (P : Params) : Obj := (Obj.mk Value.none none (Data.func (FuncData.mk (Str.ofString "drop") (Str.ofString "Markers.drop") (fnArgs (stIn 22 3)) (FuncBody.stmts (bodyOf (stIn 22 3))) (fnScope (stIn 22 3)) 0 [] Value.none Value.none Value.none Value.none none Value.none Value.none 0)) (List.toArray []))
noncomputable abbrev o326 (P : Params) : Obj := (Obj.mk (Value.type "code") none (Data.fields (List.toArray [(Value.str (Str.ofString "drop") 605), (Value.str (Str.ofString "Markers.drop") 606), (Value.str (Str.ofString "/claim/cut.py") 607), (Value.int (201 : Int) 0), (Value.int (2 : Int) 0), (Value.int (0 : Int) 0), (Value.int (0 : Int) 0), (Value.int (3 : Int) 0), (Value.ref 321), (Value.bool Bool.true), (Value.int (181 : Int) 0), (Value.ref 322), Value.none, (Value.ref 323), (Value.ref 324), (Value.ref 325), (Value.int (610 : Int) 0), (Value.int (201 : Int) 0), (Value.str (Str.ofString "/claim/cut.py") 611)])) (List.toArray []))
noncomputable abbrev o327 (P : Params) : Obj := (Obj.mk (Value.type "function") none (Data.func (FuncData.mk (Str.ofString "drop") (Str.ofString "Markers.drop") (fnArgs (stIn 22 3)) (FuncBody.stmts (bodyOf (stIn 22 3))) (fnScope (stIn 22 3)) 3 [] Value.none Value.none Value.none (Value.str (Str.ofString "emacs.markers") 517) none (Value.ref 326) Value.none 0)) (List.toArray []))
noncomputable abbrev o328 (P : Params) : Obj := (Obj.mk (Value.type "tuple") none (Data.seq (List.toArray []) 0) (List.toArray []))
noncomputable abbrev o329 (P : Params) : Obj := (Obj.mk Value.none none (Data.fields (List.toArray [])) (List.toArray []))
noncomputable abbrev o330 (P : Params) : Obj := (Obj.mk (Value.type "tuple") none (Data.seq (List.toArray [(Value.str (Str.ofString "self") 616), (Value.str (Str.ofString "start") 617), (Value.str (Str.ofString "end") 618), (Value.str (Str.ofString "found") 619), (Value.str (Str.ofString "number") 620)]) 0) (List.toArray []))
noncomputable abbrev o331 (P : Params) : Obj := (Obj.mk (Value.type "tuple") none (Data.seq (List.toArray []) 0) (List.toArray []))
noncomputable abbrev o332 (P : Params) : Obj := (Obj.mk Value.none none (Data.func (FuncData.mk (Str.ofString "within") (Str.ofString "Markers.within") (fnArgs (stIn 22 4)) (FuncBody.stmts (bodyOf (stIn 22 4))) (fnScope (stIn 22 4)) 0 [] Value.none Value.none Value.none Value.none none Value.none Value.none 0)) (List.toArray []))
noncomputable abbrev o333 (P : Params) : Obj := (Obj.mk (Value.type "code") none (Data.fields (List.toArray [(Value.str (Str.ofString "within") 613), (Value.str (Str.ofString "Markers.within") 614), (Value.str (Str.ofString "/claim/cut.py") 615), (Value.int (205 : Int) 0), (Value.int (3 : Int) 0), (Value.int (0 : Int) 0), (Value.int (0 : Int) 0), (Value.int (3 : Int) 0), (Value.ref 328), (Value.bool Bool.true), (Value.int (181 : Int) 0), (Value.ref 329), Value.none, (Value.ref 330), (Value.ref 331), (Value.ref 332), (Value.int (621 : Int) 0), (Value.int (205 : Int) 0), (Value.str (Str.ofString "/claim/cut.py") 622)])) (List.toArray []))
noncomputable abbrev o334 (P : Params) : Obj := (Obj.mk (Value.type "function") none (Data.func (FuncData.mk (Str.ofString "within") (Str.ofString "Markers.within") (fnArgs (stIn 22 4)) (FuncBody.stmts (bodyOf (stIn 22 4))) (fnScope (stIn 22 4)) 3 [] Value.none Value.none Value.none (Value.str (Str.ofString "emacs.markers") 517) none (Value.ref 333) Value.none 0)) (List.toArray []))
noncomputable abbrev o335 (P : Params) : Obj := (Obj.mk (Value.type "tuple") none (Data.seq (List.toArray []) 0) (List.toArray []))
noncomputable abbrev o336 (P : Params) : Obj := (Obj.mk Value.none none (Data.fields (List.toArray [])) (List.toArray []))
noncomputable abbrev o337 (P : Params) : Obj := (Obj.mk (Value.type "tuple") none (Data.seq (List.toArray [(Value.str (Str.ofString "self") 627), (Value.str (Str.ofString "start") 628), (Value.str (Str.ofString "end") 629), (Value.str (Str.ofString "is_before") 630), (Value.str (Str.ofString "number") 631), (Value.str (Str.ofString "marker") 632)]) 0) (List.toArray []))
noncomputable abbrev o338 (P : Params) : Obj := (Obj.mk (Value.type "tuple") none (Data.seq (List.toArray []) 0) (List.toArray []))
noncomputable abbrev o339 (P : Params) : Obj := (Obj.mk Value.none none (Data.func (FuncData.mk (Str.ofString "inserted") (Str.ofString "Markers.inserted") (fnArgs (stIn 22 5)) (FuncBody.stmts (bodyOf (stIn 22 5))) (fnScope (stIn 22 5)) 0 [] Value.none Value.none Value.none Value.none none Value.none Value.none 0)) (List.toArray []))
noncomputable abbrev o340 (P : Params) : Obj := (Obj.mk (Value.type "code") none (Data.fields (List.toArray [(Value.str (Str.ofString "inserted") 624), (Value.str (Str.ofString "Markers.inserted") 625), (Value.str (Str.ofString "/claim/cut.py") 626), (Value.int (212 : Int) 0), (Value.int (4 : Int) 0), (Value.int (0 : Int) 0), (Value.int (0 : Int) 0), (Value.int (3 : Int) 0), (Value.ref 335), (Value.bool Bool.true), (Value.int (181 : Int) 0), (Value.ref 336), Value.none, (Value.ref 337), (Value.ref 338), (Value.ref 339), (Value.int (633 : Int) 0), (Value.int (212 : Int) 0), (Value.str (Str.ofString "/claim/cut.py") 634)])) (List.toArray []))
noncomputable abbrev o341 (P : Params) : Obj := (Obj.mk (Value.type "function") none (Data.func (FuncData.mk (Str.ofString "inserted") (Str.ofString "Markers.inserted") (fnArgs (stIn 22 5)) (FuncBody.stmts (bodyOf (stIn 22 5))) (fnScope (stIn 22 5)) 3 [] Value.none Value.none Value.none (Value.str (Str.ofString "emacs.markers") 517) none (Value.ref 340) Value.none 0)) (List.toArray []))
noncomputable abbrev o342 (P : Params) : Obj := (Obj.mk (Value.type "tuple") none (Data.seq (List.toArray []) 0) (List.toArray []))
noncomputable abbrev o343 (P : Params) : Obj := (Obj.mk Value.none none (Data.fields (List.toArray [])) (List.toArray []))
noncomputable abbrev o344 (P : Params) : Obj := (Obj.mk (Value.type "tuple") none (Data.seq (List.toArray [(Value.str (Str.ofString "self") 639), (Value.str (Str.ofString "start") 640), (Value.str (Str.ofString "end") 641), (Value.str (Str.ofString "number") 642), (Value.str (Str.ofString "marker") 643)]) 0) (List.toArray []))
noncomputable abbrev o345 (P : Params) : Obj := (Obj.mk (Value.type "tuple") none (Data.seq (List.toArray []) 0) (List.toArray []))
noncomputable abbrev o346 (P : Params) : Obj := (Obj.mk Value.none none (Data.func (FuncData.mk (Str.ofString "deleted") (Str.ofString "Markers.deleted") (fnArgs (stIn 22 6)) (FuncBody.stmts (bodyOf (stIn 22 6))) (fnScope (stIn 22 6)) 0 [] Value.none Value.none Value.none Value.none none Value.none Value.none 0)) (List.toArray []))
noncomputable abbrev o347 (P : Params) : Obj := (Obj.mk (Value.type "code") none (Data.fields (List.toArray [(Value.str (Str.ofString "deleted") 636), (Value.str (Str.ofString "Markers.deleted") 637), (Value.str (Str.ofString "/claim/cut.py") 638), (Value.int (218 : Int) 0), (Value.int (3 : Int) 0), (Value.int (0 : Int) 0), (Value.int (0 : Int) 0), (Value.int (3 : Int) 0), (Value.ref 342), (Value.bool Bool.true), (Value.int (181 : Int) 0), (Value.ref 343), Value.none, (Value.ref 344), (Value.ref 345), (Value.ref 346), (Value.int (644 : Int) 0), (Value.int (218 : Int) 0), (Value.str (Str.ofString "/claim/cut.py") 645)])) (List.toArray []))
noncomputable abbrev o348 (P : Params) : Obj := (Obj.mk (Value.type "function") none (Data.func (FuncData.mk (Str.ofString "deleted") (Str.ofString "Markers.deleted") (fnArgs (stIn 22 6)) (FuncBody.stmts (bodyOf (stIn 22 6))) (fnScope (stIn 22 6)) 3 [] Value.none Value.none Value.none (Value.str (Str.ofString "emacs.markers") 517) none (Value.ref 347) Value.none 0)) (List.toArray []))
noncomputable abbrev o349 (P : Params) : Obj := (Obj.mk (Value.type "tuple") none (Data.seq (List.toArray []) 0) (List.toArray []))
noncomputable abbrev o350 (P : Params) : Obj := (Obj.mk Value.none none (Data.fields (List.toArray [])) (List.toArray []))
noncomputable abbrev o351 (P : Params) : Obj := (Obj.mk (Value.type "tuple") none (Data.seq (List.toArray [(Value.str (Str.ofString "self") 650), (Value.str (Str.ofString "start") 651), (Value.str (Str.ofString "end") 652), (Value.str (Str.ofString "many") 653), (Value.str (Str.ofString "number") 654), (Value.str (Str.ofString "marker") 655)]) 0) (List.toArray []))
noncomputable abbrev o352 (P : Params) : Obj := (Obj.mk (Value.type "tuple") none (Data.seq (List.toArray []) 0) (List.toArray []))
noncomputable abbrev o353 (P : Params) : Obj := (Obj.mk Value.none none (Data.func (FuncData.mk (Str.ofString "replaced") (Str.ofString "Markers.replaced") (fnArgs (stIn 22 7)) (FuncBody.stmts (bodyOf (stIn 22 7))) (fnScope (stIn 22 7)) 0 [] Value.none Value.none Value.none Value.none none Value.none Value.none 0)) (List.toArray []))
noncomputable abbrev o354 (P : Params) : Obj := (Obj.mk (Value.type "code") none (Data.fields (List.toArray [(Value.str (Str.ofString "replaced") 647), (Value.str (Str.ofString "Markers.replaced") 648), (Value.str (Str.ofString "/claim/cut.py") 649), (Value.int (226 : Int) 0), (Value.int (4 : Int) 0), (Value.int (0 : Int) 0), (Value.int (0 : Int) 0), (Value.int (3 : Int) 0), (Value.ref 349), (Value.bool Bool.true), (Value.int (181 : Int) 0), (Value.ref 350), Value.none, (Value.ref 351), (Value.ref 352), (Value.ref 353), (Value.int (656 : Int) 0), (Value.int (226 : Int) 0), (Value.str (Str.ofString "/claim/cut.py") 657)])) (List.toArray []))
noncomputable abbrev o355 (P : Params) : Obj := (Obj.mk (Value.type "function") none (Data.func (FuncData.mk (Str.ofString "replaced") (Str.ofString "Markers.replaced") (fnArgs (stIn 22 7)) (FuncBody.stmts (bodyOf (stIn 22 7))) (fnScope (stIn 22 7)) 3 [] Value.none Value.none Value.none (Value.str (Str.ofString "emacs.markers") 517) none (Value.ref 354) Value.none 0)) (List.toArray []))
noncomputable abbrev o356 (P : Params) : Obj := (Obj.mk (Value.type "tuple") none (Data.seq (List.toArray [(Value.str (Str.ofString "rows") 659)]) 0) (List.toArray []))
noncomputable abbrev o357 (P : Params) : Obj := (Obj.mk (Value.type "dict") none (Data.dict (List.toArray [(DictEntry.mk (PyData.keyHash P (Str.ofString "__module__")) (Value.str (Str.ofString "__module__") 577) (Value.str (Str.ofString "emacs.markers") 517)), (DictEntry.mk (PyData.keyHash P (Str.ofString "__firstlineno__")) (Value.str (Str.ofString "__firstlineno__") 581) (Value.int (189 : Int) 580)), (DictEntry.mk (PyData.keyHash P (Str.ofString "__init__")) (Value.str (Str.ofString "__init__") 588) (Value.ref 306)), (DictEntry.mk (PyData.keyHash P (Str.ofString "numbers")) (Value.str (Str.ofString "numbers") 595) (Value.ref 313)), (DictEntry.mk (PyData.keyHash P (Str.ofString "put")) (Value.str (Str.ofString "put") 604) (Value.ref 320)), (DictEntry.mk (PyData.keyHash P (Str.ofString "drop")) (Value.str (Str.ofString "drop") 612) (Value.ref 327)), (DictEntry.mk (PyData.keyHash P (Str.ofString "within")) (Value.str (Str.ofString "within") 623) (Value.ref 334)), (DictEntry.mk (PyData.keyHash P (Str.ofString "inserted")) (Value.str (Str.ofString "inserted") 635) (Value.ref 341)), (DictEntry.mk (PyData.keyHash P (Str.ofString "deleted")) (Value.str (Str.ofString "deleted") 646) (Value.ref 348)), (DictEntry.mk (PyData.keyHash P (Str.ofString "replaced")) (Value.str (Str.ofString "replaced") 658) (Value.ref 355)), (DictEntry.mk (PyData.keyHash P (Str.ofString "__static_attributes__")) (Value.str (Str.ofString "__static_attributes__") 660) (Value.ref 356)), (DictEntry.mk (PyData.keyHash P (Str.ofString "__dict__")) (Value.str (Str.ofString "__dict__") 662) (Value.ref 359)), (DictEntry.mk (PyData.keyHash P (Str.ofString "__weakref__")) (Value.str (Str.ofString "__weakref__") 664) (Value.ref 360)), (DictEntry.mk (PyData.keyHash P (Str.ofString "__doc__")) (Value.str (Str.ofString "__doc__") 665) Value.none)]) 4) (List.toArray []))
noncomputable abbrev o358 (P : Params) : Obj := (Obj.mk (Value.type "type") none (Data.cls (ClassData.mk (Str.ofString "Markers") [(Value.type "object")] [(Value.ref 358), (Value.type "object")] 357 (Str.ofString "Markers") Bool.true [] [] Bool.false none Bool.false)) (List.toArray [none, none, (some (Value.str (Str.ofString "Markers") 570)), (some (Value.str (Str.ofString "Markers") 578)), (some (Value.builtin "object.__new__")), (some (Value.bool Bool.true))]))
noncomputable abbrev o359 (P : Params) : Obj := (Obj.mk (Value.type "getset_descriptor") none (Data.fields (List.toArray [(Value.str (Str.ofString "__dict__") 661), (Value.ref 358), (Value.builtin "function.__dict__"), (Value.builtin "function.__dict__#set")])) (List.toArray []))
noncomputable abbrev o360 (P : Params) : Obj := (Obj.mk (Value.type "getset_descriptor") none (Data.fields (List.toArray [(Value.str (Str.ofString "__weakref__") 663), (Value.ref 358), (Value.builtin "ExceptionGroup.__weakref__"), Value.none])) (List.toArray []))
noncomputable abbrev o361 (P : Params) : Obj := (Obj.mk (Value.type "super") none (Data.fields (List.toArray [(Value.ref 358), (Value.ref 358), (Value.ref 358)])) (List.toArray []))
noncomputable abbrev o362 (P : Params) : Obj := (Obj.mk (Value.type "builtin_function_or_method") none (Data.fields (List.toArray [(Value.builtin "object.__init_subclass__"), (Value.ref 358)])) (List.toArray []))
noncomputable abbrev o363 (P : Params) : Obj := (Obj.mk (Value.type "tuple") none (Data.seq (List.toArray [(Value.ref 248)]) 0) (List.toArray []))
noncomputable abbrev o364 (P : Params) : Obj := (Obj.mk (Value.type "builtin_function_or_method") none (Data.fields (List.toArray [(Value.builtin "type.__prepare__"), (Value.type "type")])) (List.toArray []))
noncomputable abbrev o365 (P : Params) : Obj := (Obj.mk (Value.type "dict") none (Data.dict (List.toArray [(DictEntry.mk (PyData.keyHash P (Str.ofString "__module__")) (Value.str (Str.ofString "__module__") 677) (Value.str (Str.ofString "emacs.buffer") 668)), (DictEntry.mk (PyData.keyHash P (Str.ofString "__qualname__")) (Value.str (Str.ofString "__qualname__") 679) (Value.str (Str.ofString "Buffer") 678)), (DictEntry.mk (PyData.keyHash P (Str.ofString "__firstlineno__")) (Value.str (Str.ofString "__firstlineno__") 681) (Value.int (234 : Int) 680)), (DictEntry.mk (PyData.keyHash P (Str.ofString "__init__")) (Value.str (Str.ofString "__init__") 692) (Value.ref 377)), (DictEntry.mk (PyData.keyHash P (Str.ofString "shown")) (Value.str (Str.ofString "shown") 699) (Value.ref 384)), (DictEntry.mk (PyData.keyHash P (Str.ofString "kind")) (Value.str (Str.ofString "kind") 706) (Value.ref 391)), (DictEntry.mk (PyData.keyHash P (Str.ofString "begin")) (Value.str (Str.ofString "begin") 713) (Value.ref 398)), (DictEntry.mk (PyData.keyHash P (Str.ofString "end")) (Value.str (Str.ofString "end") 720) (Value.ref 405)), (DictEntry.mk (PyData.keyHash P (Str.ofString "size")) (Value.str (Str.ofString "size") 727) (Value.ref 412)), (DictEntry.mk (PyData.keyHash P (Str.ofString "code_at")) (Value.str (Str.ofString "code_at") 735) (Value.ref 419)), (DictEntry.mk (PyData.keyHash P (Str.ofString "codes")) (Value.str (Str.ofString "codes") 744) (Value.ref 426)), (DictEntry.mk (PyData.keyHash P (Str.ofString "goto")) (Value.str (Str.ofString "goto") 752) (Value.ref 433)), (DictEntry.mk (PyData.keyHash P (Str.ofString "tick")) (Value.str (Str.ofString "tick") 759) (Value.ref 440)), (DictEntry.mk (PyData.keyHash P (Str.ofString "is_modified")) (Value.str (Str.ofString "is_modified") 766) (Value.ref 447)), (DictEntry.mk (PyData.keyHash P (Str.ofString "set_modified")) (Value.str (Str.ofString "set_modified") 774) (Value.ref 454)), (DictEntry.mk (PyData.keyHash P (Str.ofString "touch")) (Value.str (Str.ofString "touch") 782) (Value.ref 461)), (DictEntry.mk (PyData.keyHash P (Str.ofString "__static_attributes__")) (Value.str (Str.ofString "__static_attributes__") 803) (Value.ref 462))]) 17) (List.toArray []))
noncomputable abbrev o366 (P : Params) : Obj := (Obj.mk (Value.type "tuple") none (Data.seq (List.toArray []) 0) (List.toArray []))
noncomputable abbrev o367 (P : Params) : Obj := (Obj.mk Value.none none (Data.fields (List.toArray [(Value.int (236 : Int) 0), (Value.int (4 : Int) 0), (Value.ref 376), (Value.int (258 : Int) 0), (Value.int (4 : Int) 0), (Value.ref 383), (Value.int (261 : Int) 0), (Value.int (4 : Int) 0), (Value.ref 390), (Value.int (264 : Int) 0), (Value.int (4 : Int) 0), (Value.ref 397), (Value.int (267 : Int) 0), (Value.int (4 : Int) 0), (Value.ref 404), (Value.int (270 : Int) 0), (Value.int (4 : Int) 0), (Value.ref 411), (Value.int (273 : Int) 0), (Value.int (4 : Int) 0), (Value.ref 418), (Value.int (276 : Int) 0), (Value.int (4 : Int) 0), (Value.ref 425), (Value.int (279 : Int) 0), (Value.int (4 : Int) 0), (Value.ref 432), (Value.int (283 : Int) 0), (Value.int (4 : Int) 0), (Value.ref 439), (Value.int (286 : Int) 0), (Value.int (4 : Int) 0), (Value.ref 446), (Value.int (289 : Int) 0), (Value.int (4 : Int) 0), (Value.ref 453), (Value.int (292 : Int) 0), (Value.int (4 : Int) 0), (Value.ref 460)])) (List.toArray []))
noncomputable abbrev o368 (P : Params) : Obj := (Obj.mk (Value.type "code") none (Data.fields (List.toArray [(Value.str (Str.ofString "Buffer") 672), (Value.str (Str.ofString "Buffer") 673), (Value.str (Str.ofString "/claim/cut.py") 674), (Value.int (234 : Int) 0), (Value.int (0 : Int) 0), (Value.int (0 : Int) 0), (Value.int (0 : Int) 0), (Value.int (0 : Int) 0), (Value.ref 366), (Value.bool Bool.false), (Value.int (181 : Int) 0), (Value.ref 367), Value.none, Value.none, Value.none, Value.none, (Value.int (675 : Int) 0), (Value.int (234 : Int) 0), (Value.str (Str.ofString "/claim/cut.py") 676)])) (List.toArray []))
noncomputable abbrev o369 (P : Params) : Obj := (Obj.mk (Value.type "frame") none Data.plain (List.toArray [(some (Value.ref 368)), (some (Value.ref 3)), (some (Value.ref 365)), none, (some (Value.str (Str.ofString "emacs.buffer") 668)), none, (some (Value.ref 0))]))
noncomputable abbrev o370 (P : Params) : Obj := (Obj.mk (Value.type "tuple") none (Data.seq (List.toArray [(Value.int (8 : Int) 682)]) 0) (List.toArray []))
noncomputable abbrev o371 (P : Params) : Obj := (Obj.mk (Value.type "tuple") none (Data.seq (List.toArray []) 0) (List.toArray []))
noncomputable abbrev o372 (P : Params) : Obj := (Obj.mk Value.none none (Data.fields (List.toArray [])) (List.toArray []))
noncomputable abbrev o373 (P : Params) : Obj := (Obj.mk (Value.type "tuple") none (Data.seq (List.toArray [(Value.str (Str.ofString "self") 686), (Value.str (Str.ofString "number") 687), (Value.str (Str.ofString "name") 688), (Value.str (Str.ofString "room") 689)]) 0) (List.toArray []))
noncomputable abbrev o374 (P : Params) : Obj := (Obj.mk (Value.type "tuple") none (Data.seq (List.toArray []) 0) (List.toArray []))
noncomputable abbrev o375 (P : Params) : Obj := (Obj.mk Value.none none (Data.func (FuncData.mk (Str.ofString "__init__") (Str.ofString "Buffer.__init__") (fnArgs (stIn 24 0)) (FuncBody.stmts (bodyOf (stIn 24 0))) (fnScope (stIn 24 0)) 0 [] Value.none Value.none Value.none Value.none none Value.none Value.none 0)) (List.toArray []))
noncomputable abbrev o376 (P : Params) : Obj := (Obj.mk (Value.type "code") none (Data.fields (List.toArray [(Value.str (Str.ofString "__init__") 683), (Value.str (Str.ofString "Buffer.__init__") 684), (Value.str (Str.ofString "/claim/cut.py") 685), (Value.int (236 : Int) 0), (Value.int (4 : Int) 0), (Value.int (0 : Int) 0), (Value.int (0 : Int) 0), (Value.int (3 : Int) 0), (Value.ref 371), (Value.bool Bool.true), (Value.int (181 : Int) 0), (Value.ref 372), Value.none, (Value.ref 373), (Value.ref 374), (Value.ref 375), (Value.int (690 : Int) 0), (Value.int (236 : Int) 0), (Value.str (Str.ofString "/claim/cut.py") 691)])) (List.toArray []))
noncomputable abbrev o377 (P : Params) : Obj := (Obj.mk (Value.type "function") none (Data.func (FuncData.mk (Str.ofString "__init__") (Str.ofString "Buffer.__init__") (fnArgs (stIn 24 0)) (FuncBody.stmts (bodyOf (stIn 24 0))) (fnScope (stIn 24 0)) 3 [] (Value.ref 370) Value.none Value.none (Value.str (Str.ofString "emacs.buffer") 668) none (Value.ref 376) Value.none 0)) (List.toArray []))
noncomputable abbrev o378 (P : Params) : Obj := (Obj.mk (Value.type "tuple") none (Data.seq (List.toArray []) 0) (List.toArray []))
noncomputable abbrev o379 (P : Params) : Obj := (Obj.mk Value.none none (Data.fields (List.toArray [])) (List.toArray []))
noncomputable abbrev o380 (P : Params) : Obj := (Obj.mk (Value.type "tuple") none (Data.seq (List.toArray [(Value.str (Str.ofString "self") 696)]) 0) (List.toArray []))
noncomputable abbrev o381 (P : Params) : Obj := (Obj.mk (Value.type "tuple") none (Data.seq (List.toArray []) 0) (List.toArray []))
noncomputable abbrev o382 (P : Params) : Obj := (Obj.mk Value.none none (Data.func (FuncData.mk (Str.ofString "shown") (Str.ofString "Buffer.shown") (fnArgs (stIn 24 1)) (FuncBody.stmts (bodyOf (stIn 24 1))) (fnScope (stIn 17 9)) 0 [] Value.none Value.none Value.none Value.none none Value.none Value.none 0)) (List.toArray []))
noncomputable abbrev o383 (P : Params) : Obj := (Obj.mk (Value.type "code") none (Data.fields (List.toArray [(Value.str (Str.ofString "shown") 693), (Value.str (Str.ofString "Buffer.shown") 694), (Value.str (Str.ofString "/claim/cut.py") 695), (Value.int (258 : Int) 0), (Value.int (1 : Int) 0), (Value.int (0 : Int) 0), (Value.int (0 : Int) 0), (Value.int (3 : Int) 0), (Value.ref 378), (Value.bool Bool.true), (Value.int (181 : Int) 0), (Value.ref 379), Value.none, (Value.ref 380), (Value.ref 381), (Value.ref 382), (Value.int (697 : Int) 0), (Value.int (258 : Int) 0), (Value.str (Str.ofString "/claim/cut.py") 698)])) (List.toArray []))
noncomputable abbrev o384 (P : Params) : Obj := (Obj.mk (Value.type "function") none (Data.func (FuncData.mk (Str.ofString "shown") (Str.ofString "Buffer.shown") (fnArgs (stIn 24 1)) (FuncBody.stmts (bodyOf (stIn 24 1))) (fnScope (stIn 17 9)) 3 [] Value.none Value.none Value.none (Value.str (Str.ofString "emacs.buffer") 668) none (Value.ref 383) Value.none 0)) (List.toArray []))
noncomputable abbrev o385 (P : Params) : Obj := (Obj.mk (Value.type "tuple") none (Data.seq (List.toArray []) 0) (List.toArray []))
noncomputable abbrev o386 (P : Params) : Obj := (Obj.mk Value.none none (Data.fields (List.toArray [])) (List.toArray []))
noncomputable abbrev o387 (P : Params) : Obj := (Obj.mk (Value.type "tuple") none (Data.seq (List.toArray [(Value.str (Str.ofString "self") 703)]) 0) (List.toArray []))
noncomputable abbrev o388 (P : Params) : Obj := (Obj.mk (Value.type "tuple") none (Data.seq (List.toArray []) 0) (List.toArray []))
noncomputable abbrev o389 (P : Params) : Obj := (Obj.mk Value.none none (Data.func (FuncData.mk (Str.ofString "kind") (Str.ofString "Buffer.kind") (fnArgs (stIn 24 2)) (FuncBody.stmts (bodyOf (stIn 24 2))) (fnScope (stIn 17 9)) 0 [] Value.none Value.none Value.none Value.none none Value.none Value.none 0)) (List.toArray []))
noncomputable abbrev o390 (P : Params) : Obj := (Obj.mk (Value.type "code") none (Data.fields (List.toArray [(Value.str (Str.ofString "kind") 700), (Value.str (Str.ofString "Buffer.kind") 701), (Value.str (Str.ofString "/claim/cut.py") 702), (Value.int (261 : Int) 0), (Value.int (1 : Int) 0), (Value.int (0 : Int) 0), (Value.int (0 : Int) 0), (Value.int (3 : Int) 0), (Value.ref 385), (Value.bool Bool.true), (Value.int (181 : Int) 0), (Value.ref 386), Value.none, (Value.ref 387), (Value.ref 388), (Value.ref 389), (Value.int (704 : Int) 0), (Value.int (261 : Int) 0), (Value.str (Str.ofString "/claim/cut.py") 705)])) (List.toArray []))
noncomputable abbrev o391 (P : Params) : Obj := (Obj.mk (Value.type "function") none (Data.func (FuncData.mk (Str.ofString "kind") (Str.ofString "Buffer.kind") (fnArgs (stIn 24 2)) (FuncBody.stmts (bodyOf (stIn 24 2))) (fnScope (stIn 17 9)) 3 [] Value.none Value.none Value.none (Value.str (Str.ofString "emacs.buffer") 668) none (Value.ref 390) Value.none 0)) (List.toArray []))
noncomputable abbrev o392 (P : Params) : Obj := (Obj.mk (Value.type "tuple") none (Data.seq (List.toArray []) 0) (List.toArray []))
noncomputable abbrev o393 (P : Params) : Obj := (Obj.mk Value.none none (Data.fields (List.toArray [])) (List.toArray []))
noncomputable abbrev o394 (P : Params) : Obj := (Obj.mk (Value.type "tuple") none (Data.seq (List.toArray [(Value.str (Str.ofString "self") 710)]) 0) (List.toArray []))
noncomputable abbrev o395 (P : Params) : Obj := (Obj.mk (Value.type "tuple") none (Data.seq (List.toArray []) 0) (List.toArray []))
noncomputable abbrev o396 (P : Params) : Obj := (Obj.mk Value.none none (Data.func (FuncData.mk (Str.ofString "begin") (Str.ofString "Buffer.begin") (fnArgs (stIn 24 3)) (FuncBody.stmts (bodyOf (stIn 24 3))) (fnScope (stIn 22 0)) 0 [] Value.none Value.none Value.none Value.none none Value.none Value.none 0)) (List.toArray []))
noncomputable abbrev o397 (P : Params) : Obj := (Obj.mk (Value.type "code") none (Data.fields (List.toArray [(Value.str (Str.ofString "begin") 707), (Value.str (Str.ofString "Buffer.begin") 708), (Value.str (Str.ofString "/claim/cut.py") 709), (Value.int (264 : Int) 0), (Value.int (1 : Int) 0), (Value.int (0 : Int) 0), (Value.int (0 : Int) 0), (Value.int (3 : Int) 0), (Value.ref 392), (Value.bool Bool.true), (Value.int (181 : Int) 0), (Value.ref 393), Value.none, (Value.ref 394), (Value.ref 395), (Value.ref 396), (Value.int (711 : Int) 0), (Value.int (264 : Int) 0), (Value.str (Str.ofString "/claim/cut.py") 712)])) (List.toArray []))
noncomputable abbrev o398 (P : Params) : Obj := (Obj.mk (Value.type "function") none (Data.func (FuncData.mk (Str.ofString "begin") (Str.ofString "Buffer.begin") (fnArgs (stIn 24 3)) (FuncBody.stmts (bodyOf (stIn 24 3))) (fnScope (stIn 22 0)) 3 [] Value.none Value.none Value.none (Value.str (Str.ofString "emacs.buffer") 668) none (Value.ref 397) Value.none 0)) (List.toArray []))
noncomputable abbrev o399 (P : Params) : Obj := (Obj.mk (Value.type "tuple") none (Data.seq (List.toArray []) 0) (List.toArray []))
noncomputable abbrev o400 (P : Params) : Obj := (Obj.mk Value.none none (Data.fields (List.toArray [])) (List.toArray []))
noncomputable abbrev o401 (P : Params) : Obj := (Obj.mk (Value.type "tuple") none (Data.seq (List.toArray [(Value.str (Str.ofString "self") 717)]) 0) (List.toArray []))
noncomputable abbrev o402 (P : Params) : Obj := (Obj.mk (Value.type "tuple") none (Data.seq (List.toArray []) 0) (List.toArray []))
noncomputable abbrev o403 (P : Params) : Obj := (Obj.mk Value.none none (Data.func (FuncData.mk (Str.ofString "end") (Str.ofString "Buffer.end") (fnArgs (stIn 24 4)) (FuncBody.stmts (bodyOf (stIn 24 4))) (fnScope (stIn 22 0)) 0 [] Value.none Value.none Value.none Value.none none Value.none Value.none 0)) (List.toArray []))
noncomputable abbrev o404 (P : Params) : Obj := (Obj.mk (Value.type "code") none (Data.fields (List.toArray [(Value.str (Str.ofString "end") 714), (Value.str (Str.ofString "Buffer.end") 715), (Value.str (Str.ofString "/claim/cut.py") 716), (Value.int (267 : Int) 0), (Value.int (1 : Int) 0), (Value.int (0 : Int) 0), (Value.int (0 : Int) 0), (Value.int (3 : Int) 0), (Value.ref 399), (Value.bool Bool.true), (Value.int (181 : Int) 0), (Value.ref 400), Value.none, (Value.ref 401), (Value.ref 402), (Value.ref 403), (Value.int (718 : Int) 0), (Value.int (267 : Int) 0), (Value.str (Str.ofString "/claim/cut.py") 719)])) (List.toArray []))
noncomputable abbrev o405 (P : Params) : Obj := (Obj.mk (Value.type "function") none (Data.func (FuncData.mk (Str.ofString "end") (Str.ofString "Buffer.end") (fnArgs (stIn 24 4)) (FuncBody.stmts (bodyOf (stIn 24 4))) (fnScope (stIn 22 0)) 3 [] Value.none Value.none Value.none (Value.str (Str.ofString "emacs.buffer") 668) none (Value.ref 404) Value.none 0)) (List.toArray []))
noncomputable abbrev o406 (P : Params) : Obj := (Obj.mk (Value.type "tuple") none (Data.seq (List.toArray []) 0) (List.toArray []))
noncomputable abbrev o407 (P : Params) : Obj := (Obj.mk Value.none none (Data.fields (List.toArray [])) (List.toArray []))
noncomputable abbrev o408 (P : Params) : Obj := (Obj.mk (Value.type "tuple") none (Data.seq (List.toArray [(Value.str (Str.ofString "self") 724)]) 0) (List.toArray []))
noncomputable abbrev o409 (P : Params) : Obj := (Obj.mk (Value.type "tuple") none (Data.seq (List.toArray []) 0) (List.toArray []))
noncomputable abbrev o410 (P : Params) : Obj := (Obj.mk Value.none none (Data.func (FuncData.mk (Str.ofString "size") (Str.ofString "Buffer.size") (fnArgs (stIn 24 5)) (FuncBody.stmts (bodyOf (stIn 24 5))) (fnScope (stIn 22 0)) 0 [] Value.none Value.none Value.none Value.none none Value.none Value.none 0)) (List.toArray []))
noncomputable abbrev o411 (P : Params) : Obj := (Obj.mk (Value.type "code") none (Data.fields (List.toArray [(Value.str (Str.ofString "size") 721), (Value.str (Str.ofString "Buffer.size") 722), (Value.str (Str.ofString "/claim/cut.py") 723), (Value.int (270 : Int) 0), (Value.int (1 : Int) 0), (Value.int (0 : Int) 0), (Value.int (0 : Int) 0), (Value.int (3 : Int) 0), (Value.ref 406), (Value.bool Bool.true), (Value.int (181 : Int) 0), (Value.ref 407), Value.none, (Value.ref 408), (Value.ref 409), (Value.ref 410), (Value.int (725 : Int) 0), (Value.int (270 : Int) 0), (Value.str (Str.ofString "/claim/cut.py") 726)])) (List.toArray []))
noncomputable abbrev o412 (P : Params) : Obj := (Obj.mk (Value.type "function") none (Data.func (FuncData.mk (Str.ofString "size") (Str.ofString "Buffer.size") (fnArgs (stIn 24 5)) (FuncBody.stmts (bodyOf (stIn 24 5))) (fnScope (stIn 22 0)) 3 [] Value.none Value.none Value.none (Value.str (Str.ofString "emacs.buffer") 668) none (Value.ref 411) Value.none 0)) (List.toArray []))
noncomputable abbrev o413 (P : Params) : Obj := (Obj.mk (Value.type "tuple") none (Data.seq (List.toArray []) 0) (List.toArray []))
noncomputable abbrev o414 (P : Params) : Obj := (Obj.mk Value.none none (Data.fields (List.toArray [])) (List.toArray []))
noncomputable abbrev o415 (P : Params) : Obj := (Obj.mk (Value.type "tuple") none (Data.seq (List.toArray [(Value.str (Str.ofString "self") 731), (Value.str (Str.ofString "place") 732)]) 0) (List.toArray []))
noncomputable abbrev o416 (P : Params) : Obj := (Obj.mk (Value.type "tuple") none (Data.seq (List.toArray []) 0) (List.toArray []))
noncomputable abbrev o417 (P : Params) : Obj := (Obj.mk Value.none none (Data.func (FuncData.mk (Str.ofString "code_at") (Str.ofString "Buffer.code_at") (fnArgs (stIn 24 6)) (FuncBody.stmts (bodyOf (stIn 24 6))) (fnScope (stIn 24 6)) 0 [] Value.none Value.none Value.none Value.none none Value.none Value.none 0)) (List.toArray []))
noncomputable abbrev o418 (P : Params) : Obj := (Obj.mk (Value.type "code") none (Data.fields (List.toArray [(Value.str (Str.ofString "code_at") 728), (Value.str (Str.ofString "Buffer.code_at") 729), (Value.str (Str.ofString "/claim/cut.py") 730), (Value.int (273 : Int) 0), (Value.int (2 : Int) 0), (Value.int (0 : Int) 0), (Value.int (0 : Int) 0), (Value.int (3 : Int) 0), (Value.ref 413), (Value.bool Bool.true), (Value.int (181 : Int) 0), (Value.ref 414), Value.none, (Value.ref 415), (Value.ref 416), (Value.ref 417), (Value.int (733 : Int) 0), (Value.int (273 : Int) 0), (Value.str (Str.ofString "/claim/cut.py") 734)])) (List.toArray []))
noncomputable abbrev o419 (P : Params) : Obj := (Obj.mk (Value.type "function") none (Data.func (FuncData.mk (Str.ofString "code_at") (Str.ofString "Buffer.code_at") (fnArgs (stIn 24 6)) (FuncBody.stmts (bodyOf (stIn 24 6))) (fnScope (stIn 24 6)) 3 [] Value.none Value.none Value.none (Value.str (Str.ofString "emacs.buffer") 668) none (Value.ref 418) Value.none 0)) (List.toArray []))
noncomputable abbrev o420 (P : Params) : Obj := (Obj.mk (Value.type "tuple") none (Data.seq (List.toArray []) 0) (List.toArray []))
noncomputable abbrev o421 (P : Params) : Obj := (Obj.mk Value.none none (Data.fields (List.toArray [])) (List.toArray []))
noncomputable abbrev o422 (P : Params) : Obj := (Obj.mk (Value.type "tuple") none (Data.seq (List.toArray [(Value.str (Str.ofString "self") 739), (Value.str (Str.ofString "start") 740), (Value.str (Str.ofString "end") 741)]) 0) (List.toArray []))
noncomputable abbrev o423 (P : Params) : Obj := (Obj.mk (Value.type "tuple") none (Data.seq (List.toArray []) 0) (List.toArray []))
noncomputable abbrev o424 (P : Params) : Obj := (Obj.mk Value.none none (Data.func (FuncData.mk (Str.ofString "codes") (Str.ofString "Buffer.codes") (fnArgs (stIn 24 7)) (FuncBody.stmts (bodyOf (stIn 24 7))) (fnScope (stIn 24 7)) 0 [] Value.none Value.none Value.none Value.none none Value.none Value.none 0)) (List.toArray []))
noncomputable abbrev o425 (P : Params) : Obj := (Obj.mk (Value.type "code") none (Data.fields (List.toArray [(Value.str (Str.ofString "codes") 736), (Value.str (Str.ofString "Buffer.codes") 737), (Value.str (Str.ofString "/claim/cut.py") 738), (Value.int (276 : Int) 0), (Value.int (3 : Int) 0), (Value.int (0 : Int) 0), (Value.int (0 : Int) 0), (Value.int (3 : Int) 0), (Value.ref 420), (Value.bool Bool.true), (Value.int (181 : Int) 0), (Value.ref 421), Value.none, (Value.ref 422), (Value.ref 423), (Value.ref 424), (Value.int (742 : Int) 0), (Value.int (276 : Int) 0), (Value.str (Str.ofString "/claim/cut.py") 743)])) (List.toArray []))
noncomputable abbrev o426 (P : Params) : Obj := (Obj.mk (Value.type "function") none (Data.func (FuncData.mk (Str.ofString "codes") (Str.ofString "Buffer.codes") (fnArgs (stIn 24 7)) (FuncBody.stmts (bodyOf (stIn 24 7))) (fnScope (stIn 24 7)) 3 [] Value.none Value.none Value.none (Value.str (Str.ofString "emacs.buffer") 668) none (Value.ref 425) Value.none 0)) (List.toArray []))
noncomputable abbrev o427 (P : Params) : Obj := (Obj.mk (Value.type "tuple") none (Data.seq (List.toArray []) 0) (List.toArray []))
noncomputable abbrev o428 (P : Params) : Obj := (Obj.mk Value.none none (Data.fields (List.toArray [])) (List.toArray []))
noncomputable abbrev o429 (P : Params) : Obj := (Obj.mk (Value.type "tuple") none (Data.seq (List.toArray [(Value.str (Str.ofString "self") 748), (Value.str (Str.ofString "place") 749)]) 0) (List.toArray []))
noncomputable abbrev o430 (P : Params) : Obj := (Obj.mk (Value.type "tuple") none (Data.seq (List.toArray []) 0) (List.toArray []))
noncomputable abbrev o431 (P : Params) : Obj := (Obj.mk Value.none none (Data.func (FuncData.mk (Str.ofString "goto") (Str.ofString "Buffer.goto") (fnArgs (stIn 24 8)) (FuncBody.stmts (bodyOf (stIn 24 8))) (fnScope (stIn 24 8)) 0 [] Value.none Value.none Value.none Value.none none Value.none Value.none 0)) (List.toArray []))
noncomputable abbrev o432 (P : Params) : Obj := (Obj.mk (Value.type "code") none (Data.fields (List.toArray [(Value.str (Str.ofString "goto") 745), (Value.str (Str.ofString "Buffer.goto") 746), (Value.str (Str.ofString "/claim/cut.py") 747), (Value.int (279 : Int) 0), (Value.int (2 : Int) 0), (Value.int (0 : Int) 0), (Value.int (0 : Int) 0), (Value.int (3 : Int) 0), (Value.ref 427), (Value.bool Bool.true), (Value.int (181 : Int) 0), (Value.ref 428), Value.none, (Value.ref 429), (Value.ref 430), (Value.ref 431), (Value.int (750 : Int) 0), (Value.int (279 : Int) 0), (Value.str (Str.ofString "/claim/cut.py") 751)])) (List.toArray []))
noncomputable abbrev o433 (P : Params) : Obj := (Obj.mk (Value.type "function") none (Data.func (FuncData.mk (Str.ofString "goto") (Str.ofString "Buffer.goto") (fnArgs (stIn 24 8)) (FuncBody.stmts (bodyOf (stIn 24 8))) (fnScope (stIn 24 8)) 3 [] Value.none Value.none Value.none (Value.str (Str.ofString "emacs.buffer") 668) none (Value.ref 432) Value.none 0)) (List.toArray []))
noncomputable abbrev o434 (P : Params) : Obj := (Obj.mk (Value.type "tuple") none (Data.seq (List.toArray []) 0) (List.toArray []))
noncomputable abbrev o435 (P : Params) : Obj := (Obj.mk Value.none none (Data.fields (List.toArray [])) (List.toArray []))
noncomputable abbrev o436 (P : Params) : Obj := (Obj.mk (Value.type "tuple") none (Data.seq (List.toArray [(Value.str (Str.ofString "self") 756)]) 0) (List.toArray []))
noncomputable abbrev o437 (P : Params) : Obj := (Obj.mk (Value.type "tuple") none (Data.seq (List.toArray []) 0) (List.toArray []))
noncomputable abbrev o438 (P : Params) : Obj := (Obj.mk Value.none none (Data.func (FuncData.mk (Str.ofString "tick") (Str.ofString "Buffer.tick") (fnArgs (stIn 24 9)) (FuncBody.stmts (bodyOf (stIn 24 9))) (fnScope (stIn 17 9)) 0 [] Value.none Value.none Value.none Value.none none Value.none Value.none 0)) (List.toArray []))
noncomputable abbrev o439 (P : Params) : Obj := (Obj.mk (Value.type "code") none (Data.fields (List.toArray [(Value.str (Str.ofString "tick") 753), (Value.str (Str.ofString "Buffer.tick") 754), (Value.str (Str.ofString "/claim/cut.py") 755), (Value.int (283 : Int) 0), (Value.int (1 : Int) 0), (Value.int (0 : Int) 0), (Value.int (0 : Int) 0), (Value.int (3 : Int) 0), (Value.ref 434), (Value.bool Bool.true), (Value.int (181 : Int) 0), (Value.ref 435), Value.none, (Value.ref 436), (Value.ref 437), (Value.ref 438), (Value.int (757 : Int) 0), (Value.int (283 : Int) 0), (Value.str (Str.ofString "/claim/cut.py") 758)])) (List.toArray []))
noncomputable abbrev o440 (P : Params) : Obj := (Obj.mk (Value.type "function") none (Data.func (FuncData.mk (Str.ofString "tick") (Str.ofString "Buffer.tick") (fnArgs (stIn 24 9)) (FuncBody.stmts (bodyOf (stIn 24 9))) (fnScope (stIn 17 9)) 3 [] Value.none Value.none Value.none (Value.str (Str.ofString "emacs.buffer") 668) none (Value.ref 439) Value.none 0)) (List.toArray []))
noncomputable abbrev o441 (P : Params) : Obj := (Obj.mk (Value.type "tuple") none (Data.seq (List.toArray []) 0) (List.toArray []))
noncomputable abbrev o442 (P : Params) : Obj := (Obj.mk Value.none none (Data.fields (List.toArray [])) (List.toArray []))
noncomputable abbrev o443 (P : Params) : Obj := (Obj.mk (Value.type "tuple") none (Data.seq (List.toArray [(Value.str (Str.ofString "self") 763)]) 0) (List.toArray []))
noncomputable abbrev o444 (P : Params) : Obj := (Obj.mk (Value.type "tuple") none (Data.seq (List.toArray []) 0) (List.toArray []))
noncomputable abbrev o445 (P : Params) : Obj := (Obj.mk Value.none none (Data.func (FuncData.mk (Str.ofString "is_modified") (Str.ofString "Buffer.is_modified") (fnArgs (stIn 24 10)) (FuncBody.stmts (bodyOf (stIn 24 10))) (fnScope (stIn 17 9)) 0 [] Value.none Value.none Value.none Value.none none Value.none Value.none 0)) (List.toArray []))
noncomputable abbrev o446 (P : Params) : Obj := (Obj.mk (Value.type "code") none (Data.fields (List.toArray [(Value.str (Str.ofString "is_modified") 760), (Value.str (Str.ofString "Buffer.is_modified") 761), (Value.str (Str.ofString "/claim/cut.py") 762), (Value.int (286 : Int) 0), (Value.int (1 : Int) 0), (Value.int (0 : Int) 0), (Value.int (0 : Int) 0), (Value.int (3 : Int) 0), (Value.ref 441), (Value.bool Bool.true), (Value.int (181 : Int) 0), (Value.ref 442), Value.none, (Value.ref 443), (Value.ref 444), (Value.ref 445), (Value.int (764 : Int) 0), (Value.int (286 : Int) 0), (Value.str (Str.ofString "/claim/cut.py") 765)])) (List.toArray []))
noncomputable abbrev o447 (P : Params) : Obj := (Obj.mk (Value.type "function") none (Data.func (FuncData.mk (Str.ofString "is_modified") (Str.ofString "Buffer.is_modified") (fnArgs (stIn 24 10)) (FuncBody.stmts (bodyOf (stIn 24 10))) (fnScope (stIn 17 9)) 3 [] Value.none Value.none Value.none (Value.str (Str.ofString "emacs.buffer") 668) none (Value.ref 446) Value.none 0)) (List.toArray []))
noncomputable abbrev o448 (P : Params) : Obj := (Obj.mk (Value.type "tuple") none (Data.seq (List.toArray []) 0) (List.toArray []))
noncomputable abbrev o449 (P : Params) : Obj := (Obj.mk Value.none none (Data.fields (List.toArray [])) (List.toArray []))
noncomputable abbrev o450 (P : Params) : Obj := (Obj.mk (Value.type "tuple") none (Data.seq (List.toArray [(Value.str (Str.ofString "self") 770), (Value.str (Str.ofString "is_so") 771)]) 0) (List.toArray []))
noncomputable abbrev o451 (P : Params) : Obj := (Obj.mk (Value.type "tuple") none (Data.seq (List.toArray []) 0) (List.toArray []))
noncomputable abbrev o452 (P : Params) : Obj := (Obj.mk Value.none none (Data.func (FuncData.mk (Str.ofString "set_modified") (Str.ofString "Buffer.set_modified") (fnArgs (stIn 24 11)) (FuncBody.stmts (bodyOf (stIn 24 11))) (fnScope (stIn 24 11)) 0 [] Value.none Value.none Value.none Value.none none Value.none Value.none 0)) (List.toArray []))
noncomputable abbrev o453 (P : Params) : Obj := (Obj.mk (Value.type "code") none (Data.fields (List.toArray [(Value.str (Str.ofString "set_modified") 767), (Value.str (Str.ofString "Buffer.set_modified") 768), (Value.str (Str.ofString "/claim/cut.py") 769), (Value.int (289 : Int) 0), (Value.int (2 : Int) 0), (Value.int (0 : Int) 0), (Value.int (0 : Int) 0), (Value.int (3 : Int) 0), (Value.ref 448), (Value.bool Bool.true), (Value.int (181 : Int) 0), (Value.ref 449), Value.none, (Value.ref 450), (Value.ref 451), (Value.ref 452), (Value.int (772 : Int) 0), (Value.int (289 : Int) 0), (Value.str (Str.ofString "/claim/cut.py") 773)])) (List.toArray []))
noncomputable abbrev o454 (P : Params) : Obj := (Obj.mk (Value.type "function") none (Data.func (FuncData.mk (Str.ofString "set_modified") (Str.ofString "Buffer.set_modified") (fnArgs (stIn 24 11)) (FuncBody.stmts (bodyOf (stIn 24 11))) (fnScope (stIn 24 11)) 3 [] Value.none Value.none Value.none (Value.str (Str.ofString "emacs.buffer") 668) none (Value.ref 453) Value.none 0)) (List.toArray []))
noncomputable abbrev o455 (P : Params) : Obj := (Obj.mk (Value.type "tuple") none (Data.seq (List.toArray []) 0) (List.toArray []))
noncomputable abbrev o456 (P : Params) : Obj := (Obj.mk Value.none none (Data.fields (List.toArray [])) (List.toArray []))
noncomputable abbrev o457 (P : Params) : Obj := (Obj.mk (Value.type "tuple") none (Data.seq (List.toArray [(Value.str (Str.ofString "self") 778), (Value.str (Str.ofString "are_codes") 779)]) 0) (List.toArray []))
noncomputable abbrev o458 (P : Params) : Obj := (Obj.mk (Value.type "tuple") none (Data.seq (List.toArray []) 0) (List.toArray []))
noncomputable abbrev o459 (P : Params) : Obj := (Obj.mk Value.none none (Data.func (FuncData.mk (Str.ofString "touch") (Str.ofString "Buffer.touch") (fnArgs (stIn 24 12)) (FuncBody.stmts (bodyOf (stIn 24 12))) (fnScope (stIn 24 12)) 0 [] Value.none Value.none Value.none Value.none none Value.none Value.none 0)) (List.toArray []))
noncomputable abbrev o460 (P : Params) : Obj := (Obj.mk (Value.type "code") none (Data.fields (List.toArray [(Value.str (Str.ofString "touch") 775), (Value.str (Str.ofString "Buffer.touch") 776), (Value.str (Str.ofString "/claim/cut.py") 777), (Value.int (292 : Int) 0), (Value.int (2 : Int) 0), (Value.int (0 : Int) 0), (Value.int (0 : Int) 0), (Value.int (3 : Int) 0), (Value.ref 455), (Value.bool Bool.true), (Value.int (181 : Int) 0), (Value.ref 456), Value.none, (Value.ref 457), (Value.ref 458), (Value.ref 459), (Value.int (780 : Int) 0), (Value.int (292 : Int) 0), (Value.str (Str.ofString "/claim/cut.py") 781)])) (List.toArray []))
noncomputable abbrev o461 (P : Params) : Obj := (Obj.mk (Value.type "function") none (Data.func (FuncData.mk (Str.ofString "touch") (Str.ofString "Buffer.touch") (fnArgs (stIn 24 12)) (FuncBody.stmts (bodyOf (stIn 24 12))) (fnScope (stIn 24 12)) 3 [] Value.none Value.none Value.none (Value.str (Str.ofString "emacs.buffer") 668) none (Value.ref 460) Value.none 0)) (List.toArray []))
noncomputable abbrev o462 (P : Params) : Obj := (Obj.mk (Value.type "tuple") none (Data.seq (List.toArray [(Value.str (Str.ofString "begv") 783), (Value.str (Str.ofString "codes_ticks") 784), (Value.str (Str.ofString "file") 785), (Value.str (Str.ofString "is_live") 786), (Value.str (Str.ofString "is_read_only") 787), (Value.str (Str.ofString "listeners") 788), (Value.str (Str.ofString "locals") 789), (Value.str (Str.ofString "mark") 790), (Value.str (Str.ofString "markers") 791), (Value.str (Str.ofString "name") 792), (Value.str (Str.ofString "number") 793), (Value.str (Str.ofString "overlays") 794), (Value.str (Str.ofString "point") 795), (Value.str (Str.ofString "props") 796), (Value.str (Str.ofString "saved_ticks") 797), (Value.str (Str.ofString "syntax") 798), (Value.str (Str.ofString "text") 799), (Value.str (Str.ofString "ticks") 800), (Value.str (Str.ofString "undo") 801), (Value.str (Str.ofString "zv") 802)]) 0) (List.toArray []))
noncomputable abbrev o463 (P : Params) : Obj := (Obj.mk (Value.type "dict") none (Data.dict (List.toArray [(DictEntry.mk (PyData.keyHash P (Str.ofString "__module__")) (Value.str (Str.ofString "__module__") 677) (Value.str (Str.ofString "emacs.buffer") 668)), (DictEntry.mk (PyData.keyHash P (Str.ofString "__firstlineno__")) (Value.str (Str.ofString "__firstlineno__") 681) (Value.int (234 : Int) 680)), (DictEntry.mk (PyData.keyHash P (Str.ofString "__init__")) (Value.str (Str.ofString "__init__") 692) (Value.ref 377)), (DictEntry.mk (PyData.keyHash P (Str.ofString "shown")) (Value.str (Str.ofString "shown") 699) (Value.ref 384)), (DictEntry.mk (PyData.keyHash P (Str.ofString "kind")) (Value.str (Str.ofString "kind") 706) (Value.ref 391)), (DictEntry.mk (PyData.keyHash P (Str.ofString "begin")) (Value.str (Str.ofString "begin") 713) (Value.ref 398)), (DictEntry.mk (PyData.keyHash P (Str.ofString "end")) (Value.str (Str.ofString "end") 720) (Value.ref 405)), (DictEntry.mk (PyData.keyHash P (Str.ofString "size")) (Value.str (Str.ofString "size") 727) (Value.ref 412)), (DictEntry.mk (PyData.keyHash P (Str.ofString "code_at")) (Value.str (Str.ofString "code_at") 735) (Value.ref 419)), (DictEntry.mk (PyData.keyHash P (Str.ofString "codes")) (Value.str (Str.ofString "codes") 744) (Value.ref 426)), (DictEntry.mk (PyData.keyHash P (Str.ofString "goto")) (Value.str (Str.ofString "goto") 752) (Value.ref 433)), (DictEntry.mk (PyData.keyHash P (Str.ofString "tick")) (Value.str (Str.ofString "tick") 759) (Value.ref 440)), (DictEntry.mk (PyData.keyHash P (Str.ofString "is_modified")) (Value.str (Str.ofString "is_modified") 766) (Value.ref 447)), (DictEntry.mk (PyData.keyHash P (Str.ofString "set_modified")) (Value.str (Str.ofString "set_modified") 774) (Value.ref 454)), (DictEntry.mk (PyData.keyHash P (Str.ofString "touch")) (Value.str (Str.ofString "touch") 782) (Value.ref 461)), (DictEntry.mk (PyData.keyHash P (Str.ofString "__static_attributes__")) (Value.str (Str.ofString "__static_attributes__") 803) (Value.ref 462)), (DictEntry.mk (PyData.keyHash P (Str.ofString "__doc__")) (Value.str (Str.ofString "__doc__") 804) Value.none)]) 2) (List.toArray []))
noncomputable abbrev o464 (P : Params) : Obj := (Obj.mk (Value.type "type") none (Data.cls (ClassData.mk (Str.ofString "Buffer") [(Value.ref 248)] [(Value.ref 464), (Value.ref 248), (Value.type "object")] 463 (Str.ofString "Buffer") Bool.true [] [] Bool.false none Bool.false)) (List.toArray [(some (Value.ref 363)), none, (some (Value.str (Str.ofString "Buffer") 670)), (some (Value.str (Str.ofString "Buffer") 678)), (some (Value.builtin "object.__new__")), (some (Value.bool Bool.true))]))
noncomputable abbrev o465 (P : Params) : Obj := (Obj.mk (Value.type "super") none (Data.fields (List.toArray [(Value.ref 464), (Value.ref 464), (Value.ref 464)])) (List.toArray []))
noncomputable abbrev o466 (P : Params) : Obj := (Obj.mk (Value.type "builtin_function_or_method") none (Data.fields (List.toArray [(Value.builtin "object.__init_subclass__"), (Value.ref 464)])) (List.toArray []))
noncomputable abbrev o467 (P : Params) : Obj := (Obj.mk (Value.type "tuple") none (Data.seq (List.toArray []) 0) (List.toArray []))
noncomputable abbrev o468 (P : Params) : Obj := (Obj.mk Value.none none (Data.fields (List.toArray [])) (List.toArray []))
noncomputable abbrev o469 (P : Params) : Obj := (Obj.mk (Value.type "tuple") none (Data.seq (List.toArray [(Value.str (Str.ofString "buffer") 812), (Value.str (Str.ofString "start") 813), (Value.str (Str.ofString "end") 814), (Value.str (Str.ofString "low") 815), (Value.str (Str.ofString "high") 816)]) 0) (List.toArray []))
noncomputable abbrev o470 (P : Params) : Obj := (Obj.mk (Value.type "tuple") none (Data.seq (List.toArray []) 0) (List.toArray []))
noncomputable abbrev o471 (P : Params) : Obj := (Obj.mk Value.none none (Data.func (FuncData.mk (Str.ofString "narrow") (Str.ofString "narrow") (fnArgs (stAt 26)) (FuncBody.stmts (bodyOf (stAt 26))) (fnScope (stAt 5)) 0 [] Value.none Value.none Value.none Value.none none Value.none Value.none 0)) (List.toArray []))
noncomputable abbrev o472 (P : Params) : Obj := (Obj.mk (Value.type "code") none (Data.fields (List.toArray [(Value.str (Str.ofString "narrow") 809), (Value.str (Str.ofString "narrow") 810), (Value.str (Str.ofString "/claim/cut.py") 811), (Value.int (297 : Int) 0), (Value.int (3 : Int) 0), (Value.int (0 : Int) 0), (Value.int (0 : Int) 0), (Value.int (3 : Int) 0), (Value.ref 467), (Value.bool Bool.true), (Value.int (181 : Int) 0), (Value.ref 468), Value.none, (Value.ref 469), (Value.ref 470), (Value.ref 471), (Value.int (817 : Int) 0), (Value.int (297 : Int) 0), (Value.str (Str.ofString "/claim/cut.py") 818)])) (List.toArray []))
noncomputable abbrev o473 (P : Params) : Obj := (Obj.mk (Value.type "function") none (Data.func (FuncData.mk (Str.ofString "narrow") (Str.ofString "narrow") (fnArgs (stAt 26)) (FuncBody.stmts (bodyOf (stAt 26))) (fnScope (stAt 5)) 3 [] Value.none Value.none Value.none (Value.str (Str.ofString "emacs.narrowing") 807) none (Value.ref 472) Value.none 0)) (List.toArray []))
noncomputable abbrev o474 (P : Params) : Obj := (Obj.mk (Value.type "tuple") none (Data.seq (List.toArray []) 0) (List.toArray []))
noncomputable abbrev o475 (P : Params) : Obj := (Obj.mk Value.none none (Data.fields (List.toArray [])) (List.toArray []))
noncomputable abbrev o476 (P : Params) : Obj := (Obj.mk (Value.type "tuple") none (Data.seq (List.toArray [(Value.str (Str.ofString "marker") 825), (Value.str (Str.ofString "buffer") 826), (Value.str (Str.ofString "place") 827)]) 0) (List.toArray []))
noncomputable abbrev o477 (P : Params) : Obj := (Obj.mk (Value.type "tuple") none (Data.seq (List.toArray []) 0) (List.toArray []))
noncomputable abbrev o478 (P : Params) : Obj := (Obj.mk Value.none none (Data.func (FuncData.mk (Str.ofString "set_marker") (Str.ofString "set_marker") (fnArgs (stAt 28)) (FuncBody.stmts (bodyOf (stAt 28))) (fnScope (stAt 28)) 0 [] Value.none Value.none Value.none Value.none none Value.none Value.none 0)) (List.toArray []))
noncomputable abbrev o479 (P : Params) : Obj := (Obj.mk (Value.type "code") none (Data.fields (List.toArray [(Value.str (Str.ofString "set_marker") 822), (Value.str (Str.ofString "set_marker") 823), (Value.str (Str.ofString "/claim/cut.py") 824), (Value.int (304 : Int) 0), (Value.int (3 : Int) 0), (Value.int (0 : Int) 0), (Value.int (0 : Int) 0), (Value.int (3 : Int) 0), (Value.ref 474), (Value.bool Bool.true), (Value.int (181 : Int) 0), (Value.ref 475), Value.none, (Value.ref 476), (Value.ref 477), (Value.ref 478), (Value.int (828 : Int) 0), (Value.int (304 : Int) 0), (Value.str (Str.ofString "/claim/cut.py") 829)])) (List.toArray []))
noncomputable abbrev o480 (P : Params) : Obj := (Obj.mk (Value.type "function") none (Data.func (FuncData.mk (Str.ofString "set_marker") (Str.ofString "set_marker") (fnArgs (stAt 28)) (FuncBody.stmts (bodyOf (stAt 28))) (fnScope (stAt 28)) 3 [] Value.none Value.none Value.none (Value.str (Str.ofString "emacs.placing") 820) none (Value.ref 479) Value.none 0)) (List.toArray []))
noncomputable abbrev o481 (P : Params) : Obj := (Obj.mk (Value.type "tuple") none (Data.seq (List.toArray []) 0) (List.toArray []))
noncomputable abbrev o482 (P : Params) : Obj := (Obj.mk Value.none none (Data.fields (List.toArray [])) (List.toArray []))
noncomputable abbrev o483 (P : Params) : Obj := (Obj.mk (Value.type "tuple") none (Data.seq (List.toArray [(Value.str (Str.ofString "deck") 836), (Value.str (Str.ofString "many") 837)]) 0) (List.toArray []))
noncomputable abbrev o484 (P : Params) : Obj := (Obj.mk (Value.type "tuple") none (Data.seq (List.toArray []) 0) (List.toArray []))
noncomputable abbrev o485 (P : Params) : Obj := (Obj.mk Value.none none (Data.func (FuncData.mk (Str.ofString "_law_draw") (Str.ofString "_law_draw") (fnArgs (stAt 30)) (FuncBody.stmts (bodyOf (stAt 30))) (fnScope (stAt 30)) 0 [] Value.none Value.none Value.none Value.none none Value.none Value.none 0)) (List.toArray []))
noncomputable abbrev o486 (P : Params) : Obj := (Obj.mk (Value.type "code") none (Data.fields (List.toArray [(Value.str (Str.ofString "_law_draw") 833), (Value.str (Str.ofString "_law_draw") 834), (Value.str (Str.ofString "/claim/cut.py") 835), (Value.int (313 : Int) 0), (Value.int (2 : Int) 0), (Value.int (0 : Int) 0), (Value.int (0 : Int) 0), (Value.int (3 : Int) 0), (Value.ref 481), (Value.bool Bool.true), (Value.int (181 : Int) 0), (Value.ref 482), Value.none, (Value.ref 483), (Value.ref 484), (Value.ref 485), (Value.int (838 : Int) 0), (Value.int (313 : Int) 0), (Value.str (Str.ofString "/claim/cut.py") 839)])) (List.toArray []))
noncomputable abbrev o487 (P : Params) : Obj := (Obj.mk (Value.type "function") none (Data.func (FuncData.mk (Str.ofString "_law_draw") (Str.ofString "_law_draw") (fnArgs (stAt 30)) (FuncBody.stmts (bodyOf (stAt 30))) (fnScope (stAt 30)) 3 [] Value.none Value.none Value.none (Value.str (Str.ofString "law_np0066_01") 831) none (Value.ref 486) Value.none 0)) (List.toArray []))
noncomputable abbrev o488 (P : Params) : Obj := (Obj.mk (Value.type "tuple") none (Data.seq (List.toArray []) 0) (List.toArray []))
noncomputable abbrev o489 (P : Params) : Obj := (Obj.mk Value.none none (Data.fields (List.toArray [])) (List.toArray []))
noncomputable abbrev o490 (P : Params) : Obj := (Obj.mk Value.none none (Data.func (FuncData.mk (Str.ofString "_law_edit") (Str.ofString "_law_edit") (fnArgs (stAt 31)) (FuncBody.stmts (bodyOf (stAt 31))) (fnScope (stAt 31)) 0 [] Value.none Value.none Value.none Value.none none Value.none Value.none 0)) (List.toArray []))
noncomputable abbrev o491 (P : Params) : Obj := (Obj.mk (Value.type "code") none (Data.fields (List.toArray [(Value.str (Str.ofString "_law_edit") 841), (Value.str (Str.ofString "_law_edit") 842), (Value.str (Str.ofString "/claim/cut.py") 843), (Value.int (318 : Int) 0), (Value.int (3 : Int) 0), (Value.int (0 : Int) 0), (Value.int (0 : Int) 0), (Value.int (3 : Int) 0), (Value.ref 488), (Value.bool Bool.true), (Value.int (181 : Int) 0), (Value.ref 489), Value.none, Value.none, Value.none, (Value.ref 490), (Value.int (844 : Int) 0), (Value.int (318 : Int) 0), (Value.str (Str.ofString "/claim/cut.py") 845)])) (List.toArray []))
noncomputable abbrev o492 (P : Params) : Obj := (Obj.mk (Value.type "function") none (Data.func (FuncData.mk (Str.ofString "_law_edit") (Str.ofString "_law_edit") (fnArgs (stAt 31)) (FuncBody.stmts (bodyOf (stAt 31))) (fnScope (stAt 31)) 3 [] Value.none Value.none Value.none (Value.str (Str.ofString "law_np0066_01") 831) none (Value.ref 491) Value.none 0)) (List.toArray []))
noncomputable abbrev o493 (P : Params) : Obj := (Obj.mk (Value.type "tuple") none (Data.seq (List.toArray []) 0) (List.toArray []))
noncomputable abbrev o494 (P : Params) : Obj := (Obj.mk Value.none none (Data.fields (List.toArray [])) (List.toArray []))
noncomputable abbrev o495 (P : Params) : Obj := (Obj.mk (Value.type "tuple") none (Data.seq (List.toArray [(Value.str (Str.ofString "own_told") 850), (Value.str (Str.ofString "room") 851), (Value.str (Str.ofString "signs") 852), (Value.str (Str.ofString "own_point_here") 853), (Value.str (Str.ofString "marks") 854), (Value.str (Str.ofString "bounds") 855), (Value.str (Str.ofString "own_buffer") 856), (Value.str (Str.ofString "own_marks") 857), (Value.str (Str.ofString "number") 858)]) 0) (List.toArray []))
noncomputable abbrev o496 (P : Params) : Obj := (Obj.mk (Value.type "tuple") none (Data.seq (List.toArray []) 0) (List.toArray []))
noncomputable abbrev o497 (P : Params) : Obj := (Obj.mk Value.none none (Data.func (FuncData.mk (Str.ofString "_law_buffer") (Str.ofString "_law_buffer") (fnArgs (stAt 32)) (FuncBody.stmts (bodyOf (stAt 32))) (fnScope (stAt 32)) 0 [] Value.none Value.none Value.none Value.none none Value.none Value.none 0)) (List.toArray []))
noncomputable abbrev o498 (P : Params) : Obj := (Obj.mk (Value.type "code") none (Data.fields (List.toArray [(Value.str (Str.ofString "_law_buffer") 847), (Value.str (Str.ofString "_law_buffer") 848), (Value.str (Str.ofString "/claim/cut.py") 849), (Value.int (323 : Int) 0), (Value.int (1 : Int) 0), (Value.int (0 : Int) 0), (Value.int (0 : Int) 0), (Value.int (3 : Int) 0), (Value.ref 493), (Value.bool Bool.true), (Value.int (181 : Int) 0), (Value.ref 494), Value.none, (Value.ref 495), (Value.ref 496), (Value.ref 497), (Value.int (859 : Int) 0), (Value.int (323 : Int) 0), (Value.str (Str.ofString "/claim/cut.py") 860)])) (List.toArray []))
noncomputable abbrev o499 (P : Params) : Obj := (Obj.mk (Value.type "function") none (Data.func (FuncData.mk (Str.ofString "_law_buffer") (Str.ofString "_law_buffer") (fnArgs (stAt 32)) (FuncBody.stmts (bodyOf (stAt 32))) (fnScope (stAt 32)) 3 [] Value.none Value.none Value.none (Value.str (Str.ofString "law_np0066_01") 831) none (Value.ref 498) Value.none 0)) (List.toArray []))
noncomputable abbrev o500 (P : Params) : Obj := (Obj.mk (Value.type "tuple") none (Data.seq (List.toArray []) 0) (List.toArray []))
noncomputable abbrev o501 (P : Params) : Obj := (Obj.mk Value.none none (Data.fields (List.toArray [])) (List.toArray []))
noncomputable abbrev o502 (P : Params) : Obj := (Obj.mk (Value.type "tuple") none (Data.seq (List.toArray [(Value.str (Str.ofString "own_buffer") 865), (Value.str (Str.ofString "edit") 866), (Value.str (Str.ofString "own_more") 867), (Value.str (Str.ofString "start") 868), (Value.str (Str.ofString "end") 869), (Value.str (Str.ofString "came") 870), (Value.str (Str.ofString "is_ahead") 871)]) 0) (List.toArray []))
noncomputable abbrev o503 (P : Params) : Obj := (Obj.mk (Value.type "tuple") none (Data.seq (List.toArray []) 0) (List.toArray []))
noncomputable abbrev o504 (P : Params) : Obj := (Obj.mk Value.none none (Data.func (FuncData.mk (Str.ofString "_law_done") (Str.ofString "_law_done") (fnArgs (stAt 33)) (FuncBody.stmts (bodyOf (stAt 33))) (fnScope (stAt 33)) 0 [] Value.none Value.none Value.none Value.none none Value.none Value.none 0)) (List.toArray []))
noncomputable abbrev o505 (P : Params) : Obj := (Obj.mk (Value.type "code") none (Data.fields (List.toArray [(Value.str (Str.ofString "_law_done") 862), (Value.str (Str.ofString "_law_done") 863), (Value.str (Str.ofString "/claim/cut.py") 864), (Value.int (335 : Int) 0), (Value.int (3 : Int) 0), (Value.int (0 : Int) 0), (Value.int (0 : Int) 0), (Value.int (3 : Int) 0), (Value.ref 500), (Value.bool Bool.true), (Value.int (181 : Int) 0), (Value.ref 501), Value.none, (Value.ref 502), (Value.ref 503), (Value.ref 504), (Value.int (872 : Int) 0), (Value.int (335 : Int) 0), (Value.str (Str.ofString "/claim/cut.py") 873)])) (List.toArray []))
noncomputable abbrev o506 (P : Params) : Obj := (Obj.mk (Value.type "function") none (Data.func (FuncData.mk (Str.ofString "_law_done") (Str.ofString "_law_done") (fnArgs (stAt 33)) (FuncBody.stmts (bodyOf (stAt 33))) (fnScope (stAt 33)) 3 [] Value.none Value.none Value.none (Value.str (Str.ofString "law_np0066_01") 831) none (Value.ref 505) Value.none 0)) (List.toArray []))
noncomputable abbrev o507 (P : Params) : Obj := (Obj.mk (Value.type "tuple") none (Data.seq (List.toArray []) 0) (List.toArray []))
noncomputable abbrev o508 (P : Params) : Obj := (Obj.mk Value.none none (Data.fields (List.toArray [])) (List.toArray []))
noncomputable abbrev o509 (P : Params) : Obj := (Obj.mk (Value.type "tuple") none (Data.seq (List.toArray [(Value.str (Str.ofString "place") 878), (Value.str (Str.ofString "advances") 879), (Value.str (Str.ofString "edit") 880), (Value.str (Str.ofString "own_more") 881), (Value.str (Str.ofString "start") 882), (Value.str (Str.ofString "end") 883), (Value.str (Str.ofString "many") 884)]) 0) (List.toArray []))
noncomputable abbrev o510 (P : Params) : Obj := (Obj.mk (Value.type "tuple") none (Data.seq (List.toArray []) 0) (List.toArray []))
noncomputable abbrev o511 (P : Params) : Obj := (Obj.mk Value.none none (Data.func (FuncData.mk (Str.ofString "_law_place") (Str.ofString "_law_place") (fnArgs (stAt 34)) (FuncBody.stmts (bodyOf (stAt 34))) (fnScope (stAt 34)) 0 [] Value.none Value.none Value.none Value.none none Value.none Value.none 0)) (List.toArray []))
noncomputable abbrev o512 (P : Params) : Obj := (Obj.mk (Value.type "code") none (Data.fields (List.toArray [(Value.str (Str.ofString "_law_place") 875), (Value.str (Str.ofString "_law_place") 876), (Value.str (Str.ofString "/claim/cut.py") 877), (Value.int (343 : Int) 0), (Value.int (4 : Int) 0), (Value.int (0 : Int) 0), (Value.int (0 : Int) 0), (Value.int (3 : Int) 0), (Value.ref 507), (Value.bool Bool.true), (Value.int (181 : Int) 0), (Value.ref 508), Value.none, (Value.ref 509), (Value.ref 510), (Value.ref 511), (Value.int (885 : Int) 0), (Value.int (343 : Int) 0), (Value.str (Str.ofString "/claim/cut.py") 886)])) (List.toArray []))
noncomputable abbrev o513 (P : Params) : Obj := (Obj.mk (Value.type "function") none (Data.func (FuncData.mk (Str.ofString "_law_place") (Str.ofString "_law_place") (fnArgs (stAt 34)) (FuncBody.stmts (bodyOf (stAt 34))) (fnScope (stAt 34)) 3 [] Value.none Value.none Value.none (Value.str (Str.ofString "law_np0066_01") 831) none (Value.ref 512) Value.none 0)) (List.toArray []))
noncomputable abbrev o514 (P : Params) : Obj := (Obj.mk (Value.type "tuple") none (Data.seq (List.toArray []) 0) (List.toArray []))
noncomputable abbrev o515 (P : Params) : Obj := (Obj.mk Value.none none (Data.fields (List.toArray [])) (List.toArray []))
noncomputable abbrev o516 (P : Params) : Obj := (Obj.mk Value.none none (Data.func (FuncData.mk (Str.ofString "_law_state") (Str.ofString "_law_state") (fnArgs (stAt 35)) (FuncBody.stmts (bodyOf (stAt 35))) (fnScope (stAt 35)) 0 [] Value.none Value.none Value.none Value.none none Value.none Value.none 0)) (List.toArray []))
noncomputable abbrev o517 (P : Params) : Obj := (Obj.mk (Value.type "code") none (Data.fields (List.toArray [(Value.str (Str.ofString "_law_state") 888), (Value.str (Str.ofString "_law_state") 889), (Value.str (Str.ofString "/claim/cut.py") 890), (Value.int (350 : Int) 0), (Value.int (2 : Int) 0), (Value.int (0 : Int) 0), (Value.int (0 : Int) 0), (Value.int (3 : Int) 0), (Value.ref 514), (Value.bool Bool.true), (Value.int (181 : Int) 0), (Value.ref 515), Value.none, Value.none, Value.none, (Value.ref 516), (Value.int (891 : Int) 0), (Value.int (350 : Int) 0), (Value.str (Str.ofString "/claim/cut.py") 892)])) (List.toArray []))
noncomputable abbrev o518 (P : Params) : Obj := (Obj.mk (Value.type "function") none (Data.func (FuncData.mk (Str.ofString "_law_state") (Str.ofString "_law_state") (fnArgs (stAt 35)) (FuncBody.stmts (bodyOf (stAt 35))) (fnScope (stAt 35)) 3 [] Value.none Value.none Value.none (Value.str (Str.ofString "law_np0066_01") 831) none (Value.ref 517) Value.none 0)) (List.toArray []))
noncomputable abbrev o519 (P : Params) : Obj := (Obj.mk (Value.type "tuple") none (Data.seq (List.toArray []) 0) (List.toArray []))
noncomputable abbrev o520 (P : Params) : Obj := (Obj.mk Value.none none (Data.fields (List.toArray [])) (List.toArray []))
noncomputable abbrev o521 (P : Params) : Obj := (Obj.mk Value.none none (Data.func (FuncData.mk (Str.ofString "law") (Str.ofString "law") (fnArgs (stAt 36)) (FuncBody.stmts (bodyOf (stAt 36))) (fnScope (stAt 36)) 0 [] Value.none Value.none Value.none Value.none none Value.none Value.none 0)) (List.toArray []))
noncomputable abbrev o522 (P : Params) : Obj := (Obj.mk (Value.type "code") none (Data.fields (List.toArray [(Value.str (Str.ofString "law") 894), (Value.str (Str.ofString "law") 895), (Value.str (Str.ofString "/claim/cut.py") 896), (Value.int (353 : Int) 0), (Value.int (1 : Int) 0), (Value.int (0 : Int) 0), (Value.int (0 : Int) 0), (Value.int (3 : Int) 0), (Value.ref 519), (Value.bool Bool.true), (Value.int (181 : Int) 0), (Value.ref 520), Value.none, Value.none, Value.none, (Value.ref 521), (Value.int (897 : Int) 0), (Value.int (353 : Int) 0), (Value.str (Str.ofString "/claim/cut.py") 898)])) (List.toArray []))
noncomputable abbrev o523 (P : Params) : Obj := (Obj.mk (Value.type "function") none (Data.func (FuncData.mk (Str.ofString "law") (Str.ofString "law") (fnArgs (stAt 36)) (FuncBody.stmts (bodyOf (stAt 36))) (fnScope (stAt 36)) 3 [] Value.none Value.none Value.none (Value.str (Str.ofString "law_np0066_01") 831) none (Value.ref 522) Value.none 0)) (List.toArray []))
noncomputable def heapE (P : Params) : Heap := ⟨Array.mk [PySem.W.boot_o_0 P, PySem.W.boot_o_1 P, o2 P, o3 P, PySem.W.boot_o_4 P, PySem.W.boot_o_5 P, PySem.W.boot_o_6 P, PySem.W.boot_o_7 P, PySem.W.boot_o_8 P, PySem.W.boot_o_9 P, PySem.W.boot_o_10 P, o11 P, o12 P, o13 P, o14 P, o15 P, o16 P, o17 P, o18 P, o19 P, o20 P, o21 P, o22 P, o23 P, o24 P, o25 P, o26 P, o27 P, o28 P, o29 P, o30 P, o31 P, o32 P, o33 P, o34 P, o35 P, o36 P, o37 P, o38 P, o39 P, o40 P, o41 P, o42 P, o43 P, o44 P, o45 P, o46 P, o47 P, o48 P, o49 P, o50 P, o51 P, o52 P, o53 P, o54 P, o55 P, o56 P, o57 P, o58 P, o59 P, o60 P, o61 P, o62 P, o63 P, o64 P, o65 P, o66 P, o67 P, o68 P, o69 P, o70 P, o71 P, o72 P, o73 P, o74 P, o75 P, o76 P, o77 P, o78 P, o79 P, o80 P, o81 P, o82 P, o83 P, o84 P, o85 P, o86 P, o87 P, o88 P, o89 P, o90 P, o91 P, o92 P, o93 P, o94 P, o95 P, o96 P, o97 P, o98 P, o99 P, o100 P, o101 P, o102 P, o103 P, o104 P, o105 P, o106 P, o107 P, o108 P, o109 P, o110 P, o111 P, o112 P, o113 P, o114 P, o115 P, o116 P, o117 P, o118 P, o119 P, o120 P, o121 P, o122 P, o123 P, o124 P, o125 P, o126 P, o127 P, o128 P, o129 P, o130 P, o131 P, o132 P, o133 P, o134 P, o135 P, o136 P, o137 P, o138 P, o139 P, o140 P, o141 P, o142 P, o143 P, o144 P, o145 P, o146 P, o147 P, o148 P, o149 P, o150 P, o151 P, o152 P, o153 P, o154 P, o155 P, o156 P, o157 P, o158 P, o159 P, o160 P, o161 P, o162 P, o163 P, o164 P, o165 P, o166 P, o167 P, o168 P, o169 P, o170 P, o171 P, o172 P, o173 P, o174 P, o175 P, o176 P, o177 P, o178 P, o179 P, o180 P, o181 P, o182 P, o183 P, o184 P, o185 P, o186 P, o187 P, o188 P, o189 P, o190 P, o191 P, o192 P, o193 P, o194 P, o195 P, o196 P, o197 P, o198 P, o199 P, o200 P, o201 P, o202 P, o203 P, o204 P, o205 P, o206 P, o207 P, o208 P, o209 P, o210 P, o211 P, o212 P, o213 P, o214 P, o215 P, o216 P, o217 P, o218 P, o219 P, o220 P, o221 P, o222 P, o223 P, o224 P, o225 P, o226 P, o227 P, o228 P, o229 P, o230 P, o231 P, o232 P, o233 P, o234 P, o235 P, o236 P, o237 P, o238 P, o239 P, o240 P, o241 P, o242 P, o243 P, o244 P, o245 P, o246 P, o247 P, o248 P, o249 P, o250 P, o251 P, o252 P, o253 P, o254 P, o255 P, o256 P, o257 P, o258 P, o259 P, o260 P, o261 P, o262 P, o263 P, o264 P, o265 P, o266 P, o267 P, o268 P, o269 P, o270 P, o271 P, o272 P, o273 P, o274 P, o275 P, o276 P, o277 P, o278 P, o279 P, o280 P, o281 P, o282 P, o283 P, o284 P, o285 P, o286 P, o287 P, o288 P, o289 P, o290 P, o291 P, o292 P, o293 P, o294 P, o295 P, o296 P, o297 P, o298 P, o299 P, o300 P, o301 P, o302 P, o303 P, o304 P, o305 P, o306 P, o307 P, o308 P, o309 P, o310 P, o311 P, o312 P, o313 P, o314 P, o315 P, o316 P, o317 P, o318 P, o319 P, o320 P, o321 P, o322 P, o323 P, o324 P, o325 P, o326 P, o327 P, o328 P, o329 P, o330 P, o331 P, o332 P, o333 P, o334 P, o335 P, o336 P, o337 P, o338 P, o339 P, o340 P, o341 P, o342 P, o343 P, o344 P, o345 P, o346 P, o347 P, o348 P, o349 P, o350 P, o351 P, o352 P, o353 P, o354 P, o355 P, o356 P, o357 P, o358 P, o359 P, o360 P, o361 P, o362 P, o363 P, o364 P, o365 P, o366 P, o367 P, o368 P, o369 P, o370 P, o371 P, o372 P, o373 P, o374 P, o375 P, o376 P, o377 P, o378 P, o379 P, o380 P, o381 P, o382 P, o383 P, o384 P, o385 P, o386 P, o387 P, o388 P, o389 P, o390 P, o391 P, o392 P, o393 P, o394 P, o395 P, o396 P, o397 P, o398 P, o399 P, o400 P, o401 P, o402 P, o403 P, o404 P, o405 P, o406 P, o407 P, o408 P, o409 P, o410 P, o411 P, o412 P, o413 P, o414 P, o415 P, o416 P, o417 P, o418 P, o419 P, o420 P, o421 P, o422 P, o423 P, o424 P, o425 P, o426 P, o427 P, o428 P, o429 P, o430 P, o431 P, o432 P, o433 P, o434 P, o435 P, o436 P, o437 P, o438 P, o439 P, o440 P, o441 P, o442 P, o443 P, o444 P, o445 P, o446 P, o447 P, o448 P, o449 P, o450 P, o451 P, o452 P, o453 P, o454 P, o455 P, o456 P, o457 P, o458 P, o459 P, o460 P, o461 P, o462 P, o463 P, o464 P, o465 P, o466 P, o467 P, o468 P, o469 P, o470 P, o471 P, o472 P, o473 P, o474 P, o475 P, o476 P, o477 P, o478 P, o479 P, o480 P, o481 P, o482 P, o483 P, o484 P, o485 P, o486 P, o487 P, o488 P, o489 P, o490 P, o491 P, o492 P, o493 P, o494 P, o495 P, o496 P, o497 P, o498 P, o499 P, o500 P, o501 P, o502 P, o503 P, o504 P, o505 P, o506 P, o507 P, o508 P, o509 P, o510 P, o511 P, o512 P, o513 P, o514 P, o515 P, o516 P, o517 P, o518 P, o519 P, o520 P, o521 P, o522 P, o523 P], (Life.mk [] [] [] 0 [] [] Bool.false (List.toArray []) [] 0 Bool.false Bool.false Bool.false (0 : Int) [(2000 : Int), (10 : Int), (10 : Int)] Bool.false 0 Bool.true [] [] 0 Bool.false)⟩
noncomputable def heapK (P : Params) : Frag := (nat_lit 2, o2 P) :: (nat_lit 3, o3 P) :: (nat_lit 15, o15 P) :: (nat_lit 17, o17 P) :: (nat_lit 18, o18 P) :: (nat_lit 20, o20 P) :: (nat_lit 21, o21 P) :: (nat_lit 22, o22 P) :: (nat_lit 29, o29 P) :: (nat_lit 31, o31 P) :: (nat_lit 32, o32 P) :: (nat_lit 34, o34 P) :: (nat_lit 35, o35 P) :: (nat_lit 36, o36 P) :: (nat_lit 37, o37 P) :: (nat_lit 38, o38 P) :: (nat_lit 39, o39 P) :: (nat_lit 42, o42 P) :: (nat_lit 44, o44 P) :: (nat_lit 45, o45 P) :: (nat_lit 47, o47 P) :: (nat_lit 48, o48 P) :: (nat_lit 49, o49 P) :: (nat_lit 51, o51 P) :: (nat_lit 52, o52 P) :: (nat_lit 54, o54 P) :: (nat_lit 55, o55 P) :: (nat_lit 56, o56 P) :: (nat_lit 58, o58 P) :: (nat_lit 59, o59 P) :: (nat_lit 61, o61 P) :: (nat_lit 62, o62 P) :: (nat_lit 63, o63 P) :: (nat_lit 65, o65 P) :: (nat_lit 66, o66 P) :: (nat_lit 68, o68 P) :: (nat_lit 69, o69 P) :: (nat_lit 70, o70 P) :: (nat_lit 72, o72 P) :: (nat_lit 73, o73 P) :: (nat_lit 75, o75 P) :: (nat_lit 76, o76 P) :: (nat_lit 77, o77 P) :: (nat_lit 79, o79 P) :: (nat_lit 80, o80 P) :: (nat_lit 82, o82 P) :: (nat_lit 83, o83 P) :: (nat_lit 84, o84 P) :: (nat_lit 86, o86 P) :: (nat_lit 87, o87 P) :: (nat_lit 89, o89 P) :: (nat_lit 90, o90 P) :: (nat_lit 91, o91 P) :: (nat_lit 93, o93 P) :: (nat_lit 94, o94 P) :: (nat_lit 96, o96 P) :: (nat_lit 97, o97 P) :: (nat_lit 98, o98 P) :: (nat_lit 100, o100 P) :: (nat_lit 101, o101 P) :: (nat_lit 103, o103 P) :: (nat_lit 104, o104 P) :: (nat_lit 105, o105 P) :: (nat_lit 106, o106 P) :: (nat_lit 108, o108 P) :: (nat_lit 109, o109 P) :: (nat_lit 111, o111 P) :: (nat_lit 112, o112 P) :: (nat_lit 113, o113 P) :: (nat_lit 115, o115 P) :: (nat_lit 116, o116 P) :: (nat_lit 118, o118 P) :: (nat_lit 119, o119 P) :: (nat_lit 120, o120 P) :: (nat_lit 122, o122 P) :: (nat_lit 123, o123 P) :: (nat_lit 125, o125 P) :: (nat_lit 126, o126 P) :: (nat_lit 134, o134 P) :: (nat_lit 136, o136 P) :: (nat_lit 137, o137 P) :: (nat_lit 139, o139 P) :: (nat_lit 140, o140 P) :: (nat_lit 141, o141 P) :: (nat_lit 143, o143 P) :: (nat_lit 144, o144 P) :: (nat_lit 146, o146 P) :: (nat_lit 147, o147 P) :: (nat_lit 148, o148 P) :: (nat_lit 150, o150 P) :: (nat_lit 151, o151 P) :: (nat_lit 153, o153 P) :: (nat_lit 154, o154 P) :: (nat_lit 155, o155 P) :: (nat_lit 157, o157 P) :: (nat_lit 158, o158 P) :: (nat_lit 160, o160 P) :: (nat_lit 161, o161 P) :: (nat_lit 162, o162 P) :: (nat_lit 164, o164 P) :: (nat_lit 165, o165 P) :: (nat_lit 167, o167 P) :: (nat_lit 168, o168 P) :: (nat_lit 169, o169 P) :: (nat_lit 171, o171 P) :: (nat_lit 172, o172 P) :: (nat_lit 174, o174 P) :: (nat_lit 175, o175 P) :: (nat_lit 176, o176 P) :: (nat_lit 178, o178 P) :: (nat_lit 179, o179 P) :: (nat_lit 181, o181 P) :: (nat_lit 182, o182 P) :: (nat_lit 183, o183 P) :: (nat_lit 185, o185 P) :: (nat_lit 186, o186 P) :: (nat_lit 188, o188 P) :: (nat_lit 189, o189 P) :: (nat_lit 190, o190 P) :: (nat_lit 192, o192 P) :: (nat_lit 193, o193 P) :: (nat_lit 195, o195 P) :: (nat_lit 196, o196 P) :: (nat_lit 197, o197 P) :: (nat_lit 199, o199 P) :: (nat_lit 200, o200 P) :: (nat_lit 202, o202 P) :: (nat_lit 203, o203 P) :: (nat_lit 204, o204 P) :: (nat_lit 206, o206 P) :: (nat_lit 207, o207 P) :: (nat_lit 209, o209 P) :: (nat_lit 210, o210 P) :: (nat_lit 211, o211 P) :: (nat_lit 212, o212 P) :: (nat_lit 213, o213 P) :: (nat_lit 214, o214 P) :: (nat_lit 215, o215 P) :: (nat_lit 225, o225 P) :: (nat_lit 227, o227 P) :: (nat_lit 228, o228 P) :: (nat_lit 230, o230 P) :: (nat_lit 231, o231 P) :: (nat_lit 232, o232 P) :: (nat_lit 234, o234 P) :: (nat_lit 235, o235 P) :: (nat_lit 237, o237 P) :: (nat_lit 238, o238 P) :: (nat_lit 239, o239 P) :: (nat_lit 241, o241 P) :: (nat_lit 242, o242 P) :: (nat_lit 244, o244 P) :: (nat_lit 245, o245 P) :: (nat_lit 246, o246 P) :: (nat_lit 247, o247 P) :: (nat_lit 248, o248 P) :: (nat_lit 249, o249 P) :: (nat_lit 250, o250 P) :: (nat_lit 253, o253 P) :: (nat_lit 260, o260 P) :: (nat_lit 262, o262 P) :: (nat_lit 263, o263 P) :: (nat_lit 265, o265 P) :: (nat_lit 266, o266 P) :: (nat_lit 267, o267 P) :: (nat_lit 269, o269 P) :: (nat_lit 270, o270 P) :: (nat_lit 272, o272 P) :: (nat_lit 273, o273 P) :: (nat_lit 274, o274 P) :: (nat_lit 276, o276 P) :: (nat_lit 277, o277 P) :: (nat_lit 279, o279 P) :: (nat_lit 280, o280 P) :: (nat_lit 281, o281 P) :: (nat_lit 283, o283 P) :: (nat_lit 284, o284 P) :: (nat_lit 286, o286 P) :: (nat_lit 287, o287 P) :: (nat_lit 288, o288 P) :: (nat_lit 289, o289 P) :: (nat_lit 290, o290 P) :: (nat_lit 300, o300 P) :: (nat_lit 302, o302 P) :: (nat_lit 303, o303 P) :: (nat_lit 305, o305 P) :: (nat_lit 306, o306 P) :: (nat_lit 307, o307 P) :: (nat_lit 309, o309 P) :: (nat_lit 310, o310 P) :: (nat_lit 312, o312 P) :: (nat_lit 313, o313 P) :: (nat_lit 314, o314 P) :: (nat_lit 316, o316 P) :: (nat_lit 317, o317 P) :: (nat_lit 319, o319 P) :: (nat_lit 320, o320 P) :: (nat_lit 321, o321 P) :: (nat_lit 323, o323 P) :: (nat_lit 324, o324 P) :: (nat_lit 326, o326 P) :: (nat_lit 327, o327 P) :: (nat_lit 328, o328 P) :: (nat_lit 330, o330 P) :: (nat_lit 331, o331 P) :: (nat_lit 333, o333 P) :: (nat_lit 334, o334 P) :: (nat_lit 335, o335 P) :: (nat_lit 337, o337 P) :: (nat_lit 338, o338 P) :: (nat_lit 340, o340 P) :: (nat_lit 341, o341 P) :: (nat_lit 342, o342 P) :: (nat_lit 344, o344 P) :: (nat_lit 345, o345 P) :: (nat_lit 347, o347 P) :: (nat_lit 348, o348 P) :: (nat_lit 349, o349 P) :: (nat_lit 351, o351 P) :: (nat_lit 352, o352 P) :: (nat_lit 354, o354 P) :: (nat_lit 355, o355 P) :: (nat_lit 356, o356 P) :: (nat_lit 357, o357 P) :: (nat_lit 358, o358 P) :: (nat_lit 359, o359 P) :: (nat_lit 360, o360 P) :: (nat_lit 363, o363 P) :: (nat_lit 370, o370 P) :: (nat_lit 371, o371 P) :: (nat_lit 373, o373 P) :: (nat_lit 374, o374 P) :: (nat_lit 376, o376 P) :: (nat_lit 377, o377 P) :: (nat_lit 378, o378 P) :: (nat_lit 380, o380 P) :: (nat_lit 381, o381 P) :: (nat_lit 383, o383 P) :: (nat_lit 384, o384 P) :: (nat_lit 385, o385 P) :: (nat_lit 387, o387 P) :: (nat_lit 388, o388 P) :: (nat_lit 390, o390 P) :: (nat_lit 391, o391 P) :: (nat_lit 392, o392 P) :: (nat_lit 394, o394 P) :: (nat_lit 395, o395 P) :: (nat_lit 397, o397 P) :: (nat_lit 398, o398 P) :: (nat_lit 399, o399 P) :: (nat_lit 401, o401 P) :: (nat_lit 402, o402 P) :: (nat_lit 404, o404 P) :: (nat_lit 405, o405 P) :: (nat_lit 406, o406 P) :: (nat_lit 408, o408 P) :: (nat_lit 409, o409 P) :: (nat_lit 411, o411 P) :: (nat_lit 412, o412 P) :: (nat_lit 413, o413 P) :: (nat_lit 415, o415 P) :: (nat_lit 416, o416 P) :: (nat_lit 418, o418 P) :: (nat_lit 419, o419 P) :: (nat_lit 420, o420 P) :: (nat_lit 422, o422 P) :: (nat_lit 423, o423 P) :: (nat_lit 425, o425 P) :: (nat_lit 426, o426 P) :: (nat_lit 427, o427 P) :: (nat_lit 429, o429 P) :: (nat_lit 430, o430 P) :: (nat_lit 432, o432 P) :: (nat_lit 433, o433 P) :: (nat_lit 434, o434 P) :: (nat_lit 436, o436 P) :: (nat_lit 437, o437 P) :: (nat_lit 439, o439 P) :: (nat_lit 440, o440 P) :: (nat_lit 441, o441 P) :: (nat_lit 443, o443 P) :: (nat_lit 444, o444 P) :: (nat_lit 446, o446 P) :: (nat_lit 447, o447 P) :: (nat_lit 448, o448 P) :: (nat_lit 450, o450 P) :: (nat_lit 451, o451 P) :: (nat_lit 453, o453 P) :: (nat_lit 454, o454 P) :: (nat_lit 455, o455 P) :: (nat_lit 457, o457 P) :: (nat_lit 458, o458 P) :: (nat_lit 460, o460 P) :: (nat_lit 461, o461 P) :: (nat_lit 462, o462 P) :: (nat_lit 463, o463 P) :: (nat_lit 464, o464 P) :: (nat_lit 467, o467 P) :: (nat_lit 469, o469 P) :: (nat_lit 470, o470 P) :: (nat_lit 472, o472 P) :: (nat_lit 473, o473 P) :: (nat_lit 474, o474 P) :: (nat_lit 476, o476 P) :: (nat_lit 477, o477 P) :: (nat_lit 479, o479 P) :: (nat_lit 480, o480 P) :: (nat_lit 481, o481 P) :: (nat_lit 483, o483 P) :: (nat_lit 484, o484 P) :: (nat_lit 486, o486 P) :: (nat_lit 487, o487 P) :: (nat_lit 488, o488 P) :: (nat_lit 491, o491 P) :: (nat_lit 492, o492 P) :: (nat_lit 493, o493 P) :: (nat_lit 495, o495 P) :: (nat_lit 496, o496 P) :: (nat_lit 498, o498 P) :: (nat_lit 499, o499 P) :: (nat_lit 500, o500 P) :: (nat_lit 502, o502 P) :: (nat_lit 503, o503 P) :: (nat_lit 505, o505 P) :: (nat_lit 506, o506 P) :: (nat_lit 507, o507 P) :: (nat_lit 509, o509 P) :: (nat_lit 510, o510 P) :: (nat_lit 512, o512 P) :: (nat_lit 513, o513 P) :: (nat_lit 514, o514 P) :: (nat_lit 517, o517 P) :: (nat_lit 518, o518 P) :: (nat_lit 519, o519 P) :: (nat_lit 522, o522 P) :: (nat_lit 523, o523 P) :: []
def heapAs : List Addr := [2, 3, 15, 17, 18, 20, 21, 22, 29, 31, 32, 34, 35, 36, 37, 38, 39, 42, 44, 45, 47, 48, 49, 51, 52, 54, 55, 56, 58, 59, 61, 62, 63, 65, 66, 68, 69, 70, 72, 73, 75, 76, 77, 79, 80, 82, 83, 84, 86, 87, 89, 90, 91, 93, 94, 96, 97, 98, 100, 101, 103, 104, 105, 106, 108, 109, 111, 112, 113, 115, 116, 118, 119, 120, 122, 123, 125, 126, 134, 136, 137, 139, 140, 141, 143, 144, 146, 147, 148, 150, 151, 153, 154, 155, 157, 158, 160, 161, 162, 164, 165, 167, 168, 169, 171, 172, 174, 175, 176, 178, 179, 181, 182, 183, 185, 186, 188, 189, 190, 192, 193, 195, 196, 197, 199, 200, 202, 203, 204, 206, 207, 209, 210, 211, 212, 213, 214, 215, 225, 227, 228, 230, 231, 232, 234, 235, 237, 238, 239, 241, 242, 244, 245, 246, 247, 248, 249, 250, 253, 260, 262, 263, 265, 266, 267, 269, 270, 272, 273, 274, 276, 277, 279, 280, 281, 283, 284, 286, 287, 288, 289, 290, 300, 302, 303, 305, 306, 307, 309, 310, 312, 313, 314, 316, 317, 319, 320, 321, 323, 324, 326, 327, 328, 330, 331, 333, 334, 335, 337, 338, 340, 341, 342, 344, 345, 347, 348, 349, 351, 352, 354, 355, 356, 357, 358, 359, 360, 363, 370, 371, 373, 374, 376, 377, 378, 380, 381, 383, 384, 385, 387, 388, 390, 391, 392, 394, 395, 397, 398, 399, 401, 402, 404, 405, 406, 408, 409, 411, 412, 413, 415, 416, 418, 419, 420, 422, 423, 425, 426, 427, 429, 430, 432, 433, 434, 436, 437, 439, 440, 441, 443, 444, 446, 447, 448, 450, 451, 453, 454, 455, 457, 458, 460, 461, 462, 463, 464, 467, 469, 470, 472, 473, 474, 476, 477, 479, 480, 481, 483, 484, 486, 487, 488, 491, 492, 493, 495, 496, 498, 499, 500, 502, 503, 505, 506, 507, 509, 510, 512, 513, 514, 517, 518, 519, 522, 523]

abbrev pw : Program := PySem.Challenge.pw_np0066_01
noncomputable def evens {α : Type} : List α → List α
  | a :: _ :: r => a :: evens r
  | [a] => [a]
  | [] => []
/-- the tree of a list: the head; the tail's places 0, 2, ..; its places 1, 3, .. -/
noncomputable def btOf : Nat → List Obj → BT
  | 0, _ => .nil
  | _ + 1, [] => .nil
  | f + 1, o :: r => .node o (btOf f (evens r)) (btOf f (evens r.tail))
noncomputable def o12a (_ : Params) : Obj := { cls := .none, data := .fields #[] }
noncomputable def heapA (P : Params) : Heap := ⟨Array.mk [PySem.W.boot_o_0 P, PySem.W.boot_o_1 P, PySem.W.boot_o_2 P, PySem.W.boot_o_3 P, PySem.W.boot_o_4 P, PySem.W.boot_o_5 P, PySem.W.boot_o_6 P, PySem.W.boot_o_7 P, PySem.W.boot_o_8 P, PySem.W.boot_o_9 P, PySem.W.boot_o_10 P, o11 P, o12a P, o13 P, o14 P], {}⟩
noncomputable def envM : Env := { scope := pw.main.scope, locals := mainNs, globals := mainNs, cells := [], code := .ref 13, frame := some 14 }
noncomputable abbrev codeM : Code := .body (behindTheImports pw) envM
abbrev pos0 : Pos := ⟨0, 0, 0, 0⟩
theorem run_pre (w : World) (os : OsState) : topGo treeTable pw w 11 (some (.ref 6)) 12 { heap := boot_heap w.params, gens := #[], drawn := boot_drawn, toks := boot_toks, os := os } (topStub pw) =
    some ({ heap := heapA w.params, gens := #[], drawn := {}, toks := 187, os := os }, { cur := denote treeTable codeM, code := codeM, pos := pos0, stack := [topFrame pos0] }) := by
  rw [PySem.W.Fast.te15667345088766844465, PySem.W.Fast.te14364793385576792824, PySem.W.Fast.te11892475500146522536]
  kernel_rfl
theorem run_block (w : World) (os : OsState) : segRun treeTable pw w 11 (some (.ref 6)) 1 1 { heap := heapA w.params, gens := #[], drawn := {}, toks := 187, os := os } (blockOf (behindTheImports pw) envM codeM pos0 [topFrame pos0]) =
    some (.next, SharedT.abs { tree := btOf 12 (heapA w.params).objs.toList, n := 15, life := {}, gens := #[], drawn := {}, toks := 187, os := os }, codeM, pos0) := by
  rw [PySem.W.Fast.te14374325043358763698, PySem.W.Fast.te14364793385576792824]
  kernel_rfl
theorem run_all (w : World) (os : OsState) : segRunT treeTable pw w 11 (some (.ref 6)) 1 3400 { tree := btOf 12 (heapA w.params).objs.toList, n := 15, life := {}, gens := #[], drawn := {}, toks := 187, os := os } (piecesOf (behindTheImports pw) envM codeM pos0 [topFrame pos0]) =
    some (.next, { tree := btOf 12 (heapE w.params).objs.toList, n := 524, life := {}, gens := #[], drawn := {}, toks := 900, os := os }, codeM, ⟨353, 0, 383, 116⟩) := by
  rw [PySem.W.Fast.te10110043849684766642, PySem.W.Fast.te14364793385576792824]
  kernel_rfl
theorem run_end (w : World) (os : OsState) : topRun treeTable pw w 11 (some (.ref 6)) 2 (SharedT.abs { tree := btOf 12 (heapE w.params).objs.toList, n := 524, life := {}, gens := #[], drawn := {}, toks := 900, os := os }) { cur := doneF .next, code := codeM, pos := ⟨353, 0, 383, 116⟩, stack := [topFrame pos0] } =
    some { heap := heapE w.params, gens := #[], drawn := {}, toks := 900, os := os } := by
  rw [PySem.W.Fast.te14082659384304107361, PySem.W.Fast.te14364793385576792824]
  kernel_rfl

theorem run (w : World) (os : OsState) : topRun treeTable pw w 11 (some (.ref 6)) 3415 { heap := boot_heap w.params, gens := #[], drawn := boot_drawn, toks := boot_toks, os := os } (topStub pw) =
    some { heap := heapE w.params, gens := #[], drawn := {}, toks := 900, os := os } := by
  have h4 := piece_nil (env := envM) (run_end w os)
  have h3 := piece_app (rest := []) (segRun_of (run_all w os)) h4
  rw [List.append_nil] at h3
  exact go_top (n := 12) (N := 3403) (run_pre w os) (piece_block (n := 1) (N := 3402) (run_block w os) h3)
abbrev lawLoose : List Str := [Str.ofString "insert_at", Str.ofString "Buffer"]
noncomputable abbrev hookK : Hook := kHook heapK heapAs (fun _ => by kernel_rfl)
theorem size (w : World) : ((boot_heap w.params).isNs mainGlobals && (#[] : Array GenState).size == 0, (boot_heap w.params).objs.size, (boot_heap w.params).nsMap mainGlobals (Str.ofString "__annotations__")) = (true, 11, some (.ref 6)) := by
  kernel_rfl
theorem looks1 (w : World) (os : OsState) : (staticsOk (importedModules pw.main.body) (boot_heap w.params) (heapE w.params) && namesBound pw (heapE w.params) && gensDone ⟨heapE w.params, #[], {}, 900, os⟩ && laidKept (boot_heap w.params) (heapE w.params)) = true := by
  kernel_rfl
theorem looks3 (w : World) (os : OsState) : hookK.obs ⟨heapE w.params, #[], {}, 900, os⟩ = hookK.val w := by
  kernel_rfl
theorem looks2 (w : World) (os : OsState) : openSeen view lawLoose (importedModules pw.main.body) (fun s => xlAt view [] s && recOk PySem.Challenge.rw_np0066_01.row.records s) true ⟨heapE w.params, #[], {}, 900, os⟩ = openGood view lawLoose := by
  kernel_rfl

theorem fence (s : Shared) : fenceModules? pw s = some s := by rfl
theorem opens : opening pw = plainProg pw.main.scope.names := by rfl
theorem left : LeftO PySem.Challenge.rw_np0066_01.row.toRowW.prog view lawLoose (fun s => xlAt view [] s && recOk (RowW.records PySem.Challenge.rw_np0066_01.row.toRowW) s) (Hook.obs hookK) (Hook.val hookK) 6706 :=
  LeftO.of_pieces (p := pw) (H₀ := boot_heap) (H₁ := heapE) (gs₀ := #[]) (gs₁ := #[]) (d₀ := boot_drawn) (d₁ := {}) (k₀ := boot_toks) (k₁ := 900) (m₀ := 11) (ann := some (.ref 6)) (M := 3415)
    (boot_open opens rfl fence) size run rfl (fun w => funext fun os => Prod.ext (looks1 w os) (Prod.ext (looks2 w os) (looks3 w os)))
theorem said : PySem.Challenge.rw_np0066_01.wellSaid = true := by
  unfold OpenLaw.wellSaid OpenRow.wellSaid OpenRow.partSaid looksOpen
  repeat' (with_reducible refine look_both ?_ ?_)
  all_goals decide +kernel

theorem warm (P : Params) : PySem.Challenge.rw_np0066_01.name = PySem.Challenge.rw_np0066_01.name ∧ heapK P = heapK P := by
  k_fill
  exact ⟨rfl, rfl⟩
theorem rep_len {α : Type} {x : α} {k : Nat} : (List.replicate k [x]).flatten.length = k := by simp
noncomputable abbrev LO : List Str := looseW view [Str.ofString "insert_at", Str.ofString "Buffer"]

/-- what a contract of a def says, for every frame that calls it -/
abbrev Spec (w : World) (mean : ExcName → Option Value) (mg mb : Str → Option Value) (d : Nat) (f : Addr) (vs : List Value) (news : List (Addr × Obj))
    (post : Value → List (Addr × Obj) → Prop) : Prop :=
  ∀ (dp un : Nat) (gd : Option (List Code)) (cn : Str) (cs : Scope) (a : Addr) (ccd : Value) (cl : List (Str × Addr)) (outer : List Env) (A₀ : Around) (base h₀ : Heap) (L : Addr) (m : Str → Option Value) (s : Shared) (Q E : Value → Shared → Prop),
    Below A₀ base outer h₀ → Fr h₀ L s.heap m → (heapK w.params).In h₀ → News h₀ L s.heap news → Top view LO mean mg mb h₀ → cs.kind = .function → dp + d < recursionLimit → un + 8 * d < cLine →
    (∀ v news' h' tk', post v news' → Fr h₀ L h' m → News h₀ L h' news' → Q v { s with heap := h', toks := tk' }) →
    wpAny (model PySem.Challenge.pw_np0066_01 w) (ktrTop dp un gd cn cs L a ccd cl outer) (call (.ref f) vs) Q E s

section
variable {prog : Program} {w : World} {A : Around} {E : Value → Shared → Prop} {s : Shared} {h₀ : Heap} {L l D : Addr} {m : Str → Option Value} {news : List (Addr × Obj)} {vs ws : List Value} {n n2 : Nat} {x y : Int}

theorem sub_cons {α : Type} {a : α} {l r : List α} (h : a ∈ r) (t : ∀ p ∈ l, p ∈ r) : ∀ p ∈ a :: l, p ∈ r := List.forall_mem_cons.mpr ⟨h, t⟩
theorem sub_refl {α : Type} {l : List α} : ∀ p ∈ l, p ∈ l := fun _ h => h
theorem sub_tail {α : Type} {a : α} {l r : List α} (t : ∀ p ∈ l, p ∈ r) : ∀ p ∈ l, p ∈ a :: r := fun p h => .tail _ (t p h)
theorem sub_nil {α : Type} {r : List α} : ∀ p ∈ ([] : List α), p ∈ r := fun _ h => nomatch h
theorem pick_nat {vs : List Value} {x y : Int} (h0 : 0 ≤ x) (h1 : x ≤ y) (h2 : y ≤ vs.length) :
    slicePick vs.toArray (some x) (some y) none = ((vs.drop x.toNat).take (y.toNat - x.toNat)).toArray := by
  have e := slicePick_run vs.toArray x.toNat y.toNat (by rw [List.size_toArray]; omega) (by omega)
  rw [Int.toNat_of_nonneg h0, Int.toNat_of_nonneg (by omega : 0 ≤ y)] at e
  exact e

theorem len_pick {n : Nat} {x y : Int} (h0 : 0 ≤ x) (h1 : x ≤ y) (h2 : y ≤ n) : ((min (y.toNat - x.toNat) (n - x.toNat) : Nat) : Int) = y - x := by
  obtain ⟨i, rfl⟩ := Int.eq_ofNat_of_zero_le h0
  obtain ⟨d, rfl⟩ := Int.le.dest h1
  have h : i + d ≤ n := Int.ofNat_le.mp h2
  show ((min (i + d - i) (n - i) : Nat) : Int) = (i : Int) + d - i
  rw [Nat.add_sub_cancel_left, Nat.min_eq_left (Nat.le_sub_of_add_le (Nat.add_comm _ _ ▸ h)), Int.add_comm, Int.add_sub_cancel]
theorem len_put {n k : Nat} {x y : Int} (h0 : 0 ≤ x) (h1 : x ≤ y) (h2 : y ≤ n) : ((min x.toNat n + k + (n - y.toNat) : Nat) : Int) = n + k - (y - x) := by
  obtain ⟨i, rfl⟩ := Int.eq_ofNat_of_zero_le h0
  obtain ⟨d, rfl⟩ := Int.le.dest h1
  obtain ⟨e, rfl⟩ := Nat.exists_eq_add_of_le (show i + d ≤ n from Int.ofNat_le.mp h2)
  show ((min i (i + d + e) + k + (i + d + e - (i + d)) : Nat) : Int) = _
  rw [Nat.add_sub_cancel_left, Nat.min_eq_left (Nat.le_trans (Nat.le_add_right i d) (Nat.le_add_right _ e))]
  clear h0 h1 h2
  omega
theorem len_gap {n : Nat} {x y : Int} (h0 : 0 ≤ x) (h1 : x ≤ y) (h2 : y ≤ n) : ((min x.toNat n + (n - y.toNat) : Nat) : Int) = x + n - y := by
  have e := len_put (k := 0) h0 h1 h2
  rw [Nat.add_zero] at e
  rw [e]
  clear e h0 h1 h2
  omega
theorem fits_put {n k l a m : Nat} (h : a ≤ m) (z : n + k ≤ l) : min a n - 0 + k + (min n n - m) ≤ l + 1 := by
  rw [Nat.min_self, Nat.sub_zero]
  rcases Nat.le_total a n with q | q
  · rw [Nat.min_eq_left q]; omega
  · rw [Nat.min_eq_right q, Nat.sub_eq_zero_of_le (Nat.le_trans q h)]; exact Nat.le_succ_of_le z

/-- a list of the ledger is read from x to y -/
theorem my_slice {value slice : PySem.Expr} {vl vu : Value} {Q : Value → Shared → Prop} (F : Fr h₀ L s.heap m) (N : News h₀ L s.heap news) (hm : (l, listOf vs.toArray n) ∈ news)
    (pl : IsPart vl (some x)) (pu : IsPart vu (some y)) (h0 : 0 ≤ x) (h1 : x ≤ y) (h2 : y ≤ vs.length) (hz : vs.length ≤ 1000000)
    (h : ∀ D zs h', zs = (vs.drop x.toNat).take (y.toNat - x.toNat) → (zs.length : Int) = y - x → Fr h₀ L h' m → News h₀ L h' ((D, listOf zs.toArray 0) :: news) → (∀ p ∈ news, p.1 < D) → Q (.ref D) { s with heap := h' })
    (hs : subscripted slice false (.ref l) (.ref s.heap.objs.size) = operate [.ref s.heap.objs.size, .ref l] (getItem (.ref l) (.ref s.heap.objs.size))) (ht : ∀ r, letTemporaryGo value (.ref l) r = pure ()) :
    wpAny (model prog w) A (subscriptTail value slice (.ref l) (.ref s.heap.objs.size)) Q E { s with heap := s.heap.push { cls := .type "slice", data := .fields #[vl, vu, .none] } } := by
  refine kmk_slice F N (PySem.IsL.isList (n := n) (N _ hm).1) pl pu (fun D h' F' N' l1 => ?_) hs ht (by rw [List.size_toArray, PySem.sizeLine_eq]; omega)
  rw [pick_nat h0 h1 h2] at N'
  refine h D _ h' rfl ?_ F' N' l1
  rw [List.length_take, List.length_drop]
  exact len_pick h0 h1 h2

theorem my_len {Q : Value → Shared → Prop} (N : News h₀ L s.heap news) (hm : (l, listOf vs.toArray n) ∈ news) (hz : vs.length ≤ 1000000)
    (h : Q (.int vs.length (s.toks + 1)) { s with toks := s.toks + 1 + 1 }) : wpAny (model prog w) A (call (.builtin "len") [.ref l]) Q E s :=
  call_len_list (PySem.IsL.isList (n := n) (N _ hm).1) (by rw [List.size_toArray]; omega) h

/-- two lists of the ledger, one behind the other -/
theorem my_add {v : Addr} {Q : Value → Shared → Prop} (F : Fr h₀ L s.heap m) (N : News h₀ L s.heap news) (h1 : (l, listOf vs.toArray n) ∈ news) (h2 : (v, listOf ws.toArray n2) ∈ news) (hz : vs.length + ws.length ≤ 1000000)
    (h : ∀ D zs h', zs = vs ++ ws → (zs.length : Int) = vs.length + ws.length → Fr h₀ L h' m → News h₀ L h' ((D, listOf zs.toArray 0) :: news) → (∀ p ∈ news, p.1 < D) → Q (.ref D) { s with heap := h' }) :
    wpAny (model prog w) A (binaryOp .Add (.ref l) (.ref v)) Q E s := by
  refine add_lists F N (PySem.IsL.isList (n := n) (N _ h1).1) (PySem.IsL.isList (n := n2) (N _ h2).1) (fun h' F' N' => ?_) (by rw [PySem.sizeLine_eq]; omega)
  exact h _ (vs ++ ws) h' rfl (by rw [List.length_append]; omega) F' N' fun p hp => Heap.lt_size (N p hp).1

theorem setSlice_at {sl v : Addr} {items new : Array Value} {vl vu : Value} {lo hi : Option Int} {Q : Unit → Shared → Prop} (ho : s.heap.get? l = some (listOf items n)) (hv : s.heap.get? v = some (listOf new n2)) (hlv : l ≠ v)
    (hs : s.heap.IsSliceOf sl vl vu .none) (pl : IsPart vl lo) (pu : IsPart vu hi) (hz : items.size + new.size ≤ sizeLine)
    (hQ : Q () { s with heap := s.heap.update l (Obj.mapSeq fun xs => xs.extract 0 (sliceBounds lo hi none items.size).1.toNat ++ new ++ xs.extract (max (sliceBounds lo hi none items.size).1 (sliceBounds lo hi none items.size).2.1).toNat xs.size) }) :
    wpAny (model prog w) A (setItem (.ref l) (.ref sl) (.ref v)) Q E s := by
  have hl : s.heap.IsList l items := PySem.IsL.isList (n := n) ho
  have hvl : s.heap.IsList v new := PySem.IsL.isList (n := n2) hv
  obtain ⟨os, hos, hcs, hds⟩ := id hs
  have hTs : s.TypeIs (.ref sl) "slice" := ⟨os, hos, hcs⟩
  unfold setItem
  try with_reducible refine wpAny_holding ?_
  first | refine wpAny_bind (wpAny_pure ?_) | skip
  refine wpAny_bind (wpAny_sequenceKey hl.typeIs (by decide) ?_)
  refine wpAny_bind (wpAny_callSpecial?_slot (name := Str.ofString "__setitem__") hl.typeIs slot_list_setitem
    (wpAny_call_entry slot_list_setitem hl.typeIs entry_list_setitem ?_ (args_list_setitem _ _ _)))
  show wpAny _ _ (Builtin.List.listSubscript? (.ref sl) >>= _) _ _ s
  refine wpAny_bind ?_
  unfold Builtin.List.listSubscript?
  refine wpAny_bind (wpAny_specialOf hTs slice_no_index ?_)
  simp only [Option.isNone_none, if_true]
  refine wpAny_pure ?_
  show wpAny _ _ (typeOf (.ref sl) >>= _) _ _ s
  refine wpAny_bind (wpAny_typeOf hTs ?_)
  rw [if_neg (by decide)]
  rw [listSliceParts_eq]
  refine wpAny_bind (wpAny_bind (wpAny_field hos hds (x := .none) rfl (wpAny_bind (wpAny_listPart .none ?_))))
  rw [if_neg (show ¬ ((rawPart none == rawInt 0) = true) from Bool.false_ne_true)]
  refine wpAny_bind (wpAny_field hos hds (x := vl) rfl (wpAny_bind (wpAny_listPart pl ?_)))
  refine wpAny_bind (wpAny_field hos hds (x := vu) rfl (wpAny_bind (wpAny_listPart pu (wpAny_pure ?_))))
  have hsame : Builtin.List.listSameRef (.ref l) (.ref v) = false := by simp [Builtin.List.listSameRef, hlv]
  simp only [hsame, Bool.false_eq_true, if_false]
  refine wpAny_bind (m := Builtin.List.listAllItems (.ref v) _) ?_
  unfold Builtin.List.listAllItems
  refine wpAny_bind (wpAny_typeOf hvl.typeIs ?_)
  rw [if_pos (by decide)]
  unfold Builtin.List.listItems
  refine wpAny_bind (wpAny_seqItems hv rfl (wpAny_pure ?_))
  refine wpAny_bind (wpAny_bind (wpAny_seqItems ho rfl (wpAny_pure ?_)))
  refine wpAny_bind (wpAny_of_eq (sliceIndices_raw lo hi none items.size (by simp)) ?_)
  have h1 : ((sliceBounds lo hi none items.size).2.2 == 1) = true := rfl
  have h2 : Builtin.List.listTooLong (items.size + new.size) = false := by
    unfold Builtin.List.listTooLong
    exact decide_eq_false (by omega)
  simp only [h1, h2, if_true, Bool.false_eq_true, if_false]
  refine wpAny_bind (wpAny_rule ?_)
  unfold Builtin.List.listUpdate
  refine wpAny_bind (wpAny_updateSeq ho rfl (wpAny_bind (wpAny_letGo (wpAny_pure ⟨.none, rfl, wpAny_pure hQ⟩))) (by omega) ?_)
  simp only [Array.size_append, Array.size_extract]
  exact fits_put (Int.toNat_le_toNat (Int.le_max_left _ _)) hz

theorem bounds_nat {k : Nat} (h0 : 0 ≤ x) (h1 : x ≤ y) (h2 : y ≤ k) : sliceBounds (some x) (some y) none k = (x, y, 1) := by
  simp only [sliceBounds, Option.getD_none, show (1 : Int) > 0 by decide, if_true, if_neg (show ¬ (x < 0) by omega), if_neg (show ¬ (y < 0) by omega)]
  congr 1
  · omega
  · congr 1; omega

/-- l[x:y] = v, both of the ledger -/
theorem my_setSlice {news' : List Value → Nat → List (Addr × Obj)} {v : Addr} {vl vu : Value} {Q : Unit → Shared → Prop} (F : Fr h₀ L s.heap m) (N : News h₀ L s.heap news) (hv : (v, listOf ws.toArray n2) ∈ news) (hlv : l ≠ v)
    (U : ∀ (zs : List Value) (n' : Nat), Upd l (listOf vs.toArray n) (listOf zs.toArray n') news (news' zs n'))
    (pl : IsPart vl (some x)) (pu : IsPart vu (some y)) (h0 : 0 ≤ x) (h1 : x ≤ y) (h2 : y ≤ vs.length) (hz : vs.length + ws.length ≤ 1000000)
    (h : ∀ zs n' h', zs = vs.take x.toNat ++ ws ++ vs.drop y.toNat → (zs.length : Int) = vs.length + ws.length - (y - x) → Fr h₀ L h' m → News h₀ L h' (news' zs n') → Q () { s with heap := h' }) :
    wpAny (model prog w) A (setItem (.ref l) (.ref s.heap.objs.size) (.ref v)) Q E { s with heap := s.heap.push { cls := .type "slice", data := .fields #[vl, vu, .none] } } := by
  have U0 := U [] 0
  obtain ⟨pre, post, e1, -, a, b⟩ := U0.split
  have hl : (l, listOf vs.toArray n) ∈ news := by rw [e1]; exact List.mem_append.mpr (.inr (.head _))
  have zl := N _ hl
  have zv := N _ hv
  refine setSlice_at (n := n) (n2 := n2) (items := vs.toArray) (new := ws.toArray) (Heap.get?_push_of_some _ zl.1) (Heap.get?_push_of_some _ zv.1) hlv (Heap.IsSliceOf.new ..) pl pu (by rw [List.size_toArray, List.size_toArray, PySem.sizeLine_eq]; omega) ?_
  rw [List.size_toArray, bounds_nat h0 h1 h2]
  have hmax : max x y = y := by omega
  have hf : (fun xs : Array Value => xs.extract 0 x.toNat ++ ws.toArray ++ xs.extract (max x y).toNat xs.size) vs.toArray = (vs.take x.toNat ++ ws ++ vs.drop y.toNat).toArray := by
    show vs.toArray.extract 0 x.toNat ++ ws.toArray ++ vs.toArray.extract (max x y).toNat vs.toArray.size = _
    rw [hmax]
    simp
    exact List.take_of_length_le (by simp)
  let zs := vs.take x.toNat ++ ws ++ vs.drop y.toNat
  have F1 := F.push { cls := .type "slice", data := .fields #[vl, vu, .none] }
  have N1 : News h₀ L (s.heap.push { cls := .type "slice", data := .fields #[vl, vu, .none] }) news := N.grown fun _ _ e => Heap.get?_push_of_some _ e
  have hlen : (zs.length : Int) = vs.length + ws.length - (y - x) := by
    show (((vs.take x.toNat ++ ws ++ vs.drop y.toNat).length : Nat) : Int) = _
    rw [List.length_append, List.length_append, List.length_take, List.length_drop]
    exact len_put h0 h1 h2
  obtain ⟨pre', post', e1', e2', a', b'⟩ := (U zs (if zs.toArray.size == vs.toArray.size then n else n + 1)).split
  refine h zs _ _ rfl hlen (F1.change (Heap.SameBut.update ..) zl.2.1 zl.2.2) (e2' ▸ ki_turn _ (e1' ▸ N1) a' b' hf rfl)
end

noncomputable def OffL (x : Addr) : List Addr → Prop
  | [] => True
  | b :: r => (@Ne Nat x b) ∧ OffL x r
theorem OffL.ne {x b : Addr} : ∀ {as : List Addr}, OffL x as → b ∈ as → x ≠ b
  | _ :: _, h, .head _ => h.1
  | _ :: _, h, .tail _ m => OffL.ne h.2 m
theorem OffL.of {x : Addr} : ∀ {as : List Addr}, (∀ b ∈ as, x ≠ b) → OffL x as
  | [], _ => trivial
  | b :: _, h => ⟨h b (.head _), OffL.of fun c hc => h c (.tail _ hc)⟩
theorem OffL.mono {x : Addr} {as bs : List Addr} (h : OffL x as) (k : ∀ b ∈ bs, b ∈ as) : OffL x bs := OffL.of fun b hb => h.ne (k b hb)
theorem off_mono {R : List (Addr × Obj)} {as bs : List Addr} (h : ∀ p ∈ R, OffL p.1 as) (k : ∀ b ∈ bs, b ∈ as) : ∀ p ∈ R, OffL p.1 bs := fun p hp => (h p hp).mono k
theorem off_one {R : List (Addr × Obj)} {as : List Addr} {d : Addr} (h : ∀ p ∈ R, OffL p.1 as) (k : d ∈ as) : ∀ p ∈ R, p.1 ≠ d := fun p hp => (h p hp).ne k

/-- rest is what all holds beside the addresses as -/
inductive Keep (as : List Addr) : List (Addr × Obj) → List (Addr × Obj) → Prop
  | nil : Keep as [] []
  | tail {R : List (Addr × Obj)} (h : ∀ p ∈ R, OffL p.1 as) : Keep as R R
  | keep {a : Addr} {o : Obj} {l r : List (Addr × Obj)} (h : OffL a as) (k : Keep as l r) : Keep as ((a, o) :: l) ((a, o) :: r)
  | drop {e : Addr × Obj} {l r : List (Addr × Obj)} (k : Keep as l r) : Keep as (e :: l) r
  | chunk {R l r : List (Addr × Obj)} (h : ∀ p ∈ R, OffL p.1 as) (k : Keep as l r) : Keep as (R ++ l) (R ++ r)
  | skip {R l r : List (Addr × Obj)} (k : Keep as l r) : Keep as (R ++ l) r
theorem Keep.sub {as : List Addr} {l r : List (Addr × Obj)} (k : Keep as l r) : ∀ p ∈ r, p ∈ l := by
  induction k with
  | nil => exact fun _ h => h
  | tail _ => exact fun _ h => h
  | keep _ _ ih => exact sub_cons (.head _) (sub_tail ih)
  | drop _ ih => exact sub_tail ih
  | chunk _ _ ih =>
    intro p hp
    rcases List.mem_append.mp hp with h | h
    · exact List.mem_append_left _ h
    · exact List.mem_append_right _ (ih p h)
  | skip _ ih => exact fun p hp => List.mem_append_right _ (ih p hp)
theorem Keep.off {as : List Addr} {l r : List (Addr × Obj)} (k : Keep as l r) : ∀ p ∈ r, OffL p.1 as := by
  induction k with
  | nil => exact fun _ h => nomatch h
  | tail h => exact h
  | keep h _ ih => exact List.forall_mem_cons.mpr ⟨h, ih⟩
  | drop _ ih => exact ih
  | chunk h _ ih =>
    intro p hp
    rcases List.mem_append.mp hp with q | q
    · exact h p q
    · exact ih p q
  | skip _ ih => exact ih

theorem use_spec {w : World} {mean : ExcName → Option Value} {mg mb : Str → Option Value} {d : Nat} {f : Addr} {vs : List Value} {news all : List (Addr × Obj)} {post : Value → List (Addr × Obj) → Prop}
    (C : Spec w mean mg mb d f vs news post)
    {dp un : Nat} {gd : Option (List Code)} {cn : Str} {cs : Scope} {a : Addr} {ccd : Value} {cl : List (Str × Addr)} {outer : List Env} {A₀ : Around} {base h₀ : Heap} {L : Addr} {m : Str → Option Value} {s : Shared} {Q E : Value → Shared → Prop}
    (B : Below A₀ base outer h₀) (F : Fr h₀ L s.heap m) (X : (heapK w.params).In h₀) (N : News h₀ L s.heap all) (sub : ∀ p ∈ news, p ∈ all) (T : Top view LO mean mg mb h₀) (hk : cs.kind = .function) (hr : dp + d < recursionLimit) (hu : un + 8 * d < cLine)
    (ret : ∀ v news' h' tk', post v news' → Fr h₀ L h' m → News h₀ L h' news' → Q v { s with heap := h', toks := tk' }) :
    wpAny (model PySem.Challenge.pw_np0066_01 w) (ktrTop dp un gd cn cs L a ccd cl outer) (call (.ref f) vs) Q E s :=
  C dp un gd cn cs a ccd cl outer A₀ base h₀ L m s Q E B F X (cb_drop N sub) T hk hr hu ret

/-- said, but hidden from the counting tactic -/
def Hid (p : Prop) : Prop := p
theorem hid {p : Prop} (h : p) : Hid p := h
theorem unhid {p : Prop} (h : Hid p) : p := h
theorem hid_l {p q : Prop} (h : Hid (p ∧ q)) : p := h.1
theorem hid_r {p q : Prop} (h : Hid (p ∧ q)) : Hid q := h.2
theorem room0 {a c n : Nat} (h : a + c < n) : a < n := Nat.lt_of_le_of_lt (Nat.le_add_right a c) h
theorem room1 {a b c n : Nat} (h : a + c < n) (k : b ≤ c) : a + b < n := Nat.lt_of_le_of_lt (Nat.add_le_add_left k a) h
theorem room2 {a b d c n : Nat} (h : a + c < n) (k : b + d ≤ c) : a + b + d < n := by rw [Nat.add_assoc]; exact room1 h k
theorem room3 {a b d e c n : Nat} (h : a + c < n) (k : b + d + e ≤ c) : a + b + d + e < n := by rw [Nat.add_assoc, Nat.add_assoc]; exact room1 h (by rw [← Nat.add_assoc]; exact k)
/-- the same, what follows said as a turn of what is asked of the end -/
abbrev SpecT (w : World) (mean : ExcName → Option Value) (mg mb : Str → Option Value) (d : Nat) (f : Addr) (vs : List Value) (news : List (Addr × Obj))
    (PT : (Value → List (Addr × Obj) → Prop) → Prop) : Prop :=
  ∀ (dp un : Nat) (gd : Option (List Code)) (cn : Str) (cs : Scope) (a : Addr) (ccd : Value) (cl : List (Str × Addr)) (outer : List Env) (A₀ : Around) (base h₀ : Heap) (L : Addr) (m : Str → Option Value) (s : Shared) (Q E : Value → Shared → Prop),
    Below A₀ base outer h₀ → Fr h₀ L s.heap m → (heapK w.params).In h₀ → News h₀ L s.heap news → Top view LO mean mg mb h₀ → cs.kind = .function → dp + d < recursionLimit → un + 8 * d < cLine →
    PT (fun v n => ∀ h' tk', Fr h₀ L h' m → News h₀ L h' n → Q v { s with heap := h', toks := tk' }) →
    wpAny (model PySem.Challenge.pw_np0066_01 w) (ktrTop dp un gd cn cs L a ccd cl outer) (call (.ref f) vs) Q E s
theorem toT {w : World} {mean : ExcName → Option Value} {mg mb : Str → Option Value} {d : Nat} {f : Addr} {vs : List Value} {news : List (Addr × Obj)} {post : Value → List (Addr × Obj) → Prop} {PT : (Value → List (Addr × Obj) → Prop) → Prop}
    (C : Spec w mean mg mb d f vs news post) (k : ∀ K : Value → List (Addr × Obj) → Prop, PT K → ∀ v n, post v n → K v n) : SpecT w mean mg mb d f vs news PT :=
  fun dp un gd cn cs a ccd cl outer A₀ base h₀ L m s Q E B F X N T hk hd hu ret => C dp un gd cn cs a ccd cl outer A₀ base h₀ L m s Q E B F X N T hk hd hu fun v n h' tk' hp F' N' => k _ ret v n hp h' tk' F' N'
theorem use_T {w : World} {mean : ExcName → Option Value} {mg mb : Str → Option Value} {d : Nat} {f : Addr} {vs : List Value} {news all : List (Addr × Obj)} {PT : (Value → List (Addr × Obj) → Prop) → Prop}
    (C : SpecT w mean mg mb d f vs news PT)
    {dp un : Nat} {gd : Option (List Code)} {cn : Str} {cs : Scope} {a : Addr} {ccd : Value} {cl : List (Str × Addr)} {outer : List Env} {A₀ : Around} {base h₀ : Heap} {L : Addr} {m : Str → Option Value} {s : Shared} {Q E : Value → Shared → Prop}
    (B : Below A₀ base outer h₀) (F : Fr h₀ L s.heap m) (X : (heapK w.params).In h₀) (N : News h₀ L s.heap all) (sub : ∀ p ∈ news, p ∈ all) (T : Top view LO mean mg mb h₀) (hk : cs.kind = .function) (hr : dp + d < recursionLimit) (hu : un + 8 * d < cLine)
    (ret : PT (fun v n => ∀ h' tk', Fr h₀ L h' m → News h₀ L h' n → Q v { s with heap := h', toks := tk' })) :
    wpAny (model PySem.Challenge.pw_np0066_01 w) (ktrTop dp un gd cn cs L a ccd cl outer) (call (.ref f) vs) Q E s :=
  C dp un gd cn cs a ccd cl outer A₀ base h₀ L m s Q E B F X (cb_drop N sub) T hk hr hu ret
theorem use_A {w : World} {mean : ExcName → Option Value} {mg mb : Str → Option Value} {d : Nat} {f : Addr} {vs : List Value} {news all : List (Addr × Obj)} {PT : (Value → List (Addr × Obj) → Prop) → Prop}
    {dp un : Nat} {gd : Option (List Code)} {cn : Str} {cs : Scope} {a : Addr} {ccd : Value} {cl : List (Str × Addr)} {outer : List Env} {A₀ : Around} {base h₀ : Heap} {L : Addr} {m : Str → Option Value} {s : Shared} {Q E : Value → Shared → Prop}
    (N : News h₀ L s.heap all) (sub : ∀ p ∈ news, p ∈ all) (B : Below A₀ base outer h₀) (F : Fr h₀ L s.heap m) (X : (heapK w.params).In h₀) (T : Top view LO mean mg mb h₀) (hk : cs.kind = .function) (hr : dp + d < recursionLimit) (hu : un + 8 * d < cLine)
    (C : SpecT w mean mg mb d f vs news PT) (ret : PT (fun v n => ∀ h' tk', Fr h₀ L h' m → News h₀ L h' n → Q v { s with heap := h', toks := tk' })) :
    wpAny (model PySem.Challenge.pw_np0066_01 w) (ktrTop dp un gd cn cs L a ccd cl outer) (call (.ref f) vs) Q E s := use_T C B F X N sub T hk hr hu ret
theorem allLt_lt {d : Addr} {l : List (Addr × Obj)} (h : AllLt d l) : ∀ p ∈ l, p.1 < d := by
  induction l with
  | nil => exact fun _ q => nomatch q
  | cons a r ih =>
    intro p hp
    rcases List.mem_cons.mp hp with e | q
    · rw [e]; exact h.1
    · exact ih h.2 p q
section
variable {prog : Program} {w : World} {A : Around} {E : Value → Shared → Prop} {s : Shared} {K : Frag} {x C dx L : Addr} {h₀ : Heap} {m : Str → Option Value} {news : List (Addr × Obj)} {news' : Tok → List (Addr × Obj)} {ox : Obj} {es : List DictEntry} {es' : Tok → List DictEntry} {n n' : Nat} {name : Str} {v : Value}
/-- an attribute set; what it says of tokens is hidden -/
theorem set_any {Q : Unit → Shared → Prop} (F : Fr h₀ L s.heap m) (X₀ : K.In h₀) (N : News h₀ L s.heap news) (I : InstAt s.heap x ox C (some (dictOf es n))) (hd : ox.dict = some dx)
    (hs : findIn K (.ref C) "__setattr__" = some (some (.builtin "object.__setattr__"))) (hp : plainOver K C = true) (ht : takerIn K C name = some none) (hh : hasDictIn K C = true) (hl : (getL name es).isSome = true)
    (e : ∀ t, (putL name (PyData.keyHash w.params name) (.str name t) v es, putN name es n) = (es' t, n')) (U : ∀ t, Upd dx (dictOf es n) (dictOf (es' t) n') news (news' t)) (hz : ∀ t, (es' t).length ≤ 1000)
    (h : ∀ h' t tk', Fr h₀ L h' m → News h₀ L h' (news' t) → Q () { s with heap := h', toks := tk' }) :
    wpAny (model prog w) A (setAttr (.ref x) name v) Q E s :=
  set_dict F X₀ N I hd hs hp ht hh hl (e _) (U _) (hz _) fun h' F' N' => h h' _ _ F' N'
end
theorem allLt_ne {d : Addr} {R : List (Addr × Obj)} (h : AllLt d R) : ∀ p ∈ R, p.1 ≠ d := fun p hp => Nat.ne_of_lt (allLt_lt h p hp)
theorem allLt_off1 {d : Addr} {R : List (Addr × Obj)} (h : AllLt d R) : ∀ p ∈ R, OffL p.1 [d] := fun p hp => ⟨Nat.ne_of_lt (allLt_lt h p hp), trivial⟩
def nameOf? : PySem.Expr → Option Str
  | .Name x _ => some x
  | _ => none
/-- the values of arguments that are names of the frame -/
noncomputable def namesOf (env : Env) (m : Str → Option Value) : List PySem.Expr → Option (List Value)
  | [] => some []
  | e :: r => (nameOf? e).bind fun x => if (x == ("__debug__" : Str)) = true then none else if env.kindOf x = some .local then (m x).bind fun v => (namesOf env m r).bind fun vs => some (v :: vs) else none
theorem nameOf_some {e : PySem.Expr} {x : Str} (h : nameOf? e = some x) : ∃ q, e = .Name x q := by
  cases e with
  | Name y q => cases h; exact ⟨q, rfl⟩
  | _ => cases h
section
variable {M : Model} {A : Around} {E : Value → Shared → Prop} {s : Shared} {K : Frag} {h₀ : Heap} {L a : Addr} {m mg mb : Str → Option Value} {cn : Str} {cs : Scope} {ccd : Value} {cl : List (Str × Addr)} {p : Program} {loose : List Str} {x : Str} {p1 pos : Pos} {f : Value}
theorem namesOf_cons {env : Env} {e : PySem.Expr} {r : List PySem.Expr} {vs : List Value} (h : namesOf env m (e :: r) = some vs) :
    ∃ y q v ws, e = .Name y q ∧ (y == ("__debug__" : Str)) = false ∧ env.kindOf y = some .local ∧ m y = some v ∧ namesOf env m r = some ws ∧ vs = v :: ws := by
  obtain ⟨y, h0, h5⟩ := Option.bind_eq_some_iff.mp h
  clear h
  obtain ⟨q, rfl⟩ := nameOf_some h0
  by_cases h1 : (y == ("__debug__" : Str)) = true
  · rw [if_pos h1] at h5; cases h5
  rw [if_neg h1] at h5
  by_cases h2 : env.kindOf y = some .local
  · rw [if_pos h2] at h5
    obtain ⟨v, h3, h6⟩ := Option.bind_eq_some_iff.mp h5
    obtain ⟨ws, h4, h7⟩ := Option.bind_eq_some_iff.mp h6
    cases h7
    exact ⟨y, q, v, ws, rfl, Bool.eq_false_iff.mpr h1, h2, h3, h4, rfl⟩
  · rw [if_neg h2] at h5; cases h5
theorem args_names (F : Fr h₀ L s.heap m) (hk : cs.kind = .function) {args : List PySem.Expr} : ∀ {vs : List Value} {Q : List Value → Shared → Prop}, namesOf (envX cn cs L a ccd cl) m args = some vs → Q vs s →
    (backTo pos (starEach args (envX cn cs L a ccd cl))).any (·.1) = false ∧ wpAny M A (spliced (backTo pos (starEach args (envX cn cs L a ccd cl)))) Q E s := by
  induction args with
  | nil => intro vs Q hv h; cases hv; exact ⟨rfl, args_nil h⟩
  | cons e r ih =>
    intro vs Q hv h
    obtain ⟨y, q, v, ws, rfl, h1, h2, h3, h4, rfl⟩ := namesOf_cons hv
    obtain ⟨i, j⟩ := ih (Q := fun vs s => Q (v :: vs) s) h4 h
    exact ⟨i, args_cons (nameX_L F h3 j hk h2 h1)⟩
/-- a call of the program's own by a name, all its arguments names of the frame: one step -/
theorem call_KN {e1 : PySem.Expr} {rest : List PySem.Expr} {vs : List Value} {Q : Value → Shared → Prop} (F : Fr h₀ L s.heap m) (X : K.In h₀) (T : TopRead p loose mg mb h₀) (e : nsIn K mainGlobals x = some (some f)) (hf : keepIn K f = true)
    (hv : namesOf (envX cn cs L a ccd cl) m (e1 :: rest) = some vs) (h : wpAny M A (call f vs) Q E s)
    (hk : cs.kind = .function := by rfl) (hx : (envX cn cs L a ccd cl).kindOf x = some .globalImplicit := by rfl) (hd : (x == ("__debug__" : Str)) = false := by decide) :
    wpAny M A (eval (.Call (.Name x p1) (e1 :: rest) [] pos) (envX cn cs L a ccd cl)) Q E s := by
  refine Call_ (nameX_K F X T e ?_ hk hx hd)
  obtain ⟨y, q, v, ws, rfl, h1, h2, h3, h4, rfl⟩ := namesOf_cons hv
  obtain ⟨i, j⟩ := args_names (M := M) (A := A) (E := E) (pos := pos) F hk (Q := fun vs s₁ => K.In s₁.heap ∧ wpAny M A (call f ([] ++ (v :: vs))) Q E s₁) h4 ⟨X.keeps F.keep, h⟩
  exact callWith_K (first := []) X hf (args_cons (nameX_L F h3 j hk h2 h1)) rfl i
end


local macro_rules | `(tactic| k_all) => `(tactic| first | assumption | exact off_one (by assumption) (by k_mem))
local macro_rules | `(tactic| lcg_sub) => `(tactic| first | exact sub_nil | exact sub_refl | (refine' sub_cons ?x ?y; (case x => k_mem); (case y => lcg_sub)) | (refine' sub_tail ?x; (case x => lcg_sub)))
local macro_rules | `(tactic| lcg_off) => `(tactic| first | exact True.intro | (refine' And.intro ?a ?b; (case a => k_ne); (case b => lcg_off)))
local macro_rules | `(tactic| k_allIn) => `(tactic| first | exact Keep.nil | (refine' Keep.tail ?h; (case h => first | assumption | exact off_mono (by assumption) (by lcg_sub))) | (refine' Keep.keep ?h ?k; (case h => lcg_off); (case k => k_allIn)) | (refine' Keep.drop ?k; (case k => k_allIn)))
local macro_rules | `(tactic| k_room) => `(tactic| ktr_room)
local macro_rules | `(tactic| k_units) => `(tactic| ktr_units)
local macro_rules | `(tactic| k_lt $h:ident) => `(tactic| (replace $h := allLt_of $h; dsimp only [AllLt] at $h:ident; k_dflt (change Hid _ at $h:ident)))
local macro_rules | `(tactic| walk_at "HL") => `(tactic| first | with_reducible assumption | (apply hid_l; (iterate 14 (try (first | done | with_reducible assumption | apply hid_r))); done))
local macro_rules | `(tactic| k_ne) => `(tactic| (refine neN ?_; (try dsimp only); first | with_reducible assumption | (refine Ne.symm ?_; with_reducible assumption) | (refine Nat.ne_of_lt ?_; walk_at "HL") | (refine Nat.ne_of_gt ?_; walk_at "HL") | ((try unfold Hid at *); omega)))
local macro_rules | `(tactic| ktr_room) => `(tactic| first | exact room0 (by with_reducible assumption) | (refine room1 (by with_reducible assumption) ?_; decide) | (refine room2 (by with_reducible assumption) ?_; decide) | (refine room3 (by with_reducible assumption) ?_; decide))
local macro_rules | `(tactic| ktr_units) => `(tactic| first | exact room0 (by with_reducible assumption) | (refine room1 (by with_reducible assumption) ?_; decide) | (refine room2 (by with_reducible assumption) ?_; decide) | (refine room3 (by with_reducible assumption) ?_; decide))
local macro_rules | `(tactic| walk_at "HA") => `(tactic| first | with_reducible assumption | (apply unhid; (iterate 14 (try (first | done | with_reducible assumption | apply hid_r))); done))
local macro_rules | `(tactic| k_all) => `(tactic| exact allLt_ne (by walk_at "HA"))
section
variable {α : Type}
theorem tk_in {A B : List α} {n : Nat} (h : n ≤ A.length) : (A ++ B).take n = A.take n := List.take_append_of_le_length h
theorem dr_in {A B : List α} {n : Nat} (h : n ≤ A.length) : (A ++ B).drop n = A.drop n ++ B := List.drop_append_of_le_length h
theorem tk_at {A B : List α} {n : Nat} (h : A.length = n) : (A ++ B).take n = A := List.take_left' h
theorem dr_at {A B : List α} {n : Nat} (h : A.length = n) : (A ++ B).drop n = B := List.drop_left' h
theorem tk_len {c : List α} {n : Nat} (h : n ≤ c.length) : (c.take n).length = n := by rw [List.length_take, Nat.min_eq_left h]
theorem tk_tk {c : List α} {a b : Nat} (h : a ≤ b) : (c.take b).take a = c.take a := by rw [List.take_take, Nat.min_eq_left h]
theorem tk_past {A B : List α} {n k : Nat} (h : n = A.length + k) : (A ++ B).take n = A ++ B.take k := h ▸ List.take_length_add_append k
theorem dr_past {A B : List α} {n k : Nat} (h : n = A.length + k) : (A ++ B).drop n = B.drop k := by rw [h, ← List.drop_drop, dr_at rfl]
theorem nat2 {P : Int → Prop} (h : ∀ n : Nat, P n) {x : Int} (h0 : 0 ≤ x) : P x := by
  rw [← Int.toNat_of_nonneg h0]
  exact h _
theorem tnn (n : Nat) : (n : Int).toNat = n := rfl
theorem tn2 (a b : Nat) : ((a : Int) + b).toNat = a + b := rfl
theorem tn3 (a b c : Nat) : ((a : Int) + b + c).toNat = a + b + c := rfl
theorem dif1 (a b : Int) : a + b - a = b := by rw [Int.add_comm, Int.add_sub_cancel]
theorem tk_le {c : List α} {a n : Nat} (h : a ≤ n) (k : n ≤ c.length) : a ≤ (c.take n).length := by rw [tk_len k]; exact h
theorem mv_lt (c : List α) (a d k : Nat) (h : a + d + k ≤ c.length) :
    (c.take (a + k) ++ (c.drop a).take d ++ c.drop (a + d + k)).take a ++ (c.take (a + k) ++ (c.drop a).take d ++ c.drop (a + d + k)).drop (a + k) = c.take (a + d) ++ c.drop (a + d + k) := by
  have h' : a + k ≤ c.length := Nat.le_trans (Nat.add_le_add_right (Nat.le_add_right a d) k) h
  rw [List.append_assoc, dr_at (tk_len h'), tk_in (tk_le (Nat.le_add_right a k) h'), tk_tk (Nat.le_add_right a k), ← List.append_assoc, ← List.take_add]
theorem mv_ge (c : List α) (gs k d : Nat) (h : gs + k + d ≤ c.length) :
    (c.take gs ++ (c.drop (gs + k)).take d ++ c.drop (gs + d)).take (gs + d) ++ (c.take gs ++ (c.drop (gs + k)).take d ++ c.drop (gs + d)).drop (gs + k + d) = c.take gs ++ c.drop (gs + k) := by
  have l2 : ((c.drop (gs + k)).take d).length = d := tk_len (by rw [List.length_drop]; exact Nat.le_sub_of_add_le (Nat.add_comm _ _ ▸ h))
  have l : (c.take gs ++ (c.drop (gs + k)).take d).length = gs + d := by
    rw [List.length_append, tk_len (Nat.le_trans (Nat.le_trans (Nat.le_add_right gs k) (Nat.le_add_right _ d)) h), l2]
  rw [tk_at l, dr_past (k := k) (by rw [l, Nat.add_right_comm]), List.drop_drop, List.append_assoc, Nat.add_right_comm, ← List.drop_drop (i := d), List.take_append_drop]
theorem widen_text {c z : List α} {gs ge ge' : Int} {w : List α} (h0 : 0 ≤ gs) (h1 : gs ≤ ge) (h2 : ge ≤ c.length) (e : z = c.take ge.toNat ++ w ++ c.drop ge.toNat) (hw : ge + (w.length : Int) = ge') :
    z.take gs.toNat ++ z.drop ge'.toNat = c.take gs.toNat ++ c.drop ge.toNat := by
  subst hw e
  obtain ⟨a, rfl⟩ := Int.eq_ofNat_of_zero_le h0
  obtain ⟨d, rfl⟩ := Int.le.dest h1
  have h : a + d ≤ c.length := Int.ofNat_le.mp h2
  rw [tn3, tn2, tnn, dr_at (by rw [List.length_append, tk_len h]), List.append_assoc, tk_in (tk_le (Nat.le_add_right a d) h), tk_tk (Nat.le_add_right a d)]
theorem insI {c z ws T1 T : List α} {a gs ge : Int} (h0 : 0 ≤ a) (hg : gs = a) (h1 : ws.length ≤ ge - gs) (h2 : ge ≤ c.length) (e : z = c.take a.toNat ++ ws ++ c.drop (a + ws.length).toNat)
    (t1 : c.take gs.toNat ++ c.drop ge.toNat = T1) (t2 : T1 = T) : z.take (a + ws.length).toNat ++ z.drop ge.toNat = T.take a.toNat ++ ws ++ T.drop a.toNat := by
  subst t2 t1 hg e
  obtain ⟨a, rfl⟩ := Int.eq_ofNat_of_zero_le h0
  obtain ⟨d, hd⟩ := Int.le.dest (show (a : Int) + ws.length ≤ ge by rw [Int.add_comm]; exact Int.add_le_of_le_sub_right h1)
  subst hd
  have h : a + ws.length + d ≤ c.length := Int.ofNat_le.mp h2
  have h' : a ≤ c.length := Nat.le_trans (Nat.le_trans (Nat.le_add_right _ _) (Nat.le_add_right _ d)) h
  have l : (c.take a ++ ws).length = a + ws.length := by rw [List.length_append, tk_len h']
  rw [tn3, tn2, tnn, tk_at l, tk_at (tk_len h'), dr_at (tk_len h'), dr_past (by rw [l]), List.drop_drop]
theorem cdI1 {c : List α} {a b gs ge : Int} (h0 : 0 ≤ a) (h1 : a ≤ b) (h2 : b ≤ gs) (h3 : gs ≤ ge) (h4 : ge ≤ c.length) :
    (c.drop a.toNat).take (b.toNat - a.toNat) = ((c.take gs.toNat ++ c.drop ge.toNat).drop a.toNat).take (b.toNat - a.toNat) := by
  obtain ⟨a, rfl⟩ := Int.eq_ofNat_of_zero_le h0
  obtain ⟨d, rfl⟩ := Int.le.dest h1
  obtain ⟨k, rfl⟩ := Int.le.dest h2
  have h : a + d + k ≤ c.length := Int.ofNat_le.mp (Int.le_trans h3 h4)
  rw [tn3, tn2, tnn, Nat.add_sub_cancel_left, Nat.add_assoc] at *
  rw [dr_in (tk_le (Nat.le_add_right _ _) h), List.drop_take, Nat.add_sub_cancel_left, tk_in (by
    rw [tk_len (by rw [List.length_drop]; exact Nat.le_sub_of_add_le (Nat.add_comm _ _ ▸ h))]; exact Nat.le_add_right _ _), tk_tk (Nat.le_add_right _ _)]
theorem cdI2 {c : List α} {a b gs ge : Int} (h0 : 0 ≤ gs) (h1 : a ≤ b) (h2 : gs ≤ a) (h3 : gs ≤ ge) (h4 : ge ≤ c.length) :
    (c.drop (a + (ge - gs)).toNat).take ((b + (ge - gs)).toNat - (a + (ge - gs)).toNat) = ((c.take gs.toNat ++ c.drop ge.toNat).drop a.toNat).take (b.toNat - a.toNat) := by
  obtain ⟨g, rfl⟩ := Int.eq_ofNat_of_zero_le h0
  obtain ⟨x, rfl⟩ := Int.le.dest h2
  obtain ⟨d, rfl⟩ := Int.le.dest h1
  obtain ⟨k, rfl⟩ := Int.le.dest h3
  have h : g ≤ c.length := Nat.le_trans (Nat.le_add_right g k) (Int.ofNat_le.mp h4)
  rw [dif1 g k, tn3, tn2, tn2, tn3, tnn, dr_past (k := x) (by rw [tk_len h]), List.drop_drop, Nat.add_sub_cancel_left]
  show ((c.drop (g + x + k)).take (g + x + d + k - (g + x + k))) = _
  rw [Nat.add_right_comm g k x, Nat.add_right_comm (g + x) d k, Nat.add_sub_cancel_left]
theorem cdI3 {c z z1 z2 : List α} {a b gs ge : Int} (h0 : 0 ≤ a) (h1 : a < gs) (h2 : gs < b) (h3 : gs ≤ ge) (h4 : ge ≤ c.length)
    (e1 : z1 = (c.drop a.toNat).take (gs.toNat - a.toNat)) (e2 : z2 = (c.drop ge.toNat).take ((b + (ge - gs)).toNat - ge.toNat)) (e : z = z1 ++ z2) :
    z = ((c.take gs.toNat ++ c.drop ge.toNat).drop a.toNat).take (b.toNat - a.toNat) := by
  subst e e1 e2
  obtain ⟨a, rfl⟩ := Int.eq_ofNat_of_zero_le h0
  obtain ⟨d, rfl⟩ := Int.le.dest (Int.le_of_lt h1)
  obtain ⟨x, rfl⟩ := Int.le.dest (Int.le_of_lt h2)
  obtain ⟨k, rfl⟩ := Int.le.dest h3
  have h : a + d ≤ c.length := Nat.le_trans (Nat.le_add_right _ k) (Int.ofNat_le.mp h4)
  have l : ((c.drop a).take d).length = d := tk_len (by rw [List.length_drop]; exact Nat.le_sub_of_add_le (Nat.add_comm _ _ ▸ h))
  rw [dif1 (a + d : Int) k, tn3, tn3, tn2, tnn, Nat.add_sub_cancel_left]
  show (c.drop a).take d ++ (c.drop (a + d + k)).take (a + d + x + k - (a + d + k)) = _
  rw [Nat.add_right_comm (a + d) x k, Nat.add_sub_cancel_left, dr_in (tk_le (Nat.le_add_right _ _) h), List.drop_take, Nat.add_sub_cancel_left, Nat.add_assoc a d x, Nat.add_sub_cancel_left, tk_past (k := x) (by rw [l])]
theorem mvI_lt {c z1 z : List α} {a gs ge : Int} (h0 : 0 ≤ a) (h1 : a < gs) (h2 : gs ≤ ge) (h3 : ge ≤ c.length)
    (e1 : z1 = (c.drop a.toNat).take (gs.toNat - a.toNat)) (l1 : (z1.length : Int) = gs - a) (e2 : z = c.take (ge - z1.length).toNat ++ z1 ++ c.drop ge.toNat) :
    z.take a.toNat ++ z.drop (ge - z1.length).toNat = c.take gs.toNat ++ c.drop ge.toNat := by
  obtain ⟨a, rfl⟩ := Int.eq_ofNat_of_zero_le h0
  obtain ⟨d, rfl⟩ := Int.le.dest (Int.le_of_lt h1)
  obtain ⟨k, rfl⟩ := Int.le.dest h2
  rw [dif1] at l1
  rw [l1, Int.add_right_comm, Int.add_sub_cancel, tn2, tn3, Nat.add_right_comm] at *
  subst e2 e1
  rw [tnn, tn2, Nat.add_sub_cancel_left]
  exact mv_lt c a d k (by rw [Nat.add_right_comm]; exact Int.ofNat_le.mp h3)
theorem mvI_ge {c z1 z : List α} {a gs ge : Int} (h0 : 0 ≤ gs) (h1 : ¬ a < gs) (h2 : gs ≤ ge) (h3 : a ≤ gs + c.length - ge) (h4 : ge ≤ c.length)
    (e1 : z1 = (c.drop ge.toNat).take ((ge + a - gs).toNat - ge.toNat)) (l1 : (z1.length : Int) = ge + a - gs - ge) (e2 : z = c.take gs.toNat ++ z1 ++ c.drop (gs + z1.length).toNat) :
    z.take a.toNat ++ z.drop (ge + z1.length).toNat = c.take gs.toNat ++ c.drop ge.toNat := by
  obtain ⟨g, rfl⟩ := Int.eq_ofNat_of_zero_le h0
  obtain ⟨d, rfl⟩ := Int.le.dest (Int.not_lt.mp h1)
  obtain ⟨k, rfl⟩ := Int.le.dest h2
  have q : (g : Int) + k + (g + d) - g = g + k + d := by rw [← Int.add_assoc, Int.add_right_comm _ (g : Int) d, Int.add_sub_cancel]
  rw [q, dif1] at l1
  rw [q] at e1
  rw [l1] at e2
  subst e2
  rw [l1, e1]
  have h : g + k + d ≤ c.length := by omega
  rw [tn3, tn2, tn2, tnn, Nat.add_sub_cancel_left]
  exact mv_ge c g k d h
theorem delI {c T : List α} {a b gs ge ge' : Int} (h0 : 0 ≤ a) (h1 : a ≤ gs) (h2 : gs ≤ b) (h3 : gs ≤ ge) (h4 : ge ≤ c.length) (e : ge' = ge + b - gs)
    (t : c.take gs.toNat ++ c.drop ge.toNat = T) : c.take a.toNat ++ c.drop ge'.toNat = T.take a.toNat ++ T.drop b.toNat := by
  subst t e
  obtain ⟨a, rfl⟩ := Int.eq_ofNat_of_zero_le h0
  obtain ⟨d, rfl⟩ := Int.le.dest h1
  obtain ⟨x, rfl⟩ := Int.le.dest h2
  obtain ⟨k, rfl⟩ := Int.le.dest h3
  have h : a + d ≤ c.length := Nat.le_trans (Nat.le_add_right _ k) (Int.ofNat_le.mp h4)
  have q : (a : Int) + d + k + (a + d + x) - (a + d) = a + d + k + x := by rw [← Int.add_assoc, Int.add_right_comm _ ((a : Int) + d) x, Int.add_sub_cancel]
  rw [q]
  show c.take a ++ c.drop (a + d + k + x) = (c.take (a + d) ++ c.drop (a + d + k)).take a ++ (c.take (a + d) ++ c.drop (a + d + k)).drop (a + d + x)
  rw [tk_in (tk_le (Nat.le_add_right _ _) h), tk_tk (Nat.le_add_right _ _), dr_past (k := x) (by rw [tk_len h]), List.drop_drop]
end


def drawPost (D C : Addr) (cells : Array Value) (nD nC : Nat) (k many : Int) (R : List (Addr × Obj)) (v : Value) (news : List (Addr × Obj)) : Prop :=
  ∃ r t t', v = .int r t ∧ 0 ≤ r ∧ r < many ∧ news = (D, listOf #[.ref C, .int (k + 1) t'] nD) :: (C, listOf cells nC) :: R

theorem draw_spec {w : World} {mean : ExcName → Option Value} {mg mb : Str → Option Value} {D C : Addr} {cells : List Value} {ns : List Int} {nD nC : Nat} {k many : Int} {tk tm : Tok} {R : List (Addr × Obj)}
    (hc : IntsAre cells ns) (hl : ns.length ≤ 63) (h0 : 0 ≤ k) (h1 : k ≤ 1000) (hm : 0 < many) (hDC : @Ne Nat D C) (hR : ∀ p ∈ R, p.1 ≠ D) :
    Spec w mean mg mb 1 487 [.ref D, .int many tm] ((D, listOf #[.ref C, .int k tk] nD) :: (C, listOf cells.toArray nC) :: R) (drawPost D C cells.toArray nD nC k many R) := by
  intro dp un gd cn cs a ccd cl outer A₀ base h₀ L m s Q E B F X N T hk hd hu hret
  refine wpAny_call ?_
  k_dflt cell_enter
  change (let ak : Around := _; wpAny _ ak _ _ _ _)
  intro ak
  repeat' (first | (k_unfold; (try dsimp only)) | (k_end; wrow_close) | walk1 | (dsimp only) | (leave1; (try dsimp only)) | fail "no step")
  all_goals (refine hret _ _ _ _ ⟨_, _, _, rfl, ?_, ?_, rfl⟩ (by k_asm) (by k_asm))
  all_goals first | exact Int.fmod_nonneg_of_pos _ hm | exact Int.fmod_lt_of_pos _ hm


structure GapA where
  gx : Addr
  gd : Addr
  gc : Addr
structure GapS where
  k0 : Tok
  k1 : Tok
  k2 : Tok
  k3 : Tok
  room : Int
  tr : Tok
  gs : Int
  ts : Tok
  ge : Int
  te : Tok
  cells : List Value
  n : Nat
theorem GapS.eta (S : GapS) : GapS.mk S.k0 S.k1 S.k2 S.k3 S.room S.tr S.gs S.ts S.ge S.te S.cells S.n = S := rfl
abbrev gapD (p : Params) (a : GapA) (S : GapS) : List DictEntry :=
  [⟨PyData.keyHash p (Str.ofString "room"), .str (Str.ofString "room") S.k0, .int S.room S.tr⟩,
   ⟨PyData.keyHash p (Str.ofString "cells"), .str (Str.ofString "cells") S.k1, .ref a.gc⟩,
   ⟨PyData.keyHash p (Str.ofString "gap_start"), .str (Str.ofString "gap_start") S.k2, .int S.gs S.ts⟩,
   ⟨PyData.keyHash p (Str.ofString "gap_end"), .str (Str.ofString "gap_end") S.k3, .int S.ge S.te⟩]
abbrev gapL (p : Params) (a : GapA) (S : GapS) (R : List (Addr × Obj)) : List (Addr × Obj) :=
  (a.gx, instObj 213 a.gd) :: (a.gd, dictOf (gapD p a S) 4) :: (a.gc, listOf S.cells.toArray S.n) :: R

structure GapOff (a : GapA) (R : List (Addr × Obj)) : Prop where
  xd : @Ne Nat a.gx a.gd
  xc : @Ne Nat a.gx a.gc
  dc : @Ne Nat a.gd a.gc
  off : ∀ p ∈ R, OffL p.1 [a.gx, a.gd, a.gc]

def GapS.text (S : GapS) : List Value := S.cells.take S.gs.toNat ++ S.cells.drop S.ge.toNat
structure GapS.Good (S : GapS) : Prop where
  r0 : 0 ≤ S.room
  s0 : 0 ≤ S.gs
  se : S.gs ≤ S.ge
  ec : S.ge ≤ S.cells.length
  lim : S.cells.length ≤ 100000
theorem GapS.text_len {S : GapS} (G : S.Good) : (S.text.length : Int) = S.gs + S.cells.length - S.ge := by
  obtain ⟨r0, s0, se, ec, lim⟩ := G
  unfold GapS.text
  rw [List.length_append, List.length_take, List.length_drop]
  exact len_gap s0 se ec

structure Moved (S S' : GapS) (at_ : Int) : Prop where
  good : S'.Good
  gs : S'.gs = at_
  gap : S'.ge - S'.gs = S.ge - S.gs
  text : S'.text = S.text
  len : S'.cells.length = S.cells.length
  room : S'.room = S.room

theorem move_spec {w : World} {mean : ExcName → Option Value} {mg mb : Str → Option Value} {a : GapA} {S : GapS} {R : List (Addr × Obj)} {at_ : Int} {t : Tok}
    (G : S.Good) (O : GapOff a R) (h0 : 0 ≤ at_) (h1 : at_ ≤ S.text.length) :
    Spec w mean mg mb 1 168 [.ref a.gx, .int at_ t] (gapL w.params a S R) (fun v n => v = .none ∧ ∃ S' : GapS, n = gapL w.params a S' R ∧ Moved S S' at_) := by
  intro dp un gd cn cs a1 ccd cl outer A₀ base h₀ L m s Q E B F X N T hk hd hu hret
  have htl := GapS.text_len G
  obtain ⟨xd, xc, dc, off⟩ := O
  obtain ⟨r0, s0, se, ec, lim⟩ := G
  rw [htl] at h1
  dsimp only [gapL, gapD] at N
  refine wpAny_call ?_
  k_dflt cell_enter
  change (let ak : Around := _; wpAny _ ak _ _ _ _)
  intro ak
  repeat' (first | (k_unfold; (try dsimp only)) | (k_end; wrow_close) | with_reducible ((with_reducible show PySem.wpAny _ _ (PySem.call (PySem.Value.builtin _) _) _ _ _); (k_here; (with_reducible show wpAny _ _ (call (Value.builtin "len") [Value.ref _]) _ _ _); k_dflt (refine' my_len (by k_asm) (by first | (k_mem; done) | fail) (by first | ((first | with_reducible assumption | omega); done) | fail) ?_; k_whole))) | with_reducible ((with_reducible show PySem.wpAny _ _ (PySem.setAttr (PySem.Value.ref _) _ _) _ _ _); (k_here; k_dflt (refine' set_any (by k_asm) (by k_asm) (by k_asm) (by first | (k_inst; done) | fail) (by exact rfl) (by k_is) (by k_is) (by k_is) (by k_is) (by first | (k_get; done) | fail) (by first | (((intro t'; k_put)); done) | fail) (by first | (((intro t'; k_upd)); done) | fail) (by first | (((intro t'; exact Nat.le_of_ble_eq_true rfl)); done) | fail) ?_; k_whole); intro h' t' tk' F' N'; (try dsimp only at N'); (try k_sweep))) | with_reducible ((with_reducible show PySem.wpAny _ _ (PySem.setItem (PySem.Value.ref _) _ _) _ _ _); (k_here; k_dflt (refine' my_setSlice (by k_asm) (by k_asm) (by first | (k_mem; done) | fail) (by first | (k_ne; done) | fail) (by first | (((intro zs' n'; k_upd)); done) | fail) (by exact IsPart.int _ _) (by exact IsPart.int _ _) (by first | ((first | with_reducible assumption | omega); done) | fail) (by first | ((first | with_reducible assumption | omega); done) | fail) (by first | ((first | with_reducible assumption | omega); done) | fail) (by first | ((first | omega | (simp only [rep_len]; omega)); done) | fail) ?_); intro zs' n' h' hz' hn' F' N'; (try dsimp only at N'); (try k_sweep))) | with_reducible ((with_reducible show PySem.wpAny _ _ (subscriptTail (PySem.Expr.Name _ _) (PySem.Expr.Slice _ _ _ _) (PySem.Value.ref _) (PySem.Value.ref _)) _ _ _); (k_here; k_dflt (refine' my_slice (by k_asm) (by k_asm) (by first | (k_mem; done) | fail) (by exact IsPart.int _ _) (by exact IsPart.int _ _) (by first | ((first | with_reducible assumption | omega); done) | fail) (by first | ((first | with_reducible assumption | omega); done) | fail) (by first | ((first | with_reducible assumption | omega); done) | fail) (by first | ((first | with_reducible assumption | omega); done) | fail) ?_ (by first | (with_unfolding_all rfl; done) | fail) (by first | ((intro _; with_unfolding_all rfl); done) | fail); k_whole); intro D' zs' h' hz' hn' F' N' l1; (try k_lt l1); (try k_sweep))) | walk1 | (dsimp only) | (leave1; (try dsimp only)) | fail "no step")
  · refine' hret _ _ _ _ ⟨rfl, ⟨_, _, _, _, _, _, _, _, _, _, _, _⟩, rfl, ?_⟩ ?f ?n
    (case f => k_asm)
    (case n => refine' cb_drop ?N ?s; (case N => k_asm); (case s => dsimp only [gapL, gapD]; lcg_sub))
    exact ⟨⟨by dsimp only; omega, by dsimp only; omega, by dsimp only; omega, by dsimp only; omega, by dsimp only; omega⟩, rfl, by dsimp only; omega, mvI_lt h0 (by assumption) se ec (by assumption) (by assumption) (by assumption), by dsimp only; omega, rfl⟩
  · refine' hret _ _ _ _ ⟨rfl, ⟨_, _, _, _, _, _, _, _, _, _, _, _⟩, rfl, ?_⟩ ?f ?n
    (case f => k_asm)
    (case n => refine' cb_drop ?N ?s; (case N => k_asm); (case s => dsimp only [gapL, gapD]; lcg_sub))
    exact ⟨⟨by dsimp only; omega, by dsimp only; omega, by dsimp only; omega, by dsimp only; omega, by dsimp only; omega⟩, rfl, by dsimp only; omega, mvI_ge s0 (by assumption) se h1 ec (by assumption) (by assumption) (by assumption), by dsimp only; omega, rfl⟩


structure Widened (S S' : GapS) (want : Int) : Prop where
  good : S'.Good
  gs : S'.gs = S.gs
  gap : want ≤ S'.ge - S'.gs
  text : S'.text = S.text
  len : (S'.cells.length : Int) ≤ S.cells.length + want + S.room
  room : S'.room = S.room

theorem widen_spec {w : World} {mean : ExcName → Option Value} {mg mb : Str → Option Value} {a : GapA} {S : GapS} {R : List (Addr × Obj)} {want : Int} {t : Tok}
    (G : S.Good) (O : GapOff a R) (h0 : 0 ≤ want) (h1 : S.cells.length + want + S.room ≤ 100000) :
    Spec w mean mg mb 1 175 [.ref a.gx, .int want t] (gapL w.params a S R) (fun v n => v = .none ∧ ∃ S' : GapS, n = gapL w.params a S' R ∧ Widened S S' want) := by
  intro dp un gd cn cs a1 ccd cl outer A₀ base h₀ L m s Q E B F X N T hk hd hu hret
  have htl := GapS.text_len G
  obtain ⟨xd, xc, dc, off⟩ := O
  obtain ⟨r0, s0, se, ec, lim⟩ := G
  dsimp only [gapL, gapD] at N
  refine wpAny_call ?_
  k_dflt cell_enter
  change (let ak : Around := _; wpAny _ ak _ _ _ _)
  intro ak
  repeat' (first | (k_unfold; (try dsimp only)) | (k_end; wrow_close) | with_reducible ((with_reducible show PySem.wpAny _ _ (PySem.setAttr (PySem.Value.ref _) _ _) _ _ _); (k_here; k_dflt (refine' set_any (by k_asm) (by k_asm) (by k_asm) (by first | (k_inst; done) | fail) (by exact rfl) (by k_is) (by k_is) (by k_is) (by k_is) (by first | (k_get; done) | fail) (by first | (((intro t'; k_put)); done) | fail) (by first | (((intro t'; k_upd)); done) | fail) (by first | (((intro t'; exact Nat.le_of_ble_eq_true rfl)); done) | fail) ?_; k_whole); intro h' t' tk' F' N'; (try dsimp only at N'); (try k_sweep))) | with_reducible ((with_reducible show PySem.wpAny _ _ (PySem.setItem (PySem.Value.ref _) _ _) _ _ _); (k_here; k_dflt (refine' my_setSlice (by k_asm) (by k_asm) (by first | (k_mem; done) | fail) (by first | (k_ne; done) | fail) (by first | (((intro zs' n'; k_upd)); done) | fail) (by exact IsPart.int _ _) (by exact IsPart.int _ _) (by first | ((first | with_reducible assumption | omega); done) | fail) (by first | ((first | with_reducible assumption | omega); done) | fail) (by first | ((first | with_reducible assumption | omega); done) | fail) (by first | ((first | omega | (simp only [rep_len]; omega)); done) | fail) ?_); intro zs' n' h' hz' hn' F' N'; (try dsimp only at N'); (try k_sweep))) | walk1 | (dsimp only) | (leave1; (try dsimp only)) | fail "no step")
  · refine' hret _ _ _ _ ⟨rfl, ⟨_, _, _, _, _, _, _, _, _, _, _, _⟩, rfl, ?_⟩ ?f ?n
    (case f => k_asm)
    (case n => refine' cb_drop ?N ?s; (case N => k_asm); (case s => dsimp only [gapL, gapD]; lcg_sub))
    refine ⟨⟨by dsimp only; omega, by dsimp only; omega, ?_, ?_, ?_⟩, rfl, ?_, ?_, ?_, rfl⟩
    case refine_5 => exact widen_text (ge' := S.ge + (want - (S.ge - S.gs)) + S.room) s0 se ec (by assumption) (by simp only [rep_len]; omega)
    all_goals (simp only [rep_len] at *; omega)
  · refine' hret _ _ _ _ ⟨rfl, S, rfl, ⟨⟨r0, s0, se, ec, lim⟩, rfl, by omega, rfl, by omega, rfl⟩⟩ ?f ?n
    (case f => k_asm)
    (case n => refine' cb_drop ?N ?s; (case N => k_asm); (case s => dsimp only [gapL, gapD]; lcg_sub))

theorem gap_use {w : World} {mean : ExcName → Option Value} {mg mb : Str → Option Value} {d : Nat} {f : Addr} {vs : List Value} {a : GapA} {R all : List (Addr × Obj)} {post : List (Addr × Obj) → Value → List (Addr × Obj) → Prop}
    {k0 k1 k2 k3 : Tok} {room : Int} {tr : Tok} {gs : Int} {ts : Tok} {ge : Int} {te : Tok} {cells : List Value} {n : Nat}
    (C : ∀ R, GapOff a R → Spec w mean mg mb d f vs (gapL w.params a ⟨k0, k1, k2, k3, room, tr, gs, ts, ge, te, cells, n⟩ R) (post R))
    {dp un : Nat} {gd : Option (List Code)} {cn : Str} {cs : Scope} {a1 : Addr} {ccd : Value} {cl : List (Str × Addr)} {outer : List Env} {A₀ : Around} {base h₀ : Heap} {L : Addr} {m : Str → Option Value} {s : Shared} {Q E : Value → Shared → Prop}
    (B : Below A₀ base outer h₀) (F : Fr h₀ L s.heap m) (X : (heapK w.params).In h₀) (N : News h₀ L s.heap all)
    (hx : (a.gx, instObj 213 a.gd) ∈ all)
    (he : (a.gd, dictOf [⟨PyData.keyHash w.params (Str.ofString "room"), .str (Str.ofString "room") k0, .int room tr⟩,
      ⟨PyData.keyHash w.params (Str.ofString "cells"), .str (Str.ofString "cells") k1, .ref a.gc⟩,
      ⟨PyData.keyHash w.params (Str.ofString "gap_start"), .str (Str.ofString "gap_start") k2, .int gs ts⟩,
      ⟨PyData.keyHash w.params (Str.ofString "gap_end"), .str (Str.ofString "gap_end") k3, .int ge te⟩] 4) ∈ all)
    (hc : (a.gc, listOf cells.toArray n) ∈ all)
    (xd : @Ne Nat a.gx a.gd) (xc : @Ne Nat a.gx a.gc) (dc : @Ne Nat a.gd a.gc) (K : Keep [a.gx, a.gd, a.gc] all R)
    (T : Top view LO mean mg mb h₀) (hk : cs.kind = .function) (hr : dp + d < recursionLimit) (hu : un + 8 * d < cLine)
    (ret : ∀ v news' h' tk', post R v news' → Fr h₀ L h' m → News h₀ L h' news' → Q v { s with heap := h', toks := tk' }) :
    wpAny (model PySem.Challenge.pw_np0066_01 w) (ktrTop dp un gd cn cs L a1 ccd cl outer) (call (.ref f) vs) Q E s :=
  use_spec (C R ⟨xd, xc, dc, K.off⟩) B F X N (sub_cons hx (sub_cons he (sub_cons hc K.sub))) T hk hr hu ret
theorem gap_A {w : World} {mean : ExcName → Option Value} {mg mb : Str → Option Value} {d : Nat} {f : Addr} {vs : List Value} {a : GapA} {R all : List (Addr × Obj)} {post : List (Addr × Obj) → Value → List (Addr × Obj) → Prop}
    {k0 k1 k2 k3 : Tok} {room : Int} {tr : Tok} {gs : Int} {ts : Tok} {ge : Int} {te : Tok} {cells : List Value} {n : Nat}
    {dp un : Nat} {gd : Option (List Code)} {cn : Str} {cs : Scope} {a1 : Addr} {ccd : Value} {cl : List (Str × Addr)} {outer : List Env} {A₀ : Around} {base h₀ : Heap} {L : Addr} {m : Str → Option Value} {s : Shared} {Q E : Value → Shared → Prop}
    (B : Below A₀ base outer h₀) (F : Fr h₀ L s.heap m) (X : (heapK w.params).In h₀) (N : News h₀ L s.heap all)
    (hx : (a.gx, instObj 213 a.gd) ∈ all)
    (he : (a.gd, dictOf [⟨PyData.keyHash w.params (Str.ofString "room"), .str (Str.ofString "room") k0, .int room tr⟩,
      ⟨PyData.keyHash w.params (Str.ofString "cells"), .str (Str.ofString "cells") k1, .ref a.gc⟩,
      ⟨PyData.keyHash w.params (Str.ofString "gap_start"), .str (Str.ofString "gap_start") k2, .int gs ts⟩,
      ⟨PyData.keyHash w.params (Str.ofString "gap_end"), .str (Str.ofString "gap_end") k3, .int ge te⟩] 4) ∈ all)
    (hc : (a.gc, listOf cells.toArray n) ∈ all)
    (xd : @Ne Nat a.gx a.gd) (xc : @Ne Nat a.gx a.gc) (dc : @Ne Nat a.gd a.gc) (K : Keep [a.gx, a.gd, a.gc] all R)
    (T : Top view LO mean mg mb h₀) (hk : cs.kind = .function) (hr : dp + d < recursionLimit) (hu : un + 8 * d < cLine)
    (C : ∀ R, GapOff a R → Spec w mean mg mb d f vs (gapL w.params a ⟨k0, k1, k2, k3, room, tr, gs, ts, ge, te, cells, n⟩ R) (post R))
    (ret : ∀ v news' h' tk', post R v news' → Fr h₀ L h' m → News h₀ L h' news' → Q v { s with heap := h', toks := tk' }) :
    wpAny (model PySem.Challenge.pw_np0066_01 w) (ktrTop dp un gd cn cs L a1 ccd cl outer) (call (.ref f) vs) Q E s := gap_use C B F X N hx he hc xd xc dc K T hk hr hu ret


local macro_rules | `(tactic| k_mem) => `(tactic| ((show (_ : Addr × Obj) ∈ (_ : List (Addr × Obj))); ktr_member))
structure Inserted (S S' : GapS) (at_ : Int) (ws : List Value) : Prop where
  good : S'.Good
  text : S'.text = S.text.take at_.toNat ++ ws ++ S.text.drop at_.toNat
  len : (S'.cells.length : Int) ≤ S.cells.length + ws.length + S.room
  room : S'.room = S.room

theorem gap_insert_spec {w : World} {mean : ExcName → Option Value} {mg mb : Str → Option Value} {a : GapA} {S : GapS} {R : List (Addr × Obj)} {at_ : Int} {t : Tok} {v : Addr} {ws : List Value} {n2 : Nat}
    (G : S.Good) (O : GapOff a ((v, listOf ws.toArray n2) :: R)) (h0 : 0 ≤ at_) (h1 : at_ ≤ S.text.length) (h2 : S.cells.length + ws.length + S.room ≤ 100000) :
    Spec w mean mg mb 2 182 [.ref a.gx, .int at_ t, .ref v] (gapL w.params a S ((v, listOf ws.toArray n2) :: R)) (fun r n => r = .none ∧ ∃ S' : GapS, n = gapL w.params a S' ((v, listOf ws.toArray n2) :: R) ∧ Inserted S S' at_ ws) := by
  intro dp un gd cn cs a1 ccd cl outer A₀ base h₀ L m s Q E B F X N T hk hd hu hret
  have htl := GapS.text_len G
  obtain ⟨xd, xc, dc, off⟩ := O
  obtain ⟨⟨vx, vd, vc, -⟩, off⟩ := List.forall_mem_cons.mp off
  dsimp only at vx vd vc
  have r0 := G.r0
  have lim := G.lim
  dsimp only [gapL, gapD] at N
  refine wpAny_call ?_
  k_dflt cell_enter
  change (let ak : Around := _; wpAny _ ak _ _ _ _)
  intro ak
  repeat' (first | (k_unfold; (try dsimp only)) | (k_end; wrow_close) | with_reducible ((with_reducible show PySem.wpAny _ _ (PySem.call (PySem.Value.builtin _) _) _ _ _); (k_here; (with_reducible show wpAny _ _ (call (Value.builtin "len") [Value.ref _]) _ _ _); k_dflt (refine' my_len (by k_asm) (by first | (k_mem; done) | fail) (by first | ((first | with_reducible assumption | omega); done) | fail) ?_; k_whole))) | with_reducible ((with_reducible show PySem.wpAny _ _ (PySem.call (PySem.Value.ref _) _) _ _ _); (k_here; (with_reducible show wpAny _ _ (PySem.call (Value.ref 175) _) _ _ _); k_dflt (refine' gap_A (by k_asm) (by k_asm) (by k_asm) (by k_asm) (by first | (k_mem; done) | fail) (by first | (k_mem; done) | fail) (by first | (k_mem; done) | fail) (by first | (k_ne; done) | fail) (by first | (k_ne; done) | fail) (by first | (k_ne; done) | fail) (by first | (k_allIn; done) | fail) (by k_asm) (by first | ((first | exact rfl | assumption); done) | fail) (by ktr_room) (by ktr_units) (fun R O => widen_spec (by first | ((first | assumption | fail "widen: Good"); done) | fail) O (by first | (((try simp only [GapS.eta]); first | omega | fail "widen: 0"); done) | fail) (by first | (((try simp only [GapS.eta]); first | omega | fail "widen: 1"); done) | fail)) ?_; k_whole); intro v' news' h' tk' hp' F' N'; (try simp only [GapS.eta] at hp'); obtain ⟨e', S', e2', M'⟩ := hp'; subst e'; subst e2'; obtain ⟨G', m1', m2', m3', m4', m5'⟩ := M'; (have m6' := congrArg List.length m3'); (have G9' := G'); obtain ⟨q1', q2', q3', q4', q5'⟩ := G9'; (try dsimp only at m1'); (try dsimp only at m2'); (try dsimp only at m4'); (try dsimp only at m5'); (dsimp only [gapL, gapD] at N'); (try k_sweep))) | with_reducible ((with_reducible show PySem.wpAny _ _ (PySem.call (PySem.Value.ref _) _) _ _ _); (k_here; (with_reducible show wpAny _ _ (PySem.call (Value.ref 168) _) _ _ _); k_dflt (refine' gap_A (by k_asm) (by k_asm) (by k_asm) (by k_asm) (by first | (k_mem; done) | fail) (by first | (k_mem; done) | fail) (by first | (k_mem; done) | fail) (by first | (k_ne; done) | fail) (by first | (k_ne; done) | fail) (by first | (k_ne; done) | fail) (by first | (k_allIn; done) | fail) (by k_asm) (by first | ((first | exact rfl | assumption); done) | fail) (by ktr_room) (by ktr_units) (fun R O => move_spec (by first | ((first | assumption | fail "move: Good"); done) | fail) O (by first | (((try simp only [GapS.eta]); first | omega | fail "move: 0"); done) | fail) (by first | (((try simp only [GapS.eta]); first | omega | fail "move: 1"); done) | fail)) ?_; k_whole); intro v' news' h' tk' hp' F' N'; (try simp only [GapS.eta] at hp'); obtain ⟨e', S', e2', M'⟩ := hp'; subst e'; subst e2'; obtain ⟨G', m1', m2', m3', m4', m5'⟩ := M'; (have m6' := congrArg List.length m3'); (have G9' := G'); obtain ⟨q1', q2', q3', q4', q5'⟩ := G9'; (try dsimp only at m1'); (try dsimp only at m2'); (try dsimp only at m4'); (try dsimp only at m5'); (dsimp only [gapL, gapD] at N'); (try k_sweep))) | with_reducible ((with_reducible show PySem.wpAny _ _ (PySem.setAttr (PySem.Value.ref _) _ _) _ _ _); (k_here; k_dflt (refine' set_any (by k_asm) (by k_asm) (by k_asm) (by first | (k_inst; done) | fail) (by exact rfl) (by k_is) (by k_is) (by k_is) (by k_is) (by first | (k_get; done) | fail) (by first | (((intro t'; k_put)); done) | fail) (by first | (((intro t'; k_upd)); done) | fail) (by first | (((intro t'; exact Nat.le_of_ble_eq_true rfl)); done) | fail) ?_; k_whole); intro h' t' tk' F' N'; (try dsimp only at N'); (try k_sweep))) | with_reducible ((with_reducible show PySem.wpAny _ _ (PySem.setItem (PySem.Value.ref _) _ _) _ _ _); (k_here; k_dflt (refine' my_setSlice (by k_asm) (by k_asm) (by first | (k_mem; done) | fail) (by first | (k_ne; done) | fail) (by first | (((intro zs' n'; k_upd)); done) | fail) (by exact IsPart.int _ _) (by exact IsPart.int _ _) (by first | ((first | with_reducible assumption | omega); done) | fail) (by first | ((first | with_reducible assumption | omega); done) | fail) (by first | ((first | with_reducible assumption | omega); done) | fail) (by first | ((first | omega | (simp only [rep_len]; omega)); done) | fail) ?_); intro zs' n' h' hz' hn' F' N'; (try dsimp only at N'); (try k_sweep))) | walk1 | (dsimp only) | (leave1; (try dsimp only)) | fail "no step")
  refine' hret _ _ _ _ ⟨rfl, ⟨_, _, _, _, _, _, _, _, _, _, _, _⟩, rfl, ?_⟩ ?f ?n
  (case f => k_asm)
  (case n => refine' cb_drop ?N ?s; (case N => k_asm); (case s => dsimp only [gapL, gapD]; lcg_sub))
  refine ⟨⟨by dsimp only; omega, by dsimp only; omega, by dsimp only; omega, by dsimp only; omega, by dsimp only; omega⟩, ?_, by dsimp only; omega, by dsimp only; omega⟩
  exact insI h0 (by assumption) (by dsimp only; omega) (by assumption) (by assumption) (by assumption) (by assumption)


theorem size_T {w : World} {mean : ExcName → Option Value} {mg mb : Str → Option Value} {a : GapA} {S : GapS} {Z : List (Addr × Obj)}
    (G : S.Good) (f1 : (a.gx, instObj 213 a.gd) ∈ Z) (f2 : (a.gd, dictOf (gapD w.params a S) 4) ∈ Z) (f3 : (a.gc, listOf S.cells.toArray S.n) ∈ Z) :
    SpecT w mean mg mb 1 147 [.ref a.gx] Z (fun k => ∀ t, k (.int S.text.length t) Z) := by
  intro dp un gd cn cs a1 ccd cl outer A₀ base h₀ L m s Q E B F X N T hk hd hu hret
  have htl := GapS.text_len G
  have lim := G.lim
  refine wpAny_call ?_
  k_dflt cell_enter
  change (let ak : Around := _; wpAny _ ak _ _ _ _)
  intro ak
  repeat' (first | (k_unfold; (try dsimp only)) | (k_end; wrow_close) | with_reducible ((with_reducible show PySem.wpAny _ _ (PySem.binaryOp _ (PySem.Value.ref _) (PySem.Value.ref _)) _ _ _); (k_here; k_dflt (refine' my_add (by k_asm) (by k_asm) (by first | (k_mem; done) | fail) (by first | (k_mem; done) | fail) (by first | ((first | with_reducible assumption | omega); done) | fail) ?_; k_whole); intro D' zs' h' hz' hn' F' N' l1; (try k_lt l1); (try k_sweep))) | with_reducible ((with_reducible show PySem.wpAny _ _ (PySem.call (PySem.Value.builtin _) _) _ _ _); (k_here; (with_reducible show wpAny _ _ (call (Value.builtin "len") [Value.ref _]) _ _ _); k_dflt (refine' my_len (by k_asm) (by first | (k_mem; done) | fail) (by first | ((first | with_reducible assumption | omega); done) | fail) ?_; k_whole))) | with_reducible ((with_reducible show PySem.wpAny _ _ (subscriptTail (PySem.Expr.Name _ _) (PySem.Expr.Slice _ _ _ _) (PySem.Value.ref _) (PySem.Value.ref _)) _ _ _); (k_here; k_dflt (refine' my_slice (by k_asm) (by k_asm) (by first | (k_mem; done) | fail) (by exact IsPart.int _ _) (by exact IsPart.int _ _) (by first | ((first | with_reducible assumption | omega); done) | fail) (by first | ((first | with_reducible assumption | omega); done) | fail) (by first | ((first | with_reducible assumption | omega); done) | fail) (by first | ((first | with_reducible assumption | omega); done) | fail) ?_ (by first | (with_unfolding_all rfl; done) | fail) (by first | ((intro _; with_unfolding_all rfl); done) | fail); k_whole); intro D' zs' h' hz' hn' F' N' l1; (try k_lt l1); (try k_sweep))) | walk1 | (dsimp only) | (leave1; (try dsimp only)) | fail "no step")
  · rw [show (S.cells.length : Int) - S.ge + S.gs = S.text.length by clear lim; omega]
    exact hret _ _ _ (by k_asm) (by k_asm)
theorem codes_T {w : World} {mean : ExcName → Option Value} {mg mb : Str → Option Value} {a : GapA} {S : GapS} {Z : List (Addr × Obj)} {start end_ : Int} {t1 t2 : Tok}
    (G : S.Good) (f1 : (a.gx, instObj 213 a.gd) ∈ Z) (f2 : (a.gd, dictOf (gapD w.params a S) 4) ∈ Z) (f3 : (a.gc, listOf S.cells.toArray S.n) ∈ Z) (h0 : 0 ≤ start) (h1 : start ≤ end_) (h2 : end_ ≤ S.text.length) :
    SpecT w mean mg mb 1 161 [.ref a.gx, .int start t1, .int end_ t2] Z (fun k => ∀ q zs, zs = (S.text.drop start.toNat).take (end_.toNat - start.toNat) → (∀ p ∈ Z, p.1 < q) → k (.ref q) ((q, listOf zs.toArray 0) :: Z)) := by
  intro dp un gd cn cs a1 ccd cl outer A₀ base h₀ L m s Q E B F X N T hk hd hu hret
  have htl := GapS.text_len G
  obtain ⟨r0, s0, se, ec, lim⟩ := G
  rw [htl] at h2
  refine wpAny_call ?_
  k_dflt cell_enter
  change (let ak : Around := _; wpAny _ ak _ _ _ _)
  intro ak
  repeat' (first | (k_unfold; (try dsimp only)) | (k_end; wrow_close) | with_reducible ((with_reducible show PySem.wpAny _ _ (PySem.binaryOp _ (PySem.Value.ref _) (PySem.Value.ref _)) _ _ _); (k_here; k_dflt (refine' my_add (by k_asm) (by k_asm) (by first | (k_mem; done) | fail) (by first | (k_mem; done) | fail) (by first | ((first | with_reducible assumption | omega); done) | fail) ?_; k_whole); intro D' zs' h' hz' hn' F' N' l1; (try k_lt l1); (try k_sweep))) | with_reducible ((with_reducible show PySem.wpAny _ _ (PySem.call (PySem.Value.builtin _) _) _ _ _); (k_here; (with_reducible show wpAny _ _ (call (Value.builtin "len") [Value.ref _]) _ _ _); k_dflt (refine' my_len (by k_asm) (by first | (k_mem; done) | fail) (by first | ((first | with_reducible assumption | omega); done) | fail) ?_; k_whole))) | with_reducible ((with_reducible show PySem.wpAny _ _ (subscriptTail (PySem.Expr.Name _ _) (PySem.Expr.Slice _ _ _ _) (PySem.Value.ref _) (PySem.Value.ref _)) _ _ _); (k_here; k_dflt (refine' my_slice (by k_asm) (by k_asm) (by first | (k_mem; done) | fail) (by exact IsPart.int _ _) (by exact IsPart.int _ _) (by first | ((first | with_reducible assumption | omega); done) | fail) (by first | ((first | with_reducible assumption | omega); done) | fail) (by first | ((first | with_reducible assumption | omega); done) | fail) (by first | ((first | with_reducible assumption | omega); done) | fail) ?_ (by first | (with_unfolding_all rfl; done) | fail) (by first | ((intro _; with_unfolding_all rfl); done) | fail); k_whole); intro D' zs' h' hz' hn' F' N' l1; (try k_lt l1); (try k_sweep))) | walk1 | (dsimp only) | (leave1; (try dsimp only)) | fail "no step")
  · exact hret _ _ (Eq.trans (by assumption) (cdI1 h0 h1 (by assumption) se ec)) (by assumption) _ _ (by k_asm) (by k_asm)
  · exact hret _ _ (Eq.trans (by assumption) (cdI2 s0 h1 (by assumption) se ec)) (by assumption) _ _ (by k_asm) (by k_asm)
  · (rename Hid (_ ∧ _ ∧ AllLt _ _) => l9)
    exact hret _ _ (cdI3 h0 (by omega) (by omega) se ec (by assumption) (by assumption) (by assumption)) (allLt_lt (hid_r (hid_r l9))) _ _ (by k_asm) (cb_drop (by k_asm) (sub_cons (.head _) (sub_tail (sub_tail (sub_tail sub_refl)))))


structure Deleted (S S' : GapS) (start end_ : Int) : Prop where
  good : S'.Good
  text : S'.text = S.text.take start.toNat ++ S.text.drop end_.toNat
  len : S'.cells.length = S.cells.length
  room : S'.room = S.room

theorem gap_delete_spec {w : World} {mean : ExcName → Option Value} {mg mb : Str → Option Value} {a : GapA} {S : GapS} {R : List (Addr × Obj)} {start end_ : Int} {t1 t2 : Tok}
    (G : S.Good) (O : GapOff a R) (h0 : 0 ≤ start) (h1 : start ≤ end_) (h2 : end_ ≤ S.text.length) :
    Spec w mean mg mb 2 189 [.ref a.gx, .int start t1, .int end_ t2] (gapL w.params a S R) (fun v n => ∃ q zs S', v = .ref q ∧ n = (q, listOf zs.toArray 0) :: gapL w.params a S' R ∧ zs = (S.text.drop start.toNat).take (end_.toNat - start.toNat) ∧ AllLt q (gapL w.params a S R) ∧ Deleted S S' start end_) := by
  intro dp un gd cn cs a1 ccd cl outer A₀ base h₀ L m s Q E B F X N T hk hd hu hret
  have htl := GapS.text_len G
  obtain ⟨xd, xc, dc, off⟩ := O
  have G1 := G
  obtain ⟨r0, s0, se, ec, lim⟩ := G1
  dsimp only [gapL, gapD] at N
  refine wpAny_call ?_
  k_dflt cell_enter
  change (let ak : Around := _; wpAny _ ak _ _ _ _)
  intro ak
  repeat' (first | (k_unfold; (try dsimp only)) | (k_end; wrow_close) | with_reducible ((with_reducible show PySem.wpAny _ _ (PySem.call (PySem.Value.ref _) _) _ _ _); (k_here; (with_reducible show wpAny _ _ (PySem.call (Value.ref 161) _) _ _ _); k_dflt (refine' use_A (by k_asm) sub_refl (by k_asm) (by k_asm) (by k_asm) (by k_asm) (by first | ((first | exact rfl | assumption); done) | fail) (by ktr_room) (by ktr_units) (codes_T (by assumption) (by first | (k_mem; done) | fail) (by first | (k_mem; done) | fail) (by first | (k_mem; done) | fail) (by first | ((first | with_reducible assumption | omega); done) | fail) (by first | ((first | with_reducible assumption | omega); done) | fail) (by first | ((first | with_reducible assumption | omega); done) | fail)) ?_; k_whole); intro D' zs' hz' l1 h' tk' F' N'; (try k_lt l1); (try k_sweep))) | with_reducible ((with_reducible show PySem.wpAny _ _ (PySem.call (PySem.Value.ref _) _) _ _ _); (k_here; (with_reducible show wpAny _ _ (PySem.call (Value.ref 168) _) _ _ _); k_dflt (refine' gap_A (by k_asm) (by k_asm) (by k_asm) (by k_asm) (by first | (k_mem; done) | fail) (by first | (k_mem; done) | fail) (by first | (k_mem; done) | fail) (by first | (k_ne; done) | fail) (by first | (k_ne; done) | fail) (by first | (k_ne; done) | fail) (by first | (k_allIn; done) | fail) (by k_asm) (by first | ((first | exact rfl | assumption); done) | fail) (by ktr_room) (by ktr_units) (fun R O => move_spec (by first | ((first | assumption | fail "move: Good"); done) | fail) O (by first | (((try simp only [GapS.eta]); first | omega | fail "move: 0"); done) | fail) (by first | (((try simp only [GapS.eta]); first | omega | fail "move: 1"); done) | fail)) ?_; k_whole); intro v' news' h' tk' hp' F' N'; (try simp only [GapS.eta] at hp'); obtain ⟨e', S', e2', M'⟩ := hp'; subst e'; subst e2'; obtain ⟨G', m1', m2', m3', m4', m5'⟩ := M'; (have m6' := congrArg List.length m3'); (have G9' := G'); obtain ⟨q1', q2', q3', q4', q5'⟩ := G9'; (try dsimp only at m1'); (try dsimp only at m2'); (try dsimp only at m4'); (try dsimp only at m5'); (dsimp only [gapL, gapD] at N'); (try k_sweep))) | with_reducible ((with_reducible show PySem.wpAny _ _ (PySem.setAttr (PySem.Value.ref _) _ _) _ _ _); (k_here; k_dflt (refine' set_any (by k_asm) (by k_asm) (by k_asm) (by first | (k_inst; done) | fail) (by exact rfl) (by k_is) (by k_is) (by k_is) (by k_is) (by first | (k_get; done) | fail) (by first | (((intro t'; k_put)); done) | fail) (by first | (((intro t'; k_upd)); done) | fail) (by first | (((intro t'; exact Nat.le_of_ble_eq_true rfl)); done) | fail) ?_; k_whole); intro h' t' tk' F' N'; (try dsimp only at N'); (try k_sweep))) | walk1 | (dsimp only) | (leave1; (try dsimp only)) | fail "no step")
  · refine' hret _ _ _ _ ⟨_, _, ⟨_, _, _, _, _, _, _, _, _, _, _, _⟩, rfl, rfl, ?_, ?_, ?_⟩ ?f ?n
    (case f => k_asm)
    (case n => refine' cb_drop ?N ?s; (case N => k_asm); (case s => dsimp only [gapL, gapD]; lcg_sub))
    · assumption
    · assumption
    · refine ⟨⟨by dsimp only; omega, by dsimp only; omega, by dsimp only; omega, by dsimp only; omega, by dsimp only; omega⟩, ?_, by dsimp only; omega, by dsimp only; omega⟩
      show List.take _ _ ++ List.drop _ _ = _
      dsimp only
      refine' delI h0 ?a11 ?a21 ?a31 ?a41 ?a51 ?t1
      (case t1 => first | assumption | rfl)
      all_goals omega
  · refine' hret _ _ _ _ ⟨_, _, ⟨_, _, _, _, _, _, _, _, _, _, _, _⟩, rfl, rfl, ?_, ?_, ?_⟩ ?f ?n
    (case f => k_asm)
    (case n => refine' cb_drop ?N ?s; (case N => k_asm); (case s => dsimp only [gapL, gapD]; lcg_sub))
    · assumption
    · assumption
    · refine ⟨⟨by dsimp only; omega, by dsimp only; omega, by dsimp only; omega, by dsimp only; omega, by dsimp only; omega⟩, ?_, by dsimp only; omega, by dsimp only; omega⟩
      show List.take _ _ ++ List.drop _ _ = _
      dsimp only
      refine' delI h0 ?a12 ?a22 ?a32 ?a42 ?a52 ?t2
      (case t2 => first | assumption | rfl)
      all_goals omega
  · refine' hret _ _ _ _ ⟨_, _, ⟨_, _, _, _, _, _, _, _, _, _, _, _⟩, rfl, rfl, ?_, ?_, ?_⟩ ?f ?n
    (case f => k_asm)
    (case n => refine' cb_drop ?N ?s; (case N => k_asm); (case s => dsimp only [gapL, gapD]; lcg_sub))
    · assumption
    · assumption
    · refine ⟨⟨by dsimp only; omega, by dsimp only; omega, by dsimp only; omega, by dsimp only; omega, by dsimp only; omega⟩, ?_, rfl, rfl⟩
      show List.take _ _ ++ List.drop _ _ = _
      dsimp only
      refine' delI h0 ?a13 ?a23 ?a33 ?a43 ?a53 ?t3
      (case t3 => first | assumption | rfl)
      all_goals omega


structure MarkA where
  mx : Addr
  md : Addr
  rw : Addr
  x0 : Addr
  d0 : Addr
  x1 : Addr
  d1 : Addr
  x2 : Addr
  d2 : Addr
structure MkS where
  k1 : Tok
  k2 : Tok
  k3 : Tok
  k4 : Tok
  tn : Tok
  adv : Bool
  buf : Value
  pos : Int
  tp : Tok
structure MarkS where
  kr : Tok
  o : Obj
  m0 : MkS
  m1 : MkS
  m2 : MkS
abbrev mkD (p : Params) (n : Int) (S : MkS) : List DictEntry :=
  [⟨PyData.keyHash p (Str.ofString "number"), .str (Str.ofString "number") S.k1, .int n S.tn⟩,
   ⟨PyData.keyHash p (Str.ofString "advances"), .str (Str.ofString "advances") S.k2, .bool S.adv⟩,
   ⟨PyData.keyHash p (Str.ofString "buffer"), .str (Str.ofString "buffer") S.k3, S.buf⟩,
   ⟨PyData.keyHash p (Str.ofString "position"), .str (Str.ofString "position") S.k4, .int S.pos S.tp⟩]
abbrev rowsD (p : Params) (a : MarkA) (kr : Tok) : List DictEntry :=
  [⟨PyData.keyHash p (Str.ofString "rows"), .str (Str.ofString "rows") kr, .ref a.rw⟩]
abbrev marksL (p : Params) (a : MarkA) (M : MarkS) (R : List (Addr × Obj)) : List (Addr × Obj) :=
  (a.mx, instObj 358 a.md) :: (a.md, dictOf (rowsD p a M.kr) 1) :: (a.rw, M.o) ::
  (a.x0, instObj 290 a.d0) :: (a.d0, dictOf (mkD p 0 M.m0) 4) :: (a.x1, instObj 290 a.d1) :: (a.d1, dictOf (mkD p 1 M.m1) 4) :: (a.x2, instObj 290 a.d2) :: (a.d2, dictOf (mkD p 2 M.m2) 4) :: R
abbrev rowsK (a : MarkA) : List (Int × Value) := [(0, .ref a.x0), (1, .ref a.x1), (2, .ref a.x2)]
structure MarkOff (a : MarkA) (R : List (Addr × Obj)) : Prop where
  c1 : @LT.lt Nat _ a.md a.mx
  c2 : @LT.lt Nat _ a.mx a.rw
  c3 : @LT.lt Nat _ a.rw a.d0
  c4 : @LT.lt Nat _ a.d0 a.x0
  c5 : @LT.lt Nat _ a.x0 a.d1
  c6 : @LT.lt Nat _ a.d1 a.x1
  c7 : @LT.lt Nat _ a.x1 a.d2
  c8 : @LT.lt Nat _ a.d2 a.x2
  off : ∀ p ∈ R, OffL p.1 [a.mx, a.md, a.rw, a.x0, a.d0, a.x1, a.d1, a.x2, a.d2]
structure MarkS.Good (w : World) (a : MarkA) (M : MarkS) : Prop where
  rows : M.o.IsDictOf (PySem.intKind PySem.Challenge.pw_np0066_01 w) (rowsK a)
  lo : (a.rw == sysModules) = false
structure MkStep (f : Int → Bool → Int) (S S' : MkS) : Prop where
  adv : S'.adv = S.adv
  buf : S'.buf = S.buf
  pos : S'.pos = f S.pos S.adv
structure MarkStep (f : Int → Bool → Int) (M M' : MarkS) : Prop where
  o : M'.o = M.o
  s0 : MkStep f M.m0 M'.m0
  s1 : MkStep f M.m1 M'.m1
  s2 : MkStep f M.m2 M'.m2

abbrev turnL (p : Params) (a : MarkA) (kr : Tok) (o : Obj) (n : Int) (S : MkS) (x d : Addr) (W : List (Addr × Obj)) : List (Addr × Obj) :=
  (a.mx, instObj 358 a.md) :: (a.md, dictOf (rowsD p a kr) 1) :: (a.rw, o) :: (x, instObj 290 d) :: (d, dictOf (mkD p n S) 4) :: W
/-- what one turn of a loop over the markers leaves -/
def MTurn (p : Params) (a : MarkA) (kr : Tok) (o : Obj) (h₀ : Heap) (L : Addr) (s : Shared) (xn : Str) (m₀ : Str → Option Value) (f : Int → Bool → Int) (n : Int) (S : MkS) (x d : Addr) (W : List (Addr × Obj)) (fl : Flow) (s₂ : Shared) : Prop :=
  fl = .next ∧ ∃ h' tk m' S', s₂ = { s with heap := h', toks := tk } ∧ Fr h₀ L h' m' ∧ (∀ z, z ≠ xn → z ≠ Str.ofString "marker" → m' z = m₀ z) ∧ News h₀ L h' (turnL p a kr o n S' x d W) ∧ MkStep f S S'

/-- the mark by which a walk knows what a turn does to a marker's place -/
def MkF (_f : Int → Bool → Int) : Prop := True
theorem MkF.intro (f : Int → Bool → Int) : MkF f := trivial

theorem marks_iter {w : World} {p : Params} {A : Around} {E : Value → Shared → Prop} {s : Shared} {env : Env} {h₀ : Heap} {xn : Str} {body : List Stmt} {Q : Flow → Shared → Prop} {m₀ : Str → Option Value}
    {a : MarkA} {M : MarkS} {R : List (Addr × Obj)} {B : Addr} {t0 t1 t2 : Tok} {nn : Nat} {f : Int → Bool → Int} (_hf : MkF f)
    (hh : A.handled = none) (F : Fr h₀ env.locals s.heap m₀) (N : News h₀ env.locals s.heap ((B, listOf [Value.int 0 t0, .int 1 t1, .int 2 t2].toArray nn) :: marksL p a M R))
    (O : MarkOff a R) (hB : @LT.lt Nat _ a.x2 B)
    (turn : ∀ (n : Int) (t : Tok) (u : Option Value) (x d : Addr) (S : MkS) (W : List (Addr × Obj)) h tk, valueAt (rowsK a) n = some (.ref x) →
      @Ne Nat d a.mx → @Ne Nat d a.md → @Ne Nat d a.rw → @Ne Nat d x → (∀ q ∈ W, q.1 ≠ d) →
      Fr h₀ env.locals h (fun y => if y = xn then some (.int n t) else if y = Str.ofString "marker" then u else m₀ y) → News h₀ env.locals h (turnL p a M.kr M.o n S x d W) →
      wpAny (model PySem.Challenge.pw_np0066_01 w) A (execs body env) (MTurn p a M.kr M.o h₀ env.locals { s with heap := h, toks := tk } xn m₀ f n S x d W) E { s with heap := h, toks := tk })
    (done : ∀ m' M' h tk, (∀ z, z ≠ xn → z ≠ Str.ofString "marker" → m' z = m₀ z) → Fr h₀ env.locals h m' → News h₀ env.locals h (marksL p a M' R) → MarkStep f M M' → M'.kr = M.kr → Q .next { s with heap := h, toks := tk }) :
    wpAny (model PySem.Challenge.pw_np0066_01 w) A (pyIter (.ref B)) (fun it s₂ => LoopAtV PySem.Challenge.pw_np0066_01 w A h₀ env xn body Q E it s₂) E s := by
  obtain ⟨c1, c2, c3, c4, c5, c6, c7, c8, off⟩ := O
  refine iter_invNL (ns := [0, 1, 2]) (fun i m nx => (∀ z, z ≠ xn → z ≠ Str.ofString "marker" → m z = m₀ z) ∧ ∃ M', nx = (B, listOf [Value.int 0 t0, .int 1 t1, .int 2 t2].toArray nn) :: marksL p a M' R ∧ M'.o = M.o ∧ M'.kr = M.kr ∧
    (if 0 < i then MkStep f M.m0 M'.m0 else M'.m0 = M.m0) ∧ (if 1 < i then MkStep f M.m1 M'.m1 else M'.m1 = M.m1) ∧ (if 2 < i then MkStep f M.m2 M'.m2 else M'.m2 = M.m2)) hh (.head _) (.cons _ _ (.cons _ _ (.cons _ _ .nil))) F N ⟨fun _ _ _ => rfl, M, rfl, rfl, rfl, by simp, by simp, by simp⟩ ?_ ?_
  · rintro i n t m₁ news₁ h tk own hi hadr hoff hl ⟨hm, M', rfl, ho, hkr, hs⟩ F₁ N₁
    have em : (fun y => if y = xn then some (Value.int n t) else m₁ y) = fun y => if y = xn then some (Value.int n t) else if y = Str.ofString "marker" then m₁ (Str.ofString "marker") else m₀ y := by
      funext y
      by_cases h1 : y = xn
      · simp [h1]
      · simp only [if_neg h1]
        by_cases h2 : y = Str.ofString "marker"
        · simp [h2]
        · simp only [if_neg h2]; exact hm y h1 h2
    rw [em] at F₁
    have off' := off
    simp only [List.cons_append] at N₁
    obtain ⟨kr, o, m0, m1, m2⟩ := M'
    dsimp only at ho hkr hs N₁ hl
    obtain ⟨s0, s1, s2⟩ := hs
    subst ho hkr
    have hi3 : i < 3 := by
      rcases Nat.lt_or_ge i 3 with h9 | h9
      · exact h9
      · rw [List.getElem?_eq_none (by simpa using h9)] at hi; cases hi
    rcases (by omega : i = 0 ∨ i = 1 ∨ i = 2) with rfl | rfl | rfl
    · obtain rfl : (0 : Int) = n := by simpa using hi
      have e0 : m0 = M.m0 := by simpa using s0
      subst e0
      have NW : News h₀ env.locals h (turnL p a M.kr M.o 0 M.m0 a.x0 a.d0 ((B, listOf [Value.int 0 t0, .int 1 t1, .int 2 t2].toArray nn) :: (a.x1, instObj 290 a.d1) :: (a.d1, dictOf (mkD p 1 m1) 4) :: (a.x2, instObj 290 a.d2) :: (a.d2, dictOf (mkD p 2 m2) 4) :: (R ++ own))) := cb_drop N₁ (by lcg_sub)
      refine wpAny_mono (turn 0 t (m₁ (Str.ofString "marker")) a.x0 a.d0 M.m0 _ h tk rfl (by k_ne) (by k_ne) (by k_ne) (by k_ne) ?_ F₁ NW) (fun fl s₂ z => ?_) fun _ _ e => e
      · refine List.forall_mem_cons.mpr ⟨by k_ne, List.forall_mem_cons.mpr ⟨by k_ne, List.forall_mem_cons.mpr ⟨by k_ne, List.forall_mem_cons.mpr ⟨by k_ne, List.forall_mem_cons.mpr ⟨by k_ne, ?_⟩⟩⟩⟩⟩
        intro q hq
        rcases List.mem_append.mp hq with hq | hq
        · exact off_one off (by simp) q hq
        · exact hoff q hq _ (by simp)
      · obtain ⟨rfl, h', tk', m', S', rfl, F', hm', N', st⟩ := z
        exact ⟨h', tk', m', _, (B, listOf [Value.int 0 t0, .int 1 t1, .int 2 t2].toArray nn) :: marksL p a ⟨M.kr, M.o, S', m1, m2⟩ R, rfl, F', N', (by dsimp only [marksL]; refine List.forall_mem_cons.mpr ⟨by k_mem, List.forall_mem_cons.mpr ⟨by k_mem, List.forall_mem_cons.mpr ⟨by k_mem, List.forall_mem_cons.mpr ⟨by k_mem, List.forall_mem_cons.mpr ⟨by k_mem, List.forall_mem_cons.mpr ⟨by k_mem, List.forall_mem_cons.mpr ⟨by k_mem, List.forall_mem_cons.mpr ⟨by k_mem, List.forall_mem_cons.mpr ⟨by k_mem, List.forall_mem_cons.mpr ⟨by k_mem, fun q hq => by (repeat (first | exact List.mem_append_left _ hq | exact List.mem_append_right _ hq | apply List.Mem.tail))⟩⟩⟩⟩⟩⟩⟩⟩⟩⟩), (fun q hq => by (repeat (first | exact List.mem_append_left _ hq | exact List.mem_append_right _ hq | apply List.Mem.tail))), rfl,
          List.Mem.head _, hm', _, rfl, rfl, rfl, by simpa using st, by simpa using s1, by simpa using s2⟩
    · obtain rfl : (1 : Int) = n := by simpa using hi
      have e1 : m1 = M.m1 := by simpa using s1
      subst e1
      have NW : News h₀ env.locals h (turnL p a M.kr M.o 1 M.m1 a.x1 a.d1 ((B, listOf [Value.int 0 t0, .int 1 t1, .int 2 t2].toArray nn) :: (a.x0, instObj 290 a.d0) :: (a.d0, dictOf (mkD p 0 m0) 4) :: (a.x2, instObj 290 a.d2) :: (a.d2, dictOf (mkD p 2 m2) 4) :: (R ++ own))) := cb_drop N₁ (by lcg_sub)
      refine wpAny_mono (turn 1 t (m₁ (Str.ofString "marker")) a.x1 a.d1 M.m1 _ h tk rfl (by k_ne) (by k_ne) (by k_ne) (by k_ne) ?_ F₁ NW) (fun fl s₂ z => ?_) fun _ _ e => e
      · refine List.forall_mem_cons.mpr ⟨by k_ne, List.forall_mem_cons.mpr ⟨by k_ne, List.forall_mem_cons.mpr ⟨by k_ne, List.forall_mem_cons.mpr ⟨by k_ne, List.forall_mem_cons.mpr ⟨by k_ne, ?_⟩⟩⟩⟩⟩
        intro q hq
        rcases List.mem_append.mp hq with hq | hq
        · exact off_one off (by simp) q hq
        · exact hoff q hq _ (by simp)
      · obtain ⟨rfl, h', tk', m', S', rfl, F', hm', N', st⟩ := z
        exact ⟨h', tk', m', _, (B, listOf [Value.int 0 t0, .int 1 t1, .int 2 t2].toArray nn) :: marksL p a ⟨M.kr, M.o, m0, S', m2⟩ R, rfl, F', N', (by dsimp only [marksL]; refine List.forall_mem_cons.mpr ⟨by k_mem, List.forall_mem_cons.mpr ⟨by k_mem, List.forall_mem_cons.mpr ⟨by k_mem, List.forall_mem_cons.mpr ⟨by k_mem, List.forall_mem_cons.mpr ⟨by k_mem, List.forall_mem_cons.mpr ⟨by k_mem, List.forall_mem_cons.mpr ⟨by k_mem, List.forall_mem_cons.mpr ⟨by k_mem, List.forall_mem_cons.mpr ⟨by k_mem, List.forall_mem_cons.mpr ⟨by k_mem, fun q hq => by (repeat (first | exact List.mem_append_left _ hq | exact List.mem_append_right _ hq | apply List.Mem.tail))⟩⟩⟩⟩⟩⟩⟩⟩⟩⟩), (fun q hq => by (repeat (first | exact List.mem_append_left _ hq | exact List.mem_append_right _ hq | apply List.Mem.tail))), rfl,
          List.Mem.head _, hm', _, rfl, rfl, rfl, by simpa using s0, by simpa using st, by simpa using s2⟩
    · obtain rfl : (2 : Int) = n := by simpa using hi
      have e2 : m2 = M.m2 := by simpa using s2
      subst e2
      have NW : News h₀ env.locals h (turnL p a M.kr M.o 2 M.m2 a.x2 a.d2 ((B, listOf [Value.int 0 t0, .int 1 t1, .int 2 t2].toArray nn) :: (a.x0, instObj 290 a.d0) :: (a.d0, dictOf (mkD p 0 m0) 4) :: (a.x1, instObj 290 a.d1) :: (a.d1, dictOf (mkD p 1 m1) 4) :: (R ++ own))) := cb_drop N₁ (by lcg_sub)
      refine wpAny_mono (turn 2 t (m₁ (Str.ofString "marker")) a.x2 a.d2 M.m2 _ h tk rfl (by k_ne) (by k_ne) (by k_ne) (by k_ne) ?_ F₁ NW) (fun fl s₂ z => ?_) fun _ _ e => e
      · refine List.forall_mem_cons.mpr ⟨by k_ne, List.forall_mem_cons.mpr ⟨by k_ne, List.forall_mem_cons.mpr ⟨by k_ne, List.forall_mem_cons.mpr ⟨by k_ne, List.forall_mem_cons.mpr ⟨by k_ne, ?_⟩⟩⟩⟩⟩
        intro q hq
        rcases List.mem_append.mp hq with hq | hq
        · exact off_one off (by simp) q hq
        · exact hoff q hq _ (by simp)
      · obtain ⟨rfl, h', tk', m', S', rfl, F', hm', N', st⟩ := z
        exact ⟨h', tk', m', _, (B, listOf [Value.int 0 t0, .int 1 t1, .int 2 t2].toArray nn) :: marksL p a ⟨M.kr, M.o, m0, m1, S'⟩ R, rfl, F', N', (by dsimp only [marksL]; refine List.forall_mem_cons.mpr ⟨by k_mem, List.forall_mem_cons.mpr ⟨by k_mem, List.forall_mem_cons.mpr ⟨by k_mem, List.forall_mem_cons.mpr ⟨by k_mem, List.forall_mem_cons.mpr ⟨by k_mem, List.forall_mem_cons.mpr ⟨by k_mem, List.forall_mem_cons.mpr ⟨by k_mem, List.forall_mem_cons.mpr ⟨by k_mem, List.forall_mem_cons.mpr ⟨by k_mem, List.forall_mem_cons.mpr ⟨by k_mem, fun q hq => by (repeat (first | exact List.mem_append_left _ hq | exact List.mem_append_right _ hq | apply List.Mem.tail))⟩⟩⟩⟩⟩⟩⟩⟩⟩⟩), (fun q hq => by (repeat (first | exact List.mem_append_left _ hq | exact List.mem_append_right _ hq | apply List.Mem.tail))), rfl,
          List.Mem.head _, hm', _, rfl, rfl, rfl, by simpa using s0, by simpa using s1, by simpa using st⟩
  · rintro m₁ news₁ h tk hl ⟨hm, M', rfl, ho, hkr, h0, h1, h2⟩ F₁ N₁
    refine done m₁ M' h tk hm F₁ (fun q hq => N₁ q (.tail _ hq)) ⟨ho, ?_, ?_, ?_⟩ hkr
    · simpa using h0
    · simpa using h1
    · simpa using h2


theorem rows_sorted {w : World} {A : Around} {E : Value → Shared → Prop} {s : Shared} {h₀ : Heap} {L : Addr} {m : Str → Option Value} {news : List (Addr × Obj)} {a : MarkA} {o : Obj} {Q : Value → Shared → Prop}
    (hh : A.handled = none) (F : Fr h₀ L s.heap m) (N : News h₀ L s.heap news) (hm : (a.rw, o) ∈ news) (hd : o.IsDictOf (PySem.intKind PySem.Challenge.pw_np0066_01 w) (rowsK a)) (lo : (a.rw == sysModules) = false)
    (h : ∀ B t0 t1 t2 nn h' tk, Fr h₀ L h' m → News h₀ L h' ((B, listOf [Value.int 0 t0, .int 1 t1, .int 2 t2].toArray nn) :: news) → (∀ q ∈ news, q.1 < B) → Q (.ref B) { s with heap := h', toks := tk }) :
    wpAny (model PySem.Challenge.pw_np0066_01 w) A (call (.builtin "sorted") [.ref a.rw]) Q E s := by
  have hD : s.heap.DictOf (PySem.intKind PySem.Challenge.pw_np0066_01 w) a.rw (rowsK a) := kda_dict N hm hd
  obtain ⟨ep, hat⟩ := hD.dictAt
  refine kdu_sorted (kdl_dict (kvs := rowsK a) (ep := ep) lo) hh F N hat (by rw [PySem.sizeLine_eq]; exact Nat.le_of_ble_eq_true rfl) fun D h' tk vs F' N' l1 hl hv => ?_
  have isI : ∀ (k : Int) (v : Value), (PySem.intKind PySem.Challenge.pw_np0066_01 w).is k v = true → ∃ t, v = .int k t := by
    intro k v e
    cases v <;> simp [intKind, Value.isInt] at e
    exact ⟨_, by rw [e]⟩
  match vs, hl with
  | [v0, v1, v2], _ =>
    obtain ⟨k, x, e0, i0⟩ := hv 0 v0 rfl
    obtain ⟨k', x', e1, i1⟩ := hv 1 v1 rfl
    obtain ⟨k'', x'', e2, i2⟩ := hv 2 v2 rfl
    cases e0
    cases e1
    cases e2
    obtain ⟨t0, rfl⟩ := isI _ _ i0
    obtain ⟨t1, rfl⟩ := isI _ _ i1
    obtain ⟨t2, rfl⟩ := isI _ _ i2
    refine lks_sort (q := [0, 1, 2]) (its := #[Value.int 0 t0, .int 1 t1, .int 2 t2]) F' N' (fun t' => Upd.head fun p hp => Nat.ne_of_lt (l1 p hp)) rfl rfl rfl (Nat.le_of_ble_eq_true rfl) fun t' h'' F'' N'' => ?_
    exact h D _ _ _ _ h'' tk F'' N'' l1

def insP (start end_ : Int) (b : Bool) (pos : Int) (adv : Bool) : Int := if start < pos ∨ (pos = start ∧ (b = true ∨ adv = true)) then pos + end_ - start else pos
def delP (start end_ : Int) (pos : Int) (_adv : Bool) : Int := if end_ < pos then pos - (end_ - start) else if start < pos then start else pos
def repP (start end_ many : Int) (pos : Int) (_adv : Bool) : Int := if end_ ≤ pos then pos + many - (end_ - start) else if start < pos then start else pos


theorem inserted_spec {w : World} {mean : ExcName → Option Value} {mg mb : Str → Option Value} {a : MarkA} {M : MarkS} {R : List (Addr × Obj)} {start end_ : Int} {t1 t2 : Tok} {b : Bool}
    (G : M.Good w a) (O : MarkOff a R) :
    Spec w mean mg mb 3 341 [.ref a.mx, .int start t1, .int end_ t2, .bool b] (marksL w.params a M R) (fun v n => v = .none ∧ ∃ M' : MarkS, n = marksL w.params a M' R ∧ MarkStep (insP start end_ b) M M') := by
  intro dp un gd cn cs a1 ccd cl outer A₀ base h₀ L m s Q E B F X N T hk hd hu hret
  have hF := MkF.intro (insP start end_ b)
  obtain ⟨rows, lo⟩ := G
  have O' := O
  obtain ⟨c1, c2, c3, c4, c5, c6, c7, c8, off⟩ := O'
  dsimp only [marksL, mkD, rowsD] at N
  refine wpAny_call ?_
  k_dflt cell_enter
  change (let ak : Around := _; wpAny _ ak _ _ _ _)
  intro ak
  repeat' (first | (k_unfold; (try dsimp only)) | (k_end; wrow_close) | ((with_reducible show Mine.MTurn ..); (unfold MTurn; refine' ⟨rfl, _, _, _, ⟨_, _, _, _, _, _, _, _, _⟩, rfl, (by k_asm), (by first | ((intro z h1 h2; simp only [if_neg h1, if_neg h2]); done) | fail), (by first | ((refine' cb_drop (by k_asm) (by first | ((dsimp only [turnL, mkD, rowsD]; lcg_sub); done) | fail)); done) | fail), ⟨(by rfl), (by rfl), (by first | ((dsimp only [insP, delP, repP]; grind); done) | fail)⟩⟩)) | with_reducible ((with_reducible show PySem.wpAny _ _ (PySem.call (PySem.Value.builtin _) _) _ _ _); (k_here; (with_reducible show wpAny _ _ (PySem.call (Value.builtin "sorted") [Value.ref _]) _ _ _); k_dflt (refine' rows_sorted (by exact rfl) (by k_asm) (by k_asm) (by first | (k_mem; done) | fail) (by k_asm) (by k_asm) ?_); intro B' t0' t1' t2' nn' h' tk' F' N' l1; (try k_lt l1); (try k_sweep))) | with_reducible ((with_reducible show PySem.wpAny _ _ (PySem.getItem (PySem.Value.ref _) _) _ _ _); (k_here; k_dflt (refine' kdt_getItem (knd := PySem.intKind _ _) (by k_asm) (by first | (k_mem; done) | fail) (by k_asm) (by exact intKind_is _ _ _ _) (by k_asm) ?_; k_whole))) | with_reducible ((with_reducible show PySem.wpAny _ _ (PySem.pyIter (PySem.Value.ref _)) _ _ _); (k_here; (with_reducible show wpAny _ _ (pyIter (Value.ref _)) (fun it s₂ => LoopAtV _ _ _ _ _ _ _ _ _ it s₂) _ _); (rename MkF _ => hF9); k_dflt (refine' marks_iter hF9 (by exact rfl) (by k_asm) (by first | ((refine' cb_drop (by k_asm) (by first | ((dsimp only [marksL, mkD, rowsD]; lcg_sub); done) | fail)); done) | fail) (by assumption) (by first | ((first | walk_at "HL" | k_dflt omega); done) | fail) (fun n' t' u' x' d' S' W' h' tk' hv' q1' q2' q3' q4' hW' F' N' => ?_) (fun m' M' h' tk' hm' F' N' hs' hk' => ?_)); (all_goals (dsimp only [turnL, marksL, mkD, rowsD] at N'; (try k_sweep); (try k_fold))))) | with_reducible ((with_reducible show PySem.wpAny _ _ (PySem.setAttr (PySem.Value.ref _) _ _) _ _ _); (k_here; k_dflt (refine' set_any (by k_asm) (by k_asm) (by k_asm) (by first | (k_inst; done) | fail) (by exact rfl) (by k_is) (by k_is) (by k_is) (by k_is) (by first | (k_get; done) | fail) (by first | (((intro t'; k_put)); done) | fail) (by first | (((intro t'; k_upd)); done) | fail) (by first | (((intro t'; exact Nat.le_of_ble_eq_true rfl)); done) | fail) ?_; k_whole); intro h' t' tk' F' N'; (try dsimp only at N'); (try k_sweep))) | walk1 | (dsimp only) | (leave1; (try dsimp only)) | fail "no step")
  refine' hret _ _ _ _ ⟨rfl, _, rfl, by assumption⟩ ?f9 ?n9
  (case f9 => k_asm)
  (case n9 => refine' cb_drop ?N9 ?s9; (case N9 => k_asm); (case s9 => dsimp only [marksL, mkD, rowsD]; lcg_sub))


theorem deleted_spec {w : World} {mean : ExcName → Option Value} {mg mb : Str → Option Value} {a : MarkA} {M : MarkS} {R : List (Addr × Obj)} {start end_ : Int} {t1 t2 : Tok}
    (G : M.Good w a) (O : MarkOff a R) :
    Spec w mean mg mb 3 348 [.ref a.mx, .int start t1, .int end_ t2] (marksL w.params a M R) (fun v n => v = .none ∧ ∃ M' : MarkS, n = marksL w.params a M' R ∧ MarkStep (delP start end_) M M') := by
  intro dp un gd cn cs a1 ccd cl outer A₀ base h₀ L m s Q E B F X N T hk hd hu hret
  have hF := MkF.intro (delP start end_)
  obtain ⟨rows, lo⟩ := G
  have O' := O
  obtain ⟨c1, c2, c3, c4, c5, c6, c7, c8, off⟩ := O'
  dsimp only [marksL, mkD, rowsD] at N
  refine wpAny_call ?_
  k_dflt cell_enter
  change (let ak : Around := _; wpAny _ ak _ _ _ _)
  intro ak
  repeat' (first | (k_unfold; (try dsimp only)) | (k_end; wrow_close) | ((with_reducible show Mine.MTurn ..); (unfold MTurn; refine' ⟨rfl, _, _, _, ⟨_, _, _, _, _, _, _, _, _⟩, rfl, (by k_asm), (by first | ((intro z h1 h2; simp only [if_neg h1, if_neg h2]); done) | fail), (by first | ((refine' cb_drop (by k_asm) (by first | ((dsimp only [turnL, mkD, rowsD]; lcg_sub); done) | fail)); done) | fail), ⟨(by rfl), (by rfl), (by first | ((dsimp only [insP, delP, repP]; grind); done) | fail)⟩⟩)) | with_reducible ((with_reducible show PySem.wpAny _ _ (PySem.call (PySem.Value.builtin _) _) _ _ _); (k_here; (with_reducible show wpAny _ _ (PySem.call (Value.builtin "sorted") [Value.ref _]) _ _ _); k_dflt (refine' rows_sorted (by exact rfl) (by k_asm) (by k_asm) (by first | (k_mem; done) | fail) (by k_asm) (by k_asm) ?_); intro B' t0' t1' t2' nn' h' tk' F' N' l1; (try k_lt l1); (try k_sweep))) | with_reducible ((with_reducible show PySem.wpAny _ _ (PySem.getItem (PySem.Value.ref _) _) _ _ _); (k_here; k_dflt (refine' kdt_getItem (knd := PySem.intKind _ _) (by k_asm) (by first | (k_mem; done) | fail) (by k_asm) (by exact intKind_is _ _ _ _) (by k_asm) ?_; k_whole))) | with_reducible ((with_reducible show PySem.wpAny _ _ (PySem.pyIter (PySem.Value.ref _)) _ _ _); (k_here; (with_reducible show wpAny _ _ (pyIter (Value.ref _)) (fun it s₂ => LoopAtV _ _ _ _ _ _ _ _ _ it s₂) _ _); (rename MkF _ => hF9); k_dflt (refine' marks_iter hF9 (by exact rfl) (by k_asm) (by first | ((refine' cb_drop (by k_asm) (by first | ((dsimp only [marksL, mkD, rowsD]; lcg_sub); done) | fail)); done) | fail) (by assumption) (by first | ((first | walk_at "HL" | k_dflt omega); done) | fail) (fun n' t' u' x' d' S' W' h' tk' hv' q1' q2' q3' q4' hW' F' N' => ?_) (fun m' M' h' tk' hm' F' N' hs' hk' => ?_)); (all_goals (dsimp only [turnL, marksL, mkD, rowsD] at N'; (try k_sweep); (try k_fold))))) | with_reducible ((with_reducible show PySem.wpAny _ _ (PySem.setAttr (PySem.Value.ref _) _ _) _ _ _); (k_here; k_dflt (refine' set_any (by k_asm) (by k_asm) (by k_asm) (by first | (k_inst; done) | fail) (by exact rfl) (by k_is) (by k_is) (by k_is) (by k_is) (by first | (k_get; done) | fail) (by first | (((intro t'; k_put)); done) | fail) (by first | (((intro t'; k_upd)); done) | fail) (by first | (((intro t'; exact Nat.le_of_ble_eq_true rfl)); done) | fail) ?_; k_whole); intro h' t' tk' F' N'; (try dsimp only at N'); (try k_sweep))) | walk1 | (dsimp only) | (leave1; (try dsimp only)) | fail "no step")
  refine' hret _ _ _ _ ⟨rfl, _, rfl, by assumption⟩ ?f9 ?n9
  (case f9 => k_asm)
  (case n9 => refine' cb_drop ?N9 ?s9; (case N9 => k_asm); (case s9 => dsimp only [marksL, mkD, rowsD]; lcg_sub))

theorem replaced_spec {w : World} {mean : ExcName → Option Value} {mg mb : Str → Option Value} {a : MarkA} {M : MarkS} {R : List (Addr × Obj)} {start end_ : Int} {t1 t2 : Tok} {many : Int} {t3 : Tok}
    (G : M.Good w a) (O : MarkOff a R) :
    Spec w mean mg mb 3 355 [.ref a.mx, .int start t1, .int end_ t2, .int many t3] (marksL w.params a M R) (fun v n => v = .none ∧ ∃ M' : MarkS, n = marksL w.params a M' R ∧ MarkStep (repP start end_ many) M M') := by
  intro dp un gd cn cs a1 ccd cl outer A₀ base h₀ L m s Q E B F X N T hk hd hu hret
  have hF := MkF.intro (repP start end_ many)
  obtain ⟨rows, lo⟩ := G
  have O' := O
  obtain ⟨c1, c2, c3, c4, c5, c6, c7, c8, off⟩ := O'
  dsimp only [marksL, mkD, rowsD] at N
  refine wpAny_call ?_
  k_dflt cell_enter
  change (let ak : Around := _; wpAny _ ak _ _ _ _)
  intro ak
  repeat' (first | (k_unfold; (try dsimp only)) | (k_end; wrow_close) | ((with_reducible show Mine.MTurn ..); (unfold MTurn; refine' ⟨rfl, _, _, _, ⟨_, _, _, _, _, _, _, _, _⟩, rfl, (by k_asm), (by first | ((intro z h1 h2; simp only [if_neg h1, if_neg h2]); done) | fail), (by first | ((refine' cb_drop (by k_asm) (by first | ((dsimp only [turnL, mkD, rowsD]; lcg_sub); done) | fail)); done) | fail), ⟨(by rfl), (by rfl), (by first | ((dsimp only [insP, delP, repP]; grind); done) | fail)⟩⟩)) | with_reducible ((with_reducible show PySem.wpAny _ _ (PySem.call (PySem.Value.builtin _) _) _ _ _); (k_here; (with_reducible show wpAny _ _ (PySem.call (Value.builtin "sorted") [Value.ref _]) _ _ _); k_dflt (refine' rows_sorted (by exact rfl) (by k_asm) (by k_asm) (by first | (k_mem; done) | fail) (by k_asm) (by k_asm) ?_); intro B' t0' t1' t2' nn' h' tk' F' N' l1; (try k_lt l1); (try k_sweep))) | with_reducible ((with_reducible show PySem.wpAny _ _ (PySem.getItem (PySem.Value.ref _) _) _ _ _); (k_here; k_dflt (refine' kdt_getItem (knd := PySem.intKind _ _) (by k_asm) (by first | (k_mem; done) | fail) (by k_asm) (by exact intKind_is _ _ _ _) (by k_asm) ?_; k_whole))) | with_reducible ((with_reducible show PySem.wpAny _ _ (PySem.pyIter (PySem.Value.ref _)) _ _ _); (k_here; (with_reducible show wpAny _ _ (pyIter (Value.ref _)) (fun it s₂ => LoopAtV _ _ _ _ _ _ _ _ _ it s₂) _ _); (rename MkF _ => hF9); k_dflt (refine' marks_iter hF9 (by exact rfl) (by k_asm) (by first | ((refine' cb_drop (by k_asm) (by first | ((dsimp only [marksL, mkD, rowsD]; lcg_sub); done) | fail)); done) | fail) (by assumption) (by first | ((first | walk_at "HL" | k_dflt omega); done) | fail) (fun n' t' u' x' d' S' W' h' tk' hv' q1' q2' q3' q4' hW' F' N' => ?_) (fun m' M' h' tk' hm' F' N' hs' hk' => ?_)); (all_goals (dsimp only [turnL, marksL, mkD, rowsD] at N'; (try k_sweep); (try k_fold))))) | with_reducible ((with_reducible show PySem.wpAny _ _ (PySem.setAttr (PySem.Value.ref _) _ _) _ _ _); (k_here; k_dflt (refine' set_any (by k_asm) (by k_asm) (by k_asm) (by first | (k_inst; done) | fail) (by exact rfl) (by k_is) (by k_is) (by k_is) (by k_is) (by first | (k_get; done) | fail) (by first | (((intro t'; k_put)); done) | fail) (by first | (((intro t'; k_upd)); done) | fail) (by first | (((intro t'; exact Nat.le_of_ble_eq_true rfl)); done) | fail) ?_; k_whole); intro h' t' tk' F' N'; (try dsimp only at N'); (try k_sweep))) | walk1 | (dsimp only) | (leave1; (try dsimp only)) | fail "no step")
  refine' hret _ _ _ _ ⟨rfl, _, rfl, by assumption⟩ ?f9 ?n9
  (case f9 => k_asm)
  (case n9 => refine' cb_drop ?N9 ?s9; (case N9 => k_asm); (case s9 => dsimp only [marksL, mkD, rowsD]; lcg_sub))


structure BufA where
  bx : Addr
  bd : Addr
  ls : Addr
  g : GapA
  k : MarkA
structure BufS where
  kt : Nat → Tok
  num : Value
  name : Value
  pt : Int
  tp : Tok
  begv : Int
  tb : Tok
  zv : Int
  tz : Tok
  tick : Int
  tt : Tok
  ct : Value
  st : Value
  nls : Nat
  g : GapS
  k : MarkS
abbrev bufD (p : Params) (a : BufA) (S : BufS) : List DictEntry :=
  [⟨PyData.keyHash p (Str.ofString "number"), .str (Str.ofString "number") (S.kt 0), S.num⟩,
   ⟨PyData.keyHash p (Str.ofString "name"), .str (Str.ofString "name") (S.kt 1), S.name⟩,
   ⟨PyData.keyHash p (Str.ofString "text"), .str (Str.ofString "text") (S.kt 2), .ref a.g.gx⟩,
   ⟨PyData.keyHash p (Str.ofString "markers"), .str (Str.ofString "markers") (S.kt 3), .ref a.k.mx⟩,
   ⟨PyData.keyHash p (Str.ofString "point"), .str (Str.ofString "point") (S.kt 4), .int S.pt S.tp⟩,
   ⟨PyData.keyHash p (Str.ofString "begv"), .str (Str.ofString "begv") (S.kt 5), .int S.begv S.tb⟩,
   ⟨PyData.keyHash p (Str.ofString "zv"), .str (Str.ofString "zv") (S.kt 6), .int S.zv S.tz⟩,
   ⟨PyData.keyHash p (Str.ofString "mark"), .str (Str.ofString "mark") (S.kt 7), .none⟩,
   ⟨PyData.keyHash p (Str.ofString "is_live"), .str (Str.ofString "is_live") (S.kt 8), .bool true⟩,
   ⟨PyData.keyHash p (Str.ofString "is_read_only"), .str (Str.ofString "is_read_only") (S.kt 9), .bool false⟩,
   ⟨PyData.keyHash p (Str.ofString "ticks"), .str (Str.ofString "ticks") (S.kt 10), .int S.tick S.tt⟩,
   ⟨PyData.keyHash p (Str.ofString "codes_ticks"), .str (Str.ofString "codes_ticks") (S.kt 11), S.ct⟩,
   ⟨PyData.keyHash p (Str.ofString "saved_ticks"), .str (Str.ofString "saved_ticks") (S.kt 12), S.st⟩,
   ⟨PyData.keyHash p (Str.ofString "listeners"), .str (Str.ofString "listeners") (S.kt 13), .ref a.ls⟩,
   ⟨PyData.keyHash p (Str.ofString "undo"), .str (Str.ofString "undo") (S.kt 14), .none⟩,
   ⟨PyData.keyHash p (Str.ofString "props"), .str (Str.ofString "props") (S.kt 15), .none⟩,
   ⟨PyData.keyHash p (Str.ofString "overlays"), .str (Str.ofString "overlays") (S.kt 16), .none⟩,
   ⟨PyData.keyHash p (Str.ofString "locals"), .str (Str.ofString "locals") (S.kt 17), .none⟩,
   ⟨PyData.keyHash p (Str.ofString "syntax"), .str (Str.ofString "syntax") (S.kt 18), .none⟩,
   ⟨PyData.keyHash p (Str.ofString "file"), .str (Str.ofString "file") (S.kt 19), .none⟩]
/-- the buffer, its text, its (empty) listeners; K: its markers; R: all else. Never unfolded in a walk -/
def bufC (p : Params) (a : BufA) (S : BufS) (K R : List (Addr × Obj)) : List (Addr × Obj) :=
  (a.bx, instObj 464 a.bd) :: (a.bd, dictOf (bufD p a S) 20) :: (a.ls, listOf #[] S.nls) :: gapL p a.g S.g (K ++ R)
abbrev bufOwn (a : BufA) : List Addr := [a.bx, a.bd, a.ls, a.g.gx, a.g.gd, a.g.gc]
structure BufSep (a : BufA) (K R : List (Addr × Obj)) : Prop where
  o1 : OffL a.bx [a.bd, a.ls, a.g.gx, a.g.gd, a.g.gc]
  o2 : OffL a.bd [a.ls, a.g.gx, a.g.gd, a.g.gc]
  o3 : OffL a.ls [a.g.gx, a.g.gd, a.g.gc]
  o4 : OffL a.g.gx [a.g.gd, a.g.gc]
  o5 : OffL a.g.gd [a.g.gc]
  offK : ∀ p ∈ K, OffL p.1 (bufOwn a)
  offR : ∀ p ∈ R, OffL p.1 (bufOwn a)
  kr : ∀ p ∈ R, ∀ q ∈ K, p.1 ≠ q.1
section
variable {p : Params} {a : BufA} {S : BufS} {K R : List (Addr × Obj)}
theorem bufC_bx : List.Mem (a.bx, instObj 464 a.bd) (bufC p a S K R) := .head _
theorem bufC_bd : List.Mem (a.bd, dictOf (bufD p a S) 20) (bufC p a S K R) := .tail _ (.head _)
theorem bufC_ls : List.Mem (a.ls, listOf #[] S.nls) (bufC p a S K R) := .tail _ (.tail _ (.head _))
theorem bufC_gx : List.Mem (a.g.gx, instObj 213 a.g.gd) (bufC p a S K R) := .tail _ (.tail _ (.tail _ (.head _)))
theorem bufC_R {e : Addr × Obj} (h : e ∈ R) : List.Mem e (bufC p a S K R) := .tail _ (.tail _ (.tail _ (.tail _ (.tail _ (.tail _ (List.mem_append_right _ h))))))
theorem bufC_K {e : Addr × Obj} (h : e ∈ K) : List.Mem e (bufC p a S K R) := .tail _ (.tail _ (.tail _ (.tail _ (.tail _ (.tail _ (List.mem_append_left _ h))))))
theorem bufC_all {l : List (Addr × Obj)} (hK : ∀ e ∈ K, e ∈ l) (hR : ∀ e ∈ R, e ∈ l) (h : ∀ e ∈ bufC p a S [] [], e ∈ l) : ∀ e ∈ bufC p a S K R, e ∈ l := by
  intro e he
  rcases List.mem_cons.mp he with q | he
  · exact h e (q ▸ bufC_bx)
  rcases List.mem_cons.mp he with q | he
  · exact h e (q ▸ bufC_bd)
  rcases List.mem_cons.mp he with q | he
  · exact h e (q ▸ bufC_ls)
  rcases List.mem_cons.mp he with q | he
  · exact h e (q ▸ bufC_gx)
  rcases List.mem_cons.mp he with q | he
  · exact h e (q ▸ .tail _ (.tail _ (.tail _ (.tail _ (.head _)))))
  rcases List.mem_cons.mp he with q | he
  · exact h e (q ▸ .tail _ (.tail _ (.tail _ (.tail _ (.tail _ (.head _))))))
  rcases List.mem_append.mp he with he | he
  · exact hK e he
  · exact hR e he
theorem bufC_own : ∀ e ∈ bufC p a S [] [], e ∈ bufC p a S K R := by
  intro e he
  rcases List.mem_cons.mp he with q | he
  · exact q ▸ bufC_bx
  rcases List.mem_cons.mp he with q | he
  · exact q ▸ bufC_bd
  rcases List.mem_cons.mp he with q | he
  · exact q ▸ bufC_ls
  rcases List.mem_cons.mp he with q | he
  · exact q ▸ bufC_gx
  rcases List.mem_cons.mp he with q | he
  · exact q ▸ .tail _ (.tail _ (.tail _ (.tail _ (.head _))))
  rcases List.mem_cons.mp he with q | he
  · exact q ▸ .tail _ (.tail _ (.tail _ (.tail _ (.tail _ (.head _)))))
  · exact nomatch he
theorem offl_new {q : Addr} {as : List Addr} (h : ∀ b ∈ as, @LT.lt Nat _ b q) : OffL q as := OffL.of fun b hb => Nat.ne_of_gt (h b hb)
/-- a new object joins what else stands -/
theorem BufSep.new {q : Addr} {o : Obj} (O : BufSep a K R) (l : ∀ e ∈ bufC p a S K R, e.1 < q) : BufSep a K ((q, o) :: R) := by
  refine ⟨O.o1, O.o2, O.o3, O.o4, O.o5, O.offK, List.forall_mem_cons.mpr ⟨offl_new ?_, O.offR⟩, List.forall_mem_cons.mpr ⟨fun e he => Nat.ne_of_gt (l e (bufC_K he)), O.kr⟩⟩
  intro b hb
  simp only [bufOwn, List.mem_cons, List.not_mem_nil, or_false] at hb
  rcases hb with rfl | rfl | rfl | rfl | rfl | rfl
  · exact l _ bufC_bx
  · exact l _ bufC_bd
  · exact l _ bufC_ls
  · exact l _ bufC_gx
  · exact l (a.g.gd, _) (.tail _ (.tail _ (.tail _ (.tail _ (.head _)))))
  · exact l (a.g.gc, _) (.tail _ (.tail _ (.tail _ (.tail _ (.tail _ (.head _))))))
theorem BufSep.gap (O : BufSep a K R) : GapOff a.g ((a.bx, instObj 464 a.bd) :: (a.bd, dictOf (bufD p a S) 20) :: (a.ls, listOf #[] S.nls) :: (K ++ R)) := by
  obtain ⟨o1, o2, o3, o4, o5, oK, oR, -⟩ := O
  refine ⟨o4.1, o4.2.1, o5.1, List.forall_mem_cons.mpr ⟨⟨o1.2.2.1, o1.2.2.2.1, o1.2.2.2.2.1, trivial⟩, List.forall_mem_cons.mpr ⟨⟨o2.2.1, o2.2.2.1, o2.2.2.2.1, trivial⟩, List.forall_mem_cons.mpr ⟨⟨o3.1, o3.2.1, o3.2.2.1, trivial⟩, fun e he => ?_⟩⟩⟩⟩
  have q : OffL e.1 (bufOwn a) := (List.mem_append.mp he).elim (oK e) (oR e)
  exact ⟨q.2.2.2.1, q.2.2.2.2.1, q.2.2.2.2.2.1, trivial⟩
theorem bufC_gap : (∀ e ∈ gapL p a.g S.g ((a.bx, instObj 464 a.bd) :: (a.bd, dictOf (bufD p a S) 20) :: (a.ls, listOf #[] S.nls) :: (K ++ R)), e ∈ bufC p a S K R) ∧
    (∀ e ∈ bufC p a S K R, e ∈ gapL p a.g S.g ((a.bx, instObj 464 a.bd) :: (a.bd, dictOf (bufD p a S) 20) :: (a.ls, listOf #[] S.nls) :: (K ++ R))) := by
  constructor <;> (intro e he; simp only [bufC, gapL, List.mem_cons] at he ⊢; rcases he with h | h | h | h | h | h | h <;> simp only [h, true_or, or_true])
end
section
variable {w : World} {A : Around} {E : Value → Shared → Prop} {s : Shared} {h₀ : Heap} {L : Addr} {m : Str → Option Value} {a : BufA} {S : BufS} {K R all : List (Addr × Obj)} {x : Int} {t : Tok}
theorem bufC_upd {o o' : Obj} (O : BufSep a K R) (eo : o = dictOf (bufD w.params a S) 20) {S' : BufS} (eo' : o' = dictOf (bufD w.params a S') 20) (hn : S'.nls = S.nls) (hg : S'.g = S.g) : Upd a.bd o o' (bufC w.params a S K R) (bufC w.params a S' K R) := by
  subst eo eo'
  unfold bufC
  rw [hn, hg]
  refine Upd.tail O.o1.1 (Upd.head ?_)
  refine List.forall_mem_cons.mpr ⟨(O.o2.1).symm, List.forall_mem_cons.mpr ⟨(O.o2.2.1).symm, List.forall_mem_cons.mpr ⟨(O.o2.2.2.1).symm, List.forall_mem_cons.mpr ⟨(O.o2.2.2.2.1).symm, fun e he => ?_⟩⟩⟩⟩
  exact ((List.mem_append.mp he).elim (O.offK e) (O.offR e)).2.1
theorem bset {name : Str} {v : Value} {S' : BufS} {Q : Unit → Shared → Prop} (F : Fr h₀ L s.heap m) (X : (heapK w.params).In h₀) (N : News h₀ L s.heap all) (sub : ∀ e ∈ bufC w.params a S K R, e ∈ all) (O : BufSep a K R)
    (ht : takerIn (heapK w.params) 464 name = some none) (hl : (getL name (bufD w.params a S)).isSome = true)
    (e : (putL name (PyData.keyHash w.params name) (.str name (s.toks + 1)) v (bufD w.params a S), putN name (bufD w.params a S) 20) = (bufD w.params a S', 20)) (hn : S'.nls = S.nls) (hg : S'.g = S.g)
    (h : ∀ h', Fr h₀ L h' m → News h₀ L h' (bufC w.params a S' K R) → Q () { s with heap := h', toks := s.toks + 2 }) :
    wpAny (model PySem.Challenge.pw_np0066_01 w) A (setAttr (.ref a.bx) name v) Q E s :=
  set_dict F X (cb_drop N sub) (InstAt.of_news N (sub _ bufC_bx) (sub _ bufC_bd)) rfl (by k_is) (by k_is) ht (by k_is) hl e (bufC_upd O rfl rfl hn hg) (by show 20 ≤ 1000; decide) h
theorem bset_zv {Q : Unit → Shared → Prop} (F : Fr h₀ L s.heap m) (X : (heapK w.params).In h₀) (N : News h₀ L s.heap all) (sub : ∀ e ∈ bufC w.params a S K R, e ∈ all) (O : BufSep a K R)
    (h : ∀ h', Fr h₀ L h' m → News h₀ L h' (bufC w.params a { S with zv := x, tz := t } K R) → Q () { s with heap := h', toks := s.toks + 2 }) :
    wpAny (model PySem.Challenge.pw_np0066_01 w) A (setAttr (.ref a.bx) (Str.ofString "zv") (.int x t)) Q E s :=
  bset (S' := { S with zv := x, tz := t }) F X N sub O (by k_is) (by rfl) (by rfl) rfl rfl h
theorem bset_pt {Q : Unit → Shared → Prop} (F : Fr h₀ L s.heap m) (X : (heapK w.params).In h₀) (N : News h₀ L s.heap all) (sub : ∀ e ∈ bufC w.params a S K R, e ∈ all) (O : BufSep a K R)
    (h : ∀ h', Fr h₀ L h' m → News h₀ L h' (bufC w.params a { S with pt := x, tp := t } K R) → Q () { s with heap := h', toks := s.toks + 2 }) :
    wpAny (model PySem.Challenge.pw_np0066_01 w) A (setAttr (.ref a.bx) (Str.ofString "point") (.int x t)) Q E s :=
  bset (S' := { S with pt := x, tp := t }) F X N sub O (by k_is) (by rfl) (by rfl) rfl rfl h
theorem bset_ticks {Q : Unit → Shared → Prop} (F : Fr h₀ L s.heap m) (X : (heapK w.params).In h₀) (N : News h₀ L s.heap all) (sub : ∀ e ∈ bufC w.params a S K R, e ∈ all) (O : BufSep a K R)
    (h : ∀ h', Fr h₀ L h' m → News h₀ L h' (bufC w.params a { S with tick := x, tt := t } K R) → Q () { s with heap := h', toks := s.toks + 2 }) :
    wpAny (model PySem.Challenge.pw_np0066_01 w) A (setAttr (.ref a.bx) (Str.ofString "ticks") (.int x t)) Q E s :=
  bset (S' := { S with tick := x, tt := t }) F X N sub O (by k_is) (by rfl) (by rfl) rfl rfl h
theorem bset_codes {v : Value} {Q : Unit → Shared → Prop} (F : Fr h₀ L s.heap m) (X : (heapK w.params).In h₀) (N : News h₀ L s.heap all) (sub : ∀ e ∈ bufC w.params a S K R, e ∈ all) (O : BufSep a K R)
    (h : ∀ h', Fr h₀ L h' m → News h₀ L h' (bufC w.params a { S with ct := v } K R) → Q () { s with heap := h', toks := s.toks + 2 }) :
    wpAny (model PySem.Challenge.pw_np0066_01 w) A (setAttr (.ref a.bx) (Str.ofString "codes_ticks") v) Q E s :=
  bset (S' := { S with ct := v }) F X N sub O (by k_is) (by rfl) (by rfl) rfl rfl h
end
section
variable {prog : Program} {w : World} {A : Around} {E : Value → Shared → Prop} {s : Shared} {h₀ : Heap} {L : Addr} {m : Str → Option Value} {news : List (Addr × Obj)} {a b : Int} {t u : Tok} {Q : Value → Shared → Prop}
theorem my_minL (hh : A.handled = none) (F : Fr h₀ L s.heap m) (N : News h₀ L s.heap news) (c : ¬ b < a) (h : ∀ h' tk, Fr h₀ L h' m → News h₀ L h' news → Q (.int a t) { s with heap := h', toks := tk }) :
    wpAny (model prog w) A (call (.builtin "min") [.int a t, .int b u]) Q E s :=
  min_two_N hh F N fun h' tk F' N' => by rw [if_neg c, if_neg c]; exact h h' tk F' N'
theorem my_maxR (hh : A.handled = none) (F : Fr h₀ L s.heap m) (N : News h₀ L s.heap news) (c : b > a) (h : ∀ h' tk, Fr h₀ L h' m → News h₀ L h' news → Q (.int b u) { s with heap := h', toks := tk }) :
    wpAny (model prog w) A (call (.builtin "max") [.int a t, .int b u]) Q E s :=
  max_two_N hh F N fun h' tk F' N' => by rw [if_pos c, if_pos c]; exact h h' tk F' N'
theorem my_maxL (hh : A.handled = none) (F : Fr h₀ L s.heap m) (N : News h₀ L s.heap news) (c : ¬ b > a) (h : ∀ h' tk, Fr h₀ L h' m → News h₀ L h' news → Q (.int a t) { s with heap := h', toks := tk }) :
    wpAny (model prog w) A (call (.builtin "max") [.int a t, .int b u]) Q E s :=
  max_two_N hh F N fun h' tk F' N' => by rw [if_neg c, if_neg c]; exact h h' tk F' N'
end
/-- a loop over an empty list of the ledger -/
theorem iter_nil {prog : Program} {w : World} {A : Around} {E : Value → Shared → Prop} {s : Shared} {env : Env} {h₀ : Heap} {x : Str} {body : List Stmt} {Q : Flow → Shared → Prop} {l : Addr} {nn : Nat} {m₀ : Str → Option Value} {news : List (Addr × Obj)}
    (hh : A.handled = none) (F : Fr h₀ env.locals s.heap m₀) (N : News h₀ env.locals s.heap news) (hl : (l, listOf #[] nn) ∈ news)
    (done : ∀ h tk, Fr h₀ env.locals h m₀ → News h₀ env.locals h news → Q .next { s with heap := h, toks := tk }) :
    wpAny (model prog w) A (pyIter (.ref l)) (fun it s₂ => LoopAtV prog w A h₀ env x body Q E it s₂) E s := by
  refine iter_invNL (vs := []) (ns := []) (fun _ m nx => m = m₀ ∧ nx = news) hh hl .nil F N ⟨rfl, rfl⟩ ?_ ?_
  · intro i n t m₁ news₁ h tk own hi
    simp at hi
  · rintro m₁ news₁ h tk - ⟨rfl, rfl⟩ F₁ N₁
    exact done h tk F₁ N₁

theorem re_nil {all : List (Addr × Obj)} : ∀ p ∈ ([] : List (Addr × Obj)), ∃ o, (p.1, o) ∈ all := fun _ h => nomatch h
theorem re_cons {a : Addr} {o o' : Obj} {l all : List (Addr × Obj)} (h : (a, o') ∈ all) (t : ∀ p ∈ l, ∃ o, (p.1, o) ∈ all) : ∀ p ∈ (a, o) :: l, ∃ o, (p.1, o) ∈ all := List.forall_mem_cons.mpr ⟨⟨o', h⟩, t⟩
theorem re_sub {l all : List (Addr × Obj)} (h : ∀ p ∈ l, p ∈ all) : ∀ p ∈ l, ∃ o, (p.1, o) ∈ all := fun p hp => ⟨p.2, h p hp⟩
theorem allLt_re {d : Addr} {all l : List (Addr × Obj)} (h : AllLt d all) (k : ∀ p ∈ l, ∃ o, (p.1, o) ∈ all) : AllLt d l := allLt_of fun p hp => let ⟨o, m⟩ := k p hp; allLt_lt h (p.1, o) m
theorem MarkS.Good.step {w : World} {a : MarkA} {M M' : MarkS} {f : Int → Bool → Int} (G : M.Good w a) (h : MarkStep f M M') : M'.Good w a := ⟨h.o ▸ G.rows, G.lo⟩


local macro_rules | `(tactic| k_mem) => `(tactic| first | exact bufC_bx | exact bufC_bd | exact bufC_ls | exact bufC_gx | exact bufC_R (by assumption) | exact bufC_R (List.Mem.tail _ (by assumption)) | exact bufC_K (by assumption))
local macro_rules | `(tactic| lcg_src) => `(tactic| first | exact re_nil | (refine' re_cons ?x ?y; (case x => k_mem); (case y => lcg_src)) | (refine' re_sub ?x; (case x => lcg_sub)))
section
variable {w : World} {mean : ExcName → Option Value} {mg mb : Str → Option Value} {a : BufA} {S : BufS} {K R : List (Addr × Obj)}
abbrev tup2 (x y : Int) (t t' : Tok) : Obj := { cls := .type "tuple", data := .seq #[.int x t, .int y t'] }
theorem need_T : SpecT w mean mg mb 1 48 [.ref a.bx] (bufC w.params a S K R) (fun k => k .none (bufC w.params a S K R)) := by
  intro dp un gd cn cs a1 ccd cl outer A₀ base h₀ L m s Q E B F X N T hk hd hu hret
  refine wpAny_call ?_
  k_dflt ((refine' code_def (by k_asm) (by k_asm) (by k_asm) (by k_asm) (by k_asm) (by exact rfl) (by exact rfl) (by assumption) (by k_is) (by k_is) (by ktr_room) (by first | ((first | exact BindsTo.of_eq rfl | exact binds_K (by k_in) rfl (by k_is) rfl rfl rfl); done) | fail) (by exact locs rfl) ?_ (by exact rfl) (by exact rfl) (by exact rfl) (by decide); k_whole; intro g' L' h' FG' F' N' B' X' T'; (try dsimp only); (try k_lift B'); (try k_fold)))
  change (let ak : Around := _; wpAny _ ak _ _ _ _)
  intro ak
  repeat' (first | (k_unfold; (try dsimp only)) | (k_end; wrow_close) | with_reducible ((with_reducible show PySem.wpAny _ _ (PySem.call (PySem.Value.builtin _) _) _ _ _); (k_here; (with_reducible show wpAny _ _ (PySem.call (Value.builtin "min") [Value.int _ _, Value.int _ _]) _ _ _); k_dflt (refine' my_minL (by exact rfl) (by k_asm) (by k_asm) (by first | ((first | with_reducible assumption | omega); done) | fail) ?_); intro h' tk' F' N'; (try k_sweep))) | with_reducible ((with_reducible show PySem.wpAny _ _ (PySem.pyIter (PySem.Value.ref _)) _ _ _); (k_here; (with_reducible show wpAny _ _ (pyIter (Value.ref _)) (fun it s₂ => LoopAtV _ _ _ _ _ _ _ _ _ it s₂) _ _); k_dflt (refine' iter_nil (by exact rfl) (by k_asm) (by k_asm) (by first | (k_mem; done) | fail) ?_); intro h' tk' F' N'; (try k_sweep))) | with_reducible ((with_reducible show PySem.wpAny _ _ (PySem.setAttr (PySem.Value.ref _) _ _) _ _ _); (k_here; k_dflt (first | ((with_reducible show wpAny _ _ (PySem.setAttr (Value.ref _) (PySem.Str.ofString "zv") _) _ _ _); refine' bset_zv (by k_asm) (by k_asm) (by k_asm) (by first | (lcg_sub; done) | fail) (by assumption) ?_) | ((with_reducible show wpAny _ _ (PySem.setAttr (Value.ref _) (PySem.Str.ofString "point") _) _ _ _); refine' bset_pt (by k_asm) (by k_asm) (by k_asm) (by first | (lcg_sub; done) | fail) (by assumption) ?_) | ((with_reducible show wpAny _ _ (PySem.setAttr (Value.ref _) (PySem.Str.ofString "ticks") _) _ _ _); refine' bset_ticks (by k_asm) (by k_asm) (by k_asm) (by first | (lcg_sub; done) | fail) (by assumption) ?_) | ((with_reducible show wpAny _ _ (PySem.setAttr (Value.ref _) (PySem.Str.ofString "codes_ticks") _) _ _ _); refine' bset_codes (by k_asm) (by k_asm) (by k_asm) (by first | (lcg_sub; done) | fail) (by assumption) ?_)); intro h' F' N'; (try k_sweep))) | walk1 | (dsimp only) | (leave1; (try dsimp only)) | fail "no step")
  exact hret _ _ (by k_asm) (by k_asm)
theorem reached_T {st en : Int} {t1 t2 : Tok} (h0 : S.begv ≤ st) (h1 : st ≤ en) (h2 : en ≤ S.zv) : SpecT w mean mg mb 1 55 [.ref a.bx, .int st t1, .int en t2] (bufC w.params a S K R) (fun k => ∀ q t t', (∀ e ∈ bufC w.params a S K R, e.1 < q) → k (.ref q) ((q, tup2 st en t t') :: bufC w.params a S K R)) := by
  intro dp un gd cn cs a1 ccd cl outer A₀ base h₀ L m s Q E B F X N T hk hd hu hret
  refine wpAny_call ?_
  k_dflt ((refine' code_def (by k_asm) (by k_asm) (by k_asm) (by k_asm) (by k_asm) (by exact rfl) (by exact rfl) (by assumption) (by k_is) (by k_is) (by ktr_room) (by first | ((first | exact BindsTo.of_eq rfl | exact binds_K (by k_in) rfl (by k_is) rfl rfl rfl); done) | fail) (by exact locs rfl) ?_ (by exact rfl) (by exact rfl) (by exact rfl) (by decide); k_whole; intro g' L' h' FG' F' N' B' X' T'; (try dsimp only); (try k_lift B'); (try k_fold)))
  change (let ak : Around := _; wpAny _ ak _ _ _ _)
  intro ak
  repeat' (first | (k_unfold; (try dsimp only)) | (k_end; wrow_close) | with_reducible ((with_reducible show PySem.wpAny _ _ (PySem.call (PySem.Value.builtin _) _) _ _ _); (k_here; (with_reducible show wpAny _ _ (PySem.call (Value.builtin "min") [Value.int _ _, Value.int _ _]) _ _ _); k_dflt (refine' my_minL (by exact rfl) (by k_asm) (by k_asm) (by first | ((first | with_reducible assumption | omega); done) | fail) ?_); intro h' tk' F' N'; (try k_sweep))) | with_reducible ((with_reducible show PySem.wpAny _ _ (PySem.pyIter (PySem.Value.ref _)) _ _ _); (k_here; (with_reducible show wpAny _ _ (pyIter (Value.ref _)) (fun it s₂ => LoopAtV _ _ _ _ _ _ _ _ _ it s₂) _ _); k_dflt (refine' iter_nil (by exact rfl) (by k_asm) (by k_asm) (by first | (k_mem; done) | fail) ?_); intro h' tk' F' N'; (try k_sweep))) | with_reducible ((with_reducible show PySem.wpAny _ _ (PySem.setAttr (PySem.Value.ref _) _ _) _ _ _); (k_here; k_dflt (first | ((with_reducible show wpAny _ _ (PySem.setAttr (Value.ref _) (PySem.Str.ofString "zv") _) _ _ _); refine' bset_zv (by k_asm) (by k_asm) (by k_asm) (by first | (lcg_sub; done) | fail) (by assumption) ?_) | ((with_reducible show wpAny _ _ (PySem.setAttr (Value.ref _) (PySem.Str.ofString "point") _) _ _ _); refine' bset_pt (by k_asm) (by k_asm) (by k_asm) (by first | (lcg_sub; done) | fail) (by assumption) ?_) | ((with_reducible show wpAny _ _ (PySem.setAttr (Value.ref _) (PySem.Str.ofString "ticks") _) _ _ _); refine' bset_ticks (by k_asm) (by k_asm) (by k_asm) (by first | (lcg_sub; done) | fail) (by assumption) ?_) | ((with_reducible show wpAny _ _ (PySem.setAttr (Value.ref _) (PySem.Str.ofString "codes_ticks") _) _ _ _); refine' bset_codes (by k_asm) (by k_asm) (by k_asm) (by first | (lcg_sub; done) | fail) (by assumption) ?_)); intro h' F' N'; (try k_sweep))) | walk1 | (dsimp only) | (leave1; (try dsimp only)) | fail "no step")
  have e0 : (if en > st then en else st) = en := by split <;> omega
  rw [← e0] at hret
  (rename Hid (_ ∧ AllLt _ _) => l9)
  refine' hret _ _ _ (allLt_lt (hid_r l9)) _ _ (by k_asm) ?n
  case n =>
    refine' cb_drop ?N1 ?s1
    case N1 => k_asm
    case s1 => lcg_sub
theorem ahead_T {st en : Int} {t1 t2 : Tok} : SpecT w mean mg mb 2 62 [.ref a.bx, .int st t1, .int en t2] (bufC w.params a S K R) (fun k => k .none (bufC w.params a S K R)) := by
  intro dp un gd cn cs a1 ccd cl outer A₀ base h₀ L m s Q E B F X N T hk hd hu hret
  refine wpAny_call ?_
  k_dflt ((refine' code_def (by k_asm) (by k_asm) (by k_asm) (by k_asm) (by k_asm) (by exact rfl) (by exact rfl) (by assumption) (by k_is) (by k_is) (by ktr_room) (by first | ((first | exact BindsTo.of_eq rfl | exact binds_K (by k_in) rfl (by k_is) rfl rfl rfl); done) | fail) (by exact locs rfl) ?_ (by exact rfl) (by exact rfl) (by exact rfl) (by decide); k_whole; intro g' L' h' FG' F' N' B' X' T'; (try dsimp only); (try k_lift B'); (try k_fold)))
  change (let ak : Around := _; wpAny _ ak _ _ _ _)
  intro ak
  repeat' (first | (k_unfold; (try dsimp only)) | (k_end; wrow_close) | with_reducible ((with_reducible show PySem.wpAny _ _ (PySem.call (PySem.Value.builtin _) _) _ _ _); (k_here; (with_reducible show wpAny _ _ (PySem.call (Value.builtin "min") [Value.int _ _, Value.int _ _]) _ _ _); k_dflt (refine' my_minL (by exact rfl) (by k_asm) (by k_asm) (by first | ((first | with_reducible assumption | omega); done) | fail) ?_); intro h' tk' F' N'; (try k_sweep))) | with_reducible ((with_reducible show PySem.wpAny _ _ (PySem.pyIter (PySem.Value.ref _)) _ _ _); (k_here; (with_reducible show wpAny _ _ (pyIter (Value.ref _)) (fun it s₂ => LoopAtV _ _ _ _ _ _ _ _ _ it s₂) _ _); k_dflt (refine' iter_nil (by exact rfl) (by k_asm) (by k_asm) (by first | (k_mem; done) | fail) ?_); intro h' tk' F' N'; (try k_sweep))) | with_reducible ((with_reducible show PySem.wpAny _ _ (PySem.setAttr (PySem.Value.ref _) _ _) _ _ _); (k_here; k_dflt (first | ((with_reducible show wpAny _ _ (PySem.setAttr (Value.ref _) (PySem.Str.ofString "zv") _) _ _ _); refine' bset_zv (by k_asm) (by k_asm) (by k_asm) (by first | (lcg_sub; done) | fail) (by assumption) ?_) | ((with_reducible show wpAny _ _ (PySem.setAttr (Value.ref _) (PySem.Str.ofString "point") _) _ _ _); refine' bset_pt (by k_asm) (by k_asm) (by k_asm) (by first | (lcg_sub; done) | fail) (by assumption) ?_) | ((with_reducible show wpAny _ _ (PySem.setAttr (Value.ref _) (PySem.Str.ofString "ticks") _) _ _ _); refine' bset_ticks (by k_asm) (by k_asm) (by k_asm) (by first | (lcg_sub; done) | fail) (by assumption) ?_) | ((with_reducible show wpAny _ _ (PySem.setAttr (Value.ref _) (PySem.Str.ofString "codes_ticks") _) _ _ _); refine' bset_codes (by k_asm) (by k_asm) (by k_asm) (by first | (lcg_sub; done) | fail) (by assumption) ?_)); intro h' F' N'; (try k_sweep))) | walk1 | (dsimp only) | (leave1; (try dsimp only)) | fail "no step")
  exact hret _ _ (by k_asm) (cb_drop (by k_asm) (by lcg_sub))
theorem touch_T (O : BufSep a K R) : SpecT w mean mg mb 1 461 [.ref a.bx, .bool true] (bufC w.params a S K R) (fun k => ∀ t c, k .none (bufC w.params a { S with tick := S.tick + 1, tt := t, ct := c } K R)) := by
  intro dp un gd cn cs a1 ccd cl outer A₀ base h₀ L m s Q E B F X N T hk hd hu hret
  refine wpAny_call ?_
  k_dflt ((refine' code_def (by k_asm) (by k_asm) (by k_asm) (by k_asm) (by k_asm) (by exact rfl) (by exact rfl) (by assumption) (by k_is) (by k_is) (by ktr_room) (by first | ((first | exact BindsTo.of_eq rfl | exact binds_K (by k_in) rfl (by k_is) rfl rfl rfl); done) | fail) (by exact locs rfl) ?_ (by exact rfl) (by exact rfl) (by exact rfl) (by decide); k_whole; intro g' L' h' FG' F' N' B' X' T'; (try dsimp only); (try k_lift B'); (try k_fold)))
  change (let ak : Around := _; wpAny _ ak _ _ _ _)
  intro ak
  repeat' (first | (k_unfold; (try dsimp only)) | (k_end; wrow_close) | with_reducible ((with_reducible show PySem.wpAny _ _ (PySem.call (PySem.Value.builtin _) _) _ _ _); (k_here; (with_reducible show wpAny _ _ (PySem.call (Value.builtin "min") [Value.int _ _, Value.int _ _]) _ _ _); k_dflt (refine' my_minL (by exact rfl) (by k_asm) (by k_asm) (by first | ((first | with_reducible assumption | omega); done) | fail) ?_); intro h' tk' F' N'; (try k_sweep))) | with_reducible ((with_reducible show PySem.wpAny _ _ (PySem.pyIter (PySem.Value.ref _)) _ _ _); (k_here; (with_reducible show wpAny _ _ (pyIter (Value.ref _)) (fun it s₂ => LoopAtV _ _ _ _ _ _ _ _ _ it s₂) _ _); k_dflt (refine' iter_nil (by exact rfl) (by k_asm) (by k_asm) (by first | (k_mem; done) | fail) ?_); intro h' tk' F' N'; (try k_sweep))) | with_reducible ((with_reducible show PySem.wpAny _ _ (PySem.setAttr (PySem.Value.ref _) _ _) _ _ _); (k_here; k_dflt (first | ((with_reducible show wpAny _ _ (PySem.setAttr (Value.ref _) (PySem.Str.ofString "zv") _) _ _ _); refine' bset_zv (by k_asm) (by k_asm) (by k_asm) (by first | (lcg_sub; done) | fail) (by assumption) ?_) | ((with_reducible show wpAny _ _ (PySem.setAttr (Value.ref _) (PySem.Str.ofString "point") _) _ _ _); refine' bset_pt (by k_asm) (by k_asm) (by k_asm) (by first | (lcg_sub; done) | fail) (by assumption) ?_) | ((with_reducible show wpAny _ _ (PySem.setAttr (Value.ref _) (PySem.Str.ofString "ticks") _) _ _ _); refine' bset_ticks (by k_asm) (by k_asm) (by k_asm) (by first | (lcg_sub; done) | fail) (by assumption) ?_) | ((with_reducible show wpAny _ _ (PySem.setAttr (Value.ref _) (PySem.Str.ofString "codes_ticks") _) _ _ _); refine' bset_codes (by k_asm) (by k_asm) (by k_asm) (by first | (lcg_sub; done) | fail) (by assumption) ?_)); intro h' F' N'; (try k_sweep))) | walk1 | (dsimp only) | (leave1; (try dsimp only)) | fail "no step")
  exact hret _ _ _ _ (by k_asm) (by k_asm)
theorem behind_T (O : BufSep a K R) {st en ol : Int} {t1 t2 t3 : Tok} : SpecT w mean mg mb 3 69 [.ref a.bx, .int st t1, .int en t2, .int ol t3] (bufC w.params a S K R) (fun k => ∀ t c, k .none (bufC w.params a { S with tick := S.tick + 1, tt := t, ct := c } K R)) := by
  intro dp un gd cn cs a1 ccd cl outer A₀ base h₀ L m s Q E B F X N T hk hd hu hret
  refine wpAny_call ?_
  k_dflt ((refine' code_def (by k_asm) (by k_asm) (by k_asm) (by k_asm) (by k_asm) (by exact rfl) (by exact rfl) (by assumption) (by k_is) (by k_is) (by ktr_room) (by first | ((first | exact BindsTo.of_eq rfl | exact binds_K (by k_in) rfl (by k_is) rfl rfl rfl); done) | fail) (by exact locs rfl) ?_ (by exact rfl) (by exact rfl) (by exact rfl) (by decide); k_whole; intro g' L' h' FG' F' N' B' X' T'; (try dsimp only); (try k_lift B'); (try k_fold)))
  change (let ak : Around := _; wpAny _ ak _ _ _ _)
  intro ak
  repeat' (first | (k_unfold; (try dsimp only)) | (k_end; wrow_close) | with_reducible ((with_reducible show PySem.wpAny _ _ (PySem.call (PySem.Value.builtin _) _) _ _ _); (k_here; (with_reducible show wpAny _ _ (PySem.call (Value.builtin "min") [Value.int _ _, Value.int _ _]) _ _ _); k_dflt (refine' my_minL (by exact rfl) (by k_asm) (by k_asm) (by first | ((first | with_reducible assumption | omega); done) | fail) ?_); intro h' tk' F' N'; (try k_sweep))) | with_reducible ((with_reducible show PySem.wpAny _ _ (PySem.pyIter (PySem.Value.ref _)) _ _ _); (k_here; (with_reducible show wpAny _ _ (pyIter (Value.ref _)) (fun it s₂ => LoopAtV _ _ _ _ _ _ _ _ _ it s₂) _ _); k_dflt (refine' iter_nil (by exact rfl) (by k_asm) (by k_asm) (by first | (k_mem; done) | fail) ?_); intro h' tk' F' N'; (try k_sweep))) | with_reducible ((with_reducible show PySem.wpAny _ _ (PySem.setAttr (PySem.Value.ref _) _ _) _ _ _); (k_here; k_dflt (first | ((with_reducible show wpAny _ _ (PySem.setAttr (Value.ref _) (PySem.Str.ofString "zv") _) _ _ _); refine' bset_zv (by k_asm) (by k_asm) (by k_asm) (by first | (lcg_sub; done) | fail) (by assumption) ?_) | ((with_reducible show wpAny _ _ (PySem.setAttr (Value.ref _) (PySem.Str.ofString "point") _) _ _ _); refine' bset_pt (by k_asm) (by k_asm) (by k_asm) (by first | (lcg_sub; done) | fail) (by assumption) ?_) | ((with_reducible show wpAny _ _ (PySem.setAttr (Value.ref _) (PySem.Str.ofString "ticks") _) _ _ _); refine' bset_ticks (by k_asm) (by k_asm) (by k_asm) (by first | (lcg_sub; done) | fail) (by assumption) ?_) | ((with_reducible show wpAny _ _ (PySem.setAttr (Value.ref _) (PySem.Str.ofString "codes_ticks") _) _ _ _); refine' bset_codes (by k_asm) (by k_asm) (by k_asm) (by first | (lcg_sub; done) | fail) (by assumption) ?_)); intro h' F' N'; (try k_sweep))) | walk1 | (dsimp only) | (leave1; (try dsimp only)) | fail "no step")
  exact hret _ _ _ _ (by k_asm) (cb_drop (by k_asm) (by lcg_sub))
theorem hout_T {st en : Int} {t1 t2 : Tok} : SpecT w mean mg mb 1 90 [.ref a.bx, .int st t1, .int en t2] (bufC w.params a S K R) (fun k => k .none (bufC w.params a S K R)) := by
  intro dp un gd cn cs a1 ccd cl outer A₀ base h₀ L m s Q E B F X N T hk hd hu hret
  refine wpAny_call ?_
  k_dflt ((refine' code_def (by k_asm) (by k_asm) (by k_asm) (by k_asm) (by k_asm) (by exact rfl) (by exact rfl) (by assumption) (by k_is) (by k_is) (by ktr_room) (by first | ((first | exact BindsTo.of_eq rfl | exact binds_K (by k_in) rfl (by k_is) rfl rfl rfl); done) | fail) (by exact locs rfl) ?_ (by exact rfl) (by exact rfl) (by exact rfl) (by decide); k_whole; intro g' L' h' FG' F' N' B' X' T'; (try dsimp only); (try k_lift B'); (try k_fold)))
  change (let ak : Around := _; wpAny _ ak _ _ _ _)
  intro ak
  repeat' (first | (k_unfold; (try dsimp only)) | (k_end; wrow_close) | with_reducible ((with_reducible show PySem.wpAny _ _ (PySem.call (PySem.Value.builtin _) _) _ _ _); (k_here; (with_reducible show wpAny _ _ (PySem.call (Value.builtin "min") [Value.int _ _, Value.int _ _]) _ _ _); k_dflt (refine' my_minL (by exact rfl) (by k_asm) (by k_asm) (by first | ((first | with_reducible assumption | omega); done) | fail) ?_); intro h' tk' F' N'; (try k_sweep))) | with_reducible ((with_reducible show PySem.wpAny _ _ (PySem.pyIter (PySem.Value.ref _)) _ _ _); (k_here; (with_reducible show wpAny _ _ (pyIter (Value.ref _)) (fun it s₂ => LoopAtV _ _ _ _ _ _ _ _ _ it s₂) _ _); k_dflt (refine' iter_nil (by exact rfl) (by k_asm) (by k_asm) (by first | (k_mem; done) | fail) ?_); intro h' tk' F' N'; (try k_sweep))) | with_reducible ((with_reducible show PySem.wpAny _ _ (PySem.setAttr (PySem.Value.ref _) _ _) _ _ _); (k_here; k_dflt (first | ((with_reducible show wpAny _ _ (PySem.setAttr (Value.ref _) (PySem.Str.ofString "zv") _) _ _ _); refine' bset_zv (by k_asm) (by k_asm) (by k_asm) (by first | (lcg_sub; done) | fail) (by assumption) ?_) | ((with_reducible show wpAny _ _ (PySem.setAttr (Value.ref _) (PySem.Str.ofString "point") _) _ _ _); refine' bset_pt (by k_asm) (by k_asm) (by k_asm) (by first | (lcg_sub; done) | fail) (by assumption) ?_) | ((with_reducible show wpAny _ _ (PySem.setAttr (Value.ref _) (PySem.Str.ofString "ticks") _) _ _ _); refine' bset_ticks (by k_asm) (by k_asm) (by k_asm) (by first | (lcg_sub; done) | fail) (by assumption) ?_) | ((with_reducible show wpAny _ _ (PySem.setAttr (Value.ref _) (PySem.Str.ofString "codes_ticks") _) _ _ _); refine' bset_codes (by k_asm) (by k_asm) (by k_asm) (by first | (lcg_sub; done) | fail) (by assumption) ?_)); intro h' F' N'; (try k_sweep))) | walk1 | (dsimp only) | (leave1; (try dsimp only)) | fail "no step")
  exact hret _ _ (by k_asm) (by k_asm)
theorem hin_T {pl many : Int} {t1 t2 : Tok} {b : Bool} : SpecT w mean mg mb 1 97 [.ref a.bx, .int pl t1, .int many t2, .bool b] (bufC w.params a S K R) (fun k => k .none (bufC w.params a S K R)) := by
  intro dp un gd cn cs a1 ccd cl outer A₀ base h₀ L m s Q E B F X N T hk hd hu hret
  refine wpAny_call ?_
  k_dflt ((refine' code_def (by k_asm) (by k_asm) (by k_asm) (by k_asm) (by k_asm) (by exact rfl) (by exact rfl) (by assumption) (by k_is) (by k_is) (by ktr_room) (by first | ((first | exact BindsTo.of_eq rfl | exact binds_K (by k_in) rfl (by k_is) rfl rfl rfl); done) | fail) (by exact locs rfl) ?_ (by exact rfl) (by exact rfl) (by exact rfl) (by decide); k_whole; intro g' L' h' FG' F' N' B' X' T'; (try dsimp only); (try k_lift B'); (try k_fold)))
  change (let ak : Around := _; wpAny _ ak _ _ _ _)
  intro ak
  repeat' (first | (k_unfold; (try dsimp only)) | (k_end; wrow_close) | with_reducible ((with_reducible show PySem.wpAny _ _ (PySem.call (PySem.Value.builtin _) _) _ _ _); (k_here; (with_reducible show wpAny _ _ (PySem.call (Value.builtin "min") [Value.int _ _, Value.int _ _]) _ _ _); k_dflt (refine' my_minL (by exact rfl) (by k_asm) (by k_asm) (by first | ((first | with_reducible assumption | omega); done) | fail) ?_); intro h' tk' F' N'; (try k_sweep))) | with_reducible ((with_reducible show PySem.wpAny _ _ (PySem.pyIter (PySem.Value.ref _)) _ _ _); (k_here; (with_reducible show wpAny _ _ (pyIter (Value.ref _)) (fun it s₂ => LoopAtV _ _ _ _ _ _ _ _ _ it s₂) _ _); k_dflt (refine' iter_nil (by exact rfl) (by k_asm) (by k_asm) (by first | (k_mem; done) | fail) ?_); intro h' tk' F' N'; (try k_sweep))) | with_reducible ((with_reducible show PySem.wpAny _ _ (PySem.setAttr (PySem.Value.ref _) _ _) _ _ _); (k_here; k_dflt (first | ((with_reducible show wpAny _ _ (PySem.setAttr (Value.ref _) (PySem.Str.ofString "zv") _) _ _ _); refine' bset_zv (by k_asm) (by k_asm) (by k_asm) (by first | (lcg_sub; done) | fail) (by assumption) ?_) | ((with_reducible show wpAny _ _ (PySem.setAttr (Value.ref _) (PySem.Str.ofString "point") _) _ _ _); refine' bset_pt (by k_asm) (by k_asm) (by k_asm) (by first | (lcg_sub; done) | fail) (by assumption) ?_) | ((with_reducible show wpAny _ _ (PySem.setAttr (Value.ref _) (PySem.Str.ofString "ticks") _) _ _ _); refine' bset_ticks (by k_asm) (by k_asm) (by k_asm) (by first | (lcg_sub; done) | fail) (by assumption) ?_) | ((with_reducible show wpAny _ _ (PySem.setAttr (Value.ref _) (PySem.Str.ofString "codes_ticks") _) _ _ _); refine' bset_codes (by k_asm) (by k_asm) (by k_asm) (by first | (lcg_sub; done) | fail) (by assumption) ?_)); intro h' F' N'; (try k_sweep))) | walk1 | (dsimp only) | (leave1; (try dsimp only)) | fail "no step")
  exact hret _ _ (by k_asm) (by k_asm)
end
theorem spec_conv {w : World} {mean : ExcName → Option Value} {mg mb : Str → Option Value} {d : Nat} {f : Addr} {vs : List Value} {news news2 : List (Addr × Obj)} {post post2 : Value → List (Addr × Obj) → Prop}
    (C : Spec w mean mg mb d f vs news post) (sub : ∀ p ∈ news, p ∈ news2) (k : ∀ v n, post v n → ∃ n', post2 v n' ∧ ∀ p ∈ n', p ∈ n) : Spec w mean mg mb d f vs news2 post2 :=
  fun dp un gd cn cs a ccd cl outer A₀ base h₀ L m s Q E B F X N T hk hd hu hret => C dp un gd cn cs a ccd cl outer A₀ base h₀ L m s Q E B F X (cb_drop N sub) T hk hd hu fun v n h' tk' hp F' N' =>
    let ⟨n', hp', s'⟩ := k v n hp
    hret v n' h' tk' hp' F' (cb_drop N' s')
section
variable {w : World} {mean : ExcName → Option Value} {mg mb : Str → Option Value} {a : BufA} {S : BufS} {K R : List (Addr × Obj)} {v : Addr} {ws : List Value} {n2 : Nat}
theorem gapins_C (G : S.g.Good) (O : BufSep a K R) (hv : List.Mem (v, listOf ws.toArray n2) R) {at_ : Int} {t : Tok} (h0 : 0 ≤ at_) (h1 : at_ ≤ S.g.text.length) (h2 : S.g.cells.length + ws.length + S.g.room ≤ 100000) :
    Spec w mean mg mb 2 182 [.ref a.g.gx, .int at_ t, .ref v] (bufC w.params a S K R) (fun r n => r = .none ∧ ∃ g', n = bufC w.params a { S with g := g' } K R ∧ Inserted S.g g' at_ ws) := by
  have qv := O.offR _ hv
  refine spec_conv (gap_insert_spec (n2 := n2) G ⟨(O.gap (p := w.params) (S := S)).xd, O.gap (p := w.params) (S := S) |>.xc, O.gap (p := w.params) (S := S) |>.dc, List.forall_mem_cons.mpr ⟨⟨qv.2.2.2.1, qv.2.2.2.2.1, qv.2.2.2.2.2.1, trivial⟩, (O.gap (p := w.params) (S := S)).off⟩⟩ h0 h1 h2) ?_ ?_
  · intro e he
    rcases List.mem_cons.mp he with q | he
    · exact q ▸ bufC_gx
    rcases List.mem_cons.mp he with q | he
    · exact q ▸ .tail _ (.tail _ (.tail _ (.tail _ (.head _))))
    rcases List.mem_cons.mp he with q | he
    · exact q ▸ .tail _ (.tail _ (.tail _ (.tail _ (.tail _ (.head _)))))
    rcases List.mem_cons.mp he with q | he
    · exact q ▸ bufC_R hv
    · exact bufC_gap.1 e (.tail _ (.tail _ (.tail _ he)))
  · rintro v n ⟨rfl, g', rfl, I⟩
    refine ⟨_, ⟨rfl, g', rfl, I⟩, fun e he => ?_⟩
    have q := bufC_gap.2 e he
    rcases List.mem_cons.mp q with q | q
    · exact q ▸ .head _
    rcases List.mem_cons.mp q with q | q
    · exact q ▸ .tail _ (.head _)
    rcases List.mem_cons.mp q with q | q
    · exact q ▸ .tail _ (.tail _ (.head _))
    · exact .tail _ (.tail _ (.tail _ (.tail _ q)))
theorem gapdel_C (G : S.g.Good) (O : BufSep a K R) {start end_ : Int} {t1 t2 : Tok} (h0 : 0 ≤ start) (h1 : start ≤ end_) (h2 : end_ ≤ S.g.text.length) :
    Spec w mean mg mb 2 189 [.ref a.g.gx, .int start t1, .int end_ t2] (bufC w.params a S K R) (fun v n => ∃ q zs g', v = .ref q ∧ n = bufC w.params a { S with g := g' } K ((q, listOf zs.toArray 0) :: R) ∧ BufSep a K ((q, listOf zs.toArray 0) :: R) ∧ zs = (S.g.text.drop start.toNat).take (end_.toNat - start.toNat) ∧ Deleted S.g g' start end_ ∧ ∀ e ∈ bufC w.params a S K R, e.1 < q) := by
  refine spec_conv (gap_delete_spec G (O.gap (p := w.params) (S := S)) h0 h1 h2) bufC_gap.1 ?_
  rintro v n ⟨q, zs, g', rfl, rfl, hz, l, D⟩
  have l' : ∀ e ∈ bufC w.params a S K R, e.1 < q := fun e he => allLt_lt l e (bufC_gap.2 e he)
  refine ⟨_, ⟨q, zs, g', rfl, rfl, O.new l', hz, D, l'⟩, ?_⟩
  have up : ∀ e ∈ bufC w.params a { S with g := g' } K R, e ∈ gapL w.params a.g g' ((a.bx, instObj 464 a.bd) :: (a.bd, dictOf (bufD w.params a S) 20) :: (a.ls, listOf #[] S.nls) :: (K ++ R)) := (bufC_gap (S := { S with g := g' })).2
  exact bufC_all (fun e he => .tail _ (up e (bufC_K he))) (List.forall_mem_cons.mpr ⟨.head _, fun e he => .tail _ (up e (bufC_R he))⟩) (fun e he => .tail _ (up e (bufC_own e he)))
theorem gapins_T (G : S.g.Good) (O : BufSep a K R) (hv : List.Mem (v, listOf ws.toArray n2) R) {at_ : Int} {t : Tok} (h0 : 0 ≤ at_) (h1 : at_ ≤ S.g.text.length) (h2 : S.g.cells.length + ws.length + S.g.room ≤ 100000) :
    SpecT w mean mg mb 2 182 [.ref a.g.gx, .int at_ t, .ref v] (bufC w.params a S K R) (fun k => ∀ g', Inserted S.g g' at_ ws → k .none (bufC w.params a { S with g := g' } K R)) := toT (gapins_C G O hv h0 h1 h2) (by rintro k h v n ⟨rfl, g', rfl, I⟩; exact h g' I)
theorem gapdel_T (G : S.g.Good) (O : BufSep a K R) {start end_ : Int} {t1 t2 : Tok} (h0 : 0 ≤ start) (h1 : start ≤ end_) (h2 : end_ ≤ S.g.text.length) :
    SpecT w mean mg mb 2 189 [.ref a.g.gx, .int start t1, .int end_ t2] (bufC w.params a S K R) (fun k => ∀ q zs g', BufSep a K ((q, listOf zs.toArray 0) :: R) → zs = (S.g.text.drop start.toNat).take (end_.toNat - start.toNat) → Deleted S.g g' start end_ → (∀ e ∈ bufC w.params a S K R, e.1 < q) → k (.ref q) (bufC w.params a { S with g := g' } K ((q, listOf zs.toArray 0) :: R))) :=
  toT (gapdel_C G O h0 h1 h2) (by rintro k h v n ⟨q, zs, g', rfl, rfl, O', hz, I, l⟩; exact h q zs g' O' hz I l)
end


structure TextOut (S S' : BufS) (start end_ : Int) : Prop where
  good : S'.g.Good
  text : S'.g.text = S.g.text.take (start - 1).toNat ++ S.g.text.drop (end_ - 1).toNat
  len : S'.g.cells.length = S.g.cells.length
  room : S'.g.room = S.g.room
  pt : S'.pt = if start < S.pt then max start (S.pt - (end_ - start)) else S.pt
  begv : S'.begv = S.begv
  zv : S'.zv = S.zv - (end_ - start)
  tick : S'.tick = S.tick
  nls : S'.nls = S.nls
  k : S'.k = S.k
structure TextIn (S S' : BufS) (place : Int) (ws : List Value) : Prop where
  good : S'.g.Good
  text : S'.g.text = S.g.text.take (place - 1).toNat ++ ws ++ S.g.text.drop (place - 1).toNat
  len : (S'.g.cells.length : Int) ≤ S.g.cells.length + ws.length + S.g.room
  room : S'.g.room = S.g.room
  pt : S'.pt = if place < S.pt then S.pt + ws.length else S.pt
  begv : S'.begv = S.begv
  zv : S'.zv = S.zv + ws.length
  tick : S'.tick = S.tick
  nls : S'.nls = S.nls
  k : S'.k = S.k
section
variable {w : World} {mean : ExcName → Option Value} {mg mb : Str → Option Value} {a : BufA} {S : BufS} {K R : List (Addr × Obj)} {v : Addr} {ws : List Value} {n2 : Nat}
theorem tin_T (G : S.g.Good) (O : BufSep a K R) (hv : List.Mem (v, listOf ws.toArray n2) R) {place : Int} {t1 : Tok} (h0 : 1 ≤ place) (h1 : place ≤ S.g.text.length + 1) (h2 : S.g.cells.length + ws.length + S.g.room ≤ 100000) :
    SpecT w mean mg mb 3 83 [.ref a.bx, .int place t1, .ref v] (bufC w.params a S K R) (fun k => ∀ S', TextIn S S' place ws → k .none (bufC w.params a S' K R)) := by
  intro dp un gd cn cs a1 ccd cl outer A₀ base h₀ L m s Q E B F X N T hk hd hu hret
  have r0 := G.r0
  refine wpAny_call ?_
  k_dflt ((refine' code_def (by k_asm) (by k_asm) (by k_asm) (by k_asm) (by k_asm) (by exact rfl) (by exact rfl) (by assumption) (by k_is) (by k_is) (by ktr_room) (by first | ((first | exact BindsTo.of_eq rfl | exact binds_K (by k_in) rfl (by k_is) rfl rfl rfl); done) | fail) (by exact locs rfl) ?_ (by exact rfl) (by exact rfl) (by exact rfl) (by decide); k_whole; intro g' L' h' FG' F' N' B' X' T'; (try dsimp only); (try k_lift B'); (try k_fold)))
  change (let ak : Around := _; wpAny _ ak _ _ _ _)
  intro ak
  repeat' (first | (k_unfold; (try dsimp only)) | (k_end; wrow_close) | with_reducible ((with_reducible show PySem.wpAny _ _ (PySem.call (PySem.Value.builtin _) _) _ _ _); (k_here; (with_reducible show wpAny _ _ (call (Value.builtin "len") [Value.ref _]) _ _ _); k_dflt (refine' my_len (by k_asm) (by first | (k_mem; done) | fail) (by first | ((first | with_reducible assumption | omega); done) | fail) ?_; k_whole))) | with_reducible ((with_reducible show PySem.wpAny _ _ (PySem.call (PySem.Value.ref _) _) _ _ _); (k_here; (with_reducible show wpAny _ _ (PySem.call (Value.ref 189) _) _ _ _); k_dflt (refine' use_A (by k_asm) (by first | (lcg_sub; done) | fail) (by k_asm) (by k_asm) (by k_asm) (by k_asm) (by first | ((first | exact rfl | assumption); done) | fail) (by ktr_room) (by ktr_units) (gapdel_T (by assumption) (by assumption) (by first | ((first | with_reducible assumption | omega); done) | fail) (by first | ((first | with_reducible assumption | omega); done) | fail) (by first | ((first | with_reducible assumption | omega); done) | fail)) ?_; k_whole); intro q' zs' g' O' hz' I' lq' h' tk' F' N'; (try k_sweep))) | with_reducible ((with_reducible show PySem.wpAny _ _ (PySem.call (PySem.Value.ref _) _) _ _ _); (k_here; (with_reducible show wpAny _ _ (PySem.call (Value.ref 182) _) _ _ _); k_dflt (refine' use_A (by k_asm) (by first | (lcg_sub; done) | fail) (by k_asm) (by k_asm) (by k_asm) (by k_asm) (by first | ((first | exact rfl | assumption); done) | fail) (by ktr_room) (by ktr_units) (gapins_T (by assumption) (by assumption) (by assumption) (by first | ((first | with_reducible assumption | omega); done) | fail) (by first | ((first | with_reducible assumption | omega); done) | fail) (by first | ((first | with_reducible assumption | omega); done) | fail)) ?_; k_whole); intro g' I' h' tk' F' N'; (try k_sweep))) | with_reducible ((with_reducible show PySem.wpAny _ _ (PySem.setAttr (PySem.Value.ref _) _ _) _ _ _); (k_here; k_dflt (first | ((with_reducible show wpAny _ _ (PySem.setAttr (Value.ref _) (PySem.Str.ofString "zv") _) _ _ _); refine' bset_zv (by k_asm) (by k_asm) (by k_asm) (by first | (lcg_sub; done) | fail) (by assumption) ?_) | ((with_reducible show wpAny _ _ (PySem.setAttr (Value.ref _) (PySem.Str.ofString "point") _) _ _ _); refine' bset_pt (by k_asm) (by k_asm) (by k_asm) (by first | (lcg_sub; done) | fail) (by assumption) ?_) | ((with_reducible show wpAny _ _ (PySem.setAttr (Value.ref _) (PySem.Str.ofString "ticks") _) _ _ _); refine' bset_ticks (by k_asm) (by k_asm) (by k_asm) (by first | (lcg_sub; done) | fail) (by assumption) ?_) | ((with_reducible show wpAny _ _ (PySem.setAttr (Value.ref _) (PySem.Str.ofString "codes_ticks") _) _ _ _); refine' bset_codes (by k_asm) (by k_asm) (by k_asm) (by first | (lcg_sub; done) | fail) (by assumption) ?_)); intro h' F' N'; (try k_sweep))) | walk1 | (dsimp only) | (leave1; (try dsimp only)) | fail "no step")
  all_goals (rename Inserted _ _ _ _ => I)
  · refine' hret _ ?T1 _ _ ?f1 ?n1
    case f1 => k_asm
    case n1 => k_asm
    case T1 => exact ⟨I.good, I.text, I.len, I.room, by dsimp only; rw [if_pos (by assumption)], rfl, rfl, rfl, rfl, rfl⟩
  · refine' hret _ ?T2 _ _ ?f2 ?n2
    case f2 => k_asm
    case n2 => k_asm
    case T2 => exact ⟨I.good, I.text, I.len, I.room, by dsimp only; rw [if_neg (by assumption)], rfl, rfl, rfl, rfl, rfl⟩
theorem tout_T (G : S.g.Good) (O : BufSep a K R) {start end_ : Int} {t1 t2 : Tok} (h0 : 1 ≤ start) (h1 : start ≤ end_) (h2 : end_ ≤ S.g.text.length + 1) :
    SpecT w mean mg mb 3 76 [.ref a.bx, .int start t1, .int end_ t2] (bufC w.params a S K R) (fun k => ∀ q zs S', BufSep a K ((q, listOf zs.toArray 0) :: R) → zs = (S.g.text.drop (start - 1).toNat).take ((end_ - 1).toNat - (start - 1).toNat) → TextOut S S' start end_ → (∀ e ∈ bufC w.params a S K R, e.1 < q) → k (.ref q) (bufC w.params a S' K ((q, listOf zs.toArray 0) :: R))) := by
  intro dp un gd cn cs a1 ccd cl outer A₀ base h₀ L m s Q E B F X N T hk hd hu hret
  refine wpAny_call ?_
  k_dflt ((refine' code_def (by k_asm) (by k_asm) (by k_asm) (by k_asm) (by k_asm) (by exact rfl) (by exact rfl) (by assumption) (by k_is) (by k_is) (by ktr_room) (by first | ((first | exact BindsTo.of_eq rfl | exact binds_K (by k_in) rfl (by k_is) rfl rfl rfl); done) | fail) (by exact locs rfl) ?_ (by exact rfl) (by exact rfl) (by exact rfl) (by decide); k_whole; intro g' L' h' FG' F' N' B' X' T'; (try dsimp only); (try k_lift B'); (try k_fold)))
  change (let ak : Around := _; wpAny _ ak _ _ _ _)
  intro ak
  repeat' (first | (k_unfold; (try dsimp only)) | (k_end; wrow_close) | with_reducible ((with_reducible show PySem.wpAny _ _ (PySem.call (PySem.Value.builtin _) _) _ _ _); (k_here; (with_reducible show wpAny _ _ (call (Value.builtin "len") [Value.ref _]) _ _ _); k_dflt (refine' my_len (by k_asm) (by first | (k_mem; done) | fail) (by first | ((first | with_reducible assumption | omega); done) | fail) ?_; k_whole))) | with_reducible ((with_reducible show PySem.wpAny _ _ (PySem.call (PySem.Value.ref _) _) _ _ _); (k_here; (with_reducible show wpAny _ _ (PySem.call (Value.ref 189) _) _ _ _); k_dflt (refine' use_A (by k_asm) (by first | (lcg_sub; done) | fail) (by k_asm) (by k_asm) (by k_asm) (by k_asm) (by first | ((first | exact rfl | assumption); done) | fail) (by ktr_room) (by ktr_units) (gapdel_T (by assumption) (by assumption) (by first | ((first | with_reducible assumption | omega); done) | fail) (by first | ((first | with_reducible assumption | omega); done) | fail) (by first | ((first | with_reducible assumption | omega); done) | fail)) ?_; k_whole); intro q' zs' g' O' hz' I' lq' h' tk' F' N'; (try k_sweep))) | with_reducible ((with_reducible show PySem.wpAny _ _ (PySem.call (PySem.Value.ref _) _) _ _ _); (k_here; (with_reducible show wpAny _ _ (PySem.call (Value.ref 182) _) _ _ _); k_dflt (refine' use_A (by k_asm) (by first | (lcg_sub; done) | fail) (by k_asm) (by k_asm) (by k_asm) (by k_asm) (by first | ((first | exact rfl | assumption); done) | fail) (by ktr_room) (by ktr_units) (gapins_T (by assumption) (by assumption) (by assumption) (by first | ((first | with_reducible assumption | omega); done) | fail) (by first | ((first | with_reducible assumption | omega); done) | fail) (by first | ((first | with_reducible assumption | omega); done) | fail)) ?_; k_whole); intro g' I' h' tk' F' N'; (try k_sweep))) | with_reducible ((with_reducible show PySem.wpAny _ _ (PySem.setAttr (PySem.Value.ref _) _ _) _ _ _); (k_here; k_dflt (first | ((with_reducible show wpAny _ _ (PySem.setAttr (Value.ref _) (PySem.Str.ofString "zv") _) _ _ _); refine' bset_zv (by k_asm) (by k_asm) (by k_asm) (by first | (lcg_sub; done) | fail) (by assumption) ?_) | ((with_reducible show wpAny _ _ (PySem.setAttr (Value.ref _) (PySem.Str.ofString "point") _) _ _ _); refine' bset_pt (by k_asm) (by k_asm) (by k_asm) (by first | (lcg_sub; done) | fail) (by assumption) ?_) | ((with_reducible show wpAny _ _ (PySem.setAttr (Value.ref _) (PySem.Str.ofString "ticks") _) _ _ _); refine' bset_ticks (by k_asm) (by k_asm) (by k_asm) (by first | (lcg_sub; done) | fail) (by assumption) ?_) | ((with_reducible show wpAny _ _ (PySem.setAttr (Value.ref _) (PySem.Str.ofString "codes_ticks") _) _ _ _); refine' bset_codes (by k_asm) (by k_asm) (by k_asm) (by first | (lcg_sub; done) | fail) (by assumption) ?_)); intro h' F' N'; (try k_sweep))) | walk1 | (dsimp only) | (leave1; (try dsimp only)) | fail "no step")
  all_goals (rename Deleted _ _ _ _ => I)
  · refine' hret _ _ _ ?o1 ?z1 ?T1 ?l1 _ _ ?f1 ?n1
    case f1 => k_asm
    case n1 => k_asm
    case o1 => assumption
    case z1 => assumption
    case l1 => assumption
    case T1 => exact ⟨I.good, I.text, I.len, I.room, by dsimp only; rw [if_pos (show start < S.pt by assumption)]; split <;> omega, rfl, rfl, rfl, rfl, rfl⟩
  · refine' hret _ _ _ ?o2 ?z2 ?T2 ?l2 _ _ ?f2 ?n2
    case f2 => k_asm
    case n2 => k_asm
    case o2 => assumption
    case z2 => assumption
    case l2 => assumption
    case T2 => exact ⟨I.good, I.text, I.len, I.room, by dsimp only; rw [if_neg (by assumption)], rfl, rfl, rfl, rfl, rfl⟩
end
theorem delP_pt {start end_ pt q : Int} (h : start ≤ end_) (e : q = if start < pt then max start (pt - (end_ - start)) else pt) : q = delP start end_ pt false := by
  rw [e]
  unfold delP
  split
  · split
    · omega
    · first | (rw [if_pos (by assumption)]; omega) | omega
  · rw [if_neg (by omega)]
theorem insP_pt {place pt q : Int} {k : Nat} (e : q = if place < pt then pt + (k : Int) else pt) : q = insP place (place + k) false pt false := by
  rw [e]
  unfold insP
  split
  · rw [if_pos (Or.inl (by assumption))]; omega
  · rw [if_neg (by simp; omega)]
theorem repl_text {α : Type} {T T1 T2 ws : List α} {a b : Nat} (h : a ≤ T.length) (e1 : T1 = T.take a ++ T.drop b) (e2 : T2 = T1.take a ++ ws ++ T1.drop a) : T2 = T.take a ++ ws ++ T.drop b := by
  have hl : (T.take a).length = a := by rw [List.length_take]; omega
  have q1 : T1.take a = T.take a := by rw [e1]; exact List.take_left' hl
  have q2 : T1.drop a = T.drop b := by rw [e1]; exact List.drop_left' hl
  rw [e2, q1, q2]
theorem repP_pt1 {start end_ pt : Int} {k : Nat} (h : end_ ≤ pt) : pt + (k : Int) - (end_ - start) = repP start end_ k pt false := by
  unfold repP
  rw [if_pos h]
theorem repP_pt2 {start end_ pt pt1 q : Int} {k : Nat} (h0 : start ≤ end_) (h : ¬ end_ ≤ pt) (e2 : q = if start < pt1 then pt1 + (k : Int) else pt1) (e1 : pt1 = if start < pt then max start (pt - (end_ - start)) else pt) : q = repP start end_ k pt false := by
  unfold repP
  rw [if_neg h]
  split at e1
  · rw [if_pos (by assumption)]
    rw [if_neg (by omega)] at e2
    omega
  · rw [if_neg (by assumption)]
    rw [if_neg (by omega)] at e2
    omega


/-- a turn of the markers, whatever they are -/
def MarkOp (w : World) (mean : ExcName → Option Value) (mg mb : Str → Option Value) (f : Addr) (vs : List Value) (K : List (Addr × Obj)) (Pk : List (Addr × Obj) → Prop) : Prop :=
  ∀ rest, (∀ p ∈ rest, ∀ q ∈ K, p.1 ≠ q.1) → Spec w mean mg mb 3 f vs (K ++ rest) (fun v n => v = .none ∧ ∃ K', n = K' ++ rest ∧ K'.map (·.1) = K.map (·.1) ∧ Pk K')
theorem addr_in {K K' : List (Addr × Obj)} (h : K'.map (·.1) = K.map (·.1)) {e : Addr × Obj} (m : e ∈ K') : ∃ e' ∈ K, e'.1 = e.1 := by
  have q : e.1 ∈ K.map (·.1) := h ▸ List.mem_map_of_mem m
  exact List.mem_map.mp q
theorem BufSep.turn {a : BufA} {K K' R : List (Addr × Obj)} (O : BufSep a K R) (h : K'.map (·.1) = K.map (·.1)) : BufSep a K' R :=
  ⟨O.o1, O.o2, O.o3, O.o4, O.o5, fun e he => let ⟨e', m, q⟩ := addr_in h he; q ▸ O.offK e' m, O.offR, fun p hp e he => let ⟨e', m, q⟩ := addr_in h he; q ▸ O.kr p hp e' m⟩
structure EdG (S S' : BufS) (start end_ : Int) (ws : List Value) (pt' : Int) : Prop where
  good : S'.g.Good
  text : S'.g.text = S.g.text.take (start - 1).toNat ++ ws ++ S.g.text.drop (end_ - 1).toNat
  len : (S'.g.cells.length : Int) ≤ S.g.cells.length + ws.length + S.g.room
  room : S'.g.room = S.g.room
  pt : S'.pt = pt'
  begv : S'.begv = S.begv
  zv : S'.zv = S.zv + ws.length - (end_ - start)
  tick : S'.tick = S.tick + 1
  nls : S'.nls = S.nls
  k : S'.k = S.k
section
variable {S S1 : BufS} {st en : Int}
theorem tin_h1 (I : TextOut S S1 st en) (h0 : 1 ≤ st) (h1 : st ≤ en) (h2 : en ≤ S.g.text.length + 1) : st ≤ S1.g.text.length + 1 := by
  rw [I.text, List.length_append, List.length_take, List.length_drop, len_gap (Int.sub_nonneg_of_le h0) (Int.sub_le_sub_right h1 1) (Int.sub_right_le_of_le_add h2)]
  clear I
  omega
theorem tin_h2 (I : TextOut S S1 st en) {k : Nat} (h : S.g.cells.length + k + S.g.room ≤ 100000) : S1.g.cells.length + k + S1.g.room ≤ 100000 := by
  have e := I.len
  have e2 := I.room
  omega
end
section
variable {w : World} {mean : ExcName → Option Value} {mg mb : Str → Option Value} {a : BufA} {S : BufS} {K R : List (Addr × Obj)} {Pk : List (Addr × Obj) → Prop} {v : Addr} {ws : List Value} {n2 : Nat}
theorem mark_C {f : Addr} {vs : List Value} (C : MarkOp w mean mg mb f vs K Pk) (O : BufSep a K R) : Spec w mean mg mb 3 f vs (bufC w.params a S K R) (fun v n => v = .none ∧ ∃ K', n = bufC w.params a S K' R ∧ BufSep a K' R ∧ Pk K') := by
  have own : ∀ e ∈ bufC w.params a S [] [], ∀ q ∈ K, e.1 ≠ q.1 := by
    intro e he q hq
    have o := O.offK q hq
    rcases List.mem_cons.mp he with r | he
    · exact r ▸ o.1.symm
    rcases List.mem_cons.mp he with r | he
    · exact r ▸ o.2.1.symm
    rcases List.mem_cons.mp he with r | he
    · exact r ▸ o.2.2.1.symm
    rcases List.mem_cons.mp he with r | he
    · exact r ▸ o.2.2.2.1.symm
    rcases List.mem_cons.mp he with r | he
    · exact r ▸ o.2.2.2.2.1.symm
    rcases List.mem_cons.mp he with r | he
    · exact r ▸ o.2.2.2.2.2.1.symm
    · exact nomatch he
  refine spec_conv (C (bufC w.params a S [] [] ++ R) fun p hp => (List.mem_append.mp hp).elim (own p) (O.kr p)) ?_ ?_
  · intro e he
    rcases List.mem_append.mp he with h | h
    · exact bufC_K h
    rcases List.mem_append.mp h with h | h
    · exact bufC_own e h
    · exact bufC_R h
  · rintro v n ⟨rfl, K', rfl, hm, hp⟩
    exact ⟨_, ⟨rfl, K', rfl, O.turn hm, hp⟩, bufC_all (fun e h => List.mem_append_left _ h) (fun e h => List.mem_append_right _ (List.mem_append_right _ h)) (fun e h => List.mem_append_right _ (List.mem_append_left _ h))⟩
theorem mark_T {f : Addr} {vs : List Value} (C : MarkOp w mean mg mb f vs K Pk) (O : BufSep a K R) : SpecT w mean mg mb 3 f vs (bufC w.params a S K R) (fun k => ∀ K', BufSep a K' R → Pk K' → k .none (bufC w.params a S K' R)) := toT (mark_C C O) (by rintro k h v n ⟨rfl, K', rfl, O', p⟩; exact h K' O' p)
end


section
variable {w : World} {mean : ExcName → Option Value} {mg mb : Str → Option Value} {a : BufA} {S : BufS} {K R : List (Addr × Obj)} {Pk : List (Addr × Obj) → Prop} {v : Addr} {ws : List Value} {n2 : Nat} {kr : Tok}
theorem putin_T {place : Int} {t1 : Tok} {b : Bool} (G : S.g.Good) (O : BufSep a K R) (hm1 : List.Mem (a.k.mx, instObj 358 a.k.md) K) (hm2 : List.Mem (a.k.md, dictOf (rowsD w.params a.k kr) 1) K)  (hv : List.Mem (v, listOf ws.toArray n2) R) (C : ∀ t t', MarkOp w mean mg mb 341 [.ref a.k.mx, .int place t, .int (place + ws.length) t', .bool b] K Pk)
    (h9 : 1 ≤ place) (h0 : S.begv ≤ place) (h1 : place ≤ S.zv) (h8 : place ≤ S.g.text.length + 1) (hw : 0 < ws.length) (hc : S.g.cells.length + ws.length + S.g.room ≤ 100000) :
    SpecT w mean mg mb 6 104 [.ref a.bx, .int place t1, .ref v, .bool b, .bool false] (bufC w.params a S K R) (fun k => ∀ S' K', BufSep a K' R → EdG S S' place place ws (insP place (place + ws.length) false S.pt false) → Pk K' → k .none (bufC w.params a S' K' R)) := by
  intro dp un gd cn cs a1 ccd cl outer A₀ base h₀ L m s Q E B F X N T hk hd hu hret
  have r0 := G.r0
  have lm := G.lim
  refine wpAny_call ?_
  k_dflt ((refine' code_def (by k_asm) (by k_asm) (by k_asm) (by k_asm) (by k_asm) (by exact rfl) (by exact rfl) (by assumption) (by k_is) (by k_is) (by ktr_room) (by first | ((first | exact BindsTo.of_eq rfl | exact binds_K (by k_in) rfl (by k_is) rfl rfl rfl); done) | fail) (by exact locs rfl) ?_ (by exact rfl) (by exact rfl) (by exact rfl) (by decide); k_whole; intro g' L' h' FG' F' N' B' X' T'; (try dsimp only); (try k_lift B'); (try k_fold)))
  change (let ak : Around := _; wpAny _ ak _ _ _ _)
  intro ak
  repeat' (first | (k_unfold; (try dsimp only)) | (k_end; wrow_close) | with_reducible ((with_reducible show PySem.wpAny _ _ (PySem.call (PySem.Value.builtin _) _) _ _ _); (k_here; (with_reducible show wpAny _ _ (call (Value.builtin "len") [Value.ref _]) _ _ _); k_dflt (refine' my_len (by k_asm) (by first | (k_mem; done) | fail) (by first | ((first | with_reducible assumption | omega); done) | fail) ?_; k_whole))) | with_reducible ((with_reducible show PySem.wpAny _ _ (PySem.call (PySem.Value.ref _) _) _ _ _); (k_here; (with_reducible show wpAny _ _ (PySem.call (Value.ref 341) _) _ _ _); k_dflt (refine' use_A (by k_asm) (by first | (lcg_sub; done) | fail) (by k_asm) (by k_asm) (by k_asm) (by k_asm) (by first | ((first | exact rfl | assumption); done) | fail) (by ktr_room) (by ktr_units) (mark_T (by first | (apply_assumption; done) | fail) (by assumption)) ?_; k_whole); intro K' O' hk' h' tk' F' N'; (try k_sweep))) | with_reducible ((with_reducible show PySem.wpAny _ _ (PySem.call (PySem.Value.ref _) _) _ _ _); (k_here; (with_reducible show wpAny _ _ (PySem.call (Value.ref 83) _) _ _ _); k_dflt (refine' use_A (by k_asm) (by first | (lcg_sub; done) | fail) (by k_asm) (by k_asm) (by k_asm) (by k_asm) (by first | ((first | exact rfl | assumption); done) | fail) (by ktr_room) (by ktr_units) (tin_T (by first | ((first | assumption | exact TextOut.good (by assumption)); done) | fail) (by assumption) (by first | ((first | assumption | exact List.Mem.tail _ (by assumption)); done) | fail) (by first | ((first | with_reducible assumption | omega); done) | fail) (by first | ((first | omega | exact tin_h1 (by assumption) (by omega) (by omega) (by omega)); done) | fail) (by first | ((first | omega | exact tin_h2 (by assumption) (by omega)); done) | fail)) ?_; k_whole); intro S' I' h' tk' F' N'; (try k_sweep))) | with_reducible ((with_reducible show PySem.wpAny _ _ (PySem.call (PySem.Value.ref _) _) _ _ _); (k_here; (with_reducible show wpAny _ _ (PySem.call (Value.ref 97) _) _ _ _); k_dflt (refine' use_A (by k_asm) (by first | (lcg_sub; done) | fail) (by k_asm) (by k_asm) (by k_asm) (by k_asm) (by first | ((first | exact rfl | assumption); done) | fail) (by ktr_room) (by ktr_units) (hin_T) ?_; k_whole); intro h' tk' F' N'; (try k_sweep))) | with_reducible ((with_reducible show PySem.wpAny _ _ (PySem.call (PySem.Value.ref _) _) _ _ _); (k_here; (with_reducible show wpAny _ _ (PySem.call (Value.ref 69) _) _ _ _); k_dflt (refine' use_A (by k_asm) (by first | (lcg_sub; done) | fail) (by k_asm) (by k_asm) (by k_asm) (by k_asm) (by first | ((first | exact rfl | assumption); done) | fail) (by ktr_room) (by ktr_units) (behind_T (by assumption)) ?_; k_whole); intro t1' c1' h' tk' F' N'; (try k_sweep))) | with_reducible ((with_reducible show PySem.wpAny _ _ (PySem.call (PySem.Value.ref _) _) _ _ _); (k_here; (with_reducible show wpAny _ _ (PySem.call (Value.ref 62) _) _ _ _); k_dflt (refine' use_A (by k_asm) (by first | (lcg_sub; done) | fail) (by k_asm) (by k_asm) (by k_asm) (by k_asm) (by first | ((first | exact rfl | assumption); done) | fail) (by ktr_room) (by ktr_units) (ahead_T) ?_; k_whole); intro h' tk' F' N'; (try k_sweep))) | with_reducible ((with_reducible show PySem.wpAny _ _ (PySem.call (PySem.Value.ref _) _) _ _ _); (k_here; (with_reducible show wpAny _ _ (PySem.call (Value.ref 55) _) _ _ _); k_dflt (refine' use_A (by k_asm) (by first | (lcg_sub; done) | fail) (by k_asm) (by k_asm) (by k_asm) (by k_asm) (by first | ((first | exact rfl | assumption); done) | fail) (by ktr_room) (by ktr_units) (reached_T (by first | ((first | with_reducible assumption | omega); done) | fail) (by first | ((first | with_reducible assumption | omega); done) | fail) (by first | ((first | with_reducible assumption | omega); done) | fail)) ?_; k_whole); intro q' t1' t2' lq' h' tk' F' N'; (try k_sweep))) | with_reducible ((with_reducible show PySem.wpAny _ _ (PySem.call (PySem.Value.ref _) _) _ _ _); (k_here; (with_reducible show wpAny _ _ (PySem.call (Value.ref 48) _) _ _ _); k_dflt (refine' use_A (by k_asm) (by first | (lcg_sub; done) | fail) (by k_asm) (by k_asm) (by k_asm) (by k_asm) (by first | ((first | exact rfl | assumption); done) | fail) (by ktr_room) (by ktr_units) (need_T) ?_; k_whole); intro h' tk' F' N'; (try k_sweep))) | with_reducible ((with_reducible show PySem.wpAny _ _ (PySem.eval (PySem.Expr.Call _ _ _ _) _) _ _ _); (k_here; (with_reducible show wpAny _ _ (PySem.eval (PySem.Expr.Call (PySem.Expr.Name _ _) (_ :: _) [] _) _) _ _ _); k_dflt (refine' call_KN (by k_asm) (by k_asm) (by k_asm) (by k_is) (by k_is) (by rfl) ?_ (by rfl) (by rfl); k_whole); (try dsimp only))) | with_reducible ((with_reducible show ite _ _ _); (k_here; k_dflt (first | (refine ite_neg (by first | ((simp only [beq_iff_eq]; omega); done) | fail) ?_) | (refine ite_pos (by first | ((simp only [beq_iff_eq]; omega); done) | fail) ?_)))) | walk1 | (dsimp only) | (leave1; (try dsimp only)) | fail "no step")
  (rename TextIn _ _ _ _ => I)
  refine' hret _ _ ?o ?T ?k _ _ ?f (cb_drop ?n ?s)
  case f => k_asm
  case n => k_asm
  case s => lcg_sub
  case o => assumption
  case k => assumption
  case T => exact ⟨I.good, I.text, I.len, I.room, insP_pt I.pt, I.begv, by have := I.zv; dsimp only; omega, by have := I.tick; dsimp only; omega, I.nls, I.k⟩
end


section
variable {w : World} {mean : ExcName → Option Value} {mg mb : Str → Option Value} {a : BufA} {S : BufS} {K R : List (Addr × Obj)} {Pk : List (Addr × Obj) → Prop} {v : Addr} {ws : List Value} {n2 : Nat} {kr : Tok}
theorem insat_spec {place : Int} {t1 : Tok} {b : Bool} (G : S.g.Good) (O : BufSep a K R) (hm1 : List.Mem (a.k.mx, instObj 358 a.k.md) K) (hm2 : List.Mem (a.k.md, dictOf (rowsD w.params a.k kr) 1) K)  (hv : List.Mem (v, listOf ws.toArray n2) R) (C : ∀ t t', MarkOp w mean mg mb 341 [.ref a.k.mx, .int place t, .int (place + ws.length) t', .bool b] K Pk)
    (h9 : 1 ≤ place) (h0 : S.begv ≤ place) (h1 : place ≤ S.zv) (h8 : place ≤ S.g.text.length + 1) (hw : 0 < ws.length) (hc : S.g.cells.length + ws.length + S.g.room ≤ 100000) :
    Spec w mean mg mb 7 112 [.ref a.bx, .int place t1, .ref v, .bool b] (bufC w.params a S K R) (fun r n => r = .none ∧ ∃ S' K', n = bufC w.params a S' K' R ∧ BufSep a K' R ∧ EdG S S' place place ws (insP place (place + ws.length) false S.pt false) ∧ Pk K') := by
  intro dp un gd cn cs a1 ccd cl outer A₀ base h₀ L m s Q E B F X N T hk hd hu hret
  refine wpAny_call ?_
  k_dflt ((refine' code_def (by k_asm) (by k_asm) (by k_asm) (by k_asm) (by k_asm) (by exact rfl) (by exact rfl) (by assumption) (by k_is) (by k_is) (by ktr_room) (by first | ((first | exact BindsTo.of_eq rfl | exact binds_K (by k_in) rfl (by k_is) rfl rfl rfl); done) | fail) (by exact locs rfl) ?_ (by exact rfl) (by exact rfl) (by exact rfl) (by decide); k_whole; intro g' L' h' FG' F' N' B' X' T'; (try dsimp only); (try k_lift B'); (try k_fold)))
  change (let ak : Around := _; wpAny _ ak _ _ _ _)
  intro ak
  repeat' (first | (k_unfold; (try dsimp only)) | (k_end; wrow_close) | with_reducible ((with_reducible show PySem.wpAny _ _ (PySem.call (PySem.Value.builtin _) _) _ _ _); (k_here; (with_reducible show wpAny _ _ (call (Value.builtin "len") [Value.ref _]) _ _ _); k_dflt (refine' my_len (by k_asm) (by first | (k_mem; done) | fail) (by first | ((first | with_reducible assumption | omega); done) | fail) ?_; k_whole))) | with_reducible ((with_reducible show PySem.wpAny _ _ (PySem.call (PySem.Value.ref _) _) _ _ _); (k_here; (with_reducible show wpAny _ _ (PySem.call (Value.ref 104) _) _ _ _); k_dflt (refine' use_A (by k_asm) (by first | (lcg_sub; done) | fail) (by k_asm) (by k_asm) (by k_asm) (by k_asm) (by first | ((first | exact rfl | assumption); done) | fail) (by ktr_room) (by ktr_units) (putin_T (by assumption) (by assumption) (by assumption) (by assumption) (by assumption) (by assumption) (by first | ((first | with_reducible assumption | omega); done) | fail) (by first | ((first | with_reducible assumption | omega); done) | fail) (by first | ((first | with_reducible assumption | omega); done) | fail) (by first | ((first | with_reducible assumption | omega); done) | fail) (by first | ((first | with_reducible assumption | omega); done) | fail) (by first | ((first | with_reducible assumption | omega); done) | fail)) ?_; k_whole); intro S' K' O' I' hk' h' tk' F' N'; (try k_sweep))) | with_reducible ((with_reducible show PySem.wpAny _ _ (PySem.call (PySem.Value.ref _) _) _ _ _); (k_here; (with_reducible show wpAny _ _ (PySem.call (Value.ref 355) _) _ _ _); k_dflt (refine' use_A (by k_asm) (by first | (lcg_sub; done) | fail) (by k_asm) (by k_asm) (by k_asm) (by k_asm) (by first | ((first | exact rfl | assumption); done) | fail) (by ktr_room) (by ktr_units) (mark_T (by first | (apply_assumption; done) | fail) (by assumption)) ?_; k_whole); intro K' O' hk' h' tk' F' N'; (try k_sweep))) | with_reducible ((with_reducible show PySem.wpAny _ _ (PySem.call (PySem.Value.ref _) _) _ _ _); (k_here; (with_reducible show wpAny _ _ (PySem.call (Value.ref 348) _) _ _ _); k_dflt (refine' use_A (by k_asm) (by first | (lcg_sub; done) | fail) (by k_asm) (by k_asm) (by k_asm) (by k_asm) (by first | ((first | exact rfl | assumption); done) | fail) (by ktr_room) (by ktr_units) (mark_T (by first | (apply_assumption; done) | fail) (by assumption)) ?_; k_whole); intro K' O' hk' h' tk' F' N'; (try k_sweep))) | with_reducible ((with_reducible show PySem.wpAny _ _ (PySem.call (PySem.Value.ref _) _) _ _ _); (k_here; (with_reducible show wpAny _ _ (PySem.call (Value.ref 76) _) _ _ _); k_dflt (refine' use_A (by k_asm) (by first | (lcg_sub; done) | fail) (by k_asm) (by k_asm) (by k_asm) (by k_asm) (by first | ((first | exact rfl | assumption); done) | fail) (by ktr_room) (by ktr_units) (tout_T (by assumption) (by assumption) (by first | ((first | with_reducible assumption | omega); done) | fail) (by first | ((first | with_reducible assumption | omega); done) | fail) (by first | ((first | with_reducible assumption | omega); done) | fail)) ?_; k_whole); intro q' zs' S' O' hz' I' lq' h' tk' F' N'; (try k_sweep))) | with_reducible ((with_reducible show PySem.wpAny _ _ (PySem.call (PySem.Value.ref _) _) _ _ _); (k_here; (with_reducible show wpAny _ _ (PySem.call (Value.ref 83) _) _ _ _); k_dflt (refine' use_A (by k_asm) (by first | (lcg_sub; done) | fail) (by k_asm) (by k_asm) (by k_asm) (by k_asm) (by first | ((first | exact rfl | assumption); done) | fail) (by ktr_room) (by ktr_units) (tin_T (by first | ((first | assumption | exact TextOut.good (by assumption)); done) | fail) (by assumption) (by first | ((first | assumption | exact List.Mem.tail _ (by assumption)); done) | fail) (by first | ((first | with_reducible assumption | omega); done) | fail) (by first | ((first | omega | exact tin_h1 (by assumption) (by omega) (by omega) (by omega)); done) | fail) (by first | ((first | omega | exact tin_h2 (by assumption) (by omega)); done) | fail)) ?_; k_whole); intro S' I' h' tk' F' N'; (try k_sweep))) | with_reducible ((with_reducible show PySem.wpAny _ _ (PySem.call (PySem.Value.ref _) _) _ _ _); (k_here; (with_reducible show wpAny _ _ (PySem.call (Value.ref 97) _) _ _ _); k_dflt (refine' use_A (by k_asm) (by first | (lcg_sub; done) | fail) (by k_asm) (by k_asm) (by k_asm) (by k_asm) (by first | ((first | exact rfl | assumption); done) | fail) (by ktr_room) (by ktr_units) (hin_T) ?_; k_whole); intro h' tk' F' N'; (try k_sweep))) | with_reducible ((with_reducible show PySem.wpAny _ _ (PySem.call (PySem.Value.ref _) _) _ _ _); (k_here; (with_reducible show wpAny _ _ (PySem.call (Value.ref 90) _) _ _ _); k_dflt (refine' use_A (by k_asm) (by first | (lcg_sub; done) | fail) (by k_asm) (by k_asm) (by k_asm) (by k_asm) (by first | ((first | exact rfl | assumption); done) | fail) (by ktr_room) (by ktr_units) (hout_T) ?_; k_whole); intro h' tk' F' N'; (try k_sweep))) | with_reducible ((with_reducible show PySem.wpAny _ _ (PySem.call (PySem.Value.ref _) _) _ _ _); (k_here; (with_reducible show wpAny _ _ (PySem.call (Value.ref 69) _) _ _ _); k_dflt (refine' use_A (by k_asm) (by first | (lcg_sub; done) | fail) (by k_asm) (by k_asm) (by k_asm) (by k_asm) (by first | ((first | exact rfl | assumption); done) | fail) (by ktr_room) (by ktr_units) (behind_T (by assumption)) ?_; k_whole); intro t1' c1' h' tk' F' N'; (try k_sweep))) | with_reducible ((with_reducible show PySem.wpAny _ _ (PySem.call (PySem.Value.ref _) _) _ _ _); (k_here; (with_reducible show wpAny _ _ (PySem.call (Value.ref 62) _) _ _ _); k_dflt (refine' use_A (by k_asm) (by first | (lcg_sub; done) | fail) (by k_asm) (by k_asm) (by k_asm) (by k_asm) (by first | ((first | exact rfl | assumption); done) | fail) (by ktr_room) (by ktr_units) (ahead_T) ?_; k_whole); intro h' tk' F' N'; (try k_sweep))) | with_reducible ((with_reducible show PySem.wpAny _ _ (PySem.call (PySem.Value.ref _) _) _ _ _); (k_here; (with_reducible show wpAny _ _ (PySem.call (Value.ref 55) _) _ _ _); k_dflt (refine' use_A (by k_asm) (by first | (lcg_sub; done) | fail) (by k_asm) (by k_asm) (by k_asm) (by k_asm) (by first | ((first | exact rfl | assumption); done) | fail) (by ktr_room) (by ktr_units) (reached_T (by first | ((first | with_reducible assumption | omega); done) | fail) (by first | ((first | with_reducible assumption | omega); done) | fail) (by first | ((first | with_reducible assumption | omega); done) | fail)) ?_; k_whole); intro q' t1' t2' lq' h' tk' F' N'; (try k_sweep))) | with_reducible ((with_reducible show PySem.wpAny _ _ (PySem.call (PySem.Value.ref _) _) _ _ _); (k_here; (with_reducible show wpAny _ _ (PySem.call (Value.ref 48) _) _ _ _); k_dflt (refine' use_A (by k_asm) (by first | (lcg_sub; done) | fail) (by k_asm) (by k_asm) (by k_asm) (by k_asm) (by first | ((first | exact rfl | assumption); done) | fail) (by ktr_room) (by ktr_units) (need_T) ?_; k_whole); intro h' tk' F' N'; (try k_sweep))) | with_reducible ((with_reducible show PySem.wpAny _ _ (PySem.eval (PySem.Expr.Call _ _ _ _) _) _ _ _); (k_here; (with_reducible show wpAny _ _ (PySem.eval (PySem.Expr.Call (PySem.Expr.Name _ _) (_ :: _) [] _) _) _ _ _); k_dflt (refine' call_KN (by k_asm) (by k_asm) (by k_asm) (by k_is) (by k_is) (by rfl) ?_ (by rfl) (by rfl); k_whole); (try dsimp only))) | with_reducible ((with_reducible show ite _ _ _); (k_here; k_dflt (first | (refine ite_neg (by first | ((simp only [beq_iff_eq]; omega); done) | fail) ?_) | (refine ite_pos (by first | ((simp only [beq_iff_eq]; omega); done) | fail) ?_)))) | with_reducible ((with_reducible show PySem.wpAny _ _ (PySem.setAttr (PySem.Value.ref _) _ _) _ _ _); (k_here; k_dflt (first | ((with_reducible show wpAny _ _ (PySem.setAttr (Value.ref _) (PySem.Str.ofString "zv") _) _ _ _); refine' bset_zv (by k_asm) (by k_asm) (by k_asm) (by first | (lcg_sub; done) | fail) (by assumption) ?_) | ((with_reducible show wpAny _ _ (PySem.setAttr (Value.ref _) (PySem.Str.ofString "point") _) _ _ _); refine' bset_pt (by k_asm) (by k_asm) (by k_asm) (by first | (lcg_sub; done) | fail) (by assumption) ?_) | ((with_reducible show wpAny _ _ (PySem.setAttr (Value.ref _) (PySem.Str.ofString "ticks") _) _ _ _); refine' bset_ticks (by k_asm) (by k_asm) (by k_asm) (by first | (lcg_sub; done) | fail) (by assumption) ?_) | ((with_reducible show wpAny _ _ (PySem.setAttr (Value.ref _) (PySem.Str.ofString "codes_ticks") _) _ _ _); refine' bset_codes (by k_asm) (by k_asm) (by k_asm) (by first | (lcg_sub; done) | fail) (by assumption) ?_)); intro h' F' N'; (try k_sweep))) | walk1 | (dsimp only) | (leave1; (try dsimp only)) | fail "no step")
  refine' hret _ _ _ _ ⟨rfl, _, _, rfl, ?o, ?T, ?k⟩ ?f ?n
  case f => k_asm
  case n => exact cb_drop (by k_asm) (by lcg_sub)
  case o => assumption
  case k => assumption
  case T => assumption
theorem delete_C {st en : Int} {t1 t2 : Tok} (G : S.g.Good) (O : BufSep a K R) (hm1 : List.Mem (a.k.mx, instObj 358 a.k.md) K) (hm2 : List.Mem (a.k.md, dictOf (rowsD w.params a.k kr) 1) K)  (C : ∀ t t', MarkOp w mean mg mb 348 [.ref a.k.mx, .int st t, .int en t'] K Pk)
    (h9 : 1 ≤ st) (h0 : S.begv ≤ st) (h1 : st < en) (h2 : en ≤ S.zv) (h8 : en ≤ S.g.text.length + 1) :
    Spec w mean mg mb 6 119 [.ref a.bx, .int st t1, .int en t2] (bufC w.params a S K R) (fun v n => ∃ q zs S' K', v = .ref q ∧ n = bufC w.params a S' K' ((q, listOf zs.toArray 0) :: R) ∧ BufSep a K' ((q, listOf zs.toArray 0) :: R) ∧ zs = (S.g.text.drop (st - 1).toNat).take ((en - 1).toNat - (st - 1).toNat) ∧ EdG S S' st en [] (delP st en S.pt false) ∧ Pk K' ∧ ∀ e ∈ bufC w.params a S K R, e.1 < q) := by
  intro dp un gd cn cs a1 ccd cl outer A₀ base h₀ L m s Q E B F X N T hk hd hu hret
  refine wpAny_call ?_
  k_dflt ((refine' code_def (by k_asm) (by k_asm) (by k_asm) (by k_asm) (by k_asm) (by exact rfl) (by exact rfl) (by assumption) (by k_is) (by k_is) (by ktr_room) (by first | ((first | exact BindsTo.of_eq rfl | exact binds_K (by k_in) rfl (by k_is) rfl rfl rfl); done) | fail) (by exact locs rfl) ?_ (by exact rfl) (by exact rfl) (by exact rfl) (by decide); k_whole; intro g' L' h' FG' F' N' B' X' T'; (try dsimp only); (try k_lift B'); (try k_fold)))
  change (let ak : Around := _; wpAny _ ak _ _ _ _)
  intro ak
  repeat' (first | (k_unfold; (try dsimp only)) | (k_end; wrow_close) | with_reducible ((with_reducible show PySem.wpAny _ _ (PySem.call (PySem.Value.builtin _) _) _ _ _); (k_here; (with_reducible show wpAny _ _ (call (Value.builtin "len") [Value.ref _]) _ _ _); k_dflt (refine' my_len (by k_asm) (by first | (k_mem; done) | fail) (by first | ((first | with_reducible assumption | omega); done) | fail) ?_; k_whole))) | with_reducible ((with_reducible show PySem.wpAny _ _ (PySem.call (PySem.Value.ref _) _) _ _ _); (k_here; (with_reducible show wpAny _ _ (PySem.call (Value.ref 104) _) _ _ _); k_dflt (refine' use_A (by k_asm) (by first | (lcg_sub; done) | fail) (by k_asm) (by k_asm) (by k_asm) (by k_asm) (by first | ((first | exact rfl | assumption); done) | fail) (by ktr_room) (by ktr_units) (putin_T (by assumption) (by assumption) (by assumption) (by assumption) (by assumption) (by assumption) (by first | ((first | with_reducible assumption | omega); done) | fail) (by first | ((first | with_reducible assumption | omega); done) | fail) (by first | ((first | with_reducible assumption | omega); done) | fail) (by first | ((first | with_reducible assumption | omega); done) | fail) (by first | ((first | with_reducible assumption | omega); done) | fail) (by first | ((first | with_reducible assumption | omega); done) | fail)) ?_; k_whole); intro S' K' O' I' hk' h' tk' F' N'; (try k_sweep))) | with_reducible ((with_reducible show PySem.wpAny _ _ (PySem.call (PySem.Value.ref _) _) _ _ _); (k_here; (with_reducible show wpAny _ _ (PySem.call (Value.ref 355) _) _ _ _); k_dflt (refine' use_A (by k_asm) (by first | (lcg_sub; done) | fail) (by k_asm) (by k_asm) (by k_asm) (by k_asm) (by first | ((first | exact rfl | assumption); done) | fail) (by ktr_room) (by ktr_units) (mark_T (by first | (apply_assumption; done) | fail) (by assumption)) ?_; k_whole); intro K' O' hk' h' tk' F' N'; (try k_sweep))) | with_reducible ((with_reducible show PySem.wpAny _ _ (PySem.call (PySem.Value.ref _) _) _ _ _); (k_here; (with_reducible show wpAny _ _ (PySem.call (Value.ref 348) _) _ _ _); k_dflt (refine' use_A (by k_asm) (by first | (lcg_sub; done) | fail) (by k_asm) (by k_asm) (by k_asm) (by k_asm) (by first | ((first | exact rfl | assumption); done) | fail) (by ktr_room) (by ktr_units) (mark_T (by first | (apply_assumption; done) | fail) (by assumption)) ?_; k_whole); intro K' O' hk' h' tk' F' N'; (try k_sweep))) | with_reducible ((with_reducible show PySem.wpAny _ _ (PySem.call (PySem.Value.ref _) _) _ _ _); (k_here; (with_reducible show wpAny _ _ (PySem.call (Value.ref 76) _) _ _ _); k_dflt (refine' use_A (by k_asm) (by first | (lcg_sub; done) | fail) (by k_asm) (by k_asm) (by k_asm) (by k_asm) (by first | ((first | exact rfl | assumption); done) | fail) (by ktr_room) (by ktr_units) (tout_T (by assumption) (by assumption) (by first | ((first | with_reducible assumption | omega); done) | fail) (by first | ((first | with_reducible assumption | omega); done) | fail) (by first | ((first | with_reducible assumption | omega); done) | fail)) ?_; k_whole); intro q' zs' S' O' hz' I' lq' h' tk' F' N'; (try k_sweep))) | with_reducible ((with_reducible show PySem.wpAny _ _ (PySem.call (PySem.Value.ref _) _) _ _ _); (k_here; (with_reducible show wpAny _ _ (PySem.call (Value.ref 83) _) _ _ _); k_dflt (refine' use_A (by k_asm) (by first | (lcg_sub; done) | fail) (by k_asm) (by k_asm) (by k_asm) (by k_asm) (by first | ((first | exact rfl | assumption); done) | fail) (by ktr_room) (by ktr_units) (tin_T (by first | ((first | assumption | exact TextOut.good (by assumption)); done) | fail) (by assumption) (by first | ((first | assumption | exact List.Mem.tail _ (by assumption)); done) | fail) (by first | ((first | with_reducible assumption | omega); done) | fail) (by first | ((first | omega | exact tin_h1 (by assumption) (by omega) (by omega) (by omega)); done) | fail) (by first | ((first | omega | exact tin_h2 (by assumption) (by omega)); done) | fail)) ?_; k_whole); intro S' I' h' tk' F' N'; (try k_sweep))) | with_reducible ((with_reducible show PySem.wpAny _ _ (PySem.call (PySem.Value.ref _) _) _ _ _); (k_here; (with_reducible show wpAny _ _ (PySem.call (Value.ref 97) _) _ _ _); k_dflt (refine' use_A (by k_asm) (by first | (lcg_sub; done) | fail) (by k_asm) (by k_asm) (by k_asm) (by k_asm) (by first | ((first | exact rfl | assumption); done) | fail) (by ktr_room) (by ktr_units) (hin_T) ?_; k_whole); intro h' tk' F' N'; (try k_sweep))) | with_reducible ((with_reducible show PySem.wpAny _ _ (PySem.call (PySem.Value.ref _) _) _ _ _); (k_here; (with_reducible show wpAny _ _ (PySem.call (Value.ref 90) _) _ _ _); k_dflt (refine' use_A (by k_asm) (by first | (lcg_sub; done) | fail) (by k_asm) (by k_asm) (by k_asm) (by k_asm) (by first | ((first | exact rfl | assumption); done) | fail) (by ktr_room) (by ktr_units) (hout_T) ?_; k_whole); intro h' tk' F' N'; (try k_sweep))) | with_reducible ((with_reducible show PySem.wpAny _ _ (PySem.call (PySem.Value.ref _) _) _ _ _); (k_here; (with_reducible show wpAny _ _ (PySem.call (Value.ref 69) _) _ _ _); k_dflt (refine' use_A (by k_asm) (by first | (lcg_sub; done) | fail) (by k_asm) (by k_asm) (by k_asm) (by k_asm) (by first | ((first | exact rfl | assumption); done) | fail) (by ktr_room) (by ktr_units) (behind_T (by assumption)) ?_; k_whole); intro t1' c1' h' tk' F' N'; (try k_sweep))) | with_reducible ((with_reducible show PySem.wpAny _ _ (PySem.call (PySem.Value.ref _) _) _ _ _); (k_here; (with_reducible show wpAny _ _ (PySem.call (Value.ref 62) _) _ _ _); k_dflt (refine' use_A (by k_asm) (by first | (lcg_sub; done) | fail) (by k_asm) (by k_asm) (by k_asm) (by k_asm) (by first | ((first | exact rfl | assumption); done) | fail) (by ktr_room) (by ktr_units) (ahead_T) ?_; k_whole); intro h' tk' F' N'; (try k_sweep))) | with_reducible ((with_reducible show PySem.wpAny _ _ (PySem.call (PySem.Value.ref _) _) _ _ _); (k_here; (with_reducible show wpAny _ _ (PySem.call (Value.ref 55) _) _ _ _); k_dflt (refine' use_A (by k_asm) (by first | (lcg_sub; done) | fail) (by k_asm) (by k_asm) (by k_asm) (by k_asm) (by first | ((first | exact rfl | assumption); done) | fail) (by ktr_room) (by ktr_units) (reached_T (by first | ((first | with_reducible assumption | omega); done) | fail) (by first | ((first | with_reducible assumption | omega); done) | fail) (by first | ((first | with_reducible assumption | omega); done) | fail)) ?_; k_whole); intro q' t1' t2' lq' h' tk' F' N'; (try k_sweep))) | with_reducible ((with_reducible show PySem.wpAny _ _ (PySem.call (PySem.Value.ref _) _) _ _ _); (k_here; (with_reducible show wpAny _ _ (PySem.call (Value.ref 48) _) _ _ _); k_dflt (refine' use_A (by k_asm) (by first | (lcg_sub; done) | fail) (by k_asm) (by k_asm) (by k_asm) (by k_asm) (by first | ((first | exact rfl | assumption); done) | fail) (by ktr_room) (by ktr_units) (need_T) ?_; k_whole); intro h' tk' F' N'; (try k_sweep))) | with_reducible ((with_reducible show PySem.wpAny _ _ (PySem.eval (PySem.Expr.Call _ _ _ _) _) _ _ _); (k_here; (with_reducible show wpAny _ _ (PySem.eval (PySem.Expr.Call (PySem.Expr.Name _ _) (_ :: _) [] _) _) _ _ _); k_dflt (refine' call_KN (by k_asm) (by k_asm) (by k_asm) (by k_is) (by k_is) (by rfl) ?_ (by rfl) (by rfl); k_whole); (try dsimp only))) | with_reducible ((with_reducible show ite _ _ _); (k_here; k_dflt (first | (refine ite_neg (by first | ((simp only [beq_iff_eq]; omega); done) | fail) ?_) | (refine ite_pos (by first | ((simp only [beq_iff_eq]; omega); done) | fail) ?_)))) | with_reducible ((with_reducible show PySem.wpAny _ _ (PySem.setAttr (PySem.Value.ref _) _ _) _ _ _); (k_here; k_dflt (first | ((with_reducible show wpAny _ _ (PySem.setAttr (Value.ref _) (PySem.Str.ofString "zv") _) _ _ _); refine' bset_zv (by k_asm) (by k_asm) (by k_asm) (by first | (lcg_sub; done) | fail) (by assumption) ?_) | ((with_reducible show wpAny _ _ (PySem.setAttr (Value.ref _) (PySem.Str.ofString "point") _) _ _ _); refine' bset_pt (by k_asm) (by k_asm) (by k_asm) (by first | (lcg_sub; done) | fail) (by assumption) ?_) | ((with_reducible show wpAny _ _ (PySem.setAttr (Value.ref _) (PySem.Str.ofString "ticks") _) _ _ _); refine' bset_ticks (by k_asm) (by k_asm) (by k_asm) (by first | (lcg_sub; done) | fail) (by assumption) ?_) | ((with_reducible show wpAny _ _ (PySem.setAttr (Value.ref _) (PySem.Str.ofString "codes_ticks") _) _ _ _); refine' bset_codes (by k_asm) (by k_asm) (by k_asm) (by first | (lcg_sub; done) | fail) (by assumption) ?_)); intro h' F' N'; (try k_sweep))) | walk1 | (dsimp only) | (leave1; (try dsimp only)) | fail "no step")
  (rename TextOut _ _ _ _ => I)
  refine' hret _ _ _ _ ⟨_, _, _, _, rfl, rfl, ?o, ?z, ?T, ?k, ?l⟩ ?f ?n
  case f => k_asm
  case n => exact cb_drop (by k_asm) (by lcg_sub)
  case o => assumption
  case k => assumption
  case z => assumption
  case l => assumption
  case T => exact ⟨I.good, by rw [List.append_nil]; exact I.text, by have := I.len; have := I.room; have := G.r0; dsimp only [List.length_nil]; omega, I.room, delP_pt (Int.le_of_lt (by assumption)) I.pt, I.begv, by have := I.zv; dsimp only [List.length_nil]; omega, by have := I.tick; dsimp only; omega, I.nls, I.k⟩
theorem replace_C {st en : Int} {t1 t2 : Tok} (G : S.g.Good) (O : BufSep a K R) (hm1 : List.Mem (a.k.mx, instObj 358 a.k.md) K) (hm2 : List.Mem (a.k.md, dictOf (rowsD w.params a.k kr) 1) K)  (hv : List.Mem (v, listOf ws.toArray n2) R) (C : ∀ t t' t'', MarkOp w mean mg mb 355 [.ref a.k.mx, .int st t, .int en t', .int ws.length t''] K Pk)
    (h9 : 1 ≤ st) (h0 : S.begv ≤ st) (h1 : st < en) (h2 : en ≤ S.zv) (h8 : en ≤ S.g.text.length + 1) (hw : 0 < ws.length) (hc : S.g.cells.length + ws.length + S.g.room ≤ 100000) :
    Spec w mean mg mb 8 126 [.ref a.bx, .int st t1, .int en t2, .ref v] (bufC w.params a S K R) (fun r n => ∃ q zs S' K', r = .ref q ∧ n = bufC w.params a S' K' ((q, listOf zs.toArray 0) :: R) ∧ BufSep a K' ((q, listOf zs.toArray 0) :: R) ∧ zs = (S.g.text.drop (st - 1).toNat).take ((en - 1).toNat - (st - 1).toNat) ∧ EdG S S' st en ws (repP st en ws.length S.pt false) ∧ Pk K' ∧ ∀ e ∈ bufC w.params a S K R, e.1 < q) := by
  intro dp un gd cn cs a1 ccd cl outer A₀ base h₀ L m s Q E B F X N T hk hd hu hret
  have r0 := G.r0
  have lm := G.lim
  refine wpAny_call ?_
  k_dflt ((refine' code_def (by k_asm) (by k_asm) (by k_asm) (by k_asm) (by k_asm) (by exact rfl) (by exact rfl) (by assumption) (by k_is) (by k_is) (by ktr_room) (by first | ((first | exact BindsTo.of_eq rfl | exact binds_K (by k_in) rfl (by k_is) rfl rfl rfl); done) | fail) (by exact locs rfl) ?_ (by exact rfl) (by exact rfl) (by exact rfl) (by decide); k_whole; intro g' L' h' FG' F' N' B' X' T'; (try dsimp only); (try k_lift B'); (try k_fold)))
  change (let ak : Around := _; wpAny _ ak _ _ _ _)
  intro ak
  repeat' (first | (k_unfold; (try dsimp only)) | (k_end; wrow_close) | with_reducible ((with_reducible show PySem.wpAny _ _ (PySem.call (PySem.Value.builtin _) _) _ _ _); (k_here; (with_reducible show wpAny _ _ (call (Value.builtin "len") [Value.ref _]) _ _ _); k_dflt (refine' my_len (by k_asm) (by first | (k_mem; done) | fail) (by first | ((first | with_reducible assumption | omega); done) | fail) ?_; k_whole))) | with_reducible ((with_reducible show PySem.wpAny _ _ (PySem.call (PySem.Value.ref _) _) _ _ _); (k_here; (with_reducible show wpAny _ _ (PySem.call (Value.ref 104) _) _ _ _); k_dflt (refine' use_A (by k_asm) (by first | (lcg_sub; done) | fail) (by k_asm) (by k_asm) (by k_asm) (by k_asm) (by first | ((first | exact rfl | assumption); done) | fail) (by ktr_room) (by ktr_units) (putin_T (by assumption) (by assumption) (by assumption) (by assumption) (by assumption) (by assumption) (by first | ((first | with_reducible assumption | omega); done) | fail) (by first | ((first | with_reducible assumption | omega); done) | fail) (by first | ((first | with_reducible assumption | omega); done) | fail) (by first | ((first | with_reducible assumption | omega); done) | fail) (by first | ((first | with_reducible assumption | omega); done) | fail) (by first | ((first | with_reducible assumption | omega); done) | fail)) ?_; k_whole); intro S' K' O' I' hk' h' tk' F' N'; (try k_sweep))) | with_reducible ((with_reducible show PySem.wpAny _ _ (PySem.call (PySem.Value.ref _) _) _ _ _); (k_here; (with_reducible show wpAny _ _ (PySem.call (Value.ref 355) _) _ _ _); k_dflt (refine' use_A (by k_asm) (by first | (lcg_sub; done) | fail) (by k_asm) (by k_asm) (by k_asm) (by k_asm) (by first | ((first | exact rfl | assumption); done) | fail) (by ktr_room) (by ktr_units) (mark_T (by first | (apply_assumption; done) | fail) (by assumption)) ?_; k_whole); intro K' O' hk' h' tk' F' N'; (try k_sweep))) | with_reducible ((with_reducible show PySem.wpAny _ _ (PySem.call (PySem.Value.ref _) _) _ _ _); (k_here; (with_reducible show wpAny _ _ (PySem.call (Value.ref 348) _) _ _ _); k_dflt (refine' use_A (by k_asm) (by first | (lcg_sub; done) | fail) (by k_asm) (by k_asm) (by k_asm) (by k_asm) (by first | ((first | exact rfl | assumption); done) | fail) (by ktr_room) (by ktr_units) (mark_T (by first | (apply_assumption; done) | fail) (by assumption)) ?_; k_whole); intro K' O' hk' h' tk' F' N'; (try k_sweep))) | with_reducible ((with_reducible show PySem.wpAny _ _ (PySem.call (PySem.Value.ref _) _) _ _ _); (k_here; (with_reducible show wpAny _ _ (PySem.call (Value.ref 76) _) _ _ _); k_dflt (refine' use_A (by k_asm) (by first | (lcg_sub; done) | fail) (by k_asm) (by k_asm) (by k_asm) (by k_asm) (by first | ((first | exact rfl | assumption); done) | fail) (by ktr_room) (by ktr_units) (tout_T (by assumption) (by assumption) (by first | ((first | with_reducible assumption | omega); done) | fail) (by first | ((first | with_reducible assumption | omega); done) | fail) (by first | ((first | with_reducible assumption | omega); done) | fail)) ?_; k_whole); intro q' zs' S' O' hz' I' lq' h' tk' F' N'; (try k_sweep))) | with_reducible ((with_reducible show PySem.wpAny _ _ (PySem.call (PySem.Value.ref _) _) _ _ _); (k_here; (with_reducible show wpAny _ _ (PySem.call (Value.ref 83) _) _ _ _); k_dflt (refine' use_A (by k_asm) (by first | (lcg_sub; done) | fail) (by k_asm) (by k_asm) (by k_asm) (by k_asm) (by first | ((first | exact rfl | assumption); done) | fail) (by ktr_room) (by ktr_units) (tin_T (by first | ((first | assumption | exact TextOut.good (by assumption)); done) | fail) (by assumption) (by first | ((first | assumption | exact List.Mem.tail _ (by assumption)); done) | fail) (by first | ((first | with_reducible assumption | omega); done) | fail) (by first | ((first | omega | exact tin_h1 (by assumption) (by omega) (by omega) (by omega)); done) | fail) (by first | ((first | omega | exact tin_h2 (by assumption) (by omega)); done) | fail)) ?_; k_whole); intro S' I' h' tk' F' N'; (try k_sweep))) | with_reducible ((with_reducible show PySem.wpAny _ _ (PySem.call (PySem.Value.ref _) _) _ _ _); (k_here; (with_reducible show wpAny _ _ (PySem.call (Value.ref 97) _) _ _ _); k_dflt (refine' use_A (by k_asm) (by first | (lcg_sub; done) | fail) (by k_asm) (by k_asm) (by k_asm) (by k_asm) (by first | ((first | exact rfl | assumption); done) | fail) (by ktr_room) (by ktr_units) (hin_T) ?_; k_whole); intro h' tk' F' N'; (try k_sweep))) | with_reducible ((with_reducible show PySem.wpAny _ _ (PySem.call (PySem.Value.ref _) _) _ _ _); (k_here; (with_reducible show wpAny _ _ (PySem.call (Value.ref 90) _) _ _ _); k_dflt (refine' use_A (by k_asm) (by first | (lcg_sub; done) | fail) (by k_asm) (by k_asm) (by k_asm) (by k_asm) (by first | ((first | exact rfl | assumption); done) | fail) (by ktr_room) (by ktr_units) (hout_T) ?_; k_whole); intro h' tk' F' N'; (try k_sweep))) | with_reducible ((with_reducible show PySem.wpAny _ _ (PySem.call (PySem.Value.ref _) _) _ _ _); (k_here; (with_reducible show wpAny _ _ (PySem.call (Value.ref 69) _) _ _ _); k_dflt (refine' use_A (by k_asm) (by first | (lcg_sub; done) | fail) (by k_asm) (by k_asm) (by k_asm) (by k_asm) (by first | ((first | exact rfl | assumption); done) | fail) (by ktr_room) (by ktr_units) (behind_T (by assumption)) ?_; k_whole); intro t1' c1' h' tk' F' N'; (try k_sweep))) | with_reducible ((with_reducible show PySem.wpAny _ _ (PySem.call (PySem.Value.ref _) _) _ _ _); (k_here; (with_reducible show wpAny _ _ (PySem.call (Value.ref 62) _) _ _ _); k_dflt (refine' use_A (by k_asm) (by first | (lcg_sub; done) | fail) (by k_asm) (by k_asm) (by k_asm) (by k_asm) (by first | ((first | exact rfl | assumption); done) | fail) (by ktr_room) (by ktr_units) (ahead_T) ?_; k_whole); intro h' tk' F' N'; (try k_sweep))) | with_reducible ((with_reducible show PySem.wpAny _ _ (PySem.call (PySem.Value.ref _) _) _ _ _); (k_here; (with_reducible show wpAny _ _ (PySem.call (Value.ref 55) _) _ _ _); k_dflt (refine' use_A (by k_asm) (by first | (lcg_sub; done) | fail) (by k_asm) (by k_asm) (by k_asm) (by k_asm) (by first | ((first | exact rfl | assumption); done) | fail) (by ktr_room) (by ktr_units) (reached_T (by first | ((first | with_reducible assumption | omega); done) | fail) (by first | ((first | with_reducible assumption | omega); done) | fail) (by first | ((first | with_reducible assumption | omega); done) | fail)) ?_; k_whole); intro q' t1' t2' lq' h' tk' F' N'; (try k_sweep))) | with_reducible ((with_reducible show PySem.wpAny _ _ (PySem.call (PySem.Value.ref _) _) _ _ _); (k_here; (with_reducible show wpAny _ _ (PySem.call (Value.ref 48) _) _ _ _); k_dflt (refine' use_A (by k_asm) (by first | (lcg_sub; done) | fail) (by k_asm) (by k_asm) (by k_asm) (by k_asm) (by first | ((first | exact rfl | assumption); done) | fail) (by ktr_room) (by ktr_units) (need_T) ?_; k_whole); intro h' tk' F' N'; (try k_sweep))) | with_reducible ((with_reducible show PySem.wpAny _ _ (PySem.eval (PySem.Expr.Call _ _ _ _) _) _ _ _); (k_here; (with_reducible show wpAny _ _ (PySem.eval (PySem.Expr.Call (PySem.Expr.Name _ _) (_ :: _) [] _) _) _ _ _); k_dflt (refine' call_KN (by k_asm) (by k_asm) (by k_asm) (by k_is) (by k_is) (by rfl) ?_ (by rfl) (by rfl); k_whole); (try dsimp only))) | with_reducible ((with_reducible show ite _ _ _); (k_here; k_dflt (first | (refine ite_neg (by first | ((simp only [beq_iff_eq]; omega); done) | fail) ?_) | (refine ite_pos (by first | ((simp only [beq_iff_eq]; omega); done) | fail) ?_)))) | with_reducible ((with_reducible show PySem.wpAny _ _ (PySem.setAttr (PySem.Value.ref _) _ _) _ _ _); (k_here; k_dflt (first | ((with_reducible show wpAny _ _ (PySem.setAttr (Value.ref _) (PySem.Str.ofString "zv") _) _ _ _); refine' bset_zv (by k_asm) (by k_asm) (by k_asm) (by first | (lcg_sub; done) | fail) (by assumption) ?_) | ((with_reducible show wpAny _ _ (PySem.setAttr (Value.ref _) (PySem.Str.ofString "point") _) _ _ _); refine' bset_pt (by k_asm) (by k_asm) (by k_asm) (by first | (lcg_sub; done) | fail) (by assumption) ?_) | ((with_reducible show wpAny _ _ (PySem.setAttr (Value.ref _) (PySem.Str.ofString "ticks") _) _ _ _); refine' bset_ticks (by k_asm) (by k_asm) (by k_asm) (by first | (lcg_sub; done) | fail) (by assumption) ?_) | ((with_reducible show wpAny _ _ (PySem.setAttr (Value.ref _) (PySem.Str.ofString "codes_ticks") _) _ _ _); refine' bset_codes (by k_asm) (by k_asm) (by k_asm) (by first | (lcg_sub; done) | fail) (by assumption) ?_)); intro h' F' N'; (try k_sweep))) | walk1 | (dsimp only) | (leave1; (try dsimp only)) | fail "no step")
  all_goals (rename TextOut _ _ _ _ => I)
  all_goals (rename TextIn _ _ _ _ => J)
  · refine' hret _ _ _ _ ⟨_, _, _, _, rfl, rfl, ?o1, ?z1, ?T1, ?k1, ?l1⟩ ?f1 ?n1
    case f1 => k_asm
    case n1 => exact cb_drop (by k_asm) (by lcg_sub)
    case o1 => assumption
    case k1 => assumption
    case z1 => assumption
    case l1 => assumption
    case T1 => exact ⟨J.good, repl_text (by omega) I.text J.text, by have := I.len; have := J.len; have := I.room; dsimp only; omega, J.room.trans I.room, repP_pt1 (by assumption), J.begv.trans I.begv, by have := I.zv; have := J.zv; dsimp only; omega, by have := I.tick; have := J.tick; dsimp only; omega, J.nls.trans I.nls, J.k.trans I.k⟩
  · refine' hret _ _ _ _ ⟨_, _, _, _, rfl, rfl, ?o2, ?z2, ?T2, ?k2, ?l2⟩ ?f2 ?n2
    case f2 => k_asm
    case n2 => exact cb_drop (by k_asm) (by lcg_sub)
    case o2 => assumption
    case k2 => assumption
    case z2 => assumption
    case l2 => assumption
    case T2 => exact ⟨J.good, repl_text (by omega) I.text J.text, by have := I.len; have := J.len; have := I.room; dsimp only; omega, J.room.trans I.room, repP_pt2 (Int.le_of_lt (by assumption)) (by assumption) J.pt I.pt, J.begv.trans I.begv, by have := I.zv; have := J.zv; dsimp only; omega, by have := I.tick; have := J.tick; dsimp only; omega, J.nls.trans I.nls, J.k.trans I.k⟩
end


/-- the buffer and its text, ahead of what else stands -/
abbrev bufT (p : Params) (a : BufA) (S : BufS) (R : List (Addr × Obj)) : List (Addr × Obj) :=
  (a.bx, instObj 464 a.bd) :: (a.bd, dictOf (bufD p a S) 20) :: gapL p a.g S.g R
/-- the whole buffer -/
abbrev bufL (p : Params) (a : BufA) (S : BufS) (R : List (Addr × Obj)) : List (Addr × Obj) :=
  bufT p a S ((a.ls, listOf #[] S.nls) :: marksL p a.k S.k R)
structure BufFull (a : BufA) (R : List (Addr × Obj)) : Prop where
  b1 : @LT.lt Nat _ a.bd a.bx
  b2 : @LT.lt Nat _ a.bx a.g.gd
  b3 : @LT.lt Nat _ a.g.gd a.g.gx
  b4 : @LT.lt Nat _ a.g.gx a.g.gc
  b5 : @LT.lt Nat _ a.g.gc a.k.md
  c1 : @LT.lt Nat _ a.k.md a.k.mx
  c2 : @LT.lt Nat _ a.k.mx a.k.rw
  b6 : @LT.lt Nat _ a.k.rw a.ls
  b7 : @LT.lt Nat _ a.ls a.k.d0
  c4 : @LT.lt Nat _ a.k.d0 a.k.x0
  c5 : @LT.lt Nat _ a.k.x0 a.k.d1
  c6 : @LT.lt Nat _ a.k.d1 a.k.x1
  c7 : @LT.lt Nat _ a.k.x1 a.k.d2
  c8 : @LT.lt Nat _ a.k.d2 a.k.x2
  off : ∀ p ∈ R, OffL p.1 [a.bx, a.bd, a.g.gx, a.g.gd, a.g.gc, a.ls, a.k.mx, a.k.md, a.k.rw, a.k.x0, a.k.d0, a.k.x1, a.k.d1, a.k.x2, a.k.d2]
structure BufS.Good (w : World) (a : BufA) (S : BufS) : Prop where
  g : S.g.Good
  k : S.k.Good w a.k
  lo : 1 ≤ S.begv
  hi : S.zv ≤ S.g.text.length + 1
structure Edited (w : World) (a : BufA) (S S' : BufS) (start end_ : Int) (ws : List Value) (fp f : Int → Bool → Int) : Prop where
  good : S'.Good w a
  text : S'.g.text = S.g.text.take (start - 1).toNat ++ ws ++ S.g.text.drop (end_ - 1).toNat
  pt : S'.pt = fp S.pt false
  begv : S'.begv = S.begv
  zv : S'.zv = S.zv + ws.length - (end_ - start)
  tick : S'.tick = S.tick + 1
  k : MarkStep f S.k S'.k
  len : (S'.g.cells.length : Int) ≤ S.g.cells.length + ws.length + S.g.room
  room : S'.g.room = S.g.room

/-- the buffer before any marker is made -/
abbrev bufL0 (p : Params) (a : BufA) (S : BufS) (o : Obj) (R : List (Addr × Obj)) : List (Addr × Obj) :=
  bufT p a S ((a.ls, listOf #[] S.nls) :: (a.k.mx, instObj 358 a.k.md) :: (a.k.md, dictOf (rowsD p a.k S.k.kr) 1) :: (a.k.rw, o) :: R)
structure BufFull0 (a : BufA) (R : List (Addr × Obj)) : Prop where
  b1 : @LT.lt Nat _ a.bd a.bx
  b2 : @LT.lt Nat _ a.bx a.g.gd
  b3 : @LT.lt Nat _ a.g.gd a.g.gx
  b4 : @LT.lt Nat _ a.g.gx a.g.gc
  b5 : @LT.lt Nat _ a.g.gc a.k.md
  c1 : @LT.lt Nat _ a.k.md a.k.mx
  c2 : @LT.lt Nat _ a.k.mx a.k.rw
  b6 : @LT.lt Nat _ a.k.rw a.ls
  off : ∀ p ∈ R, OffL p.1 [a.bx, a.bd, a.g.gx, a.g.gd, a.g.gc]
structure Inserted0 (S S' : BufS) (place : Int) (ws : List Value) : Prop where
  g : S'.g.Good
  text : S'.g.text = S.g.text.take (place - 1).toNat ++ ws ++ S.g.text.drop (place - 1).toNat
  pt : S'.pt = if place < S.pt then S.pt + ws.length else S.pt
  begv : S'.begv = S.begv
  zv : S'.zv = S.zv + ws.length
  tick : S'.tick = S.tick + 1
  len : (S'.g.cells.length : Int) ≤ S.g.cells.length + ws.length + S.g.room
  room : S'.g.room = S.g.room

section
variable {p : Params} {a : BufA} {S : BufS} {K R : List (Addr × Obj)}
theorem bufC_gd : List.Mem (a.g.gd, dictOf (gapD p a.g S.g) 4) (bufC p a S K R) := .tail _ (.tail _ (.tail _ (.tail _ (.head _))))
theorem bufC_gc : List.Mem (a.g.gc, listOf S.g.cells.toArray S.g.n) (bufC p a S K R) := .tail _ (.tail _ (.tail _ (.tail _ (.tail _ (.head _)))))
theorem bufC_of {X : List (Addr × Obj)} (f : ∀ e ∈ K ++ R, e ∈ X) (h : ∀ e ∈ bufC p a S [] [], e ∈ X) : ∀ e ∈ bufC p a S K R, e ∈ X := bufC_all (fun e q => f e (List.mem_append_left _ q)) (fun e q => f e (List.mem_append_right _ q)) h
theorem bufC_to {X : List (Addr × Obj)} (h : ∀ e ∈ X, e ∈ K ++ R) : ∀ e ∈ (a.bx, instObj 464 a.bd) :: (a.bd, dictOf (bufD p a S) 20) :: gapL p a.g S.g ((a.ls, listOf #[] S.nls) :: X), e ∈ bufC p a S K R :=
  sub_cons bufC_bx (sub_cons bufC_bd (sub_cons bufC_gx (sub_cons bufC_gd (sub_cons bufC_gc (sub_cons bufC_ls fun e q => (List.mem_append.mp (h e q)).elim bufC_K bufC_R)))))
theorem own_to {X : List (Addr × Obj)} : ∀ e ∈ bufC p a S [] [], e ∈ (a.bx, instObj 464 a.bd) :: (a.bd, dictOf (bufD p a S) 20) :: gapL p a.g S.g ((a.ls, listOf #[] S.nls) :: X) :=
  sub_cons (.head _) (sub_cons (.tail _ (.head _)) (sub_cons (.tail _ (.tail _ (.tail _ (.tail _ (.tail _ (.head _)))))) (sub_cons (.tail _ (.tail _ (.head _))) (sub_cons (.tail _ (.tail _ (.tail _ (.head _)))) (sub_cons (.tail _ (.tail _ (.tail _ (.tail _ (.head _))))) sub_nil)))))
theorem to6 {X : List (Addr × Obj)} : ∀ e ∈ X, e ∈ (a.bx, instObj 464 a.bd) :: (a.bd, dictOf (bufD p a S) 20) :: gapL p a.g S.g ((a.ls, listOf #[] S.nls) :: X) := fun _ h => .tail _ (.tail _ (.tail _ (.tail _ (.tail _ (.tail _ h)))))
theorem bufL_C : (∀ e ∈ bufC p a S (marksL p a.k S.k []) R, e ∈ bufL p a S R) ∧ (∀ e ∈ bufL p a S R, e ∈ bufC p a S (marksL p a.k S.k []) R) :=
  ⟨bufC_of to6 own_to, bufC_to fun _ h => h⟩
theorem bufL0_C {o : Obj} : (∀ e ∈ bufC p a S [(a.k.mx, instObj 358 a.k.md), (a.k.md, dictOf (rowsD p a.k S.k.kr) 1), (a.k.rw, o)] R, e ∈ bufL0 p a S o R) ∧ (∀ e ∈ bufL0 p a S o R, e ∈ bufC p a S [(a.k.mx, instObj 358 a.k.md), (a.k.md, dictOf (rowsD p a.k S.k.kr) 1), (a.k.rw, o)] R) :=
  ⟨bufC_of to6 own_to, bufC_to fun _ h => h⟩
theorem BufFull.sep (O : BufFull a R) : BufSep a (marksL p a.k S.k []) R := by
  obtain ⟨b1, b2, b3, b4, b5, c1, c2, b6, b7, c4, c5, c6, c7, c8, off⟩ := O
  have l_0_2 := Nat.lt_trans b1 b2
  have l_0_3 := Nat.lt_trans l_0_2 b3
  have l_0_4 := Nat.lt_trans l_0_3 b4
  have l_0_5 := Nat.lt_trans l_0_4 b5
  have l_0_6 := Nat.lt_trans l_0_5 c1
  have l_0_7 := Nat.lt_trans l_0_6 c2
  have l_0_8 := Nat.lt_trans l_0_7 b6
  have l_0_9 := Nat.lt_trans l_0_8 b7
  have l_0_10 := Nat.lt_trans l_0_9 c4
  have l_0_11 := Nat.lt_trans l_0_10 c5
  have l_0_12 := Nat.lt_trans l_0_11 c6
  have l_0_13 := Nat.lt_trans l_0_12 c7
  have l_0_14 := Nat.lt_trans l_0_13 c8
  have l_1_3 := Nat.lt_trans b2 b3
  have l_1_4 := Nat.lt_trans l_1_3 b4
  have l_1_5 := Nat.lt_trans l_1_4 b5
  have l_1_6 := Nat.lt_trans l_1_5 c1
  have l_1_7 := Nat.lt_trans l_1_6 c2
  have l_1_8 := Nat.lt_trans l_1_7 b6
  have l_1_9 := Nat.lt_trans l_1_8 b7
  have l_1_10 := Nat.lt_trans l_1_9 c4
  have l_1_11 := Nat.lt_trans l_1_10 c5
  have l_1_12 := Nat.lt_trans l_1_11 c6
  have l_1_13 := Nat.lt_trans l_1_12 c7
  have l_1_14 := Nat.lt_trans l_1_13 c8
  have l_2_4 := Nat.lt_trans b3 b4
  have l_2_5 := Nat.lt_trans l_2_4 b5
  have l_2_6 := Nat.lt_trans l_2_5 c1
  have l_2_7 := Nat.lt_trans l_2_6 c2
  have l_2_8 := Nat.lt_trans l_2_7 b6
  have l_2_9 := Nat.lt_trans l_2_8 b7
  have l_2_10 := Nat.lt_trans l_2_9 c4
  have l_2_11 := Nat.lt_trans l_2_10 c5
  have l_2_12 := Nat.lt_trans l_2_11 c6
  have l_2_13 := Nat.lt_trans l_2_12 c7
  have l_2_14 := Nat.lt_trans l_2_13 c8
  have l_3_5 := Nat.lt_trans b4 b5
  have l_3_6 := Nat.lt_trans l_3_5 c1
  have l_3_7 := Nat.lt_trans l_3_6 c2
  have l_3_8 := Nat.lt_trans l_3_7 b6
  have l_3_9 := Nat.lt_trans l_3_8 b7
  have l_3_10 := Nat.lt_trans l_3_9 c4
  have l_3_11 := Nat.lt_trans l_3_10 c5
  have l_3_12 := Nat.lt_trans l_3_11 c6
  have l_3_13 := Nat.lt_trans l_3_12 c7
  have l_3_14 := Nat.lt_trans l_3_13 c8
  have l_4_6 := Nat.lt_trans b5 c1
  have l_4_7 := Nat.lt_trans l_4_6 c2
  have l_4_8 := Nat.lt_trans l_4_7 b6
  have l_4_9 := Nat.lt_trans l_4_8 b7
  have l_4_10 := Nat.lt_trans l_4_9 c4
  have l_4_11 := Nat.lt_trans l_4_10 c5
  have l_4_12 := Nat.lt_trans l_4_11 c6
  have l_4_13 := Nat.lt_trans l_4_12 c7
  have l_4_14 := Nat.lt_trans l_4_13 c8
  have l_5_7 := Nat.lt_trans c1 c2
  have l_5_8 := Nat.lt_trans l_5_7 b6
  have l_6_8 := Nat.lt_trans c2 b6
  have l_8_10 := Nat.lt_trans b7 c4
  have l_8_11 := Nat.lt_trans l_8_10 c5
  have l_8_12 := Nat.lt_trans l_8_11 c6
  have l_8_13 := Nat.lt_trans l_8_12 c7
  have l_8_14 := Nat.lt_trans l_8_13 c8
  refine ⟨⟨(Nat.ne_of_gt b1), (Nat.ne_of_lt l_1_8), (Nat.ne_of_lt l_1_3), (Nat.ne_of_lt b2), (Nat.ne_of_lt l_1_4), trivial⟩, ⟨(Nat.ne_of_lt l_0_8), (Nat.ne_of_lt l_0_3), (Nat.ne_of_lt l_0_2), (Nat.ne_of_lt l_0_4), trivial⟩, ⟨(Nat.ne_of_gt l_3_8), (Nat.ne_of_gt l_2_8), (Nat.ne_of_gt l_4_8), trivial⟩, ⟨(Nat.ne_of_gt b3), (Nat.ne_of_lt b4), trivial⟩, ⟨(Nat.ne_of_lt l_2_4), trivial⟩, ?_, fun e he => ?_, fun e he => ?_⟩
  · exact List.forall_mem_cons.mpr ⟨⟨(Nat.ne_of_gt l_1_6), (Nat.ne_of_gt l_0_6), (Nat.ne_of_lt l_6_8), (Nat.ne_of_gt l_3_6), (Nat.ne_of_gt l_2_6), (Nat.ne_of_gt l_4_6), trivial⟩, List.forall_mem_cons.mpr ⟨⟨(Nat.ne_of_gt l_1_5), (Nat.ne_of_gt l_0_5), (Nat.ne_of_lt l_5_8), (Nat.ne_of_gt l_3_5), (Nat.ne_of_gt l_2_5), (Nat.ne_of_gt b5), trivial⟩, List.forall_mem_cons.mpr ⟨⟨(Nat.ne_of_gt l_1_7), (Nat.ne_of_gt l_0_7), (Nat.ne_of_lt b6), (Nat.ne_of_gt l_3_7), (Nat.ne_of_gt l_2_7), (Nat.ne_of_gt l_4_7), trivial⟩, List.forall_mem_cons.mpr ⟨⟨(Nat.ne_of_gt l_1_10), (Nat.ne_of_gt l_0_10), (Nat.ne_of_gt l_8_10), (Nat.ne_of_gt l_3_10), (Nat.ne_of_gt l_2_10), (Nat.ne_of_gt l_4_10), trivial⟩, List.forall_mem_cons.mpr ⟨⟨(Nat.ne_of_gt l_1_9), (Nat.ne_of_gt l_0_9), (Nat.ne_of_gt b7), (Nat.ne_of_gt l_3_9), (Nat.ne_of_gt l_2_9), (Nat.ne_of_gt l_4_9), trivial⟩, List.forall_mem_cons.mpr ⟨⟨(Nat.ne_of_gt l_1_12), (Nat.ne_of_gt l_0_12), (Nat.ne_of_gt l_8_12), (Nat.ne_of_gt l_3_12), (Nat.ne_of_gt l_2_12), (Nat.ne_of_gt l_4_12), trivial⟩, List.forall_mem_cons.mpr ⟨⟨(Nat.ne_of_gt l_1_11), (Nat.ne_of_gt l_0_11), (Nat.ne_of_gt l_8_11), (Nat.ne_of_gt l_3_11), (Nat.ne_of_gt l_2_11), (Nat.ne_of_gt l_4_11), trivial⟩, List.forall_mem_cons.mpr ⟨⟨(Nat.ne_of_gt l_1_14), (Nat.ne_of_gt l_0_14), (Nat.ne_of_gt l_8_14), (Nat.ne_of_gt l_3_14), (Nat.ne_of_gt l_2_14), (Nat.ne_of_gt l_4_14), trivial⟩, List.forall_mem_cons.mpr ⟨⟨(Nat.ne_of_gt l_1_13), (Nat.ne_of_gt l_0_13), (Nat.ne_of_gt l_8_13), (Nat.ne_of_gt l_3_13), (Nat.ne_of_gt l_2_13), (Nat.ne_of_gt l_4_13), trivial⟩, List.forall_mem_nil _⟩⟩⟩⟩⟩⟩⟩⟩⟩
  · obtain ⟨q1, q2, q3, q4, q5, q6, -⟩ := off e he
    exact ⟨q1, q2, q6, q3, q4, q5, trivial⟩
  · obtain ⟨-, -, -, -, -, -, q7, q8, q9, q10, q11, q12, q13, q14, q15, -⟩ := off e he
    exact List.forall_mem_cons.mpr ⟨q7, List.forall_mem_cons.mpr ⟨q8, List.forall_mem_cons.mpr ⟨q9, List.forall_mem_cons.mpr ⟨q10, List.forall_mem_cons.mpr ⟨q11, List.forall_mem_cons.mpr ⟨q12, List.forall_mem_cons.mpr ⟨q13, List.forall_mem_cons.mpr ⟨q14, List.forall_mem_cons.mpr ⟨q15, List.forall_mem_nil _⟩⟩⟩⟩⟩⟩⟩⟩⟩
theorem BufFull.mark {rest : List (Addr × Obj)} (O : BufFull a R) (h : ∀ e ∈ rest, ∀ q ∈ marksL p a.k S.k [], e.1 ≠ q.1) : MarkOff a.k rest := by
  refine ⟨O.c1, O.c2, Nat.lt_trans O.b6 O.b7, O.c4, O.c5, O.c6, O.c7, O.c8, fun e he => ?_⟩
  have q := h e he
  simp only [marksL, List.forall_mem_cons] at q
  obtain ⟨q1, q2, q3, q4, q5, q6, q7, q8, q9, -⟩ := q
  exact ⟨q1, q2, q3, q4, q5, q6, q7, q8, q9, trivial⟩
theorem bufL_new {e0 : Addr × Obj} {S' : BufS} {M' : MarkS} : ∀ e ∈ e0 :: bufL p a { S' with k := M' } R, e ∈ bufC p a S' (marksL p a.k M' []) (e0 :: R) := by
  refine List.forall_mem_cons.mpr ⟨bufC_R (.head _), fun e he => ?_⟩
  exact bufC_all (fun e h => bufC_K h) (fun e h => bufC_R (.tail _ h)) (fun e h => bufC_own e h) e ((bufL_C (S := { S' with k := M' })).2 e he)
theorem addr_marks {M M' : MarkS} : (marksL p a.k M' []).map (·.1) = (marksL p a.k M []).map (·.1) := rfl
end
section
variable {w : World} {mean : ExcName → Option Value} {mg mb : Str → Option Value} {a : BufA} {S : BufS} {R : List (Addr × Obj)} {v : Addr} {ws : List Value} {n2 : Nat}
theorem mop {f : Addr} {vs : List Value} {g : Int → Bool → Int} (O : BufFull a R)
    (C : ∀ rest, MarkOff a.k rest → Spec w mean mg mb 3 f vs (marksL w.params a.k S.k rest) (fun v n => v = .none ∧ ∃ M' : MarkS, n = marksL w.params a.k M' rest ∧ MarkStep g S.k M')) :
    MarkOp w mean mg mb f vs (marksL w.params a.k S.k []) (fun K' => ∃ M', K' = marksL w.params a.k M' [] ∧ MarkStep g S.k M') := fun rest h =>
  spec_conv (C rest (O.mark h)) (fun _ h => h) (by
    rintro v n ⟨rfl, M', rfl, st⟩
    exact ⟨_, ⟨rfl, _, rfl, addr_marks, M', rfl, st⟩, fun _ h => h⟩)
theorem edited_of {S' : BufS} {st en pt' : Int} {M' : MarkS} {fp f : Int → Bool → Int} (G : S.Good w a) (I : EdG S S' st en ws pt') (hp : pt' = fp S.pt false) (K : MarkStep f S.k M') (h0 : S.begv ≤ st) (h1 : st ≤ en) (h2 : en ≤ S.zv) :
    Edited w a S { S' with k := M' } st en ws fp f := by
  have hl := congrArg List.length I.text
  simp only [List.length_append, List.length_take, List.length_drop] at hl
  have e1 := I.begv
  have e2 := I.zv
  have e3 := G.lo
  have e4 := G.hi
  refine ⟨⟨I.good, G.k.step K, ?_, ?_⟩, I.text, I.pt.trans hp, I.begv, I.zv, I.tick, K, I.len, I.room⟩
  · show 1 ≤ S'.begv
    omega
  · show S'.zv ≤ S'.g.text.length + 1
    omega
theorem insert_at_spec {place : Int} {t1 : Tok} {b : Bool}
    (G : S.Good w a) (O : BufFull a ((v, listOf ws.toArray n2) :: R)) (h0 : S.begv ≤ place) (h1 : place ≤ S.zv) (hw : 0 < ws.length) (hc : S.g.cells.length + ws.length + S.g.room ≤ 100000) :
    Spec w mean mg mb 7 112 [.ref a.bx, .int place t1, .ref v, .bool b] (bufL w.params a S ((v, listOf ws.toArray n2) :: R)) (fun r n => r = .none ∧ ∃ S', n = bufL w.params a S' ((v, listOf ws.toArray n2) :: R) ∧ Edited w a S S' place place ws (insP place (place + ws.length) false) (insP place (place + ws.length) b)) := by
  have e3 := G.lo
  have e4 := G.hi
  refine spec_conv (insat_spec (n2 := n2) G.g O.sep (.head _) (.tail _ (.head _)) (.head _) (fun t t' => mop O fun rest h => inserted_spec (t1 := t) (t2 := t') (b := b) G.k h) (by omega) h0 h1 (by omega) hw hc) bufL_C.1 ?_
  rintro r n ⟨rfl, S', K', rfl, -, I, M', rfl, st⟩
  exact ⟨_, ⟨rfl, { S' with k := M' }, rfl, edited_of G I rfl st h0 (Int.le_refl _) h1⟩, (bufL_C (S := { S' with k := M' })).2⟩
theorem delete_spec {start end_ : Int} {t1 t2 : Tok}
    (G : S.Good w a) (O : BufFull a R) (h0 : S.begv ≤ start) (h1 : start < end_) (h2 : end_ ≤ S.zv) :
    Spec w mean mg mb 6 119 [.ref a.bx, .int start t1, .int end_ t2] (bufL w.params a S R) (fun v n => ∃ q zs S', v = .ref q ∧ n = (q, listOf zs.toArray 0) :: bufL w.params a S' R ∧ zs = (S.g.text.drop (start - 1).toNat).take ((end_ - 1).toNat - (start - 1).toNat) ∧ AllLt q (bufL w.params a S R) ∧ Edited w a S S' start end_ [] (delP start end_) (delP start end_)) := by
  have e3 := G.lo
  have e4 := G.hi
  refine spec_conv (delete_C G.g O.sep (.head _) (.tail _ (.head _)) (fun t t' => mop O fun rest h => deleted_spec (t1 := t) (t2 := t') G.k h) (by omega) h0 h1 h2 (by omega)) bufL_C.1 ?_
  rintro r n ⟨q, zs, S', K', rfl, rfl, -, hz, I, ⟨M', rfl, st⟩, lq⟩
  exact ⟨_, ⟨q, zs, { S' with k := M' }, rfl, rfl, hz, allLt_of fun e he => lq e (bufL_C.2 e he), edited_of G I rfl st h0 (Int.le_of_lt h1) h2⟩, bufL_new⟩
theorem replace_spec {start end_ : Int} {t1 t2 : Tok}
    (G : S.Good w a) (O : BufFull a ((v, listOf ws.toArray n2) :: R)) (h0 : S.begv ≤ start) (h1 : start < end_) (h2 : end_ ≤ S.zv) (hw : 0 < ws.length) (hc : S.g.cells.length + ws.length + S.g.room ≤ 100000) :
    Spec w mean mg mb 8 126 [.ref a.bx, .int start t1, .int end_ t2, .ref v] (bufL w.params a S ((v, listOf ws.toArray n2) :: R)) (fun r n => ∃ q zs S', r = .ref q ∧ n = (q, listOf zs.toArray 0) :: bufL w.params a S' ((v, listOf ws.toArray n2) :: R) ∧ zs = (S.g.text.drop (start - 1).toNat).take ((end_ - 1).toNat - (start - 1).toNat) ∧ AllLt q (bufL w.params a S ((v, listOf ws.toArray n2) :: R)) ∧ Edited w a S S' start end_ ws (repP start end_ ws.length) (repP start end_ ws.length)) := by
  have e3 := G.lo
  have e4 := G.hi
  refine spec_conv (replace_C (n2 := n2) G.g O.sep (.head _) (.tail _ (.head _)) (.head _) (fun t t' t'' => mop O fun rest h => replaced_spec (t1 := t) (t2 := t') (t3 := t'') G.k h) (by omega) h0 h1 h2 (by omega) hw hc) bufL_C.1 ?_
  rintro r n ⟨q, zs, S', K', rfl, rfl, -, hz, I, ⟨M', rfl, st⟩, lq⟩
  exact ⟨_, ⟨q, zs, { S' with k := M' }, rfl, rfl, hz, allLt_of fun e he => lq e (bufL_C.2 e he), edited_of G I rfl st h0 (Int.le_of_lt h1) h2⟩, bufL_new⟩
end


theorem sort_nil {prog : Program} {w : World} {A : Around} {E : Value → Shared → Prop} {s : Shared} {h₀ : Heap} {L D : Addr} {m : Str → Option Value} {news : List (Addr × Obj)} {n : Nat} {Q : Value → Shared → Prop}
    (F : Fr h₀ L s.heap m) (N : News h₀ L s.heap ((D, listOf #[] n) :: news)) (hD : ∀ p ∈ news, p.1 ≠ D)
    (h : ∀ h' nn, Fr h₀ L h' m → News h₀ L h' ((D, listOf #[] nn) :: news) → Q .none { s with heap := h' }) :
    wpAny (model prog w) A (call (.builtin "list.sort") [.ref D]) Q E s := by
  have z := N (D, listOf #[] n) (.head _)
  refine wpAny_call_entry PyProof.Rows.slot_list_sort ⟨_, z.1, rfl⟩ PyProof.Rows.entry_list_sort (list_sort_tree (n := n) (vs := []) z.1 .nil (by decide) fun out ns' hI hp hP => ⟨.none, rfl, ?_⟩) (PyProof.Rows.args_list_sort _)
  have e1 : ns' = [] := List.Perm.eq_nil hp
  subst e1
  have e2 : out = #[] := by
    cases out with
    | mk l => cases l with
      | nil => rfl
      | cons a r => cases hI
  subst e2
  have N1 := ki_turn (pre := []) (fun _ => (#[] : Array Value)) (its' := #[]) (n' := n) N (fun _ h => nomatch h) hD rfl rfl
  have N2 := News.grown N1 fun _ _ e => Heap.get?_push_of_some (seqObj "tuple" ([] : List Value).toArray 0) e
  have N3 := News.grown N2 fun _ _ e => Heap.get?_push_of_some (seqObj "list" #[] 0) e
  have N4 := ki_turn (pre := []) (fun _ => (#[] : Array Value)) (its' := #[]) (n' := n) N3 (fun _ h => nomatch h) hD rfl rfl
  have F1 : Fr h₀ L (s.heap.update D (Obj.mapSeq fun _ => (#[] : Array Value))) m := F.change (Heap.SameBut.update ..) z.2.1 z.2.2
  exact h _ n (((F1.push (seqObj "tuple" ([] : List Value).toArray 0)).push (seqObj "list" #[] 0)).change (Heap.SameBut.update ..) z.2.1 z.2.2) N4

theorem rows_sorted0 {w : World} {A : Around} {E : Value → Shared → Prop} {s : Shared} {h₀ : Heap} {L : Addr} {m : Str → Option Value} {news : List (Addr × Obj)} {rw_ : Addr} {o : Obj} {Q : Value → Shared → Prop}
    (hh : A.handled = none) (F : Fr h₀ L s.heap m) (N : News h₀ L s.heap news) (hm : (rw_, o) ∈ news) (hd : o.IsDictOf (PySem.intKind PySem.Challenge.pw_np0066_01 w) []) (lo : (rw_ == sysModules) = false)
    (h : ∀ B nn h' tk, Fr h₀ L h' m → News h₀ L h' ((B, listOf #[] nn) :: news) → (∀ q ∈ news, q.1 < B) → Q (.ref B) { s with heap := h', toks := tk }) :
    wpAny (model PySem.Challenge.pw_np0066_01 w) A (call (.builtin "sorted") [.ref rw_]) Q E s := by
  have hD : s.heap.DictOf (PySem.intKind PySem.Challenge.pw_np0066_01 w) rw_ [] := kda_dict N hm hd
  obtain ⟨ep, hat⟩ := hD.dictAt
  refine kdu_sorted (kdl_dict (kvs := []) (ep := ep) lo) hh F N hat (Nat.zero_le _) fun D h' tk vs F' N' l1 hl hv => ?_
  obtain rfl := List.eq_nil_of_length_eq_zero hl
  exact sort_nil F' N' (fun p hp => Nat.ne_of_lt (l1 p hp)) fun h'' nn F'' N'' => h D nn h'' tk F'' N'' l1


theorem inserted0_spec {w : World} {mean : ExcName → Option Value} {mg mb : Str → Option Value} {a : MarkA} {kr : Tok} {o : Obj} {R : List (Addr × Obj)} {start end_ : Int} {t1 t2 : Tok} {b : Bool}
    (ho : o.IsDictOf (PySem.intKind PySem.Challenge.pw_np0066_01 w) []) (lo : (a.rw == sysModules) = false) :
    Spec w mean mg mb 3 341 [.ref a.mx, .int start t1, .int end_ t2, .bool b] ((a.mx, instObj 358 a.md) :: (a.md, dictOf (rowsD w.params a kr) 1) :: (a.rw, o) :: R) (fun v n => v = .none ∧ n = (a.mx, instObj 358 a.md) :: (a.md, dictOf (rowsD w.params a kr) 1) :: (a.rw, o) :: R) := by
  intro dp un gd cn cs a1 ccd cl outer A₀ base h₀ L m s Q E B F X N T hk hd hu hret
  refine wpAny_call ?_
  k_dflt ((refine' code_def (by k_asm) (by k_asm) (by k_asm) (by k_asm) (by k_asm) (by exact rfl) (by exact rfl) (by assumption) (by k_is) (by k_is) (by ktr_room) (by first | ((first | exact BindsTo.of_eq rfl | exact binds_K (by k_in) rfl (by k_is) rfl rfl rfl); done) | fail) (by exact locs rfl) ?_ (by exact rfl) (by exact rfl) (by exact rfl) (by decide); k_whole; intro g' L' h' FG' F' N' B' X' T'; (try dsimp only); (try k_lift B'); (try k_fold)))
  change (let ak : Around := _; wpAny _ ak _ _ _ _)
  intro ak
  repeat' (first | (k_unfold; (try dsimp only)) | (k_end; wrow_close) | with_reducible ((with_reducible show PySem.wpAny _ _ (PySem.call (PySem.Value.builtin _) _) _ _ _); (k_here; (with_reducible show wpAny _ _ (PySem.call (Value.builtin "sorted") [Value.ref _]) _ _ _); k_dflt (refine' rows_sorted0 (by exact rfl) (by k_asm) (by k_asm) (by first | (k_mem; done) | fail) (by k_asm) (by k_asm) ?_); intro B' nn' h' tk' F' N' l1; (try k_lt l1); (try k_sweep))) | with_reducible ((with_reducible show PySem.wpAny _ _ (PySem.call (PySem.Value.ref _) _) _ _ _); (k_here; (with_reducible show wpAny _ _ (PySem.call (Value.ref 104) _) _ _ _); k_dflt (refine' use_A (by k_asm) (by first | (lcg_sub; done) | fail) (by k_asm) (by k_asm) (by k_asm) (by k_asm) (by first | ((first | exact rfl | assumption); done) | fail) (by ktr_room) (by ktr_units) (putin_T (by assumption) (by assumption) (by assumption) (by assumption) (by assumption) (by assumption) (by first | ((first | with_reducible assumption | omega); done) | fail) (by first | ((first | with_reducible assumption | omega); done) | fail) (by first | ((first | with_reducible assumption | omega); done) | fail) (by first | ((first | with_reducible assumption | omega); done) | fail) (by first | ((first | with_reducible assumption | omega); done) | fail) (by first | ((first | with_reducible assumption | omega); done) | fail)) ?_; k_whole); intro S' K' O' I' hk' h' tk' F' N'; (try k_sweep))) | with_reducible ((with_reducible show PySem.wpAny _ _ (PySem.pyIter (PySem.Value.ref _)) _ _ _); (k_here; (with_reducible show wpAny _ _ (pyIter (Value.ref _)) (fun it s₂ => LoopAtV _ _ _ _ _ _ _ _ _ it s₂) _ _); k_dflt (refine' iter_nil (by exact rfl) (by k_asm) (by k_asm) (by first | (k_mem; done) | fail) ?_); intro h' tk' F' N'; (try k_sweep))) | walk1 | (dsimp only) | (leave1; (try dsimp only)) | fail "no step")
  exact hret _ _ _ _ ⟨rfl, rfl⟩ (by k_asm) (cb_drop (by k_asm) (by lcg_sub))
section
variable {w : World} {mean : ExcName → Option Value} {mg mb : Str → Option Value} {a : BufA} {S : BufS} {K R : List (Addr × Obj)} {Pk : List (Addr × Obj) → Prop} {v : Addr} {ws : List Value} {n2 : Nat} {kr : Tok}
theorem insat3_spec {place : Int} {t1 : Tok} (G : S.g.Good) (O : BufSep a K R) (hm1 : List.Mem (a.k.mx, instObj 358 a.k.md) K) (hm2 : List.Mem (a.k.md, dictOf (rowsD w.params a.k kr) 1) K) (hv : List.Mem (v, listOf ws.toArray n2) R) (C : ∀ t t', MarkOp w mean mg mb 341 [.ref a.k.mx, .int place t, .int (place + ws.length) t', .bool false] K Pk)
    (h9 : 1 ≤ place) (h0 : S.begv ≤ place) (h1 : place ≤ S.zv) (h8 : place ≤ S.g.text.length + 1) (hw : 0 < ws.length) (hc : S.g.cells.length + ws.length + S.g.room ≤ 100000) :
    Spec w mean mg mb 7 112 [.ref a.bx, .int place t1, .ref v] (bufC w.params a S K R) (fun r n => r = .none ∧ ∃ S' K', n = bufC w.params a S' K' R ∧ BufSep a K' R ∧ EdG S S' place place ws (insP place (place + ws.length) false S.pt false) ∧ Pk K') := by
  intro dp un gd cn cs a1 ccd cl outer A₀ base h₀ L m s Q E B F X N T hk hd hu hret
  refine wpAny_call ?_
  k_dflt ((refine' code_def (by k_asm) (by k_asm) (by k_asm) (by k_asm) (by k_asm) (by exact rfl) (by exact rfl) (by assumption) (by k_is) (by k_is) (by ktr_room) (by first | ((first | exact BindsTo.of_eq rfl | exact binds_K (by k_in) rfl (by k_is) rfl rfl rfl); done) | fail) (by exact locs rfl) ?_ (by exact rfl) (by exact rfl) (by exact rfl) (by decide); k_whole; intro g' L' h' FG' F' N' B' X' T'; (try dsimp only); (try k_lift B'); (try k_fold)))
  change (let ak : Around := _; wpAny _ ak _ _ _ _)
  intro ak
  repeat' (first | (k_unfold; (try dsimp only)) | (k_end; wrow_close) | with_reducible ((with_reducible show PySem.wpAny _ _ (PySem.call (PySem.Value.builtin _) _) _ _ _); (k_here; (with_reducible show wpAny _ _ (PySem.call (Value.builtin "sorted") [Value.ref _]) _ _ _); k_dflt (refine' rows_sorted0 (by exact rfl) (by k_asm) (by k_asm) (by first | (k_mem; done) | fail) (by k_asm) (by k_asm) ?_); intro B' nn' h' tk' F' N' l1; (try k_lt l1); (try k_sweep))) | with_reducible ((with_reducible show PySem.wpAny _ _ (PySem.call (PySem.Value.ref _) _) _ _ _); (k_here; (with_reducible show wpAny _ _ (PySem.call (Value.ref 104) _) _ _ _); k_dflt (refine' use_A (by k_asm) (by first | (lcg_sub; done) | fail) (by k_asm) (by k_asm) (by k_asm) (by k_asm) (by first | ((first | exact rfl | assumption); done) | fail) (by ktr_room) (by ktr_units) (putin_T (by assumption) (by assumption) (by assumption) (by assumption) (by assumption) (by assumption) (by first | ((first | with_reducible assumption | omega); done) | fail) (by first | ((first | with_reducible assumption | omega); done) | fail) (by first | ((first | with_reducible assumption | omega); done) | fail) (by first | ((first | with_reducible assumption | omega); done) | fail) (by first | ((first | with_reducible assumption | omega); done) | fail) (by first | ((first | with_reducible assumption | omega); done) | fail)) ?_; k_whole); intro S' K' O' I' hk' h' tk' F' N'; (try k_sweep))) | with_reducible ((with_reducible show PySem.wpAny _ _ (PySem.pyIter (PySem.Value.ref _)) _ _ _); (k_here; (with_reducible show wpAny _ _ (pyIter (Value.ref _)) (fun it s₂ => LoopAtV _ _ _ _ _ _ _ _ _ it s₂) _ _); k_dflt (refine' iter_nil (by exact rfl) (by k_asm) (by k_asm) (by first | (k_mem; done) | fail) ?_); intro h' tk' F' N'; (try k_sweep))) | walk1 | (dsimp only) | (leave1; (try dsimp only)) | fail "no step")
  refine' hret _ _ _ _ ⟨rfl, _, _, rfl, ?o, ?T, ?k⟩ ?f ?n
  case f => k_asm
  case n => exact cb_drop (by k_asm) (by lcg_sub)
  case o => assumption
  case k => assumption
  case T => assumption
end
theorem insert_at_spec0 {w : World} {mean : ExcName → Option Value} {mg mb : Str → Option Value} {a : BufA} {S : BufS} {o : Obj} {R : List (Addr × Obj)} {place : Int} {t1 : Tok} {v : Addr} {ws : List Value} {n2 : Nat}
    (G : S.g.Good) (ho : o.IsDictOf (PySem.intKind PySem.Challenge.pw_np0066_01 w) []) (lo : (a.k.rw == sysModules) = false) (O : BufSep a [(a.k.mx, instObj 358 a.k.md), (a.k.md, dictOf (rowsD w.params a.k S.k.kr) 1), (a.k.rw, o)] ((v, listOf ws.toArray n2) :: R))
    (h0 : S.begv ≤ place) (h9 : 1 ≤ place) (h1 : place ≤ S.zv) (h8 : place ≤ S.g.text.length + 1) (hw : 0 < ws.length) (hc : S.g.cells.length + ws.length + S.g.room ≤ 100000) :
    Spec w mean mg mb 7 112 [.ref a.bx, .int place t1, .ref v] (bufL0 w.params a S o ((v, listOf ws.toArray n2) :: R)) (fun r n => r = .none ∧ ∃ S', n = bufL0 w.params a S' o ((v, listOf ws.toArray n2) :: R) ∧ Inserted0 S S' place ws) := by
  refine spec_conv (insat3_spec (n2 := n2) (Pk := fun K' => K' = [(a.k.mx, instObj 358 a.k.md), (a.k.md, dictOf (rowsD w.params a.k S.k.kr) 1), (a.k.rw, o)]) G O (.head _) (.tail _ (.head _)) (.head _) (fun t t' rest _ => spec_conv (inserted0_spec (kr := S.k.kr) (R := rest) ho lo) (fun _ h => h) ?_) h9 h0 h1 h8 hw hc) bufL0_C.1 ?_
  · rintro v n ⟨rfl, rfl⟩
    exact ⟨_, ⟨rfl, _, rfl, rfl, rfl⟩, fun _ h => h⟩
  · rintro r n ⟨rfl, S', K', rfl, -, I, rfl⟩
    have ek : S'.k.kr = S.k.kr := by rw [I.k]
    refine ⟨_, ⟨rfl, S', rfl, ⟨I.good, I.text, ?_, I.begv, by have := I.zv; omega, I.tick, I.len, I.room⟩⟩, fun e he => ?_⟩
    · rw [I.pt]
      unfold insP
      split <;> split <;> first | omega | (simp at *; omega) | rfl
    · have q := (bufL0_C (o := o)).2 e he
      rwa [ek] at q


theorem ints_snoc {ys : List Value} {ns : List Int} {k : Int} {t : Tok} (h : IntsAre ys ns) : IntsAre (ys ++ [.int k t]) (ns ++ [k]) := IntsAre.append h (.cons k t .nil)
theorem off3_of {I C D : Addr} {l r : List (Addr × Obj)} (h : LCg.Off3 I C D l) (k : ∀ p ∈ r, ∃ o, (p.1, o) ∈ l) : LCg.Off3 I C D r := LCg.Off3.of fun p hp => let ⟨o, m⟩ := k p hp; LCg.Off3.mem h (p.1, o) m
/-- a comprehension over a range whose turns draw one int each from the deck -/
theorem draws_src {prog : Program} {w : World} {A : Around} {h₀ : Heap} {L : Addr} {m : Str → Option Value} {env : Env} {elt : PySem.Expr} {x : Str} {scope : Scope} {cl : List (Str × Addr)} {s : Shared} {Fin : Shared → List Value → List (Addr × Obj) → Prop} {r : Addr} {b : Int} {t u v : Tok}
    {D C : Addr} {nD : Nat} {k : Int} {tk : Tok} {all R : List (Addr × Obj)}
    (hh : A.handled = none) (F : Fr h₀ L s.heap m) (N : News h₀ L s.heap all) (hr : IsRange s.heap r 0 b 1 t u v) (h0 : 0 ≤ b) (h1 : b ≤ 1000)
    (sd : (D, listOf #[.ref C, .int k tk] nD) ∈ all) (K : Keep [D] all R)
    (turn : ∀ (i : Nat) t₀ I oI Cc oC D' m₂ ys h tk' (E' : Value → Shared → Prop), (i : Int) < b → LCg.NsObj oC m₂ → Fr h₀ L h m → News h₀ L h ((I, oI) :: (Cc, oC) :: (D', LCg.lst ys) :: (D, listOf #[.ref C, .int (k + i) t₀] nD) :: R) →
      (∀ p ∈ R, OffL p.1 [D, I, Cc, D']) → LCg.Off3 I Cc D' ((D, listOf #[.ref C, .int (k + i) t₀] nD) :: []) → ((@Ne Nat I Cc) ∧ (@Ne Nat I D') ∧ (@Ne Nat Cc D')) →
      wpAny (model prog w) A (eval elt (compEnvC scope cl Cc env)) (fun y s₂ => ∃ r t t₂ h' tk'', y = .int r t ∧ s₂ = { s with heap := h', toks := tk'' } ∧ Fr h₀ L h' m ∧ News h₀ L h' ((I, oI) :: (Cc, oC) :: (D', LCg.lst ys) :: (D, listOf #[.ref C, .int (k + i + 1) t₂] nD) :: R)) E' { s with heap := h, toks := tk' })
    (fin : ∀ g ys ns t₀, IntsAre ys ns → (ys.length : Int) = b → Fin { s with heap := g } ys ((D, listOf #[.ref C, .int (k + b) t₀] nD) :: R)) : LCg.CompSrc prog w A h₀ L m env elt x scope cl Fin (.ref r) s := by
  refine LCg.CompSrc.range (n := b.toNat) hh F (cb_drop N (sub_cons sd K.sub)) hr (small_one (by omega) (by omega) (by omega) (by omega)) (by have q := rangeSize_nat 0 b; rwa [Int.sub_zero] at q) (by rw [PySem.sizeLine_eq]; omega) ?_
  intro g
  have key : ∀ (j i : Nat) (ys : List Value) (ns : List Int) (t₀ : Tok), i + j = b.toNat → IntsAre ys ns → ys.length = i → LCg.CompRest prog w A h₀ L m env elt x scope cl { s with heap := g } (fun _ => True) (fun i v => ∃ t, v = .int (0 + (i : Int)) t) (Fin { s with heap := g }) j i ys ((D, listOf #[.ref C, .int (k + i) t₀] nD) :: R) := by
    intro j
    induction j with
    | zero =>
      intro i ys ns t₀ hi hy hl
      have e : k + (i : Int) = k + b := by omega
      rw [e]
      exact LCg.CompRest.zero (fin g ys ns t₀ hy (by omega))
    | succ j ih =>
      intro i ys ns t₀ hi hy hl
      refine LCg.CompRest.succ ?_
      intro v I oI C' oC D' m₂ h tk' E' hv hC hx F N off ne
      have off1 := off.mem
      have hR : ∀ p ∈ R, OffL p.1 [D, I, C', D'] := fun p hp => by
        have q := off1 p (.tail _ hp)
        exact ⟨(K.off p hp).1, q.1, q.2.1, q.2.2, trivial⟩
      refine wpAny_mono (turn i t₀ I oI C' oC D' m₂ ys h tk' E' (by omega) hC F N hR (off3_of off (re_cons (.head _) re_nil)) ne) (fun y s₂ hq => ?_) fun _ _ e => e
      obtain ⟨r, t, t₂, h', tk₂, rfl, e, F', N'⟩ := hq
      refine ⟨h', tk₂, _, e, F', N', off3_of off (re_cons (.head _) (re_sub (sub_tail sub_refl))), trivial, ?_⟩
      have := ih (i + 1) _ _ t₂ (by omega) (ints_snoc (k := r) (t := t) hy) (by simp [hl])
      rw [show k + ((i + 1 : Nat) : Int) = k + i + 1 by omega] at this
      exact this
  have := key b.toNat 0 [] [] tk (by omega) .nil rfl
  rw [show k + ((0 : Nat) : Int) = k by omega] at this
  exact this
theorem draw_use {w : World} {mean : ExcName → Option Value} {mg mb : Str → Option Value} {D C : Addr} {cells : List Value} {ns : List Int} {nD nC : Nat} {k many : Int} {tk tm : Tok} {R all : List (Addr × Obj)}
    (hc : IntsAre cells ns) (hl : ns.length ≤ 63) (h0 : 0 ≤ k) (h1 : k ≤ 1000) (hm : 0 < many) (hDC : @Ne Nat D C)
    {dp un : Nat} {gd : Option (List Code)} {cn : Str} {cs : Scope} {a : Addr} {ccd : Value} {cl : List (Str × Addr)} {outer : List Env} {A₀ : Around} {base h₀ : Heap} {L : Addr} {m : Str → Option Value} {s : Shared} {Q E : Value → Shared → Prop}
    (B : Below A₀ base outer h₀) (F : Fr h₀ L s.heap m) (X : (heapK w.params).In h₀) (N : News h₀ L s.heap all)
    (s1 : (D, listOf #[.ref C, .int k tk] nD) ∈ all) (s2 : (C, listOf cells.toArray nC) ∈ all)
    (T : Top view LO mean mg mb h₀) (hk : cs.kind = .function)
    (K : Keep [D] all R) (hr : dp + 1 < recursionLimit) (hu : un + 8 < cLine)
    (ret : ∀ r t t' h' tk', 0 ≤ r → r < many → Fr h₀ L h' m → News h₀ L h' ((D, listOf #[.ref C, .int (k + 1) t'] nD) :: R) → Q (.int r t) { s with heap := h', toks := tk' }) :
    wpAny (model PySem.Challenge.pw_np0066_01 w) (ktrTop dp un gd cn cs L a ccd cl outer) (call (.ref 487) [.ref D, .int many tm]) Q E s := by
  refine use_spec (draw_spec (R := R) (tk := tk) (tm := tm) (nD := nD) (nC := nC) hc hl h0 h1 hm hDC fun p hp => (K.off p hp).1) B F X N (sub_cons s1 (sub_cons s2 K.sub)) T hk hr (by omega) ?_
  rintro v n h' tk' ⟨r, t, t', rfl, q1, q2, rfl⟩ F' N'
  exact ret r t t' h' tk' q1 q2 F' (cb_drop N' (sub_cons (.head _) (sub_tail (sub_tail sub_refl))))
theorem draw_A {w : World} {mean : ExcName → Option Value} {mg mb : Str → Option Value} {D C : Addr} {cells : List Value} {ns : List Int} {nD nC : Nat} {k many : Int} {tk tm : Tok} {R all : List (Addr × Obj)}
    {dp un : Nat} {gd : Option (List Code)} {cn : Str} {cs : Scope} {a : Addr} {ccd : Value} {cl : List (Str × Addr)} {outer : List Env} {A₀ : Around} {base h₀ : Heap} {L : Addr} {m : Str → Option Value} {s : Shared} {Q E : Value → Shared → Prop}
    (N : News h₀ L s.heap all) (s1 : (D, listOf #[.ref C, .int k tk] nD) ∈ all) (s2 : (C, listOf cells.toArray nC) ∈ all) (hc : IntsAre cells ns) (hl : ns.length ≤ 63) (h0 : 0 ≤ k) (h1 : k ≤ 1000) (hm : 0 < many) (hDC : @Ne Nat D C)
    (B : Below A₀ base outer h₀) (F : Fr h₀ L s.heap m) (X : (heapK w.params).In h₀)
    (T : Top view LO mean mg mb h₀) (hk : cs.kind = .function)
    (K : Keep [D] all R) (hr : dp + 1 < recursionLimit) (hu : un + 8 < cLine)
    (ret : ∀ r t t' h' tk', 0 ≤ r → r < many → Fr h₀ L h' m → News h₀ L h' ((D, listOf #[.ref C, .int (k + 1) t'] nD) :: R) → Q (.int r t) { s with heap := h', toks := tk' }) :
    wpAny (model PySem.Challenge.pw_np0066_01 w) (ktrTop dp un gd cn cs L a ccd cl outer) (call (.ref 487) [.ref D, .int many tm]) Q E s := draw_use hc hl h0 h1 hm hDC B F X N s1 s2 T hk K hr hu ret


/-- what an edit is: its list came holds ints, none only where signs go -/
structure EditOk (st en : Int) (ws : List Value) (ah : Bool) : Prop where
  le : st ≤ en
  areInts : ∃ ms, IntsAre ws ms
  len : ws.length ≤ 3
  empty : ws = [] → st < en
  ahead : ah = true → st = en
abbrev editO (st en : Int) (t1 t2 : Tok) (c : Addr) (ah : Bool) : Obj := { cls := .type "tuple", data := .seq #[.int st t1, .int en t2, .ref c, .bool ah] }
theorem law_edit_spec {w : World} {mean : ExcName → Option Value} {mg mb : Str → Option Value} {D C : Addr} {cells : List Value} {ns : List Int} {nD nC : Nat} {k st en : Int} {tk t1 t2 : Tok} {R : List (Addr × Obj)}
    (hc : IntsAre cells ns) (hl : ns.length ≤ 63) (h0 : 0 ≤ k) (h1 : k ≤ 900) (hse : st ≤ en) (hDC : @Ne Nat D C) (hR : ∀ p ∈ R, OffL p.1 [D]) :
    Spec w mean mg mb 2 492 [.ref D, .int st t1, .int en t2] ((D, listOf #[.ref C, .int k tk] nD) :: (C, listOf cells.toArray nC) :: R) (fun v n => ∃ q c ws nc ah k' tk', v = .ref q ∧
      n = (q, editO st en t1 t2 c ah) :: (c, listOf ws.toArray nc) :: (D, listOf #[.ref C, .int k' tk'] nD) :: (C, listOf cells.toArray nC) :: R ∧ EditOk st en ws ah ∧ k ≤ k' ∧ k' ≤ k + 8 ∧ (@Ne Nat c D) ∧ AllLt q ((c, listOf ws.toArray nc) :: (D, listOf #[.ref C, .int k' tk'] nD) :: (C, listOf cells.toArray nC) :: R)) := by
  intro dp un gd cn cs a ccd cl outer A₀ base h₀ L m s Q E B F X N T hk hd hu hret
  refine wpAny_call ?_
  k_dflt (first | (refine' code_def (by k_asm) (by k_asm) (by k_asm) (by k_asm) (by k_asm) (by exact rfl) (by exact rfl) (by assumption) (by k_is) (by k_is) (by ktr_room) (by first | ((first | exact BindsTo.of_eq rfl | exact binds_K (by k_in) rfl (by k_is) rfl rfl rfl); done) | fail) (by exact locs rfl) ?_ (by exact rfl) (by exact rfl) (by exact rfl) (by decide); k_whole; intro g' L' h' FG' F' N' B' X' T'; (try dsimp only); (try k_lift B'); (try k_fold)) | (refine' code_defC (by k_asm) (by k_asm) (by k_asm) (by k_asm) (by k_asm) (by exact rfl) (by exact rfl) (by assumption) (by k_is) (by k_is) (by ktr_room) (by first | ((first | exact BindsTo.of_eq rfl | exact binds_K (by k_in) rfl (by k_is) rfl rfl rfl); done) | fail) (by exact rfl) (by first | ((decide +kernel); done) | fail) ?_ (by exact rfl) (by exact rfl) (by exact rfl); k_whole; intro g' L' h' tk' cells' FG' F' N' Y' B' X' T' l1; (try k_lt l1); k_cells Y'; (try simp only [List.cons_append, List.nil_append] at N'); (try dsimp only); (try k_lift B'); (try k_fold)))
  change (let ak : Around := _; wpAny _ ak _ _ _ _)
  intro ak
  repeat' (first | (k_unfold; (try dsimp only)) | (k_end; wrow_close) | with_reducible ((with_reducible show LCg.CompSrc ..); (k_here; k_dflt (refine' draws_src (by exact rfl) (by k_asm) (by k_asm) (by assumption) (by first | ((first | with_reducible assumption | omega); done) | fail) (by first | ((first | with_reducible assumption | omega); done) | fail) (by first | (k_mem; done) | fail) (by first | (k_allIn; done) | fail) (fun i' t0' I' oI' C' oC' D' m' ys' h' tk' E' hi' hC' F' N' oR' off' ne' => ?_) (fun g' ys' ns' t0' hy' hl' => ?_)); (all_goals (try (simp only [LCg.Off3, and_true] at off'))))) | with_reducible ((with_reducible show PySem.wpAny _ _ (PySem.call (PySem.Value.ref _) _) _ _ _); (k_here; (with_reducible show wpAny _ _ (PySem.call (Value.ref 487) _) _ _ _); k_dflt (refine' draw_A (by k_asm) (by first | (k_mem; done) | fail) (by first | (k_mem; done) | fail) (by assumption) (by assumption) (by first | ((first | with_reducible assumption | omega); done) | fail) (by first | ((first | with_reducible assumption | omega); done) | fail) (by first | ((first | with_reducible assumption | omega); done) | fail) (by first | (k_ne; done) | fail) (by k_asm) (by k_asm) (by k_asm) (by k_asm) (by first | ((first | exact rfl | assumption); done) | fail) (by first | (k_allIn; done) | fail) (by ktr_room) (by ktr_units) ?_; k_whole); intro r' t1' t2' h' tk' hr1' hr2' F' N'; (try k_sweep))) | with_reducible ((with_reducible show PySem.wpAny _ _ (PySem.exec (PySem.Stmt.Assign (_ :: _) (PySem.Expr.ListComp _ _ _ _) _) _) _ _ _); (k_here; k_dflt (refine LCg.Assign_ListComp_U (F₀ := by k_asm) (by rfl) (by with_unfolding_all rfl) (by with_unfolding_all rfl) (by decide) (by rfl) (by decide) (by rfl) (by rfl) (by rfl) ?_))) | with_reducible ((with_reducible show ite _ _ _); (k_here; k_dflt (first | (refine ite_neg (by first | ((simp only [beq_iff_eq]; omega); done) | fail) ?_) | (refine ite_pos (by first | ((simp only [beq_iff_eq]; omega); done) | fail) ?_)))) | walk1 | (dsimp only) | (leave1; (try dsimp only)) | fail "no step")
  all_goals (try ((with_reducible show Fr _ _ _ _); k_asm))
  all_goals (try ((with_reducible show News _ _ _ _); refine' cb_drop ?NN ?ss; (case NN => k_asm); (case ss => lcg_sub)))
  all_goals (try rename @LT.lt Nat _ _ _ ∧ _ => l8)
  · refine' hret _ _ _ _ ⟨_, _, [], _, _, _, _, rfl, rfl, ⟨hse, ⟨[], .nil⟩, ?e1, ?e2, ?e3⟩, ?e4, ?e5, ?e6, ?e7⟩ ?f1 ?n1
    (case f1 => k_asm)
    (case n1 => refine' cb_drop ?N1 ?s1; (case N1 => k_asm); (case s1 => lcg_sub))
    (case e1 => decide)
    (case e2 => exact fun _ => by assumption)
    (case e3 => intro h; cases h)
    (case e4 => omega)
    (case e5 => omega)
    (case e6 => k_ne)
    (case e7 => first | exact unhid l8 | (have l9 := unhid l8; simp only [AllLt, l9, and_self]))
  · refine' hret _ _ _ _ ⟨_, _, _, _, _, _, _, rfl, rfl, ⟨hse, ⟨_, by assumption⟩, ?e11, ?e12, ?e13⟩, ?e14, ?e15, ?e16, ?e17⟩ ?f11 ?n11
    (case f11 => k_asm)
    (case n11 => refine' cb_drop ?N1 ?s1; (case N1 => k_asm); (case s1 => lcg_sub))
    (case e11 => omega)
    (case e12 => exact fun _ => by assumption)
    (case e13 => exact fun h => eq_of_beq h)
    (case e14 => omega)
    (case e15 => omega)
    (case e16 => k_ne)
    (case e17 => first | exact unhid l8 | (have l9 := unhid l8; simp only [AllLt, l9, and_self]))
  · refine' hret _ _ _ _ ⟨_, _, _, _, _, _, _, rfl, rfl, ⟨hse, ⟨_, by assumption⟩, ?e21, ?e22, ?e23⟩, ?e24, ?e25, ?e26, ?e27⟩ ?f21 ?n21
    (case f21 => k_asm)
    (case n21 => refine' cb_drop ?N1 ?s1; (case N1 => k_asm); (case s1 => lcg_sub))
    (case e21 => omega)
    (case e22 => intro h; (have h' := congrArg List.length h); simp only [List.length_nil] at h'; omega)
    (case e23 => exact fun _ => by omega)
    (case e24 => omega)
    (case e25 => omega)
    (case e26 => k_ne)
    (case e27 => first | exact unhid l8 | (have l9 := unhid l8; simp only [AllLt, l9, and_self]))


/-- what a buffer shows -/
structure View where
  text : List Value
  pt : Int
  begv : Int
  zv : Int
  tick : Int
  p0 : Int
  p1 : Int
  p2 : Int
  a0 : Bool
  a1 : Bool
  a2 : Bool
  cap : Int
  room : Int
theorem View.ext {V W : View} (h1 : V.text = W.text) (h2 : V.pt = W.pt) (h3 : V.begv = W.begv) (h4 : V.zv = W.zv) (h5 : V.tick = W.tick) (h6 : V.p0 = W.p0) (h7 : V.p1 = W.p1) (h8 : V.p2 = W.p2) (h9 : V.a0 = W.a0) (h10 : V.a1 = W.a1) (h11 : V.a2 = W.a2) (h12 : V.cap = W.cap) (h13 : V.room = W.room) : V = W := by
  cases V; cases W; simp only at *; simp only [h1, h2, h3, h4, h5, h6, h7, h8, h9, h10, h11, h12, h13]
/-- where a place goes at an edit -/
def edP (st en : Int) (k : Nat) (ah : Bool) (pos : Int) (adv : Bool) : Int :=
  if st = en then (if st < pos ∨ (pos = st ∧ (ah = true ∨ adv = true)) then pos + k else pos) else if en ≤ pos then pos + k - (en - st) else if st < pos then st else pos
def View.done (V : View) (st en : Int) (ws : List Value) (ah : Bool) : View where
  text := V.text.take (st - 1).toNat ++ ws ++ V.text.drop (en - 1).toNat
  pt := edP st en ws.length false V.pt false
  begv := V.begv
  zv := V.zv + ws.length - (en - st)
  tick := V.tick + 1
  p0 := edP st en ws.length ah V.p0 V.a0
  p1 := edP st en ws.length ah V.p1 V.a1
  p2 := edP st en ws.length ah V.p2 V.a2
  a0 := V.a0
  a1 := V.a1
  a2 := V.a2
  cap := V.cap + ws.length + V.room
  room := V.room
structure BufAt (w : World) (a : BufA) (V : View) (S : BufS) : Prop where
  good : S.Good w a
  text : S.g.text = V.text
  pt : S.pt = V.pt
  begv : S.begv = V.begv
  zv : S.zv = V.zv
  tick : S.tick = V.tick
  p0 : S.k.m0.pos = V.p0
  p1 : S.k.m1.pos = V.p1
  p2 : S.k.m2.pos = V.p2
  a0 : S.k.m0.adv = V.a0
  a1 : S.k.m1.adv = V.a1
  a2 : S.k.m2.adv = V.a2
  cap : (S.g.cells.length : Int) ≤ V.cap
  room : S.g.room = V.room
theorem BufAt.step {w : World} {a : BufA} {V : View} {S S' : BufS} {st en : Int} {ws : List Value} {ah : Bool} {fp fk : Int → Bool → Int} (A : BufAt w a V S) (E : Edited w a S S' st en ws fp fk)
    (hp : fp V.pt false = edP st en ws.length false V.pt false) (hk : ∀ x b, fk x b = edP st en ws.length ah x b) : BufAt w a (V.done st en ws ah) S' where
  good := E.good
  text := by rw [E.text, A.text]; rfl
  pt := by rw [E.pt, A.pt, hp]; rfl
  begv := by rw [E.begv, A.begv]; rfl
  zv := by rw [E.zv, A.zv]; rfl
  tick := by rw [E.tick, A.tick]; rfl
  p0 := by rw [E.k.s0.pos, hk, A.p0, A.a0]; rfl
  p1 := by rw [E.k.s1.pos, hk, A.p1, A.a1]; rfl
  p2 := by rw [E.k.s2.pos, hk, A.p2, A.a2]; rfl
  a0 := by rw [E.k.s0.adv, A.a0]; rfl
  a1 := by rw [E.k.s1.adv, A.a1]; rfl
  a2 := by rw [E.k.s2.adv, A.a2]; rfl
  cap := by have h := E.len; have h1 := A.cap; have h2 := A.room; show _ ≤ V.cap + ws.length + V.room; omega
  room := by rw [E.room, A.room]; rfl
theorem ins_ed {st : Int} {k : Nat} {b : Bool} (x : Int) (adv : Bool) : insP st (st + k) b x adv = edP st st k b x adv := by
  unfold insP edP
  rw [if_pos rfl]
  split <;> omega
theorem del_ed {st en : Int} {b : Bool} (h : st < en) (x : Int) (adv : Bool) : delP st en x adv = edP st en 0 b x adv := by
  unfold delP edP
  rw [if_neg (show ¬ st = en by omega)]
  split
  · rw [if_pos (by omega)]; omega
  · split
    · split <;> omega
    · rw [if_neg (by omega)]
theorem rep_ed {st en : Int} {k : Nat} {b : Bool} (h : st < en) (x : Int) (adv : Bool) : repP st en k x adv = edP st en k b x adv := by
  unfold repP edP
  rw [if_neg (show ¬ st = en by omega)]
theorem BufAt.ins {w : World} {a : BufA} {V : View} {S S' : BufS} {st : Int} {ws : List Value} {ah : Bool} (A : BufAt w a V S) (E : Edited w a S S' st st ws (insP st (st + ws.length) false) (insP st (st + ws.length) ah)) : BufAt w a (V.done st st ws ah) S' := A.step E (ins_ed _ _) ins_ed
theorem BufAt.del {w : World} {a : BufA} {V : View} {S S' : BufS} {st en : Int} {ah : Bool} (h : st < en) (A : BufAt w a V S) (E : Edited w a S S' st en [] (delP st en) (delP st en)) : BufAt w a (V.done st en [] ah) S' := A.step E (del_ed h _ _) (del_ed h)
theorem BufAt.rep {w : World} {a : BufA} {V : View} {S S' : BufS} {st en : Int} {ws : List Value} {ah : Bool} (h : st < en) (A : BufAt w a V S) (E : Edited w a S S' st en ws (repP st en ws.length) (repP st en ws.length)) : BufAt w a (V.done st en ws ah) S' := A.step E (rep_ed h _ _) (rep_ed h)

/-- the objects of one buffer and of its list of markers lie between lo and hi -/
structure Rng (lo hi om : Addr) (a : BufA) : Prop where
  b1 : @LT.lt Nat _ a.bd a.bx
  b2 : @LT.lt Nat _ a.bx a.g.gd
  b3 : @LT.lt Nat _ a.g.gd a.g.gx
  b4 : @LT.lt Nat _ a.g.gx a.g.gc
  b5 : @LT.lt Nat _ a.g.gc a.k.md
  c1 : @LT.lt Nat _ a.k.md a.k.mx
  c2 : @LT.lt Nat _ a.k.mx a.k.rw
  b6 : @LT.lt Nat _ a.k.rw a.ls
  b7 : @LT.lt Nat _ a.ls om
  b8 : @LT.lt Nat _ om a.k.d0
  c4 : @LT.lt Nat _ a.k.d0 a.k.x0
  c5 : @LT.lt Nat _ a.k.x0 a.k.d1
  c6 : @LT.lt Nat _ a.k.d1 a.k.x1
  c7 : @LT.lt Nat _ a.k.x1 a.k.d2
  c8 : @LT.lt Nat _ a.k.d2 a.k.x2
  lo : @LE.le Nat _ lo a.bd
  hi : @LT.lt Nat _ a.k.x2 hi
abbrev marksO (a : BufA) (n : Nat) : Obj := listOf #[.ref a.k.x0, .ref a.k.x1, .ref a.k.x2] n
def BufIs (w : World) (lo hi bx om : Addr) (B : List (Addr × Obj)) (V : View) : Prop :=
  ∃ a S n, bx = a.bx ∧ B = bufL w.params a S [(om, marksO a n)] ∧ BufAt w a V S ∧ Rng lo hi om a
def Out (lo hi : Addr) (x : Addr) : Prop := @LT.lt Nat _ x lo ∨ @LE.le Nat _ hi x
theorem out_ne {lo hi x b : Addr} (h : Out lo hi x) (l : @LE.le Nat _ lo b) (u : @LT.lt Nat _ b hi) : @Ne Nat x b := h.elim (fun q => Nat.ne_of_lt (Nat.lt_of_lt_of_le q l)) fun q => Nat.ne_of_gt (Nat.lt_of_lt_of_le u q)
/-- all lie between -/
structure RngAll (lo hi om : Addr) (a : BufA) : Prop where
  l_bd : @LE.le Nat _ lo a.bd
  u_bd : @LT.lt Nat _ a.bd hi
  l_bx : @LE.le Nat _ lo a.bx
  u_bx : @LT.lt Nat _ a.bx hi
  l_gd : @LE.le Nat _ lo a.g.gd
  u_gd : @LT.lt Nat _ a.g.gd hi
  l_gx : @LE.le Nat _ lo a.g.gx
  u_gx : @LT.lt Nat _ a.g.gx hi
  l_gc : @LE.le Nat _ lo a.g.gc
  u_gc : @LT.lt Nat _ a.g.gc hi
  l_md : @LE.le Nat _ lo a.k.md
  u_md : @LT.lt Nat _ a.k.md hi
  l_mx : @LE.le Nat _ lo a.k.mx
  u_mx : @LT.lt Nat _ a.k.mx hi
  l_rw : @LE.le Nat _ lo a.k.rw
  u_rw : @LT.lt Nat _ a.k.rw hi
  l_ls : @LE.le Nat _ lo a.ls
  u_ls : @LT.lt Nat _ a.ls hi
  l_om : @LE.le Nat _ lo om
  u_om : @LT.lt Nat _ om hi
  l_d0 : @LE.le Nat _ lo a.k.d0
  u_d0 : @LT.lt Nat _ a.k.d0 hi
  l_x0 : @LE.le Nat _ lo a.k.x0
  u_x0 : @LT.lt Nat _ a.k.x0 hi
  l_d1 : @LE.le Nat _ lo a.k.d1
  u_d1 : @LT.lt Nat _ a.k.d1 hi
  l_x1 : @LE.le Nat _ lo a.k.x1
  u_x1 : @LT.lt Nat _ a.k.x1 hi
  l_d2 : @LE.le Nat _ lo a.k.d2
  u_d2 : @LT.lt Nat _ a.k.d2 hi
  l_x2 : @LE.le Nat _ lo a.k.x2
  u_x2 : @LT.lt Nat _ a.k.x2 hi
theorem Rng.all {lo hi om : Addr} {a : BufA} (r : Rng lo hi om a) : RngAll lo hi om a := by
  obtain ⟨b1, b2, b3, b4, b5, c1, c2, b6, b7, b8, c4, c5, c6, c7, c8, m0, n15⟩ := r
  have m1 := Nat.le_of_lt (Nat.lt_of_le_of_lt m0 b1)
  have m2 := Nat.le_of_lt (Nat.lt_of_le_of_lt m1 b2)
  have m3 := Nat.le_of_lt (Nat.lt_of_le_of_lt m2 b3)
  have m4 := Nat.le_of_lt (Nat.lt_of_le_of_lt m3 b4)
  have m5 := Nat.le_of_lt (Nat.lt_of_le_of_lt m4 b5)
  have m6 := Nat.le_of_lt (Nat.lt_of_le_of_lt m5 c1)
  have m7 := Nat.le_of_lt (Nat.lt_of_le_of_lt m6 c2)
  have m8 := Nat.le_of_lt (Nat.lt_of_le_of_lt m7 b6)
  have m9 := Nat.le_of_lt (Nat.lt_of_le_of_lt m8 b7)
  have m10 := Nat.le_of_lt (Nat.lt_of_le_of_lt m9 b8)
  have m11 := Nat.le_of_lt (Nat.lt_of_le_of_lt m10 c4)
  have m12 := Nat.le_of_lt (Nat.lt_of_le_of_lt m11 c5)
  have m13 := Nat.le_of_lt (Nat.lt_of_le_of_lt m12 c6)
  have m14 := Nat.le_of_lt (Nat.lt_of_le_of_lt m13 c7)
  have m15 := Nat.le_of_lt (Nat.lt_of_le_of_lt m14 c8)
  have n14 := Nat.lt_trans c8 n15
  have n13 := Nat.lt_trans c7 n14
  have n12 := Nat.lt_trans c6 n13
  have n11 := Nat.lt_trans c5 n12
  have n10 := Nat.lt_trans c4 n11
  have n9 := Nat.lt_trans b8 n10
  have n8 := Nat.lt_trans b7 n9
  have n7 := Nat.lt_trans b6 n8
  have n6 := Nat.lt_trans c2 n7
  have n5 := Nat.lt_trans c1 n6
  have n4 := Nat.lt_trans b5 n5
  have n3 := Nat.lt_trans b4 n4
  have n2 := Nat.lt_trans b3 n3
  have n1 := Nat.lt_trans b2 n2
  have n0 := Nat.lt_trans b1 n1
  exact ⟨m0, n0, m1, n1, m2, n2, m3, n3, m4, n4, m5, n5, m6, n6, m7, n7, m8, n8, m9, n9, m10, n10, m11, n11, m12, n12, m13, n13, m14, n14, m15, n15⟩
theorem Rng.off {lo hi om : Addr} {a : BufA} (r : Rng lo hi om a) {x : Addr} (h : Out lo hi x) : OffL x [a.bx, a.bd, a.g.gx, a.g.gd, a.g.gc, a.ls, a.k.mx, a.k.md, a.k.rw, a.k.x0, a.k.d0, a.k.x1, a.k.d1, a.k.x2, a.k.d2] :=
  let q := r.all
  ⟨out_ne h q.l_bx q.u_bx, out_ne h q.l_bd q.u_bd, out_ne h q.l_gx q.u_gx, out_ne h q.l_gd q.u_gd, out_ne h q.l_gc q.u_gc, out_ne h q.l_ls q.u_ls, out_ne h q.l_mx q.u_mx, out_ne h q.l_md q.u_md, out_ne h q.l_rw q.u_rw, out_ne h q.l_x0 q.u_x0, out_ne h q.l_d0 q.u_d0, out_ne h q.l_x1 q.u_x1, out_ne h q.l_d1 q.u_d1, out_ne h q.l_x2 q.u_x2, out_ne h q.l_d2 q.u_d2, trivial⟩
theorem Rng.offm {lo hi om : Addr} {a : BufA} (r : Rng lo hi om a) : OffL om [a.bx, a.bd, a.g.gx, a.g.gd, a.g.gc, a.ls, a.k.mx, a.k.md, a.k.rw, a.k.x0, a.k.d0, a.k.x1, a.k.d1, a.k.x2, a.k.d2] := by
  obtain ⟨b1, b2, b3, b4, b5, c1, c2, b6, b7, b8, c4, c5, c6, c7, c8, -, -⟩ := r
  have u7 := Nat.lt_trans b6 b7
  have u6 := Nat.lt_trans c2 u7
  have u5 := Nat.lt_trans c1 u6
  have u4 := Nat.lt_trans b5 u5
  have u3 := Nat.lt_trans b4 u4
  have u2 := Nat.lt_trans b3 u3
  have u1 := Nat.lt_trans b2 u2
  have u0 := Nat.lt_trans b1 u1
  have u11 := Nat.lt_trans b8 c4
  have u12 := Nat.lt_trans u11 c5
  have u13 := Nat.lt_trans u12 c6
  have u14 := Nat.lt_trans u13 c7
  have u15 := Nat.lt_trans u14 c8
  exact ⟨Nat.ne_of_gt u1, Nat.ne_of_gt u0, Nat.ne_of_gt u3, Nat.ne_of_gt u2, Nat.ne_of_gt u4, Nat.ne_of_gt b7, Nat.ne_of_gt u6, Nat.ne_of_gt u5, Nat.ne_of_gt u7, Nat.ne_of_lt u11, Nat.ne_of_lt b8, Nat.ne_of_lt u13, Nat.ne_of_lt u12, Nat.ne_of_lt u15, Nat.ne_of_lt u14, trivial⟩
theorem Rng.full {lo hi om : Addr} {a : BufA} (r : Rng lo hi om a) {R : List (Addr × Obj)} (off : ∀ p ∈ R, OffL p.1 [a.bx, a.bd, a.g.gx, a.g.gd, a.g.gc, a.ls, a.k.mx, a.k.md, a.k.rw, a.k.x0, a.k.d0, a.k.x1, a.k.d1, a.k.x2, a.k.d2]) : BufFull a R := by
  obtain ⟨b1, b2, b3, b4, b5, c1, c2, b6, b7, b8, c4, c5, c6, c7, c8, l1, l2⟩ := r
  exact ⟨b1, b2, b3, b4, b5, c1, c2, b6, Nat.lt_trans b7 b8, c4, c5, c6, c7, c8, off⟩
theorem sub_app {α : Type} {l1 l2 r : List α} (h1 : ∀ p ∈ l1, p ∈ r) (h2 : ∀ p ∈ l2, p ∈ r) : ∀ p ∈ l1 ++ l2, p ∈ r := fun p hp => (List.mem_append.mp hp).elim (h1 p) (h2 p)
theorem off_cons {x : Addr} {o : Obj} {R : List (Addr × Obj)} {as : List Addr} (h : OffL x as) (t : ∀ p ∈ R, OffL p.1 as) : ∀ p ∈ (x, o) :: R, OffL p.1 as := List.forall_mem_cons.mpr ⟨h, t⟩

section
variable {prog : Program} {w : World} {A : Around} {E : Value → Shared → Prop} {s : Shared} {h₀ : Heap} {L l l2 : Addr} {news : List (Addr × Obj)} {vs : List Value} {ms : List Int} {n n2 : Nat} {Q : Value → Shared → Prop}
theorem my_eq_nil (N : News h₀ L s.heap news) (h1 : (l, listOf vs.toArray n) ∈ news) (h2 : (l2, listOf #[] n2) ∈ news) (hi : IntsAre vs ms) (hu : A.units + 64 < cLine) (h : Q (.bool (decide (vs.length = 0))) s) :
    wpAny (model prog w) A (compareOp .Eq (.ref l) (.ref l2)) Q E s := by
  refine ke_eq_ints (ys := []) (PySem.IsL.isList (n := n) (N _ h1).1) (PySem.IsL.isList (n := n2) (N _ h2).1) hi .nil hu ?_
  have e : decide (ms = []) = decide (vs.length = 0) := by
    rw [hi.length]
    cases ms <;> simp
  rw [e]
  exact h
end


section
variable {p : Params} {a : BufA} {S : BufS} {R : List (Addr × Obj)} {e e0 : Addr × Obj}
theorem bl_in (hv : List.Mem e0 R) : ∀ q ∈ bufL p a S (e0 :: e :: R), q ∈ bufL p a S [e] ++ R := by
  intro q hq
  rw [show bufL p a S (e0 :: e :: R) = bufL p a S [] ++ (e0 :: e :: R) from rfl] at hq
  rw [show bufL p a S [e] ++ R = bufL p a S [] ++ (e :: R) from rfl]
  rcases List.mem_append.mp hq with h | h
  · exact List.mem_append_left _ h
  · rcases List.mem_cons.mp h with h | h
    · exact List.mem_append_right _ (.tail _ (h ▸ hv))
    · exact List.mem_append_right _ h
theorem bl_out : ∀ q ∈ bufL p a S [e] ++ R, q ∈ bufL p a S (e0 :: e :: R) := by
  intro q hq
  rw [show bufL p a S [e] ++ R = bufL p a S [] ++ (e :: R) from rfl] at hq
  rw [show bufL p a S (e0 :: e :: R) = bufL p a S [] ++ (e0 :: e :: R) from rfl]
  rcases List.mem_append.mp hq with h | h
  · exact List.mem_append_left _ h
  · exact List.mem_append_right _ (.tail _ h)
theorem bl_R : ∀ q ∈ R, q ∈ bufL p a S (e :: R) := by
  intro q hq
  rw [show bufL p a S (e :: R) = bufL p a S [] ++ (e :: R) from rfl]
  exact List.mem_append_right _ (.tail _ hq)
end
section
variable {w : World} {mean : ExcName → Option Value} {mg mb : Str → Option Value} {lo hi bx om c : Addr} {B R : List (Addr × Obj)} {V : View} {ws : List Value} {nc : Nat}
theorem BufIs.full {a : BufA} (r : Rng lo hi om a) {n : Nat} (hR : ∀ p ∈ R, Out lo hi p.1) : BufFull a ((om, marksO a n) :: R) := r.full (off_cons r.offm fun p hp => r.off (hR p hp))
theorem bi_ins (I : BufIs w lo hi bx om B V) (hv : List.Mem (c, listOf ws.toArray nc) R) (hR : ∀ p ∈ R, Out lo hi p.1) {place : Int} {t1 : Tok} {b : Bool} (h0 : V.begv ≤ place) (h1 : place ≤ V.zv) (hw : 0 < ws.length) (hw3 : ws.length ≤ 3) (hcap : V.cap + V.room ≤ 90000) :
    Spec w mean mg mb 7 112 [.ref bx, .int place t1, .ref c, .bool b] (B ++ R) (fun r n => r = .none ∧ ∃ B', n = B' ++ R ∧ BufIs w lo hi bx om B' (V.done place place ws b)) := by
  obtain ⟨a, S, nm, rfl, rfl, A, r⟩ := I
  have O := BufIs.full (n := nm) r hR
  have g1 := A.begv
  have g2 := A.zv
  have g3 := A.cap
  have g4 := A.room
  refine spec_conv (insert_at_spec (n2 := nc) (t1 := t1) (b := b) (R := (om, marksO a nm) :: R) A.good (r.full (off_cons (O.off _ (.tail _ hv)) O.off)) (by omega) (by omega) hw (by omega)) (bl_in hv) ?_
  rintro v n ⟨rfl, S', rfl, M⟩
  exact ⟨_, ⟨rfl, _, rfl, ⟨a, S', nm, rfl, rfl, A.ins M, r⟩⟩, bl_out⟩
theorem bi_rep (I : BufIs w lo hi bx om B V) (hv : List.Mem (c, listOf ws.toArray nc) R) (hR : ∀ p ∈ R, Out lo hi p.1) {st en : Int} {t1 t2 : Tok} {b : Bool} (h0 : V.begv ≤ st) (h9 : st < en) (h1 : en ≤ V.zv) (hw : 0 < ws.length) (hw3 : ws.length ≤ 3) (hcap : V.cap + V.room ≤ 90000) :
    Spec w mean mg mb 8 126 [.ref bx, .int st t1, .int en t2, .ref c] (B ++ R) (fun v n => ∃ q zs B', v = .ref q ∧ n = (q, listOf zs.toArray 0) :: (B' ++ R) ∧ BufIs w lo hi bx om B' (V.done st en ws b) ∧ zs = (V.text.drop (st - 1).toNat).take ((en - 1).toNat - (st - 1).toNat) ∧ ∀ p ∈ R, p.1 < q) := by
  obtain ⟨a, S, nm, rfl, rfl, A, r⟩ := I
  have O := BufIs.full (n := nm) r hR
  have g1 := A.begv
  have g2 := A.zv
  have g3 := A.cap
  have g4 := A.room
  refine spec_conv (replace_spec (n2 := nc) (t1 := t1) (t2 := t2) (R := (om, marksO a nm) :: R) A.good (r.full (off_cons (O.off _ (.tail _ hv)) O.off)) (by omega) h9 (by omega) hw (by omega)) (bl_in hv) ?_
  rintro v n ⟨q, zs, S', rfl, rfl, hz, l, M⟩
  exact ⟨_, ⟨q, zs, _, rfl, rfl, ⟨a, S', nm, rfl, rfl, A.rep h9 M, r⟩, hz.trans (by rw [A.text]), fun e he => allLt_lt l e (bl_R e (.tail _ he))⟩, sub_cons (.head _) (sub_tail bl_out)⟩
theorem bi_del (I : BufIs w lo hi bx om B V) (hR : ∀ p ∈ R, Out lo hi p.1) {st en : Int} {t1 t2 : Tok} {b : Bool} (h0 : V.begv ≤ st) (h9 : st < en) (h1 : en ≤ V.zv) :
    Spec w mean mg mb 6 119 [.ref bx, .int st t1, .int en t2] (B ++ R) (fun v n => ∃ q zs B', v = .ref q ∧ n = (q, listOf zs.toArray 0) :: (B' ++ R) ∧ BufIs w lo hi bx om B' (V.done st en [] b) ∧ zs = (V.text.drop (st - 1).toNat).take ((en - 1).toNat - (st - 1).toNat) ∧ ∀ p ∈ R, p.1 < q) := by
  obtain ⟨a, S, nm, rfl, rfl, A, r⟩ := I
  have O := BufIs.full (n := nm) r hR
  have g1 := A.begv
  have g2 := A.zv
  refine spec_conv (delete_spec (t1 := t1) (t2 := t2) (R := (om, marksO a nm) :: R) A.good O (by omega) h9 (by omega)) (fun _ h => h) ?_
  rintro v n ⟨q, zs, S', rfl, rfl, hz, l, M⟩
  exact ⟨_, ⟨q, zs, _, rfl, rfl, ⟨a, S', nm, rfl, rfl, A.del h9 M, r⟩, hz.trans (by rw [A.text]), fun e he => allLt_lt l e (bl_R e he)⟩, fun _ h => h⟩
end
section
variable {w : World} {mean : ExcName → Option Value} {mg mb : Str → Option Value} {lo hi bx om c : Addr} {B R : List (Addr × Obj)} {V : View} {ws : List Value} {nc : Nat}
theorem biins_T (I : BufIs w lo hi bx om B V) (hv : List.Mem (c, listOf ws.toArray nc) R) (hR : ∀ p ∈ R, Out lo hi p.1) {place : Int} {t1 : Tok} {b : Bool} (h0 : V.begv ≤ place) (h1 : place ≤ V.zv) (hw : 0 < ws.length) (hw3 : ws.length ≤ 3) (hcap : V.cap + V.room ≤ 90000) :
    SpecT w mean mg mb 7 112 [.ref bx, .int place t1, .ref c, .bool b] (B ++ R) (fun k => ∀ B', BufIs w lo hi bx om B' (V.done place place ws b) → k .none (B' ++ R)) := toT (bi_ins I hv hR h0 h1 hw hw3 hcap) (by rintro k h v n ⟨rfl, B', rfl, i⟩; exact h B' i)
theorem birep_T (I : BufIs w lo hi bx om B V) (hv : List.Mem (c, listOf ws.toArray nc) R) (hR : ∀ p ∈ R, Out lo hi p.1) {st en : Int} {t1 t2 : Tok} {b : Bool} (h0 : V.begv ≤ st) (h9 : st < en) (h1 : en ≤ V.zv) (hw : 0 < ws.length) (hw3 : ws.length ≤ 3) (hcap : V.cap + V.room ≤ 90000) :
    SpecT w mean mg mb 8 126 [.ref bx, .int st t1, .int en t2, .ref c] (B ++ R) (fun k => ∀ q zs B', BufIs w lo hi bx om B' (V.done st en ws b) → zs = (V.text.drop (st - 1).toNat).take ((en - 1).toNat - (st - 1).toNat) → (∀ p ∈ R, p.1 < q) → k (.ref q) ((q, listOf zs.toArray 0) :: (B' ++ R))) := toT (bi_rep I hv hR h0 h9 h1 hw hw3 hcap) (by rintro k h v n ⟨q, zs, B', rfl, rfl, i, z, l⟩; exact h q zs B' i z l)
theorem bidel_T (I : BufIs w lo hi bx om B V) (hR : ∀ p ∈ R, Out lo hi p.1) {st en : Int} {t1 t2 : Tok} {b : Bool} (h0 : V.begv ≤ st) (h9 : st < en) (h1 : en ≤ V.zv) :
    SpecT w mean mg mb 6 119 [.ref bx, .int st t1, .int en t2] (B ++ R) (fun k => ∀ q zs B', BufIs w lo hi bx om B' (V.done st en [] b) → zs = (V.text.drop (st - 1).toNat).take ((en - 1).toNat - (st - 1).toNat) → (∀ p ∈ R, p.1 < q) → k (.ref q) ((q, listOf zs.toArray 0) :: (B' ++ R))) := toT (bi_del I hR h0 h9 h1) (by rintro k h v n ⟨q, zs, B', rfl, rfl, i, z, l⟩; exact h q zs B' i z l)
end
theorem lt_right {B R : List (Addr × Obj)} {d : Addr} (h : ∀ p ∈ B ++ R, p.1 < d) : ∀ p ∈ R, p.1 < d := fun p hp => h p (List.mem_append_right _ hp)
theorem edP_b {st en x : Int} {k : Nat} {b b' adv : Bool} (h : st < en) : edP st en k b x adv = edP st en k b' x adv := by
  unfold edP
  rw [if_neg (Int.ne_of_lt h), if_neg (Int.ne_of_lt h)]
theorem View.done_b {V : View} {st en : Int} {ws : List Value} {b b' : Bool} (h : st < en) : V.done st en ws b = V.done st en ws b' := by
  unfold View.done
  rw [edP_b (x := V.p0) (b := b) (b' := b') h, edP_b (x := V.p1) (b := b) (b' := b') h, edP_b (x := V.p2) (b := b) (b' := b') h]
section
local macro_rules | `(tactic| k_mem) => `(tactic| exact List.mem_append_right _ (by assumption))
local macro_rules | `(tactic| lcg_sub) => `(tactic| first | exact sub_refl | exact sub_tail sub_refl | exact sub_tail (sub_tail sub_refl))
theorem done_T {w : World} {mean : ExcName → Option Value} {mg mb : Str → Option Value} {lo hi bx om e c : Addr} {B R : List (Addr × Obj)} {V : View} {st en more : Int} {t1 t2 t3 : Tok} {ws : List Value} {nc : Nat} {ah : Bool}
    (I : BufIs w lo hi bx om B V) (K : EditOk st en ws ah) (he : List.Mem (e, editO st en t1 t2 c ah) R) (hc : List.Mem (c, listOf ws.toArray nc) R) (hR : ∀ p ∈ R, Out lo hi p.1) (h0 : V.begv ≤ st + more) (h1 : en + more ≤ V.zv) (hcap : V.cap + V.room ≤ 90000) :
    SpecT w mean mg mb 20 506 [.ref bx, .ref e, .int more t3] (B ++ R) (fun k => ∀ q zs nz B', BufIs w lo hi bx om B' (V.done (st + more) (en + more) ws ah) → zs = (V.text.drop (st + more - 1).toNat).take ((en + more - 1).toNat - (st + more - 1).toNat) → (∀ p ∈ R, p.1 < q) → k (.ref q) ((q, listOf zs.toArray nz) :: (B' ++ R))) := by
  intro dp un gd cn cs a1 ccd cl outer A₀ base h₀ L m s Q E Bb F X N T hk hd hu hret
  obtain ⟨kle, ⟨ms, kints⟩, klen, kempty, kah⟩ := K
  have g5 := kints.length
  have g6 : ws.length = 0 → st < en := fun h => kempty (List.eq_nil_of_length_eq_zero h)
  refine wpAny_call ?_
  k_dflt (first | (refine' code_def (by k_asm) (by k_asm) (by k_asm) (by k_asm) (by k_asm) (by exact rfl) (by exact rfl) (by assumption) (by k_is) (by k_is) (by ktr_room) (by first | ((first | exact BindsTo.of_eq rfl | exact binds_K (by k_in) rfl (by k_is) rfl rfl rfl); done) | fail) (by exact locs rfl) ?_ (by exact rfl) (by exact rfl) (by exact rfl) (by decide); k_whole; intro g' L' h' FG' F' N' B' X' T'; (try dsimp only); (try k_lift B'); (try k_fold)) | (refine' code_defC (by k_asm) (by k_asm) (by k_asm) (by k_asm) (by k_asm) (by exact rfl) (by exact rfl) (by assumption) (by k_is) (by k_is) (by ktr_room) (by first | ((first | exact BindsTo.of_eq rfl | exact binds_K (by k_in) rfl (by k_is) rfl rfl rfl); done) | fail) (by exact rfl) (by first | ((decide +kernel); done) | fail) ?_ (by exact rfl) (by exact rfl) (by exact rfl); k_whole; intro g' L' h' tk' cells' FG' F' N' Y' B' X' T' l1; (try k_lt l1); k_cells Y'; (try simp only [List.cons_append, List.nil_append] at N'); (try dsimp only); (try k_lift B'); (try k_fold)))
  change (let ak : Around := _; wpAny _ ak _ _ _ _)
  intro ak
  repeat' (first | (k_unfold; (try dsimp only)) | (k_end; wrow_close) | ((with_reducible show PySem.wpAny _ _ (PySem.call (PySem.Value.ref _) _) _ _ _); (k_here; (with_reducible show wpAny _ _ (PySem.call (Value.ref 119) _) _ _ _); k_dflt (refine' use_A (by k_asm) (by first | (lcg_sub; done) | fail) (by k_asm) (by k_asm) (by k_asm) (by k_asm) (by first | ((first | exact rfl | assumption); done) | fail) (by ktr_room) (by ktr_units) (bidel_T (b := false) (by assumption) (by assumption) (by first | ((first | with_reducible assumption | omega); done) | fail) (by first | ((first | with_reducible assumption | omega); done) | fail) (by first | ((first | with_reducible assumption | omega); done) | fail)) ?_; k_whole); intro q' zs' Bc' I' hz' lq' h' tk' F' N'; (try k_sweep))) | ((with_reducible show PySem.wpAny _ _ (PySem.call (PySem.Value.ref _) _) _ _ _); (k_here; (with_reducible show wpAny _ _ (PySem.call (Value.ref 126) _) _ _ _); k_dflt (refine' use_A (by k_asm) (by first | (lcg_sub; done) | fail) (by k_asm) (by k_asm) (by k_asm) (by k_asm) (by first | ((first | exact rfl | assumption); done) | fail) (by ktr_room) (by ktr_units) (birep_T (b := false) (by assumption) (by assumption) (by assumption) (by first | ((first | with_reducible assumption | omega); done) | fail) (by first | ((first | with_reducible assumption | omega); done) | fail) (by first | ((first | with_reducible assumption | omega); done) | fail) (by first | ((first | with_reducible assumption | omega); done) | fail) (by first | ((first | with_reducible assumption | omega); done) | fail) (by first | ((first | with_reducible assumption | omega); done) | fail)) ?_; k_whole); intro q' zs' Bc' I' hz' lq' h' tk' F' N'; (try k_sweep))) | ((with_reducible show PySem.wpAny _ _ (PySem.call (PySem.Value.ref _) _) _ _ _); (k_here; (with_reducible show wpAny _ _ (PySem.call (Value.ref 112) _) _ _ _); k_dflt (refine' use_A (by k_asm) (by first | (lcg_sub; done) | fail) (by k_asm) (by k_asm) (by k_asm) (by k_asm) (by first | ((first | exact rfl | assumption); done) | fail) (by ktr_room) (by ktr_units) (biins_T (by assumption) (by assumption) (by assumption) (by first | ((first | with_reducible assumption | omega); done) | fail) (by first | ((first | with_reducible assumption | omega); done) | fail) (by first | ((first | with_reducible assumption | omega); done) | fail) (by first | ((first | with_reducible assumption | omega); done) | fail) (by first | ((first | with_reducible assumption | omega); done) | fail)) ?_; k_whole); intro Bc' I' h' tk' F' N'; (try k_sweep))) | with_reducible ((with_reducible show PySem.wpAny _ _ (PySem.call (PySem.Value.ref _) _) _ _ _); (k_here; (with_reducible show wpAny _ _ (PySem.call (Value.ref 487) _) _ _ _); k_dflt (refine' draw_A (by k_asm) (by first | (k_mem; done) | fail) (by first | (k_mem; done) | fail) (by assumption) (by assumption) (by first | ((first | with_reducible assumption | omega); done) | fail) (by first | ((first | with_reducible assumption | omega); done) | fail) (by first | ((first | with_reducible assumption | omega); done) | fail) (by first | (k_ne; done) | fail) (by k_asm) (by k_asm) (by k_asm) (by k_asm) (by first | ((first | exact rfl | assumption); done) | fail) (by first | (k_allIn; done) | fail) (by ktr_room) (by ktr_units) ?_; k_whole); intro r' t1' t2' h' tk' hr1' hr2' F' N'; (try k_sweep))) | with_reducible ((with_reducible show PySem.wpAny _ _ (PySem.call (PySem.Value.ref _) _) _ _ _); (k_here; (with_reducible show wpAny _ _ (PySem.call (Value.ref 104) _) _ _ _); k_dflt (refine' use_A (by k_asm) (by first | (lcg_sub; done) | fail) (by k_asm) (by k_asm) (by k_asm) (by k_asm) (by first | ((first | exact rfl | assumption); done) | fail) (by ktr_room) (by ktr_units) (putin_T (by assumption) (by assumption) (by assumption) (by assumption) (by assumption) (by assumption) (by first | ((first | with_reducible assumption | omega); done) | fail) (by first | ((first | with_reducible assumption | omega); done) | fail) (by first | ((first | with_reducible assumption | omega); done) | fail) (by first | ((first | with_reducible assumption | omega); done) | fail) (by first | ((first | with_reducible assumption | omega); done) | fail) (by first | ((first | with_reducible assumption | omega); done) | fail)) ?_; k_whole); intro S' K' O' I' hk' h' tk' F' N'; (try k_sweep))) | with_reducible ((with_reducible show PySem.wpAny _ _ (PySem.call (PySem.Value.ref _) _) _ _ _); (k_here; (with_reducible show wpAny _ _ (PySem.call (Value.ref 355) _) _ _ _); k_dflt (refine' use_A (by k_asm) (by first | (lcg_sub; done) | fail) (by k_asm) (by k_asm) (by k_asm) (by k_asm) (by first | ((first | exact rfl | assumption); done) | fail) (by ktr_room) (by ktr_units) (mark_T (by first | (apply_assumption; done) | fail) (by assumption)) ?_; k_whole); intro K' O' hk' h' tk' F' N'; (try k_sweep))) | with_reducible ((with_reducible show PySem.wpAny _ _ (PySem.compareOp PySem.CmpOp.Eq (PySem.Value.ref _) (PySem.Value.ref _)) _ _ _); (k_here; (with_reducible show wpAny _ _ (compareOp CmpOp.Eq (Value.ref _) (Value.ref _)) _ _ _); k_dflt (refine' my_eq_nil (by k_asm) (by first | (k_mem; done) | fail) (by first | (k_mem; done) | fail) (by assumption) (by first | ((first | ke_room | ktr_units); done) | fail) ?_))) | walk1 | (dsimp only) | (leave1; (try dsimp only)) | fail "no step")
  · (rename st = en => hse)
    refine' hret _ [] _ _ ?I1 ?z1 ?l1 _ _ ?f1 ?n1
    case f1 => k_asm
    case n1 => exact cb_drop (by k_asm) (by lcg_sub)
    case I1 => exact hse ▸ (by assumption)
    case z1 => rw [hse, Nat.sub_self, List.take_zero]
    case l1 => exact lt_right (by assumption)
  · have hw : ws = [] := List.eq_nil_of_length_eq_zero (by assumption)
    refine' hret _ _ _ _ ?I2 ?z2 ?l2 _ _ ?f2 ?n2
    case f2 => k_asm
    case n2 => k_asm
    case I2 => rw [hw, View.done_b (b := ah) (b' := false) (by omega)]; assumption
    case z2 => assumption
    case l2 => assumption
  · refine' hret _ _ _ _ ?I3 ?z3 ?l3 _ _ ?f3 ?n3
    case f3 => k_asm
    case n3 => k_asm
    case I3 => rw [View.done_b (b := ah) (b' := false) (by omega)]; assumption
    case z3 => assumption
    case l3 => assumption
end


theorem int_eq {x y : Int} {t : Tok} (h : x = y) : Value.int x t = Value.int y t := h ▸ rfl
theorem place_T {w : World} {mean : ExcName → Option Value} {mg mb : Str → Option Value} {e c : Addr} {Z : List (Addr × Obj)} {place st en more : Int} {adv : Bool} {t0 t1 t2 t3 : Tok} {ws : List Value} {nc : Nat} {ah : Bool} (he : (e, editO st en t1 t2 c ah) ∈ Z) (hc : (c, listOf ws.toArray nc) ∈ Z) (kle : st ≤ en) (klen : ws.length ≤ 3) :
    SpecT w mean mg mb 2 513 [.int place t0, .bool adv, .ref e, .int more t3] Z (fun k => ∀ t, k (.int (edP (st + more) (en + more) ws.length false place adv) t) Z) := by
  intro dp un gd cn cs a1 ccd cl outer A₀ base h₀ L m s Q E Bb F X N T hk hd hu hret
  refine wpAny_call ?_
  k_dflt (first | (refine' code_def (by k_asm) (by k_asm) (by k_asm) (by k_asm) (by k_asm) (by exact rfl) (by exact rfl) (by assumption) (by k_is) (by k_is) (by ktr_room) (by first | ((first | exact BindsTo.of_eq rfl | exact binds_K (by k_in) rfl (by k_is) rfl rfl rfl); done) | fail) (by exact locs rfl) ?_ (by exact rfl) (by exact rfl) (by exact rfl) (by decide); k_whole; intro g' L' h' FG' F' N' B' X' T'; (try dsimp only); (try k_lift B'); (try k_fold)) | (refine' code_defC (by k_asm) (by k_asm) (by k_asm) (by k_asm) (by k_asm) (by exact rfl) (by exact rfl) (by assumption) (by k_is) (by k_is) (by ktr_room) (by first | ((first | exact BindsTo.of_eq rfl | exact binds_K (by k_in) rfl (by k_is) rfl rfl rfl); done) | fail) (by exact rfl) (by first | ((decide +kernel); done) | fail) ?_ (by exact rfl) (by exact rfl) (by exact rfl); k_whole; intro g' L' h' tk' cells' FG' F' N' Y' B' X' T' l1; (try k_lt l1); k_cells Y'; (try simp only [List.cons_append, List.nil_append] at N'); (try dsimp only); (try k_lift B'); (try k_fold)))
  change (let ak : Around := _; wpAny _ ak _ _ _ _)
  intro ak
  repeat' (first | (k_unfold; (try dsimp only)) | (k_end; wrow_close) | with_reducible ((with_reducible show PySem.wpAny _ _ (PySem.call (PySem.Value.builtin _) _) _ _ _); (k_here; (with_reducible show wpAny _ _ (call (Value.builtin "len") [Value.ref _]) _ _ _); k_dflt (refine' my_len (by k_asm) (by first | (k_mem; done) | fail) (by first | ((first | with_reducible assumption | omega); done) | fail) ?_; k_whole))) | walk1 | (dsimp only) | (leave1; (try dsimp only)) | fail "no step")
  all_goals (refine int_eq (y := edP (st + more) (en + more) ws.length false place adv) ?_ ▸ hret _ _ _ ?_ ?_)
  all_goals first | k_asm | (unfold edP; grind) | exact cb_drop (by k_asm) (by lcg_sub)
structure OffS (I C D : Addr) (news : List (Addr × Obj)) : Prop where
  off : LCg.Off3 I C D news
theorem rep_ints_len {ws : List Value} {k : Nat} (h : IntsAre ws ([] ++ (List.replicate k [0]).flatten)) : ws.length = k := by
  rw [h.length]
  induction k with
  | zero => rfl
  | succ k ih => simp
theorem text_none {t0 t1 t2 t3 t4 t5 t6 : Tok} {room ge : Int} {cells : List Value} {n : Nat} (h : (cells.length : Int) = ge) : GapS.text ⟨t0, t1, t2, t3, room, t4, 0, t5, ge, t6, cells, n⟩ = [] := by
  unfold GapS.text
  show cells.take 0 ++ cells.drop ge.toNat = []
  rw [List.take_zero, List.nil_append, List.drop_of_length_le (by omega)]


abbrev stateO (V : View) (q pl : Addr) (t1 t2 t3 t4 : Tok) : Obj := { cls := .type "tuple", data := .seq #[.ref q, .int V.pt t1, .ref pl, .int V.begv t2, .int V.zv t3, .int V.tick t4] }
theorem state_T {w : World} {mean : ExcName → Option Value} {mg mb : Str → Option Value} {lo hi bx om : Addr} {B Z : List (Addr × Obj)} {V : View}
    (I : BufIs w lo hi bx om B V) (hB : ∀ p ∈ B, p ∈ Z) (hcap : V.cap ≤ 90000) :
    SpecT w mean mg mb 6 518 [.ref bx, .ref om] Z (fun k => ∀ t q pl t1 t2 t3 t4 t5 t6 t7 nq np, Hid (@LT.lt Nat _ q t ∧ @LT.lt Nat _ pl t ∧ AllLt t Z) → k (.ref t) ((t, stateO V q pl t1 t2 t3 t4) :: (q, listOf V.text.toArray nq) :: (pl, listOf #[.int V.p0 t5, .int V.p1 t6, .int V.p2 t7] np) :: Z)) := by
  intro dp un gd cn cs a1 ccd cl outer A₀ base h₀ L m s Q E Bb F X N T hk hd hu hret
  obtain ⟨a, S, nm, rfl, rfl, A, -⟩ := I
  obtain ⟨vt, vp, vb, vz, vk, v0, v1, v2, w0, w1, w2, vc, vr⟩ := V
  obtain ⟨G, e1, e2, e3, e4, e5, e6, e7, e8, e9, e10, e11, g3, e12⟩ := A
  dsimp only at e1 e2 e3 e4 e5 e6 e7 e8 e9 e10 e11 g3 e12 hcap
  subst e1 e2 e3 e4 e5 e6 e7 e8
  have Gg := G.g
  have f1 : (a.bx, instObj 464 a.bd) ∈ Z := hB _ (by dsimp only [bufL, bufT, gapL, marksL]; k_mem)
  have f2 : (a.bd, dictOf (bufD w.params a S) 20) ∈ Z := hB _ (by dsimp only [bufL, bufT, gapL, marksL]; k_mem)
  have f3 : (a.g.gx, instObj 213 a.g.gd) ∈ Z := hB _ (by dsimp only [bufL, bufT, gapL, marksL]; k_mem)
  have f4 : (a.g.gd, dictOf (gapD w.params a.g S.g) 4) ∈ Z := hB _ (by dsimp only [bufL, bufT, gapL, marksL]; k_mem)
  have f5 : (a.g.gc, listOf S.g.cells.toArray S.g.n) ∈ Z := hB _ (by dsimp only [bufL, bufT, gapL, marksL]; k_mem)
  have f6 : (om, marksO a nm) ∈ Z := hB _ (by dsimp only [bufL, bufT, gapL, marksL]; k_mem)
  have f7 : (a.k.x0, instObj 290 a.k.d0) ∈ Z := hB _ (by dsimp only [bufL, bufT, gapL, marksL]; k_mem)
  have f8 : (a.k.d0, dictOf (mkD w.params 0 S.k.m0) 4) ∈ Z := hB _ (by dsimp only [bufL, bufT, gapL, marksL]; k_mem)
  have f9 : (a.k.x1, instObj 290 a.k.d1) ∈ Z := hB _ (by dsimp only [bufL, bufT, gapL, marksL]; k_mem)
  have fa : (a.k.d1, dictOf (mkD w.params 1 S.k.m1) 4) ∈ Z := hB _ (by dsimp only [bufL, bufT, gapL, marksL]; k_mem)
  have fb : (a.k.x2, instObj 290 a.k.d2) ∈ Z := hB _ (by dsimp only [bufL, bufT, gapL, marksL]; k_mem)
  have fc : (a.k.d2, dictOf (mkD w.params 2 S.k.m2) 4) ∈ Z := hB _ (by dsimp only [bufL, bufT, gapL, marksL]; k_mem)
  clear hB
  refine wpAny_call ?_
  k_dflt (first | (refine' code_def (by k_asm) (by k_asm) (by k_asm) (by k_asm) (by k_asm) (by exact rfl) (by exact rfl) (by assumption) (by k_is) (by k_is) (by ktr_room) (by first | ((first | exact BindsTo.of_eq rfl | exact binds_K (by k_in) rfl (by k_is) rfl rfl rfl); done) | fail) (by exact locs rfl) ?_ (by exact rfl) (by exact rfl) (by exact rfl) (by decide); k_whole; intro g' L' h' FG' F' N' B' X' T'; (try dsimp only); (try k_lift B'); (try k_fold)) | (refine' code_defC (by k_asm) (by k_asm) (by k_asm) (by k_asm) (by k_asm) (by exact rfl) (by exact rfl) (by assumption) (by k_is) (by k_is) (by ktr_room) (by first | ((first | exact BindsTo.of_eq rfl | exact binds_K (by k_in) rfl (by k_is) rfl rfl rfl); done) | fail) (by exact rfl) (by first | ((decide +kernel); done) | fail) ?_ (by exact rfl) (by exact rfl) (by exact rfl); k_whole; intro g' L' h' tk' cells' FG' F' N' Y' B' X' T' l1; (try k_lt l1); k_cells Y'; (try simp only [List.cons_append, List.nil_append] at N'); (try dsimp only); (try k_lift B'); (try k_fold)))
  change (let ak : Around := _; wpAny _ ak _ _ _ _)
  intro ak
  repeat' (first | (k_unfold; (try dsimp only)) | (k_end; wrow_close) | with_reducible ((with_reducible show LCg.CompEnd ..); (k_here; k_dflt (refine' LCg.CompEnd.intro (by k_asm) (by k_asm) _ (by exact sub_refl) (by exact OffS.off (by assumption)) (by exact Or.inr ⟨_, by k_mem, rfl, _, rfl⟩) ?_))) | with_reducible ((with_reducible show LCg.CompRest ..); (with_unfolding_all (refine LCg.CompRest.succ ?_; intro v' I' oI' C' oC' D' m' h' tk' E' hv' hC' hx' F' N' off' ne'; (first | lcg_open hv' | (obtain ⟨t9', hv9'⟩ := hv'; subst hv9')); (have off2' := OffS.mk off'); (try simp only [LCg.Off3, and_true] at off')))) | with_reducible ((with_reducible show PySem.wpAny _ _ (PySem.call (PySem.Value.ref _) _) _ _ _); (k_here; (with_reducible show wpAny _ _ (PySem.call (Value.ref 147) _) _ _ _); k_dflt (refine' use_A (by k_asm) sub_refl (by k_asm) (by k_asm) (by k_asm) (by k_asm) (by first | ((first | exact rfl | assumption); done) | fail) (by ktr_room) (by ktr_units) (size_T (by assumption) (by first | (k_mem; done) | fail) (by first | (k_mem; done) | fail) (by first | (k_mem; done) | fail)) ?_; k_whole); intro t' h' tk' F' N'; (try k_sweep))) | with_reducible ((with_reducible show PySem.wpAny _ _ (PySem.call (PySem.Value.ref _) _) _ _ _); (k_here; (with_reducible show wpAny _ _ (PySem.call (Value.ref 161) _) _ _ _); k_dflt (refine' use_A (by k_asm) sub_refl (by k_asm) (by k_asm) (by k_asm) (by k_asm) (by first | ((first | exact rfl | assumption); done) | fail) (by ktr_room) (by ktr_units) (codes_T (by assumption) (by first | (k_mem; done) | fail) (by first | (k_mem; done) | fail) (by first | (k_mem; done) | fail) (by first | ((first | with_reducible assumption | omega); done) | fail) (by first | ((first | with_reducible assumption | omega); done) | fail) (by first | ((first | with_reducible assumption | omega); done) | fail)) ?_; k_whole); intro D' zs' hz' l1 h' tk' F' N'; (try k_lt l1); (try k_sweep))) | with_reducible ((with_reducible show PySem.wpAny _ _ (PySem.exec (PySem.Stmt.Assign (_ :: _) (PySem.Expr.ListComp _ _ _ _) _) _) _ _ _); (k_here; k_dflt (refine LCg.Assign_ListComp_U (F₀ := by k_asm) (by rfl) (by with_unfolding_all rfl) (by with_unfolding_all rfl) (by decide) (by rfl) (by decide) (by rfl) (by rfl) (by rfl) ?_))) | walk1 | (dsimp only) | (leave1; (try dsimp only)) | fail "no step")
  (rename Hid (@LT.lt Nat _ _ _ ∧ _) => l8)
  (rename _ = List.take _ _ => hz)
  have hz2 := hz
  rw [show ((1 : Int) - 1).toNat = 0 from rfl, List.drop_zero, List.take_of_length_le (by omega)] at hz2
  subst hz2
  exact hret _ _ _ _ _ _ _ _ _ _ _ _ l8 _ _ (by k_asm) (by k_asm)


theorem sep0 {p : Params} {a : BufA} {kr : Tok} {o : Obj} {R : List (Addr × Obj)} (b1 : @LT.lt Nat _ a.bd a.bx) (b2 : @LT.lt Nat _ a.bx a.g.gd) (b3 : @LT.lt Nat _ a.g.gd a.g.gx) (b4 : @LT.lt Nat _ a.g.gx a.g.gc) (b5 : @LT.lt Nat _ a.g.gc a.k.md) (c1 : @LT.lt Nat _ a.k.md a.k.mx) (c2 : @LT.lt Nat _ a.k.mx a.k.rw) (b6 : @LT.lt Nat _ a.k.rw a.ls)
    (h : ∀ e ∈ R, OffL e.1 [a.bx, a.bd, a.ls, a.g.gx, a.g.gd, a.g.gc, a.k.mx, a.k.md, a.k.rw]) : BufSep a [(a.k.mx, instObj 358 a.k.md), (a.k.md, dictOf (rowsD p a.k kr) 1), (a.k.rw, o)] R := by
  have l_0_2 := Nat.lt_trans b1 b2
  have l_0_3 := Nat.lt_trans l_0_2 b3
  have l_0_4 := Nat.lt_trans l_0_3 b4
  have l_0_5 := Nat.lt_trans l_0_4 b5
  have l_0_6 := Nat.lt_trans l_0_5 c1
  have l_0_7 := Nat.lt_trans l_0_6 c2
  have l_0_8 := Nat.lt_trans l_0_7 b6
  have l_1_3 := Nat.lt_trans b2 b3
  have l_1_4 := Nat.lt_trans l_1_3 b4
  have l_1_5 := Nat.lt_trans l_1_4 b5
  have l_1_6 := Nat.lt_trans l_1_5 c1
  have l_1_7 := Nat.lt_trans l_1_6 c2
  have l_1_8 := Nat.lt_trans l_1_7 b6
  have l_2_4 := Nat.lt_trans b3 b4
  have l_2_5 := Nat.lt_trans l_2_4 b5
  have l_2_6 := Nat.lt_trans l_2_5 c1
  have l_2_7 := Nat.lt_trans l_2_6 c2
  have l_2_8 := Nat.lt_trans l_2_7 b6
  have l_3_5 := Nat.lt_trans b4 b5
  have l_3_6 := Nat.lt_trans l_3_5 c1
  have l_3_7 := Nat.lt_trans l_3_6 c2
  have l_3_8 := Nat.lt_trans l_3_7 b6
  have l_4_6 := Nat.lt_trans b5 c1
  have l_4_7 := Nat.lt_trans l_4_6 c2
  have l_4_8 := Nat.lt_trans l_4_7 b6
  have l_5_7 := Nat.lt_trans c1 c2
  have l_5_8 := Nat.lt_trans l_5_7 b6
  have l_6_8 := Nat.lt_trans c2 b6
  refine ⟨⟨(Nat.ne_of_gt b1), (Nat.ne_of_lt l_1_8), (Nat.ne_of_lt l_1_3), (Nat.ne_of_lt b2), (Nat.ne_of_lt l_1_4), trivial⟩, ⟨(Nat.ne_of_lt l_0_8), (Nat.ne_of_lt l_0_3), (Nat.ne_of_lt l_0_2), (Nat.ne_of_lt l_0_4), trivial⟩, ⟨(Nat.ne_of_gt l_3_8), (Nat.ne_of_gt l_2_8), (Nat.ne_of_gt l_4_8), trivial⟩, ⟨(Nat.ne_of_gt b3), (Nat.ne_of_lt b4), trivial⟩, ⟨(Nat.ne_of_lt l_2_4), trivial⟩, ?_, fun e he => ?_, fun e he => ?_⟩
  · exact List.forall_mem_cons.mpr ⟨⟨(Nat.ne_of_gt l_1_6), (Nat.ne_of_gt l_0_6), (Nat.ne_of_lt l_6_8), (Nat.ne_of_gt l_3_6), (Nat.ne_of_gt l_2_6), (Nat.ne_of_gt l_4_6), trivial⟩, List.forall_mem_cons.mpr ⟨⟨(Nat.ne_of_gt l_1_5), (Nat.ne_of_gt l_0_5), (Nat.ne_of_lt l_5_8), (Nat.ne_of_gt l_3_5), (Nat.ne_of_gt l_2_5), (Nat.ne_of_gt b5), trivial⟩, List.forall_mem_cons.mpr ⟨⟨(Nat.ne_of_gt l_1_7), (Nat.ne_of_gt l_0_7), (Nat.ne_of_lt b6), (Nat.ne_of_gt l_3_7), (Nat.ne_of_gt l_2_7), (Nat.ne_of_gt l_4_7), trivial⟩, List.forall_mem_nil _⟩⟩⟩
  · obtain ⟨q1, q2, q3, q4, q5, q6, -⟩ := h e he
    exact ⟨q1, q2, q3, q4, q5, q6, trivial⟩
  · obtain ⟨-, -, -, -, -, -, q7, q8, q9, -⟩ := h e he
    exact List.forall_mem_cons.mpr ⟨q7, List.forall_mem_cons.mpr ⟨q8, List.forall_mem_cons.mpr ⟨q9, List.forall_mem_nil _⟩⟩⟩
/-- order of a new buffer's objects -/
structure BufOrd (a : BufA) : Prop where
  b1 : @LT.lt Nat _ a.bd a.bx
  b2 : @LT.lt Nat _ a.bx a.g.gd
  b3 : @LT.lt Nat _ a.g.gd a.g.gx
  b4 : @LT.lt Nat _ a.g.gx a.g.gc
  b5 : @LT.lt Nat _ a.g.gc a.k.md
  c1 : @LT.lt Nat _ a.k.md a.k.mx
  c2 : @LT.lt Nat _ a.k.mx a.k.rw
  b6 : @LT.lt Nat _ a.k.rw a.ls
abbrev nine (a : BufA) : List Addr := [a.bx, a.bd, a.ls, a.g.gx, a.g.gd, a.g.gc, a.k.mx, a.k.md, a.k.rw]
/-- what lies below a new buffer lies off it -/
theorem BufOrd.below {a : BufA} (O : BufOrd a) {x : Addr} (h : @LT.lt Nat _ x a.bd) : OffL x (nine a) := by
  obtain ⟨b1, b2, b3, b4, b5, c1, c2, b6⟩ := O
  have h1 := Nat.lt_trans h b1
  have h2 := Nat.lt_trans h1 b2
  have h3 := Nat.lt_trans h2 b3
  have h4 := Nat.lt_trans h3 b4
  have h5 := Nat.lt_trans h4 b5
  have h6 := Nat.lt_trans h5 c1
  have h7 := Nat.lt_trans h6 c2
  have h8 := Nat.lt_trans h7 b6
  exact ⟨Nat.ne_of_lt h1, Nat.ne_of_lt h, Nat.ne_of_lt h8, Nat.ne_of_lt h3, Nat.ne_of_lt h2, Nat.ne_of_lt h4, Nat.ne_of_lt h6, Nat.ne_of_lt h5, Nat.ne_of_lt h7, trivial⟩
theorem BufOrd.above {a : BufA} (O : BufOrd a) {x : Addr} (h : @LT.lt Nat _ a.ls x) : OffL x (nine a) := by
  obtain ⟨b1, b2, b3, b4, b5, c1, c2, b6⟩ := O
  have h8 := Nat.lt_trans b6 h
  have h7 := Nat.lt_trans c2 h8
  have h6 := Nat.lt_trans c1 h7
  have h5 := Nat.lt_trans b5 h6
  have h4 := Nat.lt_trans b4 h5
  have h3 := Nat.lt_trans b3 h4
  have h2 := Nat.lt_trans b2 h3
  have h1 := Nat.lt_trans b1 h2
  exact ⟨Nat.ne_of_gt h2, Nat.ne_of_gt h1, Nat.ne_of_gt h, Nat.ne_of_gt h4, Nat.ne_of_gt h3, Nat.ne_of_gt h5, Nat.ne_of_gt h7, Nat.ne_of_gt h6, Nat.ne_of_gt h8, trivial⟩
/-- a new buffer but for its (still empty) rows, and what else stands -/
def bufY (p : Params) (a : BufA) (S : BufS) (R : List (Addr × Obj)) : List (Addr × Obj) := bufC p a S [(a.k.mx, instObj 358 a.k.md), (a.k.md, dictOf (rowsD p a.k S.k.kr) 1)] R
section
variable {p : Params} {a : BufA} {S : BufS} {R : List (Addr × Obj)}
theorem bY_bx : (a.bx, instObj 464 a.bd) ∈ bufY p a S R := bufC_bx
theorem bY_bd : (a.bd, dictOf (bufD p a S) 20) ∈ bufY p a S R := bufC_bd
theorem bY_gx : (a.g.gx, instObj 213 a.g.gd) ∈ bufY p a S R := bufC_gx
theorem bY_gd : (a.g.gd, dictOf (gapD p a.g S.g) 4) ∈ bufY p a S R := bufC_gd
theorem bY_gc : (a.g.gc, listOf S.g.cells.toArray S.g.n) ∈ bufY p a S R := bufC_gc
theorem bY_mx : (a.k.mx, instObj 358 a.k.md) ∈ bufY p a S R := bufC_K (.head _)
theorem bY_md : (a.k.md, dictOf (rowsD p a.k S.k.kr) 1) ∈ bufY p a S R := bufC_K (.tail _ (.head _))
theorem bY_ls : (a.ls, listOf #[] S.nls) ∈ bufY p a S R := bufC_ls
theorem bY_R {e : Addr × Obj} (h : e ∈ R) : e ∈ bufY p a S R := bufC_R h
theorem BufSep.less {K K' : List (Addr × Obj)} (O : BufSep a K R) (h : ∀ e ∈ K', e ∈ K) : BufSep a K' R := ⟨O.o1, O.o2, O.o3, O.o4, O.o5, fun e he => O.offK e (h e he), O.offR, fun p hp e he => O.kr p hp e (h e he)⟩
/-- what is off a new buffer's rows -/
theorem bufY_rw (O : BufOrd a) (h : ∀ e ∈ R, @Ne Nat e.1 a.k.rw) : ∀ e ∈ bufY p a S R, @Ne Nat e.1 a.k.rw := by
  obtain ⟨b1, b2, b3, b4, b5, c1, c2, b6⟩ := O
  have h6 := Nat.lt_trans c1 c2
  have h5 := Nat.lt_trans b5 h6
  have h4 := Nat.lt_trans b4 h5
  have h3 := Nat.lt_trans b3 h4
  have h2 := Nat.lt_trans b2 h3
  have h1 := Nat.lt_trans b1 h2
  exact List.forall_mem_cons.mpr ⟨Nat.ne_of_lt h2, List.forall_mem_cons.mpr ⟨Nat.ne_of_lt h1, List.forall_mem_cons.mpr ⟨Nat.ne_of_gt b6, List.forall_mem_cons.mpr ⟨Nat.ne_of_lt h4, List.forall_mem_cons.mpr ⟨Nat.ne_of_lt h3, List.forall_mem_cons.mpr ⟨Nat.ne_of_lt h5, List.forall_mem_cons.mpr ⟨Nat.ne_of_lt c2, List.forall_mem_cons.mpr ⟨Nat.ne_of_lt h6, h⟩⟩⟩⟩⟩⟩⟩⟩
end
theorem BufOrd.belowZ {a : BufA} {R : List (Addr × Obj)} (O : BufOrd a) (b0 : ∀ p ∈ R, p.1 < a.bd) : ∀ e ∈ R, OffL e.1 (nine a) := fun e he => O.below (b0 e he)
theorem bufY_rw0 {p : Params} {a : BufA} {S : BufS} {R : List (Addr × Obj)} (O : BufOrd a) (b0 : ∀ p ∈ R, p.1 < a.bd) : ∀ e ∈ bufY p a S R, @Ne Nat e.1 a.k.rw := bufY_rw O fun e he => (O.below (b0 e he)).2.2.2.2.2.2.2.2.1
theorem ins0_T {w : World} {mean : ExcName → Option Value} {mg mb : Str → Option Value} {a : BufA} {S : BufS} {o : Obj} {R : List (Addr × Obj)} {place : Int} {t1 : Tok} {v : Addr} {ws : List Value} {n2 : Nat}
    (O : BufOrd a) (off : ∀ e ∈ R, OffL e.1 (nine a)) (G : S.g.Good) (ho : o.IsDictOf (PySem.intKind PySem.Challenge.pw_np0066_01 w) []) (lo : (a.k.rw == sysModules) = false) (hv : List.Mem (v, listOf ws.toArray n2) R)
    (h0 : S.begv ≤ place) (h9 : 1 ≤ place) (h1 : place ≤ S.zv) (h8 : place ≤ S.g.text.length + 1) (hw : 0 < ws.length) (hc : S.g.cells.length + ws.length + S.g.room ≤ 100000) :
    SpecT w mean mg mb 7 112 [.ref a.bx, .int place t1, .ref v] ((a.k.rw, o) :: bufY w.params a S R) (fun k => ∀ S', Inserted0 S S' place ws → k .none ((a.k.rw, o) :: bufY w.params a S' R)) := by
  refine toT (post := fun r n => r = .none ∧ ∃ S', n = (a.k.rw, o) :: bufY w.params a S' R ∧ Inserted0 S S' place ws) (spec_conv (insat3_spec (t1 := t1) (n2 := n2) (R := R) (kr := S.k.kr) (Pk := fun K' => K' = [(a.k.mx, instObj 358 a.k.md), (a.k.md, dictOf (rowsD w.params a.k S.k.kr) 1), (a.k.rw, o)]) G (sep0 O.b1 O.b2 O.b3 O.b4 O.b5 O.c1 O.c2 O.b6 off) (.head _) (.tail _ (.head _)) hv (fun t t' rest _ => spec_conv (inserted0_spec (kr := S.k.kr) (R := rest) ho lo) (fun _ h => h) ?_) h9 h0 h1 h8 hw hc) ?_ ?_) ?_
  · rintro v n ⟨rfl, rfl⟩
    exact ⟨_, ⟨rfl, _, rfl, rfl, rfl⟩, fun _ h => h⟩
  · exact bufC_all (sub_cons (.tail _ bY_mx) (sub_cons (.tail _ bY_md) (sub_cons (.head _) sub_nil))) (fun e h => .tail _ (bY_R h)) (fun e h => .tail _ (bufC_own e h))
  · rintro r n ⟨rfl, S', K', rfl, -, I, rfl⟩
    have ek : S'.k.kr = S.k.kr := by rw [I.k]
    refine ⟨_, ⟨rfl, S', rfl, ⟨I.good, I.text, ?_, I.begv, by have := I.zv; omega, I.tick, I.len, I.room⟩⟩, ?_⟩
    · rw [I.pt]
      unfold insP
      split <;> split <;> first | omega | (simp at *; omega) | rfl
    · unfold bufY
      rw [ek]
      exact sub_cons (bufC_K (.tail _ (.tail _ (.head _)))) (bufC_all (sub_cons (bufC_K (.head _)) (sub_cons (bufC_K (.tail _ (.head _))) sub_nil)) (fun e h => bufC_R h) bufC_own)
  · rintro k h v n ⟨rfl, S', rfl, I⟩
    exact h S' I
abbrev ktOf (l : List Tok) : Nat → Tok := fun i => l.getD i 0


local macro_rules | `(tactic| k_allIn) => `(tactic| (refine' Keep.tail ?h; (case h => (refine' off_lt ?h1 ?k1; (case h1 => exact LtR.lt (by assumption)); (case k1 => (simp only [List.forall_mem_cons]; refine' ⟨?_, ?_, ?_, ?_, ?_, ?_, ?_, ?_, ?_, ?_⟩ <;> first | omega | exact List.forall_mem_nil _))))))
def Stop (p : Prop) : Prop := p
theorem Stop.out {p : Prop} (h : Stop p) : p := h
theorem Stop.mk {p : Prop} (h : p) : Stop p := h
theorem text_of0 {T T' ws : List Value} {i j : Nat} (h : T = []) (e : T' = T.take i ++ ws ++ T.drop j) : T' = ws := by
  rw [e, h]; simp
theorem my_len3 {prog : Program} {w : World} {A : Around} {E : Value → Shared → Prop} {s : Shared} {h₀ : Heap} {L l : Addr} {news : List (Addr × Obj)} {x y z : Value} {n : Nat} {Q : Value → Shared → Prop} (N : News h₀ L s.heap news) (hm : (l, listOf #[x, y, z] n) ∈ news)
    (h : Q (.int 3 (s.toks + 1)) { s with toks := s.toks + 1 + 1 }) : wpAny (model prog w) A (call (.builtin "len") [.ref l]) Q E s := my_len (vs := [x, y, z]) N hm (by simp only [List.length_cons, List.length_nil]; omega) h
theorem my_titemT {prog : Program} {w : World} {A : Around} {E : Value → Shared → Prop} {s : Shared} {h₀ : Heap} {L t : Addr} {news : List (Addr × Obj)} {its : Array Value} {n j : Nat} {value slice : PySem.Expr} {k : Int} {u : Tok} {x : Value} {Q : Value → Shared → Prop}
    (N : News h₀ L s.heap news) (hm : (t, ({ cls := .type "tuple", data := .seq its n } : Obj)) ∈ news) (hlo : -(2 ^ 63) ≤ k) (hhi : k < 2 ^ 63) (hj : seqIndex? k its.size = some j) (hx : its[j]? = some x) (h : Q x s)
    (hs : subscripted slice false (.ref t) (.int k u) = operate [.ref t, .int k u] (getItem (.ref t) (.int k u))) :
    wpAny (model prog w) A (subscriptTail value slice (.ref t) (.int k u)) Q E s :=
  have ht := News.isTup N hm
  tail_any ht.typeIs slot_tuple_getitem.lookup (getItem_tuple ht hlo hhi hj hx h) hs
theorem my_item {prog : Program} {w : World} {A : Around} {E : Value → Shared → Prop} {s : Shared} {h₀ : Heap} {L l : Addr} {news : List (Addr × Obj)} {vs : List Value} {n : Nat} {value slice : PySem.Expr} {k : Int} {u : Tok} {v : Value} {Q : Value → Shared → Prop}
    (N : News h₀ L s.heap news) (hm : (l, listOf vs.toArray n) ∈ news) (h0 : 0 ≤ k) (hhi : k < 2 ^ 63) (hx : vs[k.toNat]? = some v) (h : Q v s)
    (hs : subscripted slice false (.ref l) (.int k u) = operate [.ref l, .int k u] (getItem (.ref l) (.int k u))) :
    wpAny (model prog w) A (subscriptTail value slice (.ref l) (.int k u)) Q E s :=
  have hl : s.heap.IsList l vs.toArray := PySem.IsL.isList (n := n) (N _ hm).1
  tail_any hl.typeIs slot_list_getitem.lookup (wpAny_getItem_list hl h0 hhi (by simpa using hx) h) hs
/-- the ledger folded: one dictionary is written to, the rest becomes a letter -/
theorem fold_news {h₀ h : Heap} {L x d : Addr} {ox od : Obj} {all Y : List (Addr × Obj)} {P : Prop} (N : News h₀ L h all) (sx : (x, ox) ∈ all) (sd : (d, od) ∈ all) (sY : ∀ p ∈ Y, p ∈ all) (hY : ∀ p ∈ Y, p.1 ≠ d)
    (k : ∀ Y', Y' = Y → (∀ p ∈ Y', p.1 ≠ d) → News h₀ L h ((x, ox) :: (d, od) :: Y') → P) : P := k Y rfl hY (cb_drop N (sub_cons sx (sub_cons sd sY)))
theorem ne_cons {e : Addr × Obj} {l : List (Addr × Obj)} {d : Addr} (h : @Ne Nat e.1 d) (t : ∀ p ∈ l, p.1 ≠ d) : ∀ p ∈ e :: l, p.1 ≠ d := List.forall_mem_cons.mpr ⟨h, t⟩
/-- a buffer that is just made -/
structure Fresh (w : World) (a : BufA) (S : BufS) (o : Obj) (Z : List (Addr × Obj)) (rm : Int) : Prop where
  good : S.g.Good
  text : S.g.text = []
  pt : S.pt = 1
  begv : S.begv = 1
  zv : S.zv = 1
  tick : S.tick = 1
  room : S.g.room = rm
  len : (S.g.cells.length : Int) = rm
  o : o.IsDictOf (PySem.intKind PySem.Challenge.pw_np0066_01 w) []
  lo : (a.k.rw == sysModules) = false
  b0 : ∀ p ∈ Z, p.1 < a.bd
  ord : BufOrd a
section
theorem new_T {w : World} {mean : ExcName → Option Value} {mg mb : Str → Option Value} {Z : List (Addr × Obj)} {room : Int} {t1 t2 t3 : Tok} (hr0 : 0 ≤ room) (hr1 : room ≤ 3) :
    SpecT w mean mg mb 6 464 [.int 1 t1, .str (Str.ofString "one") t2, .int room t3] Z (fun k => ∀ a S o, Fresh w a S o Z room → k (.ref a.bx) ((a.k.rw, o) :: bufY w.params a S Z)) := by
  intro dp un gd cn cs a1 ccd cl outer A₀ base h₀ L m s Q E Bb F X N T hk hd hu hret
  k_dflt (refine' call_cls ?k1 ?k2 ?k3 ?k4 ?k5 ?k6 ?_)
  (case k1 => k_asm); (case k2 => k_asm); (case k3 => k_asm); (case k4 => k_is); (case k5 => k_is); (case k6 => k_is); k_whole; intro x' d' h' F' N' lz l2; (have l1 := hid (allLt_of lz)); (try k_lt2 l2); (try k_sweep)
  k_dflt (first | (refine' code_def (by k_asm) (by k_asm) (by k_asm) (by k_asm) (by k_asm) (by exact rfl) (by exact rfl) (by assumption) (by k_is) (by k_is) (by ktr_room) (by first | ((first | exact BindsTo.of_eq rfl | exact binds_K (by k_in) rfl (by k_is) rfl rfl rfl); done) | fail) (by exact locs rfl) ?_ (by exact rfl) (by exact rfl) (by exact rfl) (by decide); k_whole; intro g' L' h' FG' F' N' B' X' T'; (try dsimp only); (try k_lift B'); (try k_fold)) | (refine' code_defC (by k_asm) (by k_asm) (by k_asm) (by k_asm) (by k_asm) (by exact rfl) (by exact rfl) (by assumption) (by k_is) (by k_is) (by ktr_room) (by first | ((first | exact BindsTo.of_eq rfl | exact binds_K (by k_in) rfl (by k_is) rfl rfl rfl); done) | fail) (by exact rfl) (by first | ((decide +kernel); done) | fail) ?_ (by exact rfl) (by exact rfl) (by exact rfl); k_whole; intro g' L' h' tk' cells' FG' F' N' Y' B' X' T' l1; (try k_lt l1); k_cells Y'; (try simp only [List.cons_append, List.nil_append] at N'); (try dsimp only); (try k_lift B'); (try k_fold)))
  repeat' (first | (k_unfold; (try dsimp only)) | (k_end; wrow_close) | ((with_reducible show PySem.wpAny _ _ (PySem.execs (_ :: _) _) _ _ _); (k_here; (with_reducible show wpAny _ _ (PySem.execs (PySem.Stmt.Assign [PySem.Expr.Attribute _ (Str.ofString "point") _] _ _ :: _) _) _ _ _); refine Stop.out ?_)) | with_reducible ((with_reducible show PySem.wpAny _ _ (PySem.setAttr (PySem.Value.ref _) _ _) _ _ _); (k_here; k_dflt (refine' set_any (by k_asm) (by k_asm) (by k_asm) (by first | (k_inst; done) | fail) (by exact rfl) (by k_is) (by k_is) (by k_is) (by k_is) (by first | (k_get; done) | fail) (by first | (((intro t'; k_put)); done) | fail) (by first | (((intro t'; k_upd)); done) | fail) (by first | (((intro t'; exact Nat.le_of_ble_eq_true rfl)); done) | fail) ?_; k_whole); intro h' t' tk' F' N'; (try dsimp only at N'); (try k_sweep))) | walk1 | (dsimp only) | (leave1; (try dsimp only)) | fail "no step")
  refine Stop.mk ?_
  (rename News _ _ _ _ => NN)
  refine' fold_news (Y := _ :: _ :: _ :: _ :: _ :: _ :: Z) NN (.tail _ (.tail _ (.tail _ (.tail _ (.tail _ (.tail _ (.tail _ (.tail _ (.tail _ (.tail _ (.head _))))))))))) (.tail _ (.tail _ (.tail _ (.tail _ (.tail _ (.tail _ (.tail _ (.tail _ (.tail _ (.tail _ (.tail _ (.head _)))))))))))) (sub_cons (.head _) (sub_cons (.tail _ (.head _)) (sub_cons (.tail _ (.tail _ (.head _))) (sub_cons (.tail _ (.tail _ (.tail _ (.head _)))) (sub_cons (.tail _ (.tail _ (.tail _ (.tail _ (.tail _ (.tail _ (.tail _ (.head _)))))))) (sub_cons (.tail _ (.tail _ (.tail _ (.tail _ (.tail _ (.tail _ (.tail _ (.tail _ (.head _))))))))) fun p hp => .tail _ (.tail _ (.tail _ (.tail _ (.tail _ (.tail _ (.tail _ (.tail _ (.tail _ (.tail _ (.tail _ (.tail _ hp))))))))))))))))) (ne_cons (by k_ne) (ne_cons (by k_ne) (ne_cons (by k_ne) (ne_cons (by k_ne) (ne_cons (by k_ne) (ne_cons (by k_ne) (fun p hp => Nat.ne_of_lt (lz p hp)))))))) (fun Y eY hY NY => ?_)
  clear NN
  refine wpAny_execs_cons ?_
  repeat' (first | (k_unfold; (try dsimp only)) | (k_end; wrow_close) | ((with_reducible show PySem.wpAny _ _ (PySem.execs (_ :: _) _) _ _ _); (k_here; (with_reducible show wpAny _ _ (PySem.execs (PySem.Stmt.Assign [PySem.Expr.Attribute _ (Str.ofString "point") _] _ _ :: _) _) _ _ _); refine Stop.out ?_)) | with_reducible ((with_reducible show PySem.wpAny _ _ (PySem.setAttr (PySem.Value.ref _) _ _) _ _ _); (k_here; k_dflt (refine' set_any (by k_asm) (by k_asm) (by k_asm) (by first | (k_inst; done) | fail) (by exact rfl) (by k_is) (by k_is) (by k_is) (by k_is) (by first | (k_get; done) | fail) (by first | (((intro t'; k_put)); done) | fail) (by first | (((intro t'; k_upd)); done) | fail) (by first | (((intro t'; exact Nat.le_of_ble_eq_true rfl)); done) | fail) ?_; k_whole); intro h' t' tk' F' N'; (try dsimp only at N'); (try k_sweep))) | walk1 | (dsimp only) | (leave1; (try dsimp only)) | fail "no step")
  (rename Hid (_ ∧ _ ∧ AllLt _ Y) => lq)
  subst eY
  dsimp only [AllLt] at lq
  have hlen' := rep_ints_len (by assumption)
  refine' hret ⟨_, _, _, ⟨_, _, _⟩, ⟨_, _, _, 0, 0, 0, 0, 0, 0⟩⟩ ⟨ktOf [_, _, _, _, _, _, _, _, _, _, _, _, _, _, _, _, _, _, _, _], _, _, _, _, _, _, _, _, _, _, _, _, _, ⟨_, _, _, _, _, _, _, _, _, _, _, _⟩, ⟨_, listOf #[] 0, ⟨0, 0, 0, 0, 0, false, .none, 0, 0⟩, ⟨0, 0, 0, 0, 0, false, .none, 0, 0⟩, ⟨0, 0, 0, 0, 0, false, .none, 0, 0⟩⟩⟩ _ ?fr _ _ ?f1 ?n1
  (case f1 => k_asm)
  (case n1 => refine' cb_drop ?N1 ?s1; (case N1 => k_asm); (case s1 => dsimp only [bufY, bufC, bufD, gapL, gapD, rowsD, List.cons_append, List.nil_append]; refine' sub_cons ?rw1 ?rest1; (case rest1 => lcg_sub); (case rw1 => k_mem)))
  (case fr => refine' ⟨⟨?_, ?_, ?_, ?_, ?_⟩, text_none ?_, rfl, rfl, rfl, rfl, rfl, ?_, by assumption, by assumption, lz, ⟨?_, ?_, ?_, ?_, ?_, ?_, ?_, ?_⟩⟩ <;> ((try dsimp only); (first | (with_reducible assumption) | walk_at "HL" | omega)))
end


local macro_rules | `(tactic| k_mem) => `(tactic| with_reducible assumption)
local macro_rules | `(tactic| k_mem) => `(tactic| first | exact bY_bx | exact bY_bd | exact bY_gx | exact bY_gd | exact bY_gc | exact bY_mx | exact bY_md | exact bY_R (by ktr_member))
abbrev mkNew (k1 k2 k3 k4 tn : Tok) (adv : Bool) (buf : Value) (pos : Int) (tp : Tok) : MkS := ⟨k1, k2, k3, k4, tn, adv, buf, pos, tp⟩
section
variable {prog : Program} {w : World} {A : Around} {E : Value → Shared → Prop} {s : Shared} {h₀ : Heap} {L : Addr} {m : Str → Option Value} {news : List (Addr × Obj)} {a b : Int} {t u : Tok} {Q : Value → Shared → Prop}
theorem my_maxG (hh : A.handled = none) (F : Fr h₀ L s.heap m) (N : News h₀ L s.heap news) (h : ∀ h' tk t', Fr h₀ L h' m → News h₀ L h' news → Q (.int (max a b) t') { s with heap := h', toks := tk }) :
    wpAny (model prog w) A (call (.builtin "max") [.int a t, .int b u]) Q E s :=
  max_two_N hh F N fun h' tk F' N' => by
    have q := h h' tk (if b > a then u else t) F' N'
    by_cases c : b > a
    · rw [if_pos c] at q ⊢; rw [if_pos c]; rwa [show max a b = b by omega] at q
    · rw [if_neg c] at q ⊢; rw [if_neg c]; rwa [show max a b = a by omega] at q
theorem my_minG (hh : A.handled = none) (F : Fr h₀ L s.heap m) (N : News h₀ L s.heap news) (h : ∀ h' tk t', Fr h₀ L h' m → News h₀ L h' news → Q (.int (min a b) t') { s with heap := h', toks := tk }) :
    wpAny (model prog w) A (call (.builtin "min") [.int a t, .int b u]) Q E s :=
  min_two_N hh F N fun h' tk F' N' => by
    have q := h h' tk (if b < a then u else t) F' N'
    by_cases c : b < a
    · rw [if_pos c] at q ⊢; rw [if_pos c]; rwa [show min a b = b by omega] at q
    · rw [if_neg c] at q ⊢; rw [if_neg c]; rwa [show min a b = a by omega] at q
end
theorem unr_keep {h₀ : Heap} {L I : Addr} {it : Obj} {rest : (Str → Option Value) → List (Addr × Obj) → Prop} {s₁ : Shared} {h' : Heap} {tk : Nat} {m' : Str → Option Value} {all news' : List (Addr × Obj)} (F : Fr h₀ L h' m') (N : News h₀ L h' all)
    (hI : (I, it) ∈ all) (K : Keep [I] all news') (r : rest m' news') : UnrEnd h₀ L s₁ I it rest { s₁ with heap := h', toks := tk } :=
  UnrEnd.intro F N news' (sub_cons hI K.sub) (fun p hp => (K.off p hp).1) r
theorem offl3 {x d r : Addr} {R : List (Addr × Obj)} (h1 : AllLt x R) (h2 : AllLt d R) (h3 : ∀ e ∈ R, @Ne Nat e.1 r) : ∀ p ∈ R, OffL p.1 [x, d, r] := fun p hp => ⟨Nat.ne_of_lt (allLt_lt h1 p hp), Nat.ne_of_lt (allLt_lt h2 p hp), h3 p hp, trivial⟩
theorem use_K3 {w : World} {mean : ExcName → Option Value} {mg mb : Str → Option Value} {d : Nat} {f : Addr} {vs : List Value} {e1 e2 e3 : Addr × Obj} {Y all : List (Addr × Obj)} {as : List Addr} {PT : (Value → List (Addr × Obj) → Prop) → Prop}
    {dp un : Nat} {gd : Option (List Code)} {cn : Str} {cs : Scope} {a : Addr} {ccd : Value} {cl : List (Str × Addr)} {outer : List Env} {A₀ : Around} {base h₀ : Heap} {L : Addr} {m : Str → Option Value} {s : Shared} {Q E : Value → Shared → Prop}
    (N : News h₀ L s.heap all) (s1 : e1 ∈ all) (s2 : e2 ∈ all) (s3 : e3 ∈ all) (K : Keep as all Y) (B : Below A₀ base outer h₀) (F : Fr h₀ L s.heap m) (X : (heapK w.params).In h₀) (T : Top view LO mean mg mb h₀) (hk : cs.kind = .function) (hr : dp + d < recursionLimit) (hu : un + 8 * d < cLine)
    (C : (∀ p ∈ Y, OffL p.1 as) → SpecT w mean mg mb d f vs (e1 :: e2 :: e3 :: Y) PT) (ret : PT (fun v n => ∀ h' tk', Fr h₀ L h' m → News h₀ L h' n → Q v { s with heap := h', toks := tk' })) :
    wpAny (model PySem.Challenge.pw_np0066_01 w) (ktrTop dp un gd cn cs L a ccd cl outer) (call (.ref f) vs) Q E s := use_T (C K.off) B F X N (sub_cons s1 (sub_cons s2 (sub_cons s3 K.sub))) T hk hr hu ret
theorem mk_T {w : World} {mean : ExcName → Option Value} {mg mb : Str → Option Value} {Z : List (Addr × Obj)} {n : Int} {t : Tok} {b : Bool} :
    SpecT w mean mg mb 2 290 [.int n t, .bool b] Z (fun k => ∀ x d M, M.adv = b → M.buf = .none → (∀ p ∈ Z, p.1 < d) → (∀ p ∈ Z, p.1 < x) → @LT.lt Nat _ d x → k (.ref x) ((x, instObj 290 d) :: (d, dictOf (mkD w.params n M) 4) :: Z)) := by
  intro dp un gd cn cs a1 ccd cl outer A₀ base h₀ L m s Q E Bb F X N T hk hd hu hret
  k_dflt (refine' call_cls ?k1 ?k2 ?k3 ?k4 ?k5 ?k6 ?_)
  (case k1 => k_asm); (case k2 => k_asm); (case k3 => k_asm); (case k4 => k_is); (case k5 => k_is); (case k6 => k_is); k_whole; intro x' d' h' F' N' l1 l2; (have l3 := hid (allLt_of l1)); (try k_lt2 l2); (try k_sweep)
  k_dflt (first | (refine' code_def (by k_asm) (by k_asm) (by k_asm) (by k_asm) (by k_asm) (by exact rfl) (by exact rfl) (by assumption) (by k_is) (by k_is) (by ktr_room) (by first | ((first | exact BindsTo.of_eq rfl | exact binds_K (by k_in) rfl (by k_is) rfl rfl rfl); done) | fail) (by exact locs rfl) ?_ (by exact rfl) (by exact rfl) (by exact rfl) (by decide); k_whole; intro g' L' h' FG' F' N' B' X' T'; (try dsimp only); (try k_lift B'); (try k_fold)) | (refine' code_defC (by k_asm) (by k_asm) (by k_asm) (by k_asm) (by k_asm) (by exact rfl) (by exact rfl) (by assumption) (by k_is) (by k_is) (by ktr_room) (by first | ((first | exact BindsTo.of_eq rfl | exact binds_K (by k_in) rfl (by k_is) rfl rfl rfl); done) | fail) (by exact rfl) (by first | ((decide +kernel); done) | fail) ?_ (by exact rfl) (by exact rfl) (by exact rfl); k_whole; intro g' L' h' tk' cells' FG' F' N' Y' B' X' T' l1; (try k_lt l1); k_cells Y'; (try simp only [List.cons_append, List.nil_append] at N'); (try dsimp only); (try k_lift B'); (try k_fold)))
  change (let ak : Around := _; wpAny _ ak _ _ _ _)
  intro ak
  repeat' (first | (k_unfold; (try dsimp only)) | (k_end; wrow_close) | with_reducible ((with_reducible show PySem.wpAny _ _ (PySem.call (PySem.Value.builtin _) _) _ _ _); (k_here; (with_reducible show wpAny _ _ (PySem.call (Value.builtin "max") [Value.int _ _, Value.int _ _]) _ _ _); k_dflt (first | (refine' my_maxR (by exact rfl) (by k_asm) (by k_asm) (by first | ((first | with_reducible assumption | omega); done) | fail) ?_) | (refine' my_maxL (by exact rfl) (by k_asm) (by k_asm) (by first | ((first | with_reducible assumption | omega); done) | fail) ?_)); intro h' tk' F' N'; (try k_sweep))) | with_reducible ((with_reducible show PySem.wpAny _ _ (PySem.call (PySem.Value.builtin _) _) _ _ _); (k_here; (with_reducible show wpAny _ _ (PySem.call (Value.builtin "min") [Value.int _ _, Value.int _ _]) _ _ _); k_dflt (refine' my_minL (by exact rfl) (by k_asm) (by k_asm) (by first | ((first | with_reducible assumption | omega); done) | fail) ?_); intro h' tk' F' N'; (try k_sweep))) | with_reducible ((with_reducible show PySem.wpAny _ _ (PySem.call (PySem.Value.ref _) _) _ _ _); (k_here; (with_reducible show wpAny _ _ (PySem.call (Value.ref 487) _) _ _ _); k_dflt (refine' draw_A (by k_asm) (by first | (k_mem; done) | fail) (by first | (k_mem; done) | fail) (by assumption) (by assumption) (by first | ((first | with_reducible assumption | omega); done) | fail) (by first | ((first | with_reducible assumption | omega); done) | fail) (by first | ((first | with_reducible assumption | omega); done) | fail) (by first | (k_ne; done) | fail) (by k_asm) (by k_asm) (by k_asm) (by k_asm) (by first | ((first | exact rfl | assumption); done) | fail) (by first | (k_allIn; done) | fail) (by ktr_room) (by ktr_units) ?_; k_whole); intro r' t1' t2' h' tk' hr1' hr2' F' N'; (try k_sweep))) | with_reducible ((with_reducible show PySem.wpAny _ _ (PySem.call (PySem.Value.ref _) _) _ _ _); (k_here; (with_reducible show wpAny _ _ (PySem.call (Value.ref 189) _) _ _ _); k_dflt (refine' gap_A (by k_asm) (by k_asm) (by k_asm) (by k_asm) (by first | (k_mem; done) | fail) (by first | (k_mem; done) | fail) (by first | (k_mem; done) | fail) (by first | (k_ne; done) | fail) (by first | (k_ne; done) | fail) (by first | (k_ne; done) | fail) (by first | (k_allIn; done) | fail) (by k_asm) (by first | ((first | exact rfl | assumption); done) | fail) (by ktr_room) (by ktr_units) (fun R O => gap_delete_spec (by first | ((first | assumption | fail "gap_delete_spec: Good"); done) | fail) O (by first | (((try simp only [GapS.eta]); first | omega | fail "gap_delete_spec: 0"); done) | fail) (by first | (((try simp only [GapS.eta]); first | omega | fail "gap_delete_spec: 1"); done) | fail) (by first | (((try simp only [GapS.eta]); first | omega | fail "gap_delete_spec: 2"); done) | fail)) ?_; k_whole); intro v' news' h' tk' hp' F' N'; (try simp only [GapS.eta] at hp'); obtain ⟨D', zs', S', e', e2', hz', l1, M'⟩ := hp'; subst e'; subst e2'; obtain ⟨G', m1', m2', m3'⟩ := M'; (try dsimp only at m2'); (try dsimp only at m3'); (try simp only [AllLt, and_true] at l1); (dsimp only [gapL, gapD] at N'); (try k_sweep))) | with_reducible ((with_reducible show PySem.wpAny _ _ (PySem.call (PySem.Value.ref _) _) _ _ _); (k_here; (with_reducible show wpAny _ _ (PySem.call (Value.ref 147) _) _ _ _); k_dflt (refine' use_A (by k_asm) sub_refl (by k_asm) (by k_asm) (by k_asm) (by k_asm) (by first | ((first | exact rfl | assumption); done) | fail) (by ktr_room) (by ktr_units) (size_T (by assumption) (by first | (k_mem; done) | fail) (by first | (k_mem; done) | fail) (by first | (k_mem; done) | fail)) ?_; k_whole); intro t' h' tk' F' N'; (try k_sweep))) | with_reducible ((with_reducible show PySem.wpAny _ _ (PySem.call (PySem.Value.ref _) _) _ _ _); (k_here; (with_reducible show wpAny _ _ (PySem.call (Value.ref 161) _) _ _ _); k_dflt (refine' use_A (by k_asm) sub_refl (by k_asm) (by k_asm) (by k_asm) (by k_asm) (by first | ((first | exact rfl | assumption); done) | fail) (by ktr_room) (by ktr_units) (codes_T (by assumption) (by first | (k_mem; done) | fail) (by first | (k_mem; done) | fail) (by first | (k_mem; done) | fail) (by first | ((first | with_reducible assumption | omega); done) | fail) (by first | ((first | with_reducible assumption | omega); done) | fail) (by first | ((first | with_reducible assumption | omega); done) | fail)) ?_; k_whole); intro D' zs' hz' l1 h' tk' F' N'; (try k_lt l1); (try k_sweep))) | with_reducible ((with_reducible show PySem.wpAny _ _ (PySem.setAttr (PySem.Value.ref _) _ _) _ _ _); (k_here; k_dflt (first | ((with_reducible show wpAny _ _ (PySem.setAttr (Value.ref _) (PySem.Str.ofString "zv") _) _ _ _); refine' bset_zv (by k_asm) (by k_asm) (by k_asm) (by first | (lcg_sub; done) | fail) (by assumption) ?_) | ((with_reducible show wpAny _ _ (PySem.setAttr (Value.ref _) (PySem.Str.ofString "point") _) _ _ _); refine' bset_pt (by k_asm) (by k_asm) (by k_asm) (by first | (lcg_sub; done) | fail) (by assumption) ?_) | ((with_reducible show wpAny _ _ (PySem.setAttr (Value.ref _) (PySem.Str.ofString "ticks") _) _ _ _); refine' bset_ticks (by k_asm) (by k_asm) (by k_asm) (by first | (lcg_sub; done) | fail) (by assumption) ?_) | ((with_reducible show wpAny _ _ (PySem.setAttr (Value.ref _) (PySem.Str.ofString "codes_ticks") _) _ _ _); refine' bset_codes (by k_asm) (by k_asm) (by k_asm) (by first | (lcg_sub; done) | fail) (by assumption) ?_)); intro h' F' N'; (try k_sweep))) | with_reducible ((with_reducible show PySem.wpAny _ _ (PySem.setAttr (PySem.Value.ref _) _ _) _ _ _); (k_here; k_dflt (refine' set_any (by k_asm) (by k_asm) (by k_asm) (by first | (k_inst; done) | fail) (by exact rfl) (by k_is) (by k_is) (by k_is) (by k_is) (by first | (k_get; done) | fail) (by first | (((intro t'; k_put)); done) | fail) (by first | (((intro t'; k_upd)); done) | fail) (by first | (((intro t'; exact Nat.le_of_ble_eq_true rfl)); done) | fail) ?_; k_whole); intro h' t' tk' F' N'; (try dsimp only at N'); (try k_sweep))) | walk1 | (dsimp only) | (leave1; (try dsimp only)) | fail "no step")
  exact hret _ _ (mkNew _ _ _ _ _ b _ _ _) rfl rfl l1 (fun p hp => Nat.lt_trans (l1 p hp) l2) l2 _ _ (by k_asm) (by k_asm)
theorem set_T {w : World} {mean : ExcName → Option Value} {mg mb : Str → Option Value} {a : BufA} {S : BufS} {o : Obj} {Y : List (Addr × Obj)} {x d : Addr} {n place : Int} {t1 : Tok} {kvs : List (Int × Value)} {M : MkS}
    (f1 : (a.bx, instObj 464 a.bd) ∈ Y) (f2 : (a.bd, dictOf (bufD w.params a S) 20) ∈ Y) (f3 : (a.g.gx, instObj 213 a.g.gd) ∈ Y) (f4 : (a.g.gd, dictOf (gapD w.params a.g S.g) 4) ∈ Y) (f5 : (a.g.gc, listOf S.g.cells.toArray S.g.n) ∈ Y) (f6 : (a.k.mx, instObj 358 a.k.md) ∈ Y) (f7 : (a.k.md, dictOf (rowsD w.params a.k S.k.kr) 1) ∈ Y)
    (G : S.g.Good) (ho : o.IsDictOf (PySem.intKind PySem.Challenge.pw_np0066_01 w) kvs) (hkv : kvs.length ≤ sizeLine) (hb : M.buf = .none) (o1 : OffL x [d, a.k.rw]) (o2 : OffL d [a.k.rw]) (off : ∀ p ∈ Y, OffL p.1 [x, d, a.k.rw]) (h0 : 1 ≤ place) (h1 : place ≤ S.g.text.length + 1) :
    SpecT w mean mg mb 5 480 [.ref x, .ref a.bx, .int place t1] ((x, instObj 290 d) :: (d, dictOf (mkD w.params n M) 4) :: (a.k.rw, o) :: Y)
      (fun k => ∀ o' M', o'.IsDictOf (PySem.intKind PySem.Challenge.pw_np0066_01 w) (stored kvs n (.ref x)) → M'.adv = M.adv → M'.pos = place → k .none ((x, instObj 290 d) :: (d, dictOf (mkD w.params n M') 4) :: (a.k.rw, o') :: Y)) := by
  intro dp un gd cn cs a1 ccd cl outer A₀ base h₀ L m s Q E B F X N T hk hd hu hret
  obtain ⟨k1, k2, k3, k4, tn, adv, buf, pos, tp⟩ := M
  dsimp only at hb hret
  subst hb
  obtain ⟨xd, xr, -⟩ := o1
  obtain ⟨dr, -⟩ := o2
  have htl := GapS.text_len G
  refine wpAny_call ?_
  k_dflt (first | (refine' code_def (by k_asm) (by k_asm) (by k_asm) (by k_asm) (by k_asm) (by exact rfl) (by exact rfl) (by assumption) (by k_is) (by k_is) (by ktr_room) (by first | ((first | exact BindsTo.of_eq rfl | exact binds_K (by k_in) rfl (by k_is) rfl rfl rfl); done) | fail) (by exact locs rfl) ?_ (by exact rfl) (by exact rfl) (by exact rfl) (by decide); k_whole; intro g' L' h' FG' F' N' B' X' T'; (try dsimp only); (try k_lift B'); (try k_fold)) | (refine' code_defC (by k_asm) (by k_asm) (by k_asm) (by k_asm) (by k_asm) (by exact rfl) (by exact rfl) (by assumption) (by k_is) (by k_is) (by ktr_room) (by first | ((first | exact BindsTo.of_eq rfl | exact binds_K (by k_in) rfl (by k_is) rfl rfl rfl); done) | fail) (by exact rfl) (by first | ((decide +kernel); done) | fail) ?_ (by exact rfl) (by exact rfl) (by exact rfl); k_whole; intro g' L' h' tk' cells' FG' F' N' Y' B' X' T' l1; (try k_lt l1); k_cells Y'; (try simp only [List.cons_append, List.nil_append] at N'); (try dsimp only); (try k_lift B'); (try k_fold)))
  change (let ak : Around := _; wpAny _ ak _ _ _ _)
  intro ak
  repeat' (first | (k_unfold; (try dsimp only)) | (k_end; wrow_close) | ((with_reducible show PySem.wpAny _ _ (PySem.setItem (PySem.Value.ref _) _ _) _ _ _); (k_here; (with_reducible show wpAny _ _ (setItem (Value.ref _) (Value.int _ _) (Value.ref _)) _ _ _); k_dflt (refine' kda_set (knd := PySem.intKind _ _) (by k_asm) (by k_asm) (by first | (k_updF; done) | fail) (by k_asm) (intKind_is _ _ _ _) (by assumption) ?_); intro h' o' F' N' hd'; (try dsimp only at N'); (try k_sweep))) | with_reducible ((with_reducible show PySem.wpAny _ _ (PySem.call (PySem.Value.builtin _) _) _ _ _); (k_here; (with_reducible show wpAny _ _ (PySem.call (Value.builtin "max") [Value.int _ _, Value.int _ _]) _ _ _); k_dflt (first | (refine' my_maxR (by exact rfl) (by k_asm) (by k_asm) (by first | ((first | with_reducible assumption | omega); done) | fail) ?_) | (refine' my_maxL (by exact rfl) (by k_asm) (by k_asm) (by first | ((first | with_reducible assumption | omega); done) | fail) ?_)); intro h' tk' F' N'; (try k_sweep))) | with_reducible ((with_reducible show PySem.wpAny _ _ (PySem.call (PySem.Value.builtin _) _) _ _ _); (k_here; (with_reducible show wpAny _ _ (PySem.call (Value.builtin "min") [Value.int _ _, Value.int _ _]) _ _ _); k_dflt (refine' my_minL (by exact rfl) (by k_asm) (by k_asm) (by first | ((first | with_reducible assumption | omega); done) | fail) ?_); intro h' tk' F' N'; (try k_sweep))) | with_reducible ((with_reducible show PySem.wpAny _ _ (PySem.call (PySem.Value.ref _) _) _ _ _); (k_here; (with_reducible show wpAny _ _ (PySem.call (Value.ref 487) _) _ _ _); k_dflt (refine' draw_A (by k_asm) (by first | (k_mem; done) | fail) (by first | (k_mem; done) | fail) (by assumption) (by assumption) (by first | ((first | with_reducible assumption | omega); done) | fail) (by first | ((first | with_reducible assumption | omega); done) | fail) (by first | ((first | with_reducible assumption | omega); done) | fail) (by first | (k_ne; done) | fail) (by k_asm) (by k_asm) (by k_asm) (by k_asm) (by first | ((first | exact rfl | assumption); done) | fail) (by first | (k_allIn; done) | fail) (by ktr_room) (by ktr_units) ?_; k_whole); intro r' t1' t2' h' tk' hr1' hr2' F' N'; (try k_sweep))) | with_reducible ((with_reducible show PySem.wpAny _ _ (PySem.call (PySem.Value.ref _) _) _ _ _); (k_here; (with_reducible show wpAny _ _ (PySem.call (Value.ref 189) _) _ _ _); k_dflt (refine' gap_A (by k_asm) (by k_asm) (by k_asm) (by k_asm) (by first | (k_mem; done) | fail) (by first | (k_mem; done) | fail) (by first | (k_mem; done) | fail) (by first | (k_ne; done) | fail) (by first | (k_ne; done) | fail) (by first | (k_ne; done) | fail) (by first | (k_allIn; done) | fail) (by k_asm) (by first | ((first | exact rfl | assumption); done) | fail) (by ktr_room) (by ktr_units) (fun R O => gap_delete_spec (by first | ((first | assumption | fail "gap_delete_spec: Good"); done) | fail) O (by first | (((try simp only [GapS.eta]); first | omega | fail "gap_delete_spec: 0"); done) | fail) (by first | (((try simp only [GapS.eta]); first | omega | fail "gap_delete_spec: 1"); done) | fail) (by first | (((try simp only [GapS.eta]); first | omega | fail "gap_delete_spec: 2"); done) | fail)) ?_; k_whole); intro v' news' h' tk' hp' F' N'; (try simp only [GapS.eta] at hp'); obtain ⟨D', zs', S', e', e2', hz', l1, M'⟩ := hp'; subst e'; subst e2'; obtain ⟨G', m1', m2', m3'⟩ := M'; (try dsimp only at m2'); (try dsimp only at m3'); (try simp only [AllLt, and_true] at l1); (dsimp only [gapL, gapD] at N'); (try k_sweep))) | with_reducible ((with_reducible show PySem.wpAny _ _ (PySem.call (PySem.Value.ref _) _) _ _ _); (k_here; (with_reducible show wpAny _ _ (PySem.call (Value.ref 147) _) _ _ _); k_dflt (refine' use_A (by k_asm) sub_refl (by k_asm) (by k_asm) (by k_asm) (by k_asm) (by first | ((first | exact rfl | assumption); done) | fail) (by ktr_room) (by ktr_units) (size_T (by assumption) (by first | (k_mem; done) | fail) (by first | (k_mem; done) | fail) (by first | (k_mem; done) | fail)) ?_; k_whole); intro t' h' tk' F' N'; (try k_sweep))) | with_reducible ((with_reducible show PySem.wpAny _ _ (PySem.call (PySem.Value.ref _) _) _ _ _); (k_here; (with_reducible show wpAny _ _ (PySem.call (Value.ref 161) _) _ _ _); k_dflt (refine' use_A (by k_asm) sub_refl (by k_asm) (by k_asm) (by k_asm) (by k_asm) (by first | ((first | exact rfl | assumption); done) | fail) (by ktr_room) (by ktr_units) (codes_T (by assumption) (by first | (k_mem; done) | fail) (by first | (k_mem; done) | fail) (by first | (k_mem; done) | fail) (by first | ((first | with_reducible assumption | omega); done) | fail) (by first | ((first | with_reducible assumption | omega); done) | fail) (by first | ((first | with_reducible assumption | omega); done) | fail)) ?_; k_whole); intro D' zs' hz' l1 h' tk' F' N'; (try k_lt l1); (try k_sweep))) | with_reducible ((with_reducible show PySem.wpAny _ _ (PySem.setAttr (PySem.Value.ref _) _ _) _ _ _); (k_here; k_dflt (first | ((with_reducible show wpAny _ _ (PySem.setAttr (Value.ref _) (PySem.Str.ofString "zv") _) _ _ _); refine' bset_zv (by k_asm) (by k_asm) (by k_asm) (by first | (lcg_sub; done) | fail) (by assumption) ?_) | ((with_reducible show wpAny _ _ (PySem.setAttr (Value.ref _) (PySem.Str.ofString "point") _) _ _ _); refine' bset_pt (by k_asm) (by k_asm) (by k_asm) (by first | (lcg_sub; done) | fail) (by assumption) ?_) | ((with_reducible show wpAny _ _ (PySem.setAttr (Value.ref _) (PySem.Str.ofString "ticks") _) _ _ _); refine' bset_ticks (by k_asm) (by k_asm) (by k_asm) (by first | (lcg_sub; done) | fail) (by assumption) ?_) | ((with_reducible show wpAny _ _ (PySem.setAttr (Value.ref _) (PySem.Str.ofString "codes_ticks") _) _ _ _); refine' bset_codes (by k_asm) (by k_asm) (by k_asm) (by first | (lcg_sub; done) | fail) (by assumption) ?_)); intro h' F' N'; (try k_sweep))) | with_reducible ((with_reducible show PySem.wpAny _ _ (PySem.setAttr (PySem.Value.ref _) _ _) _ _ _); (k_here; k_dflt (refine' set_any (by k_asm) (by k_asm) (by k_asm) (by first | (k_inst; done) | fail) (by exact rfl) (by k_is) (by k_is) (by k_is) (by k_is) (by first | (k_get; done) | fail) (by first | (((intro t'; k_put)); done) | fail) (by first | (((intro t'; k_upd)); done) | fail) (by first | (((intro t'; exact Nat.le_of_ble_eq_true rfl)); done) | fail) ?_; k_whole); intro h' t' tk' F' N'; (try dsimp only at N'); (try k_sweep))) | walk1 | (dsimp only) | (leave1; (try dsimp only)) | fail "no step")
  exact hret _ (mkNew k1 k2 k3 k4 tn adv _ _ _) (by assumption) rfl (by first | rfl | (dsimp only; omega)) _ _ (by k_asm) (by k_asm)
section
variable {w : World} {mean : ExcName → Option Value} {mg mb : Str → Option Value} {a : BufA} {S : BufS} {K R : List (Addr × Obj)}
theorem bset_begv {A : Around} {E : Value → Shared → Prop} {s : Shared} {h₀ : Heap} {L : Addr} {m : Str → Option Value} {all : List (Addr × Obj)} {x : Int} {t : Tok} {Q : Unit → Shared → Prop} (F : Fr h₀ L s.heap m) (X : (heapK w.params).In h₀) (N : News h₀ L s.heap all) (sub : ∀ e ∈ bufC w.params a S K R, e ∈ all) (O : BufSep a K R)
    (h : ∀ h', Fr h₀ L h' m → News h₀ L h' (bufC w.params a { S with begv := x, tb := t } K R) → Q () { s with heap := h', toks := s.toks + 2 }) :
    wpAny (model PySem.Challenge.pw_np0066_01 w) A (setAttr (.ref a.bx) (Str.ofString "begv") (.int x t)) Q E s :=
  bset (S' := { S with begv := x, tb := t }) F X N sub O (by k_is) (by rfl) (by rfl) rfl rfl h
local macro_rules | `(tactic| k_mem) => `(tactic| first | exact bufC_gd | exact bufC_gc)
theorem goto_T (O : BufSep a K R) {place : Int} {t1 : Tok} : SpecT w mean mg mb 1 433 [.ref a.bx, .int place t1] (bufC w.params a S K R) (fun k => ∀ t t', k (.int (min (max place S.begv) S.zv) t) (bufC w.params a { S with pt := min (max place S.begv) S.zv, tp := t' } K R)) := by
  intro dp un gd cn cs a1 ccd cl outer A₀ base h₀ L m s Q E B F X N T hk hd hu hret
  refine wpAny_call ?_
  k_dflt (first | (refine' code_def (by k_asm) (by k_asm) (by k_asm) (by k_asm) (by k_asm) (by exact rfl) (by exact rfl) (by assumption) (by k_is) (by k_is) (by ktr_room) (by first | ((first | exact BindsTo.of_eq rfl | exact binds_K (by k_in) rfl (by k_is) rfl rfl rfl); done) | fail) (by exact locs rfl) ?_ (by exact rfl) (by exact rfl) (by exact rfl) (by decide); k_whole; intro g' L' h' FG' F' N' B' X' T'; (try dsimp only); (try k_lift B'); (try k_fold)) | (refine' code_defC (by k_asm) (by k_asm) (by k_asm) (by k_asm) (by k_asm) (by exact rfl) (by exact rfl) (by assumption) (by k_is) (by k_is) (by ktr_room) (by first | ((first | exact BindsTo.of_eq rfl | exact binds_K (by k_in) rfl (by k_is) rfl rfl rfl); done) | fail) (by exact rfl) (by first | ((decide +kernel); done) | fail) ?_ (by exact rfl) (by exact rfl) (by exact rfl); k_whole; intro g' L' h' tk' cells' FG' F' N' Y' B' X' T' l1; (try k_lt l1); k_cells Y'; (try simp only [List.cons_append, List.nil_append] at N'); (try dsimp only); (try k_lift B'); (try k_fold)))
  change (let ak : Around := _; wpAny _ ak _ _ _ _)
  intro ak
  repeat' (first | (k_unfold; (try dsimp only)) | (k_end; wrow_close) | ((with_reducible show PySem.wpAny _ _ (PySem.call (PySem.Value.builtin _) _) _ _ _); (k_here; (with_reducible show wpAny _ _ (PySem.call (Value.builtin "min") [Value.int _ _, Value.int _ _]) _ _ _); k_dflt (first | (refine' my_minL (by exact rfl) (by k_asm) (by k_asm) (by first | ((first | with_reducible assumption | omega); done) | fail) ?_; intro h' tk' F' N') | (refine' my_minG (by exact rfl) (by k_asm) (by k_asm) ?_; intro h' tk' t' F' N')); (try k_sweep))) | ((with_reducible show PySem.wpAny _ _ (PySem.call (PySem.Value.builtin _) _) _ _ _); (k_here; (with_reducible show wpAny _ _ (PySem.call (Value.builtin "max") [Value.int _ _, Value.int _ _]) _ _ _); k_dflt (first | (refine' my_maxR (by exact rfl) (by k_asm) (by k_asm) (by first | ((first | with_reducible assumption | omega); done) | fail) ?_; intro h' tk' F' N') | (refine' my_maxL (by exact rfl) (by k_asm) (by k_asm) (by first | ((first | with_reducible assumption | omega); done) | fail) ?_; intro h' tk' F' N') | (refine' my_maxG (by exact rfl) (by k_asm) (by k_asm) ?_; intro h' tk' t' F' N')); (try k_sweep))) | ((with_reducible show PySem.wpAny _ _ (PySem.setAttr (PySem.Value.ref _) _ _) _ _ _); (k_here; (with_reducible show wpAny _ _ (PySem.setAttr (Value.ref _) (PySem.Str.ofString "begv") _) _ _ _); k_dflt (refine' bset_begv (by k_asm) (by k_asm) (by k_asm) (by first | (lcg_sub; done) | fail) (by assumption) ?_); intro h' F' N'; (try k_sweep))) | ((with_reducible show PySem.wpAny _ _ (PySem.setItem (PySem.Value.ref _) _ _) _ _ _); (k_here; (with_reducible show wpAny _ _ (setItem (Value.ref _) (Value.int _ _) (Value.ref _)) _ _ _); k_dflt (refine' kda_set (knd := PySem.intKind _ _) (by k_asm) (by k_asm) (by first | (k_updF; done) | fail) (by k_asm) (intKind_is _ _ _ _) (by assumption) ?_); intro h' o' F' N' hd'; (try dsimp only at N'); (try k_sweep))) | with_reducible ((with_reducible show PySem.wpAny _ _ (PySem.call (PySem.Value.builtin _) _) _ _ _); (k_here; (with_reducible show wpAny _ _ (PySem.call (Value.builtin "max") [Value.int _ _, Value.int _ _]) _ _ _); k_dflt (first | (refine' my_maxR (by exact rfl) (by k_asm) (by k_asm) (by first | ((first | with_reducible assumption | omega); done) | fail) ?_) | (refine' my_maxL (by exact rfl) (by k_asm) (by k_asm) (by first | ((first | with_reducible assumption | omega); done) | fail) ?_)); intro h' tk' F' N'; (try k_sweep))) | with_reducible ((with_reducible show PySem.wpAny _ _ (PySem.call (PySem.Value.builtin _) _) _ _ _); (k_here; (with_reducible show wpAny _ _ (PySem.call (Value.builtin "min") [Value.int _ _, Value.int _ _]) _ _ _); k_dflt (refine' my_minL (by exact rfl) (by k_asm) (by k_asm) (by first | ((first | with_reducible assumption | omega); done) | fail) ?_); intro h' tk' F' N'; (try k_sweep))) | with_reducible ((with_reducible show PySem.wpAny _ _ (PySem.call (PySem.Value.ref _) _) _ _ _); (k_here; (with_reducible show wpAny _ _ (PySem.call (Value.ref 487) _) _ _ _); k_dflt (refine' draw_A (by k_asm) (by first | (k_mem; done) | fail) (by first | (k_mem; done) | fail) (by assumption) (by assumption) (by first | ((first | with_reducible assumption | omega); done) | fail) (by first | ((first | with_reducible assumption | omega); done) | fail) (by first | ((first | with_reducible assumption | omega); done) | fail) (by first | (k_ne; done) | fail) (by k_asm) (by k_asm) (by k_asm) (by k_asm) (by first | ((first | exact rfl | assumption); done) | fail) (by first | (k_allIn; done) | fail) (by ktr_room) (by ktr_units) ?_; k_whole); intro r' t1' t2' h' tk' hr1' hr2' F' N'; (try k_sweep))) | with_reducible ((with_reducible show PySem.wpAny _ _ (PySem.call (PySem.Value.ref _) _) _ _ _); (k_here; (with_reducible show wpAny _ _ (PySem.call (Value.ref 189) _) _ _ _); k_dflt (refine' gap_A (by k_asm) (by k_asm) (by k_asm) (by k_asm) (by first | (k_mem; done) | fail) (by first | (k_mem; done) | fail) (by first | (k_mem; done) | fail) (by first | (k_ne; done) | fail) (by first | (k_ne; done) | fail) (by first | (k_ne; done) | fail) (by first | (k_allIn; done) | fail) (by k_asm) (by first | ((first | exact rfl | assumption); done) | fail) (by ktr_room) (by ktr_units) (fun R O => gap_delete_spec (by first | ((first | assumption | fail "gap_delete_spec: Good"); done) | fail) O (by first | (((try simp only [GapS.eta]); first | omega | fail "gap_delete_spec: 0"); done) | fail) (by first | (((try simp only [GapS.eta]); first | omega | fail "gap_delete_spec: 1"); done) | fail) (by first | (((try simp only [GapS.eta]); first | omega | fail "gap_delete_spec: 2"); done) | fail)) ?_; k_whole); intro v' news' h' tk' hp' F' N'; (try simp only [GapS.eta] at hp'); obtain ⟨D', zs', S', e', e2', hz', l1, M'⟩ := hp'; subst e'; subst e2'; obtain ⟨G', m1', m2', m3'⟩ := M'; (try dsimp only at m2'); (try dsimp only at m3'); (try simp only [AllLt, and_true] at l1); (dsimp only [gapL, gapD] at N'); (try k_sweep))) | with_reducible ((with_reducible show PySem.wpAny _ _ (PySem.call (PySem.Value.ref _) _) _ _ _); (k_here; (with_reducible show wpAny _ _ (PySem.call (Value.ref 147) _) _ _ _); k_dflt (refine' use_A (by k_asm) sub_refl (by k_asm) (by k_asm) (by k_asm) (by k_asm) (by first | ((first | exact rfl | assumption); done) | fail) (by ktr_room) (by ktr_units) (size_T (by assumption) (by first | (k_mem; done) | fail) (by first | (k_mem; done) | fail) (by first | (k_mem; done) | fail)) ?_; k_whole); intro t' h' tk' F' N'; (try k_sweep))) | with_reducible ((with_reducible show PySem.wpAny _ _ (PySem.call (PySem.Value.ref _) _) _ _ _); (k_here; (with_reducible show wpAny _ _ (PySem.call (Value.ref 161) _) _ _ _); k_dflt (refine' use_A (by k_asm) sub_refl (by k_asm) (by k_asm) (by k_asm) (by k_asm) (by first | ((first | exact rfl | assumption); done) | fail) (by ktr_room) (by ktr_units) (codes_T (by assumption) (by first | (k_mem; done) | fail) (by first | (k_mem; done) | fail) (by first | (k_mem; done) | fail) (by first | ((first | with_reducible assumption | omega); done) | fail) (by first | ((first | with_reducible assumption | omega); done) | fail) (by first | ((first | with_reducible assumption | omega); done) | fail)) ?_; k_whole); intro D' zs' hz' l1 h' tk' F' N'; (try k_lt l1); (try k_sweep))) | with_reducible ((with_reducible show PySem.wpAny _ _ (PySem.setAttr (PySem.Value.ref _) _ _) _ _ _); (k_here; k_dflt (first | ((with_reducible show wpAny _ _ (PySem.setAttr (Value.ref _) (PySem.Str.ofString "zv") _) _ _ _); refine' bset_zv (by k_asm) (by k_asm) (by k_asm) (by first | (lcg_sub; done) | fail) (by assumption) ?_) | ((with_reducible show wpAny _ _ (PySem.setAttr (Value.ref _) (PySem.Str.ofString "point") _) _ _ _); refine' bset_pt (by k_asm) (by k_asm) (by k_asm) (by first | (lcg_sub; done) | fail) (by assumption) ?_) | ((with_reducible show wpAny _ _ (PySem.setAttr (Value.ref _) (PySem.Str.ofString "ticks") _) _ _ _); refine' bset_ticks (by k_asm) (by k_asm) (by k_asm) (by first | (lcg_sub; done) | fail) (by assumption) ?_) | ((with_reducible show wpAny _ _ (PySem.setAttr (Value.ref _) (PySem.Str.ofString "codes_ticks") _) _ _ _); refine' bset_codes (by k_asm) (by k_asm) (by k_asm) (by first | (lcg_sub; done) | fail) (by assumption) ?_)); intro h' F' N'; (try k_sweep))) | with_reducible ((with_reducible show PySem.wpAny _ _ (PySem.setAttr (PySem.Value.ref _) _ _) _ _ _); (k_here; k_dflt (refine' set_any (by k_asm) (by k_asm) (by k_asm) (by first | (k_inst; done) | fail) (by exact rfl) (by k_is) (by k_is) (by k_is) (by k_is) (by first | (k_get; done) | fail) (by first | (((intro t'; k_put)); done) | fail) (by first | (((intro t'; k_upd)); done) | fail) (by first | (((intro t'; exact Nat.le_of_ble_eq_true rfl)); done) | fail) ?_; k_whole); intro h' t' tk' F' N'; (try dsimp only at N'); (try k_sweep))) | walk1 | (dsimp only) | (leave1; (try dsimp only)) | fail "no step")
  exact hret _ _ _ _ (by k_asm) (by k_asm)
theorem narrow_T (O : BufSep a K R) (G : S.g.Good) {x y : Int} {t1 t2 : Tok} (h1 : 1 ≤ x) (h2 : x ≤ y) (h3 : y ≤ S.g.text.length + 1) : SpecT w mean mg mb 5 473 [.ref a.bx, .int x t1, .int y t2] (bufC w.params a S K R)
    (fun k => ∀ tb tz tp, k .none (bufC w.params a { S with begv := x, tb := tb, zv := y, tz := tz, pt := min (max S.pt x) y, tp := tp } K R)) := by
  intro dp un gd cn cs a1 ccd cl outer A₀ base h₀ L m s Q E B F X N T hk hd hu hret
  have e0 : max x y = y := Int.max_eq_right h2
  rw [← e0] at hret
  refine wpAny_call ?_
  k_dflt (first | (refine' code_def (by k_asm) (by k_asm) (by k_asm) (by k_asm) (by k_asm) (by exact rfl) (by exact rfl) (by assumption) (by k_is) (by k_is) (by ktr_room) (by first | ((first | exact BindsTo.of_eq rfl | exact binds_K (by k_in) rfl (by k_is) rfl rfl rfl); done) | fail) (by exact locs rfl) ?_ (by exact rfl) (by exact rfl) (by exact rfl) (by decide); k_whole; intro g' L' h' FG' F' N' B' X' T'; (try dsimp only); (try k_lift B'); (try k_fold)) | (refine' code_defC (by k_asm) (by k_asm) (by k_asm) (by k_asm) (by k_asm) (by exact rfl) (by exact rfl) (by assumption) (by k_is) (by k_is) (by ktr_room) (by first | ((first | exact BindsTo.of_eq rfl | exact binds_K (by k_in) rfl (by k_is) rfl rfl rfl); done) | fail) (by exact rfl) (by first | ((decide +kernel); done) | fail) ?_ (by exact rfl) (by exact rfl) (by exact rfl); k_whole; intro g' L' h' tk' cells' FG' F' N' Y' B' X' T' l1; (try k_lt l1); k_cells Y'; (try simp only [List.cons_append, List.nil_append] at N'); (try dsimp only); (try k_lift B'); (try k_fold)))
  change (let ak : Around := _; wpAny _ ak _ _ _ _)
  intro ak
  repeat' (first | (k_unfold; (try dsimp only)) | (k_end; wrow_close) | ((with_reducible show PySem.wpAny _ _ (PySem.call (PySem.Value.ref _) _) _ _ _); (k_here; (with_reducible show wpAny _ _ (PySem.call (Value.ref 433) _) _ _ _); k_dflt (refine' use_A (by k_asm) (by first | (lcg_sub; done) | fail) (by k_asm) (by k_asm) (by k_asm) (by k_asm) (by first | ((first | exact rfl | assumption); done) | fail) (by ktr_room) (by ktr_units) (goto_T (by assumption)) ?_; k_whole); intro t1' t2' h' tk' F' N'; (try k_sweep))) | ((with_reducible show PySem.wpAny _ _ (PySem.call (PySem.Value.builtin _) _) _ _ _); (k_here; (with_reducible show wpAny _ _ (PySem.call (Value.builtin "min") [Value.int _ _, Value.int _ _]) _ _ _); k_dflt (first | (refine' my_minL (by exact rfl) (by k_asm) (by k_asm) (by first | ((first | with_reducible assumption | omega); done) | fail) ?_; intro h' tk' F' N') | (refine' my_minG (by exact rfl) (by k_asm) (by k_asm) ?_; intro h' tk' t' F' N')); (try k_sweep))) | ((with_reducible show PySem.wpAny _ _ (PySem.call (PySem.Value.builtin _) _) _ _ _); (k_here; (with_reducible show wpAny _ _ (PySem.call (Value.builtin "max") [Value.int _ _, Value.int _ _]) _ _ _); k_dflt (first | (refine' my_maxR (by exact rfl) (by k_asm) (by k_asm) (by first | ((first | with_reducible assumption | omega); done) | fail) ?_; intro h' tk' F' N') | (refine' my_maxL (by exact rfl) (by k_asm) (by k_asm) (by first | ((first | with_reducible assumption | omega); done) | fail) ?_; intro h' tk' F' N') | (refine' my_maxG (by exact rfl) (by k_asm) (by k_asm) ?_; intro h' tk' t' F' N')); (try k_sweep))) | ((with_reducible show PySem.wpAny _ _ (PySem.setAttr (PySem.Value.ref _) _ _) _ _ _); (k_here; (with_reducible show wpAny _ _ (PySem.setAttr (Value.ref _) (PySem.Str.ofString "begv") _) _ _ _); k_dflt (refine' bset_begv (by k_asm) (by k_asm) (by k_asm) (by first | (lcg_sub; done) | fail) (by assumption) ?_); intro h' F' N'; (try k_sweep))) | ((with_reducible show PySem.wpAny _ _ (PySem.setItem (PySem.Value.ref _) _ _) _ _ _); (k_here; (with_reducible show wpAny _ _ (setItem (Value.ref _) (Value.int _ _) (Value.ref _)) _ _ _); k_dflt (refine' kda_set (knd := PySem.intKind _ _) (by k_asm) (by k_asm) (by first | (k_updF; done) | fail) (by k_asm) (intKind_is _ _ _ _) (by assumption) ?_); intro h' o' F' N' hd'; (try dsimp only at N'); (try k_sweep))) | with_reducible ((with_reducible show PySem.wpAny _ _ (PySem.call (PySem.Value.builtin _) _) _ _ _); (k_here; (with_reducible show wpAny _ _ (PySem.call (Value.builtin "max") [Value.int _ _, Value.int _ _]) _ _ _); k_dflt (first | (refine' my_maxR (by exact rfl) (by k_asm) (by k_asm) (by first | ((first | with_reducible assumption | omega); done) | fail) ?_) | (refine' my_maxL (by exact rfl) (by k_asm) (by k_asm) (by first | ((first | with_reducible assumption | omega); done) | fail) ?_)); intro h' tk' F' N'; (try k_sweep))) | with_reducible ((with_reducible show PySem.wpAny _ _ (PySem.call (PySem.Value.builtin _) _) _ _ _); (k_here; (with_reducible show wpAny _ _ (PySem.call (Value.builtin "min") [Value.int _ _, Value.int _ _]) _ _ _); k_dflt (refine' my_minL (by exact rfl) (by k_asm) (by k_asm) (by first | ((first | with_reducible assumption | omega); done) | fail) ?_); intro h' tk' F' N'; (try k_sweep))) | with_reducible ((with_reducible show PySem.wpAny _ _ (PySem.call (PySem.Value.ref _) _) _ _ _); (k_here; (with_reducible show wpAny _ _ (PySem.call (Value.ref 487) _) _ _ _); k_dflt (refine' draw_A (by k_asm) (by first | (k_mem; done) | fail) (by first | (k_mem; done) | fail) (by assumption) (by assumption) (by first | ((first | with_reducible assumption | omega); done) | fail) (by first | ((first | with_reducible assumption | omega); done) | fail) (by first | ((first | with_reducible assumption | omega); done) | fail) (by first | (k_ne; done) | fail) (by k_asm) (by k_asm) (by k_asm) (by k_asm) (by first | ((first | exact rfl | assumption); done) | fail) (by first | (k_allIn; done) | fail) (by ktr_room) (by ktr_units) ?_; k_whole); intro r' t1' t2' h' tk' hr1' hr2' F' N'; (try k_sweep))) | with_reducible ((with_reducible show PySem.wpAny _ _ (PySem.call (PySem.Value.ref _) _) _ _ _); (k_here; (with_reducible show wpAny _ _ (PySem.call (Value.ref 189) _) _ _ _); k_dflt (refine' gap_A (by k_asm) (by k_asm) (by k_asm) (by k_asm) (by first | (k_mem; done) | fail) (by first | (k_mem; done) | fail) (by first | (k_mem; done) | fail) (by first | (k_ne; done) | fail) (by first | (k_ne; done) | fail) (by first | (k_ne; done) | fail) (by first | (k_allIn; done) | fail) (by k_asm) (by first | ((first | exact rfl | assumption); done) | fail) (by ktr_room) (by ktr_units) (fun R O => gap_delete_spec (by first | ((first | assumption | fail "gap_delete_spec: Good"); done) | fail) O (by first | (((try simp only [GapS.eta]); first | omega | fail "gap_delete_spec: 0"); done) | fail) (by first | (((try simp only [GapS.eta]); first | omega | fail "gap_delete_spec: 1"); done) | fail) (by first | (((try simp only [GapS.eta]); first | omega | fail "gap_delete_spec: 2"); done) | fail)) ?_; k_whole); intro v' news' h' tk' hp' F' N'; (try simp only [GapS.eta] at hp'); obtain ⟨D', zs', S', e', e2', hz', l1, M'⟩ := hp'; subst e'; subst e2'; obtain ⟨G', m1', m2', m3'⟩ := M'; (try dsimp only at m2'); (try dsimp only at m3'); (try simp only [AllLt, and_true] at l1); (dsimp only [gapL, gapD] at N'); (try k_sweep))) | with_reducible ((with_reducible show PySem.wpAny _ _ (PySem.call (PySem.Value.ref _) _) _ _ _); (k_here; (with_reducible show wpAny _ _ (PySem.call (Value.ref 147) _) _ _ _); k_dflt (refine' use_A (by k_asm) sub_refl (by k_asm) (by k_asm) (by k_asm) (by k_asm) (by first | ((first | exact rfl | assumption); done) | fail) (by ktr_room) (by ktr_units) (size_T (by assumption) (by first | (k_mem; done) | fail) (by first | (k_mem; done) | fail) (by first | (k_mem; done) | fail)) ?_; k_whole); intro t' h' tk' F' N'; (try k_sweep))) | with_reducible ((with_reducible show PySem.wpAny _ _ (PySem.call (PySem.Value.ref _) _) _ _ _); (k_here; (with_reducible show wpAny _ _ (PySem.call (Value.ref 161) _) _ _ _); k_dflt (refine' use_A (by k_asm) sub_refl (by k_asm) (by k_asm) (by k_asm) (by k_asm) (by first | ((first | exact rfl | assumption); done) | fail) (by ktr_room) (by ktr_units) (codes_T (by assumption) (by first | (k_mem; done) | fail) (by first | (k_mem; done) | fail) (by first | (k_mem; done) | fail) (by first | ((first | with_reducible assumption | omega); done) | fail) (by first | ((first | with_reducible assumption | omega); done) | fail) (by first | ((first | with_reducible assumption | omega); done) | fail)) ?_; k_whole); intro D' zs' hz' l1 h' tk' F' N'; (try k_lt l1); (try k_sweep))) | with_reducible ((with_reducible show PySem.wpAny _ _ (PySem.setAttr (PySem.Value.ref _) _ _) _ _ _); (k_here; k_dflt (first | ((with_reducible show wpAny _ _ (PySem.setAttr (Value.ref _) (PySem.Str.ofString "zv") _) _ _ _); refine' bset_zv (by k_asm) (by k_asm) (by k_asm) (by first | (lcg_sub; done) | fail) (by assumption) ?_) | ((with_reducible show wpAny _ _ (PySem.setAttr (Value.ref _) (PySem.Str.ofString "point") _) _ _ _); refine' bset_pt (by k_asm) (by k_asm) (by k_asm) (by first | (lcg_sub; done) | fail) (by assumption) ?_) | ((with_reducible show wpAny _ _ (PySem.setAttr (Value.ref _) (PySem.Str.ofString "ticks") _) _ _ _); refine' bset_ticks (by k_asm) (by k_asm) (by k_asm) (by first | (lcg_sub; done) | fail) (by assumption) ?_) | ((with_reducible show wpAny _ _ (PySem.setAttr (Value.ref _) (PySem.Str.ofString "codes_ticks") _) _ _ _); refine' bset_codes (by k_asm) (by k_asm) (by k_asm) (by first | (lcg_sub; done) | fail) (by assumption) ?_)); intro h' F' N'; (try k_sweep))) | with_reducible ((with_reducible show PySem.wpAny _ _ (PySem.setAttr (PySem.Value.ref _) _ _) _ _ _); (k_here; k_dflt (refine' set_any (by k_asm) (by k_asm) (by k_asm) (by first | (k_inst; done) | fail) (by exact rfl) (by k_is) (by k_is) (by k_is) (by k_is) (by first | (k_get; done) | fail) (by first | (((intro t'; k_put)); done) | fail) (by first | (((intro t'; k_upd)); done) | fail) (by first | (((intro t'; exact Nat.le_of_ble_eq_true rfl)); done) | fail) ?_; k_whole); intro h' t' tk' F' N'; (try dsimp only at N'); (try k_sweep))) | walk1 | (dsimp only) | (leave1; (try dsimp only)) | fail "no step")
  exact hret _ _ _ _ _ (by k_asm) (cb_drop (by k_asm) (by lcg_sub))
end


local macro_rules | `(tactic| k_allIn) => `(tactic| (refine' Keep.tail ?h; (case h => first | exact allLt_off1 (by walk_at "HA") | exact offl3 (by walk_at "HA") (by walk_at "HA") (bufY_rw0 (by assumption) (by assumption)))))
/-- the plain law: how places and texts fare under two edits -/
theorem edP_or {st en : Int} {k : Nat} {ah : Bool} {pos : Int} {adv : Bool} : edP st en k ah pos adv = edP st en k false pos (adv || ah) := by
  unfold edP
  cases ah <;> cases adv <;> simp

theorem edP_low {st en pos : Int} {k : Nat} {h adv : Bool} (e : st ≤ en) (l : pos < st) : edP st en k h pos adv = pos := by
  unfold edP
  split
  · rw [if_neg (by omega)]
  · rw [if_neg (by omega), if_neg (by omega)]
theorem edP_high {st en pos : Int} {k : Nat} {h adv : Bool} (e : st ≤ en) (l : en < pos) : edP st en k h pos adv = pos + (k - (en - st)) := by
  unfold edP
  split
  · rw [if_pos (by omega)]; omega
  · rw [if_pos (by omega)]; omega
theorem edP_shift {st en pos m : Int} {k : Nat} {h adv : Bool} : edP (st + m) (en + m) k h (pos + m) adv = edP st en k h pos adv + m := by
  have e1 : (st + m = en + m) ↔ st = en := by omega
  have e2 : (st + m < pos + m) ↔ st < pos := by omega
  have e3 : (pos + m = st + m) ↔ pos = st := by omega
  have e4 : (en + m ≤ pos + m) ↔ en ≤ pos := by omega
  unfold edP
  simp only [e1, e2, e3, e4]
  (repeat' split) <;> omega
theorem edP_ge {st en pos : Int} {k : Nat} {h adv : Bool} (e : st ≤ en) (l : st ≤ pos) : st ≤ edP st en k h pos adv := by
  unfold edP
  split
  · split <;> omega
  · split
    · omega
    · split <;> omega
theorem edP_lt {a b c pos : Int} {k : Nat} {h adv : Bool} (e : a ≤ b) (e2 : b < c) (l : pos < c) : edP a b k h pos adv < c + (k - (b - a)) := by
  unfold edP
  split
  · split <;> omega
  · split
    · omega
    · split <;> omega
theorem edP_comm {a b c d more pos : Int} {k1 k2 : Nat} {h1 h2 adv : Bool} (e1 : a ≤ b) (e2 : b < c) (e3 : c ≤ d) (hm : more = (k1 : Int) - (b - a)) :
    edP a b k1 h1 (edP c d k2 h2 pos adv) adv = edP (c + more) (d + more) k2 h2 (edP a b k1 h1 pos adv) adv := by
  subst hm
  by_cases q : pos < c
  · rw [edP_low e3 q, edP_low (by omega) (edP_lt e1 e2 q)]
  · have q2 := edP_ge (k := k2) (h := h2) (adv := adv) e3 (Int.not_lt.mp q)
    rw [edP_high e1 (by omega : b < edP c d k2 h2 pos adv), edP_high e1 (by omega : b < pos), edP_shift]

section
variable {α : Type}
/-- the text behind both edits, once the one in front first -/
theorem two_text (T W1 W2 : List α) (x y z u : Nat) (h : x + y + z + u ≤ T.length) :
    (T.take x ++ W1 ++ T.drop (x + y)).take (x + W1.length + z) ++ W2 ++ (T.take x ++ W1 ++ T.drop (x + y)).drop (x + W1.length + z + u) = T.take x ++ W1 ++ (T.drop (x + y)).take z ++ W2 ++ T.drop (x + y + z + u) := by
  have l : (T.take x ++ W1).length = x + W1.length := by rw [List.length_append, tk_len (Nat.le_trans (Nat.le_trans (Nat.le_trans (Nat.le_add_right x y) (Nat.le_add_right _ z)) (Nat.le_add_right _ u)) h)]
  rw [tk_past (k := z) (by rw [l]), dr_past (k := z + u) (by rw [l, Nat.add_assoc]), List.drop_drop, ← Nat.add_assoc]
theorem two_text2 (T W1 W2 : List α) (x y z u : Nat) (h : x + y + z + u ≤ T.length) :
    (T.take (x + y + z) ++ W2 ++ T.drop (x + y + z + u)).take x ++ W1 ++ (T.take (x + y + z) ++ W2 ++ T.drop (x + y + z + u)).drop (x + y) = T.take x ++ W1 ++ (T.drop (x + y)).take z ++ W2 ++ T.drop (x + y + z + u) := by
  have h2 : x + y + z ≤ T.length := Nat.le_trans (Nat.le_add_right _ u) h
  have h3 : x ≤ x + y + z := Nat.le_trans (Nat.le_add_right x y) (Nat.le_add_right _ z)
  rw [List.append_assoc (T.take _), tk_in (tk_le h3 h2), tk_tk h3, dr_in (tk_le (Nat.le_add_right _ z) h2), List.drop_take, Nat.add_sub_cancel_left]
  simp only [List.append_assoc]
theorem gone_late (T W1 : List α) (x y z u : Nat) (h : x + y + z + u ≤ T.length) :
    ((T.take x ++ W1 ++ T.drop (x + y)).drop (x + W1.length + z)).take u = (T.drop (x + y + z)).take u := by
  have l : (T.take x ++ W1).length = x + W1.length := by rw [List.length_append, tk_len (Nat.le_trans (Nat.le_trans (Nat.le_trans (Nat.le_add_right x y) (Nat.le_add_right _ z)) (Nat.le_add_right _ u)) h)]
  rw [dr_past (k := z) (by rw [l]), List.drop_drop]
theorem gone_first (T W2 : List α) (x y z u : Nat) (h : x + y + z + u ≤ T.length) :
    ((T.take (x + y + z) ++ W2 ++ T.drop (x + y + z + u)).drop x).take y = (T.drop x).take y := by
  have h2 : x + y + z ≤ T.length := Nat.le_trans (Nat.le_add_right _ u) h
  have h4 : y + z ≤ (T.drop x).length := by rw [List.length_drop]; exact Nat.le_sub_of_add_le (by rw [Nat.add_comm, ← Nat.add_assoc]; exact h2)
  rw [List.append_assoc, dr_in (tk_le (Nat.le_trans (Nat.le_add_right x y) (Nat.le_add_right _ z)) h2), List.drop_take, Nat.add_assoc x y z, Nat.add_sub_cancel_left, tk_in (tk_le (Nat.le_add_right y z) h4), tk_tk (Nat.le_add_right y z)]
end
theorem tm1 (x : Nat) : ((1 : Int) + x - 1).toNat = x := by rw [dif1, tnn]
theorem tm2 (x y : Nat) : ((1 : Int) + x + y - 1).toNat = x + y := by rw [Int.add_assoc, dif1, tn2]
theorem tm3 (x y z : Nat) : ((1 : Int) + x + y + z - 1).toNat = x + y + z := by rw [Int.add_assoc, Int.add_assoc, dif1, ← Int.add_assoc, tn3]
theorem tm4 (x y z u : Nat) : ((1 : Int) + x + y + z + u - 1).toNat = x + y + z + u := by rw [Int.add_assoc, Int.add_assoc, Int.add_assoc, dif1, ← Int.add_assoc, ← Int.add_assoc]; rfl
theorem tq (x y z w : Nat) : (1 : Int) + x + y + z + ((w : Int) - (1 + x + y - (1 + x))) = 1 + x + w + z := by omega
structure Cut (n : Nat) (a b c d : Int) (x y z u : Nat) : Prop where
  a : a = 1 + x
  b : b = 1 + x + y
  c : c = 1 + x + y + z
  d : d = 1 + x + y + z + u
  h : x + y + z + u ≤ n
theorem cut_of {n : Nat} {a b c d : Int} (e0 : 1 ≤ a) (e1 : a ≤ b) (e2 : b < c) (e3 : c ≤ d) (e4 : d ≤ n + 1) : ∃ x y z u, Cut n a b c d x y z u := by
  obtain ⟨x, rfl⟩ := Int.le.dest e0
  obtain ⟨y, rfl⟩ := Int.le.dest e1
  obtain ⟨z, rfl⟩ := Int.le.dest (Int.le_of_lt e2)
  obtain ⟨u, rfl⟩ := Int.le.dest e3
  refine ⟨x, y, z, u, rfl, rfl, rfl, rfl, ?_⟩
  rw [Int.add_comm (n : Int) 1, Int.add_assoc, Int.add_assoc, Int.add_assoc] at e4
  have q := Int.le_of_add_le_add_left e4
  rw [← Int.add_assoc, ← Int.add_assoc] at q
  exact Int.ofNat_le.mp q
theorem view_comm {V : View} {a b c d more : Int} {W1 W2 : List Value} {h1 h2 : Bool} (e0 : 1 ≤ a) (e1 : a ≤ b) (e2 : b < c) (e3 : c ≤ d) (e4 : d ≤ V.text.length + 1) (hm : more = (W1.length : Int) - (b - a)) :
    (V.done c d W2 h2).done a b W1 h1 = (V.done a b W1 h1).done (c + more) (d + more) W2 h2 := by
  have ht : ((V.done c d W2 h2).done a b W1 h1).text = ((V.done a b W1 h1).done (c + more) (d + more) W2 h2).text := by
    show (V.text.take (c - 1).toNat ++ W2 ++ V.text.drop (d - 1).toNat).take (a - 1).toNat ++ W1 ++ (V.text.take (c - 1).toNat ++ W2 ++ V.text.drop (d - 1).toNat).drop (b - 1).toNat =
      (V.text.take (a - 1).toNat ++ W1 ++ V.text.drop (b - 1).toNat).take (c + more - 1).toNat ++ W2 ++ (V.text.take (a - 1).toNat ++ W1 ++ V.text.drop (b - 1).toNat).drop (d + more - 1).toNat
    obtain ⟨x, y, z, u, rfl, rfl, rfl, rfl, h⟩ := cut_of e0 e1 e2 e3 e4
    subst hm
    rw [Int.add_right_comm _ (u : Int), tq, tm1, tm2, tm3, tm4, tm3, tm4, two_text2 _ _ _ _ _ _ _ h, two_text _ _ _ _ _ _ _ h]
  have hz : ((V.done c d W2 h2).done a b W1 h1).zv = ((V.done a b W1 h1).done (c + more) (d + more) W2 h2).zv := by
    show V.zv + W2.length - (d - c) + W1.length - (b - a) = V.zv + W1.length - (b - a) + W2.length - (d + more - (c + more))
    clear ht hm e0 e1 e2 e3 e4
    omega
  have hc : ((V.done c d W2 h2).done a b W1 h1).cap = ((V.done a b W1 h1).done (c + more) (d + more) W2 h2).cap := by
    show V.cap + W2.length + V.room + W1.length + V.room = V.cap + W1.length + V.room + W2.length + V.room
    clear ht hz hm e0 e1 e2 e3 e4
    omega
  have hp : ((V.done c d W2 h2).done a b W1 h1).pt = ((V.done a b W1 h1).done (c + more) (d + more) W2 h2).pt := edP_comm e1 e2 e3 hm
  have h0 : ((V.done c d W2 h2).done a b W1 h1).p0 = ((V.done a b W1 h1).done (c + more) (d + more) W2 h2).p0 := edP_comm e1 e2 e3 hm
  have h1' : ((V.done c d W2 h2).done a b W1 h1).p1 = ((V.done a b W1 h1).done (c + more) (d + more) W2 h2).p1 := edP_comm e1 e2 e3 hm
  have h2' : ((V.done c d W2 h2).done a b W1 h1).p2 = ((V.done a b W1 h1).done (c + more) (d + more) W2 h2).p2 := edP_comm e1 e2 e3 hm
  exact View.ext ht hp rfl hz rfl h0 h1' h2' rfl rfl rfl hc rfl
theorem view_text {V : View} {a b c d more : Int} {W1 W2 : List Value} {h1 h2 : Bool} (e0 : 1 ≤ a) (e1 : a ≤ b) (e2 : b < c) (e3 : c ≤ d) (e4 : d ≤ V.text.length + 1) (hm : more = (W1.length : Int) - (b - a)) :
    ((V.done a b W1 h1).done (c + more) (d + more) W2 h2).text = V.text.take (a - 1).toNat ++ W1 ++ (V.text.drop (b - 1).toNat).take ((c - 1).toNat - (b - 1).toNat) ++ W2 ++ V.text.drop (d - 1).toNat := by
  show (V.text.take (a - 1).toNat ++ W1 ++ V.text.drop (b - 1).toNat).take (c + more - 1).toNat ++ W2 ++ (V.text.take (a - 1).toNat ++ W1 ++ V.text.drop (b - 1).toNat).drop (d + more - 1).toNat = _
  obtain ⟨x, y, z, u, rfl, rfl, rfl, rfl, h⟩ := cut_of e0 e1 e2 e3 e4
  subst hm
  rw [Int.add_right_comm _ (u : Int), tq, tm1, tm2, tm3, tm4, tm3, tm4, Nat.add_sub_cancel_left, two_text _ _ _ _ _ _ _ h]
theorem view_gone2 {V : View} {a b c d more : Int} {W1 : List Value} {h1 : Bool} (e0 : 1 ≤ a) (e1 : a ≤ b) (e2 : b < c) (e3 : c ≤ d) (e4 : d ≤ V.text.length + 1) (hm : more = (W1.length : Int) - (b - a)) :
    (((V.done a b W1 h1).text).drop (c + more - 1).toNat).take ((d + more - 1).toNat - (c + more - 1).toNat) = (V.text.drop (c - 1).toNat).take ((d - 1).toNat - (c - 1).toNat) := by
  show ((V.text.take (a - 1).toNat ++ W1 ++ V.text.drop (b - 1).toNat).drop (c + more - 1).toNat).take ((d + more - 1).toNat - (c + more - 1).toNat) = _
  obtain ⟨x, y, z, u, rfl, rfl, rfl, rfl, h⟩ := cut_of e0 e1 e2 e3 e4
  subst hm
  rw [Int.add_right_comm _ (u : Int), tq, tm1, tm2, tm3, tm4, tm3, tm4, Nat.add_sub_cancel_left, Nat.add_sub_cancel_left, gone_late _ _ _ _ _ _ h]
theorem view_gone1 {V : View} {a b c d : Int} {W2 : List Value} {h2 : Bool} (e0 : 1 ≤ a) (e1 : a ≤ b) (e2 : b < c) (e3 : c ≤ d) (e4 : d ≤ V.text.length + 1) :
    (((V.done c d W2 h2).text).drop (a - 1).toNat).take ((b - 1).toNat - (a - 1).toNat) = (V.text.drop (a - 1).toNat).take ((b - 1).toNat - (a - 1).toNat) := by
  show ((V.text.take (c - 1).toNat ++ W2 ++ V.text.drop (d - 1).toNat).drop (a - 1).toNat).take ((b - 1).toNat - (a - 1).toNat) = _
  obtain ⟨x, y, z, u, rfl, rfl, rfl, rfl, h⟩ := cut_of e0 e1 e2 e3 e4
  rw [tm1, tm2, tm3, tm4, Nat.add_sub_cancel_left]
  exact gone_first _ _ _ _ _ _ h


abbrev pairO (x y : Addr) : Obj := { cls := .type "tuple", data := .seq #[.ref x, .ref y] }
abbrev boundsO (x y : Int) (t1 t2 : Tok) : Obj := { cls := .type "tuple", data := .seq #[.int x t1, .int y t2] }
abbrev toldO (room ph : Int) (sg mk : Addr) (bv : Value) (t1 t2 : Tok) : Obj := { cls := .type "tuple", data := .seq #[.int room t1, .ref sg, .int ph t2, .ref mk, bv] }
abbrev markO (p : Int) (t : Tok) (b : Bool) : Obj := { cls := .type "tuple", data := .seq #[.int p t, .bool b] }
/-- the view of a buffer made for the law -/
def lawView (sgn : List Value) (pt begv zv p0 p1 p2 : Int) (b0 b1 b2 : Bool) (room : Int) : View := ⟨sgn, pt, begv, zv, 2, p0, p1, p2, b0, b1, b2, sgn.length + 2 * room, room⟩
theorem lt_in {l : List (Addr × Obj)} {q : Addr} {e : Addr × Obj} (he : e ∈ l) (h : ∀ p ∈ l, p.1 < q) : @LT.lt Nat _ e.1 q := h e he
/-- what the bounds say: of a buffer with so many signs and this point -/
inductive Bounds (Z : List (Addr × Obj)) (size : Nat) (ph : Int) : Value → Int → Int → Int → Prop
  | none : Bounds Z size ph .none ph 1 (1 + size)
  | some {bt : Addr} {x y : Int} {t1 t2 : Tok} (h : (bt, boundsO x y t1 t2) ∈ Z) (h1 : 1 ≤ x) (h2 : x ≤ y) (h3 : y ≤ size + 1) : Bounds Z size ph (.ref bt) (min (max ph x) y) x y
theorem clamp_in {x a b : Int} (h1 : a ≤ x) (h2 : x ≤ b) : min (max x a) b = x := by
  rw [Int.max_eq_left h1, Int.min_eq_left h2]
theorem bufIs_of {w : World} {lo hi om : Addr} {V : View} {bx bd ls mx md rw x0 d0 x1 d1 x2 d2 : Addr} {g : GapA} {S : BufS} {n : Nat} (A : BufAt w ⟨bx, bd, ls, g, ⟨mx, md, rw, x0, d0, x1, d1, x2, d2⟩⟩ V S) (r : Rng lo hi om ⟨bx, bd, ls, g, ⟨mx, md, rw, x0, d0, x1, d1, x2, d2⟩⟩) :
    BufIs w lo hi bx om (bufL w.params ⟨bx, bd, ls, g, ⟨mx, md, rw, x0, d0, x1, d1, x2, d2⟩⟩ S [(om, marksO ⟨bx, bd, ls, g, ⟨mx, md, rw, x0, d0, x1, d1, x2, d2⟩⟩ n)]) V := ⟨_, S, n, rfl, rfl, A, r⟩
section
variable {w : World} {a : BufA} {S : BufS} {o : Obj} {Z : List (Addr × Obj)} {x0 d0 x1 d1 x2 d2 om q : Addr} {M0 M1 M2 : MkS} {n : Nat}
/-- the markers' order, behind the buffer's -/
structure MkOrd (a : BufA) (om d0 x0 d1 x1 d2 x2 : Addr) : Prop where
  b7 : @LT.lt Nat _ a.ls om
  b8 : @LT.lt Nat _ om d0
  c4 : @LT.lt Nat _ d0 x0
  c5 : @LT.lt Nat _ x0 d1
  c6 : @LT.lt Nat _ d1 x1
  c7 : @LT.lt Nat _ x1 d2
  c8 : @LT.lt Nat _ d2 x2
theorem MkOrd.rng (O : BufOrd a) (P : MkOrd a om d0 x0 d1 x1 d2 x2) (h : @LT.lt Nat _ x2 q) : Rng a.bd q om ⟨a.bx, a.bd, a.ls, a.g, ⟨a.k.mx, a.k.md, a.k.rw, x0, d0, x1, d1, x2, d2⟩⟩ :=
  ⟨O.b1, O.b2, O.b3, O.b4, O.b5, O.c1, O.c2, O.b6, P.b7, P.b8, P.c4, P.c5, P.c6, P.c7, P.c8, Nat.le_refl _, h⟩
theorem relay {h₀ h : Heap} {L : Addr} {all : List (Addr × Obj)} {X : Prop} (N : News h₀ L h all) (s0 : (om, listOf #[.ref x0, .ref x1, .ref x2] n) ∈ all) (s1 : (x0, instObj 290 d0) ∈ all) (s2 : (d0, dictOf (mkD w.params 0 M0) 4) ∈ all) (s3 : (x1, instObj 290 d1) ∈ all) (s4 : (d1, dictOf (mkD w.params 1 M1) 4) ∈ all) (s5 : (x2, instObj 290 d2) ∈ all) (s6 : (d2, dictOf (mkD w.params 2 M2) 4) ∈ all) (s7 : (a.k.rw, o) ∈ all) (sY : ∀ e ∈ bufY w.params a S Z, e ∈ all)
    (O : BufOrd a) (P : MkOrd a om d0 x0 d1 x1 d2 x2) (b0 : ∀ p ∈ Z, p.1 < a.bd)
    (go : ∀ K R, K = marksL w.params ⟨a.k.mx, a.k.md, a.k.rw, x0, d0, x1, d1, x2, d2⟩ ⟨S.k.kr, o, M0, M1, M2⟩ [] → R = (om, listOf #[.ref x0, .ref x1, .ref x2] n) :: Z → BufSep a K R → MkOrd a om d0 x0 d1 x1 d2 x2 → News h₀ L h (bufC w.params a S K R) → X) : X := by
  have r := MkOrd.rng (q := x2 + 1) O P (Nat.lt_succ_self _)
  have sep := (r.full (off_cons r.offm fun p hp => r.off (.inl (b0 p hp)))).sep (R := (om, listOf #[.ref x0, .ref x1, .ref x2] n) :: Z) (S := { S with k := ⟨S.k.kr, o, M0, M1, M2⟩ }) (p := w.params)
  refine go _ _ rfl rfl ⟨sep.o1, sep.o2, sep.o3, sep.o4, sep.o5, sep.offK, sep.offR, sep.kr⟩ P (cb_drop N ?_)
  exact bufC_all (sub_cons (sY _ bY_mx) (sub_cons (sY _ bY_md) (sub_cons s7 (sub_cons s1 (sub_cons s2 (sub_cons s3 (sub_cons s4 (sub_cons s5 (sub_cons s6 sub_nil))))))))) (sub_cons s0 fun e h => sY _ (bY_R h)) fun e h => sY _ (bufC_own e h)
theorem lay_back {p : Params} {K R : List (Addr × Obj)} {M : MarkS} (eK : K = marksL p ⟨a.k.mx, a.k.md, a.k.rw, x0, d0, x1, d1, x2, d2⟩ M []) (eR : R = (om, listOf #[.ref x0, .ref x1, .ref x2] n) :: Z) :
    ∀ e ∈ Z ++ bufL p ⟨a.bx, a.bd, a.ls, a.g, ⟨a.k.mx, a.k.md, a.k.rw, x0, d0, x1, d1, x2, d2⟩⟩ { S with k := M } [(om, listOf #[.ref x0, .ref x1, .ref x2] n)], e ∈ bufC p a S K R := by
  subst eK eR
  refine sub_app (fun e h => bufC_R (.tail _ h)) fun e h => ?_
  have q := bufL_C.2 e h
  exact bufC_all (fun e h => bufC_K h) (sub_cons (bufC_R (.head _)) sub_nil) (fun e h => bufC_own (a := a) (S := S) e h) e q
theorem lbuf_is {V : View} {kr : Tok} (O : BufOrd a) (P : MkOrd a om d0 x0 d1 x1 d2 x2) (hq : @LT.lt Nat _ x2 q) (G : S.g.Good) (rows : o.IsDictOf (PySem.intKind PySem.Challenge.pw_np0066_01 w) (rowsK ⟨a.k.mx, a.k.md, a.k.rw, x0, d0, x1, d1, x2, d2⟩)) (lo : (a.k.rw == sysModules) = false) (g1 : 1 ≤ S.begv) (g2 : S.zv ≤ S.g.text.length + 1)
    (t : S.g.text = V.text) (v1 : S.pt = V.pt) (v2 : S.begv = V.begv) (v3 : S.zv = V.zv) (v4 : S.tick = V.tick) (p0 : M0.pos = V.p0) (p1 : M1.pos = V.p1) (p2 : M2.pos = V.p2) (a0 : M0.adv = V.a0) (a1 : M1.adv = V.a1) (a2 : M2.adv = V.a2) (cap : (S.g.cells.length : Int) ≤ V.cap) (room : S.g.room = V.room) :
    BufIs w a.bd q a.bx om (bufL w.params ⟨a.bx, a.bd, a.ls, a.g, ⟨a.k.mx, a.k.md, a.k.rw, x0, d0, x1, d1, x2, d2⟩⟩ { S with k := ⟨kr, o, M0, M1, M2⟩ } [(om, listOf #[.ref x0, .ref x1, .ref x2] n)]) V :=
  ⟨⟨a.bx, a.bd, a.ls, a.g, ⟨a.k.mx, a.k.md, a.k.rw, x0, d0, x1, d1, x2, d2⟩⟩, { S with k := ⟨kr, o, M0, M1, M2⟩ }, n, rfl, rfl, ⟨⟨G, ⟨rows, lo⟩, g1, g2⟩, t, v1, v2, v3, v4, p0, p1, p2, a0, a1, a2, cap, room⟩, P.rng O hq⟩
end
section
local macro_rules | `(tactic| k_allIn) => `(tactic| first | (refine' Keep.tail ?h; (case h => first | exact allLt_off1 (by walk_at "HA") | exact offl3 (by walk_at "HA") (by walk_at "HA") (bufY_rw0 (by assumption) (by assumption)))) | (refine' Keep.keep ?h ?k; (case h => lcg_off); (case k => k_allIn)) | (refine' Keep.drop ?k; (case k => k_allIn)))
theorem lbuf_T {w : World} {mean : ExcName → Option Value} {mg mb : Str → Option Value} {u sg mk m0 m1 m2 : Addr} {Z : List (Addr × Obj)} {room ph p0 p1 p2 : Int} {b0 b1 b2 : Bool} {bv : Value} {vp vb vz : Int} {t1 t2 t3 t4 t5 : Tok} {sgn : List Value} {nsg nmk : Nat}
    (e1 : (u, toldO room ph sg mk bv t1 t2) ∈ Z) (e2 : (sg, listOf sgn.toArray nsg) ∈ Z) (e3 : (mk, listOf #[.ref m0, .ref m1, .ref m2] nmk) ∈ Z) (e4 : (m0, markO p0 t3 b0) ∈ Z) (e5 : (m1, markO p1 t4 b1) ∈ Z) (e6 : (m2, markO p2 t5 b2) ∈ Z)
    (hbv : Bounds Z sgn.length ph bv vp vb vz)
    (hr0 : 0 ≤ room) (hr1 : room ≤ 3) (hs0 : 4 ≤ sgn.length) (hs1 : sgn.length ≤ 12) (h1 : 1 ≤ ph) (h2 : ph ≤ sgn.length + 1) (h3 : 1 ≤ p0) (h4 : p0 ≤ sgn.length + 1) (h5 : 1 ≤ p1) (h6 : p1 ≤ sgn.length + 1) (h7 : 1 ≤ p2) (h8 : p2 ≤ sgn.length + 1) :
    SpecT w mean mg mb 20 499 [.ref u] Z (fun k => ∀ lo q bx om B, BufIs w lo q bx om B (lawView sgn vp vb vz p0 p1 p2 b0 b1 b2 room) → (∀ p ∈ Z, p.1 < lo) → @LE.le Nat _ lo q → k (.ref q) ((q, pairO bx om) :: (Z ++ B))) := by
  intro dp un gd cn cs a1 ccd cl outer A₀ base h₀ L m s Q E Bb F X N T hk hd hu hret
  refine wpAny_call ?_
  k_dflt (first | (refine' code_def (by k_asm) (by k_asm) (by k_asm) (by k_asm) (by k_asm) (by exact rfl) (by exact rfl) (by assumption) (by k_is) (by k_is) (by ktr_room) (by first | ((first | exact BindsTo.of_eq rfl | exact binds_K (by k_in) rfl (by k_is) rfl rfl rfl); done) | fail) (by exact locs rfl) ?_ (by exact rfl) (by exact rfl) (by exact rfl) (by decide); k_whole; intro g' L' h' FG' F' N' B' X' T'; (try dsimp only); (try k_lift B'); (try k_fold)) | (refine' code_defC (by k_asm) (by k_asm) (by k_asm) (by k_asm) (by k_asm) (by exact rfl) (by exact rfl) (by assumption) (by k_is) (by k_is) (by ktr_room) (by first | ((first | exact BindsTo.of_eq rfl | exact binds_K (by k_in) rfl (by k_is) rfl rfl rfl); done) | fail) (by exact rfl) (by first | ((decide +kernel); done) | fail) ?_ (by exact rfl) (by exact rfl) (by exact rfl); k_whole; intro g' L' h' tk' cells' FG' F' N' Y' B' X' T' l1; (try k_lt l1); k_cells Y'; (try simp only [List.cons_append, List.nil_append] at N'); (try dsimp only); (try k_lift B'); (try k_fold)))
  change (let ak : Around := _; wpAny _ ak _ _ _ _)
  intro ak
  repeat' (first | (k_unfold; (try dsimp only)) | (k_end; wrow_close) | ((with_reducible show PySem.wpAny _ _ (PySem.execs (_ :: _) _) _ _ _); (k_here; (with_reducible show wpAny _ _ (PySem.execs (PySem.Stmt.Expr _ _ :: PySem.Stmt.If _ _ _ _ :: _) _) _ _ _); refine Stop.out ?_)) | ((with_reducible show PySem.wpAny _ _ (subscriptTail _ _ _ _) _ _ _); (k_here; (with_reducible show wpAny _ _ (subscriptTail _ (PySem.Expr.Constant _ _ _) (PySem.Value.ref _) (PySem.Value.int _ _)) _ _ _); k_dflt (refine' my_titemT (by k_asm) (by first | (k_mem; done) | fail) (by decide) (by decide) (by rfl) (by rfl) ?_ (by first | (with_unfolding_all rfl; done) | fail); k_whole))) | ((with_reducible show PySem.wpAny _ _ (PySem.call (PySem.Value.builtin "list.append") [PySem.Value.ref _, _]) _ _ _); (k_here; (with_reducible show wpAny _ _ (PySem.call (PySem.Value.builtin "list.append") [PySem.Value.ref _, _]) _ _ _); k_dflt (refine' append_K (by k_asm) (by k_asm) (by first | (k_upd; done) | fail) ?_ (by exact Nat.le_of_ble_eq_true rfl); k_whole); intro h' F' N'; (try k_sweep))) | with_reducible ((with_reducible show UnrEnd ..); (k_here; k_dflt (refine' unr_keep (by k_asm) (by k_asm) (by first | (k_mem; done) | fail) (by first | (k_allIn; done) | fail) ?_))) | with_reducible ((with_reducible show PySem.wpAny _ _ (PySem.call (PySem.Value.builtin _) _) _ _ _); (k_here; (with_reducible show wpAny _ _ (call (Value.builtin "len") [Value.ref _]) _ _ _); k_dflt (refine' my_len3 (by k_asm) (by first | (k_mem; done) | fail) ?_; k_whole))) | with_reducible ((with_reducible show PySem.wpAny _ _ (PySem.call (PySem.Value.ref _) _) _ _ _); (k_here; (with_reducible show wpAny _ _ (PySem.call (Value.ref 473) _) _ _ _); k_dflt (refine' use_A (by k_asm) (by first | (lcg_sub; done) | fail) (by k_asm) (by k_asm) (by k_asm) (by k_asm) (by first | ((first | exact rfl | assumption); done) | fail) (by ktr_room) (by ktr_units) (narrow_T (by assumption) (by assumption) (by first | ((first | with_reducible assumption | omega); done) | fail) (by first | ((first | with_reducible assumption | omega); done) | fail) (by first | ((first | with_reducible assumption | ((try dsimp only); omega)); done) | fail)) ?_; k_whole); intro t1' t2' t3' h' tk' F' N'; (try k_sweep))) | with_reducible ((with_reducible show PySem.wpAny _ _ (PySem.call (PySem.Value.ref _) _) _ _ _); (k_here; (with_reducible show wpAny _ _ (PySem.call (Value.ref 433) _) _ _ _); k_dflt (refine' use_A (by k_asm) (by first | (lcg_sub; done) | fail) (by k_asm) (by k_asm) (by k_asm) (by k_asm) (by first | ((first | exact rfl | assumption); done) | fail) (by ktr_room) (by ktr_units) (goto_T (by assumption)) ?_; k_whole); intro t1' t2' h' tk' F' N'; (try k_sweep))) | with_reducible ((with_reducible show PySem.wpAny _ _ (PySem.call (PySem.Value.ref _) _) _ _ _); (k_here; (with_reducible show wpAny _ _ (PySem.call (Value.ref 480) _) _ _ _); k_dflt (refine' use_K3 (by k_asm) (by first | (k_mem; done) | fail) (by first | (k_mem; done) | fail) (by first | (k_mem; done) | fail) (by first | (k_allIn; done) | fail) (by k_asm) (by k_asm) (by k_asm) (by k_asm) (by first | ((first | exact rfl | assumption); done) | fail) (by ktr_room) (by ktr_units) (fun off => set_T (by first | (k_mem; done) | fail) (by first | (k_mem; done) | fail) (by first | (k_mem; done) | fail) (by first | (k_mem; done) | fail) (by first | (k_mem; done) | fail) (by first | (k_mem; done) | fail) (by first | (k_mem; done) | fail) (by assumption) (by assumption) (by first | ((rw [sizeLine_eq]; exact Nat.le_of_ble_eq_true (by with_unfolding_all rfl)); done) | fail) (by assumption) (by first | (lcg_off; done) | fail) (by first | (lcg_off; done) | fail) off (by first | ((first | with_reducible assumption | omega); done) | fail) (by first | ((first | with_reducible assumption | omega); done) | fail)) ?_; k_whole); intro o' M' ho' ha' hp' h' tk' F' N'; (try k_sweep))) | with_reducible ((with_reducible show PySem.wpAny _ _ (PySem.call (PySem.Value.ref _) _) _ _ _); (k_here; (with_reducible show wpAny _ _ (PySem.call (Value.ref 290) _) _ _ _); k_dflt (refine' use_A (by k_asm) sub_refl (by k_asm) (by k_asm) (by k_asm) (by k_asm) (by first | ((first | exact rfl | assumption); done) | fail) (by ktr_room) (by ktr_units) (mk_T) ?_; k_whole); intro x' d' M' ha' hb' l1 l1' l2 h' tk' F' N'; (k_lt l1); (k_lt l1'); (try k_sweep); (try k_sweep))) | with_reducible ((with_reducible show PySem.wpAny _ _ (PySem.call (PySem.Value.ref _) _) _ _ _); (k_here; (with_reducible show wpAny _ _ (PySem.call (Value.ref 112) [_, _, _]) _ _ _); k_dflt (refine' use_A (by k_asm) sub_refl (by k_asm) (by k_asm) (by k_asm) (by k_asm) (by first | ((first | exact rfl | assumption); done) | fail) (by ktr_room) (by ktr_units) (ins0_T (by assumption) (by exact BufOrd.belowZ (by assumption) (by assumption)) (by assumption) (by assumption) (by assumption) (by first | (k_mem; done) | fail) (by first | ((first | exact Int.le_of_eq (by assumption) | omega); done) | fail) (by first | ((first | with_reducible assumption | omega); done) | fail) (by omega) (by omega) (by omega) (by omega)) ?_; k_whole); intro S' I' h' tk' F' N'; (have G' := I'.g); (have tl' := congrArg List.length (text_of0 (by assumption) I'.text)); (try k_sweep))) | with_reducible ((with_reducible show PySem.wpAny _ _ (PySem.call (PySem.Value.ref _) _) _ _ _); (k_here; (with_reducible show wpAny _ _ (PySem.call (Value.ref 464) _) _ _ _); k_dflt (refine' use_A (by k_asm) sub_refl (by k_asm) (by k_asm) (by k_asm) (by k_asm) (by first | ((first | exact rfl | assumption); done) | fail) (by ktr_room) (by ktr_units) (new_T (by first | ((first | with_reducible assumption | omega); done) | fail) (by first | ((first | with_reducible assumption | omega); done) | fail)) ?_; k_whole); intro a' S' o' M' h' tk' F' N'; (have G' := M'.good); (have ho' := M'.o); (have lo' := M'.lo); (have ord' := M'.ord); (have b0' := M'.b0); (have m1' := M'.text); (have m3' := M'.begv); (have m4' := M'.zv); (have m6' := M'.room); (have m7' := M'.len); (try k_sweep))) | with_reducible ((with_reducible show PySem.wpAny _ _ (subscriptTail (PySem.Expr.Name _ _) (PySem.Expr.Name _ _) (PySem.Value.ref _) (PySem.Value.int _ _)) _ _ _); (k_here; (with_reducible show wpAny _ _ (subscriptTail _ _ (Value.ref _) (Value.int _ _)) _ _ _); k_dflt (refine' my_item (by k_asm) (by first | (k_mem; done) | fail) (by first | ((first | decide | omega); done) | fail) (by first | ((first | decide | omega); done) | fail) (by first | (with_unfolding_all rfl; done) | fail) ?_ (by first | (with_unfolding_all rfl; done) | fail); k_whole))) | walk1 | (dsimp only) | (leave1; (try dsimp only)) | fail "no step")
  refine Stop.mk ?_
  (rename Fresh _ _ _ _ _ _ => FR)
  (rename Inserted0 _ _ _ _ => IN)
  have TX := text_of0 FR.text IN.text
  have e1 := IN.begv.trans FR.begv
  have e2 := IN.zv
  rw [FR.zv] at e2
  have e3 := IN.tick.trans (congrArg (· + 1) FR.tick)
  have e4 := IN.room.trans FR.room
  have e5 := IN.len
  rw [FR.room, FR.len] at e5
  refine' relay (O := FR.ord) (b0 := FR.b0) ?N ?s0 ?s1 ?s2 ?s3 ?s4 ?s5 ?s6 ?s7 ?sY ?P (fun K R eK eR O2 PM N2 => ?_)
  case N => k_asm
  case s0 => k_mem
  case s1 => k_mem
  case s2 => k_mem
  case s3 => k_mem
  case s4 => k_mem
  case s5 => k_mem
  case s6 => k_mem
  case s7 => k_mem
  case sY => lcg_sub
  case P => exact ⟨allLt_lt (by walk_at "HA" : AllLt _ (bufY _ _ _ _)) _ bY_ls, by walk_at "HL", by walk_at "HL", by walk_at "HL", by walk_at "HL", by walk_at "HL", by walk_at "HL"⟩
  refine wpAny_execs_cons ?_
  cases hbv with
  | none =>
    repeat' (first | (k_unfold; (try dsimp only)) | (k_end; wrow_close) | ((with_reducible show PySem.wpAny _ _ (PySem.execs (_ :: _) _) _ _ _); (k_here; (with_reducible show wpAny _ _ (PySem.execs (PySem.Stmt.Expr _ _ :: PySem.Stmt.If _ _ _ _ :: _) _) _ _ _); refine Stop.out ?_)) | ((with_reducible show PySem.wpAny _ _ (subscriptTail _ _ _ _) _ _ _); (k_here; (with_reducible show wpAny _ _ (subscriptTail _ (PySem.Expr.Constant _ _ _) (PySem.Value.ref _) (PySem.Value.int _ _)) _ _ _); k_dflt (refine' my_titemT (by k_asm) (by first | (k_mem; done) | fail) (by decide) (by decide) (by rfl) (by rfl) ?_ (by first | (with_unfolding_all rfl; done) | fail); k_whole))) | ((with_reducible show PySem.wpAny _ _ (PySem.call (PySem.Value.builtin "list.append") [PySem.Value.ref _, _]) _ _ _); (k_here; (with_reducible show wpAny _ _ (PySem.call (PySem.Value.builtin "list.append") [PySem.Value.ref _, _]) _ _ _); k_dflt (refine' append_K (by k_asm) (by k_asm) (by first | (k_upd; done) | fail) ?_ (by exact Nat.le_of_ble_eq_true rfl); k_whole); intro h' F' N'; (try k_sweep))) | with_reducible ((with_reducible show UnrEnd ..); (k_here; k_dflt (refine' unr_keep (by k_asm) (by k_asm) (by first | (k_mem; done) | fail) (by first | (k_allIn; done) | fail) ?_))) | with_reducible ((with_reducible show PySem.wpAny _ _ (PySem.call (PySem.Value.builtin _) _) _ _ _); (k_here; (with_reducible show wpAny _ _ (call (Value.builtin "len") [Value.ref _]) _ _ _); k_dflt (refine' my_len3 (by k_asm) (by first | (k_mem; done) | fail) ?_; k_whole))) | with_reducible ((with_reducible show PySem.wpAny _ _ (PySem.call (PySem.Value.ref _) _) _ _ _); (k_here; (with_reducible show wpAny _ _ (PySem.call (Value.ref 473) _) _ _ _); k_dflt (refine' use_A (by k_asm) (by first | (lcg_sub; done) | fail) (by k_asm) (by k_asm) (by k_asm) (by k_asm) (by first | ((first | exact rfl | assumption); done) | fail) (by ktr_room) (by ktr_units) (narrow_T (by assumption) (by assumption) (by first | ((first | with_reducible assumption | omega); done) | fail) (by first | ((first | with_reducible assumption | omega); done) | fail) (by first | ((first | with_reducible assumption | ((try dsimp only); omega)); done) | fail)) ?_; k_whole); intro t1' t2' t3' h' tk' F' N'; (try k_sweep))) | with_reducible ((with_reducible show PySem.wpAny _ _ (PySem.call (PySem.Value.ref _) _) _ _ _); (k_here; (with_reducible show wpAny _ _ (PySem.call (Value.ref 433) _) _ _ _); k_dflt (refine' use_A (by k_asm) (by first | (lcg_sub; done) | fail) (by k_asm) (by k_asm) (by k_asm) (by k_asm) (by first | ((first | exact rfl | assumption); done) | fail) (by ktr_room) (by ktr_units) (goto_T (by assumption)) ?_; k_whole); intro t1' t2' h' tk' F' N'; (try k_sweep))) | with_reducible ((with_reducible show PySem.wpAny _ _ (PySem.call (PySem.Value.ref _) _) _ _ _); (k_here; (with_reducible show wpAny _ _ (PySem.call (Value.ref 480) _) _ _ _); k_dflt (refine' use_K3 (by k_asm) (by first | (k_mem; done) | fail) (by first | (k_mem; done) | fail) (by first | (k_mem; done) | fail) (by first | (k_allIn; done) | fail) (by k_asm) (by k_asm) (by k_asm) (by k_asm) (by first | ((first | exact rfl | assumption); done) | fail) (by ktr_room) (by ktr_units) (fun off => set_T (by first | (k_mem; done) | fail) (by first | (k_mem; done) | fail) (by first | (k_mem; done) | fail) (by first | (k_mem; done) | fail) (by first | (k_mem; done) | fail) (by first | (k_mem; done) | fail) (by first | (k_mem; done) | fail) (by assumption) (by assumption) (by first | ((rw [sizeLine_eq]; exact Nat.le_of_ble_eq_true (by with_unfolding_all rfl)); done) | fail) (by assumption) (by first | (lcg_off; done) | fail) (by first | (lcg_off; done) | fail) off (by first | ((first | with_reducible assumption | omega); done) | fail) (by first | ((first | with_reducible assumption | omega); done) | fail)) ?_; k_whole); intro o' M' ho' ha' hp' h' tk' F' N'; (try k_sweep))) | with_reducible ((with_reducible show PySem.wpAny _ _ (PySem.call (PySem.Value.ref _) _) _ _ _); (k_here; (with_reducible show wpAny _ _ (PySem.call (Value.ref 290) _) _ _ _); k_dflt (refine' use_A (by k_asm) sub_refl (by k_asm) (by k_asm) (by k_asm) (by k_asm) (by first | ((first | exact rfl | assumption); done) | fail) (by ktr_room) (by ktr_units) (mk_T) ?_; k_whole); intro x' d' M' ha' hb' l1 l1' l2 h' tk' F' N'; (k_lt l1); (k_lt l1'); (try k_sweep); (try k_sweep))) | with_reducible ((with_reducible show PySem.wpAny _ _ (PySem.call (PySem.Value.ref _) _) _ _ _); (k_here; (with_reducible show wpAny _ _ (PySem.call (Value.ref 112) [_, _, _]) _ _ _); k_dflt (refine' use_A (by k_asm) sub_refl (by k_asm) (by k_asm) (by k_asm) (by k_asm) (by first | ((first | exact rfl | assumption); done) | fail) (by ktr_room) (by ktr_units) (ins0_T (by assumption) (by exact BufOrd.belowZ (by assumption) (by assumption)) (by assumption) (by assumption) (by assumption) (by first | (k_mem; done) | fail) (by first | ((first | exact Int.le_of_eq (by assumption) | omega); done) | fail) (by first | ((first | with_reducible assumption | omega); done) | fail) (by omega) (by omega) (by omega) (by omega)) ?_; k_whole); intro S' I' h' tk' F' N'; (have G' := I'.g); (have tl' := congrArg List.length (text_of0 (by assumption) I'.text)); (try k_sweep))) | with_reducible ((with_reducible show PySem.wpAny _ _ (PySem.call (PySem.Value.ref _) _) _ _ _); (k_here; (with_reducible show wpAny _ _ (PySem.call (Value.ref 464) _) _ _ _); k_dflt (refine' use_A (by k_asm) sub_refl (by k_asm) (by k_asm) (by k_asm) (by k_asm) (by first | ((first | exact rfl | assumption); done) | fail) (by ktr_room) (by ktr_units) (new_T (by first | ((first | with_reducible assumption | omega); done) | fail) (by first | ((first | with_reducible assumption | omega); done) | fail)) ?_; k_whole); intro a' S' o' M' h' tk' F' N'; (have G' := M'.good); (have ho' := M'.o); (have lo' := M'.lo); (have ord' := M'.ord); (have b0' := M'.b0); (have m1' := M'.text); (have m3' := M'.begv); (have m4' := M'.zv); (have m6' := M'.room); (have m7' := M'.len); (try k_sweep))) | with_reducible ((with_reducible show PySem.wpAny _ _ (subscriptTail (PySem.Expr.Name _ _) (PySem.Expr.Name _ _) (PySem.Value.ref _) (PySem.Value.int _ _)) _ _ _); (k_here; (with_reducible show wpAny _ _ (subscriptTail _ _ (Value.ref _) (Value.int _ _)) _ _ _); k_dflt (refine' my_item (by k_asm) (by first | (k_mem; done) | fail) (by first | ((first | decide | omega); done) | fail) (by first | ((first | decide | omega); done) | fail) (by first | (with_unfolding_all rfl; done) | fail) ?_ (by first | (with_unfolding_all rfl; done) | fail); k_whole))) | walk1 | (dsimp only) | (leave1; (try dsimp only)) | fail "no step")
    refine' hret _ _ _ _ _ (lbuf_is FR.ord PM ?hq ?G ?rows FR.lo ?g1 ?g2 ?t ?v1 ?v2 ?v3 ?v4 ?p0 ?p1 ?p2 ?a0 ?a1 ?a2 ?cap ?room) FR.b0 ?le _ _ ?f ?n
    case f => k_asm
    case n => exact cb_drop (by k_asm) (sub_cons (.head _) (sub_tail (lay_back eK eR)))
    case G => exact IN.g
    case hq => exact lt_in (e := (_, instObj 290 _)) (bufC_K (K := K) (by rw [eK]; k_mem)) (by assumption)
    case le => exact Nat.le_of_lt (lt_in bufC_bd (by assumption))
    case rows => with_unfolding_all assumption
    case p0 => assumption
    case p1 => assumption
    case p2 => assumption
    case a0 => exact Eq.trans (by assumption) (by assumption)
    case a1 => exact Eq.trans (by assumption) (by assumption)
    case a2 => exact Eq.trans (by assumption) (by assumption)
    case t => exact TX
    case room => exact e4
    all_goals first | ((try rw [TX]); (try dsimp only [lawView]); (try rw [TX]); done) | ((try rw [TX]); (try dsimp only [lawView]); (try rw [TX]); (try rw [clamp_in (x := ph)]); all_goals omega)
  | some h9 h10 h11 h12 =>
    have f7 : ∀ e ∈ Z, e ∈ R := fun e he => by rw [eR]; exact List.Mem.tail _ he
    have f8 := f7 _ h9
    repeat' (first | (k_unfold; (try dsimp only)) | (k_end; wrow_close) | ((with_reducible show PySem.wpAny _ _ (PySem.execs (_ :: _) _) _ _ _); (k_here; (with_reducible show wpAny _ _ (PySem.execs (PySem.Stmt.Expr _ _ :: PySem.Stmt.If _ _ _ _ :: _) _) _ _ _); refine Stop.out ?_)) | ((with_reducible show PySem.wpAny _ _ (subscriptTail _ _ _ _) _ _ _); (k_here; (with_reducible show wpAny _ _ (subscriptTail _ (PySem.Expr.Constant _ _ _) (PySem.Value.ref _) (PySem.Value.int _ _)) _ _ _); k_dflt (refine' my_titemT (by k_asm) (by first | (k_mem; done) | fail) (by decide) (by decide) (by rfl) (by rfl) ?_ (by first | (with_unfolding_all rfl; done) | fail); k_whole))) | ((with_reducible show PySem.wpAny _ _ (PySem.call (PySem.Value.builtin "list.append") [PySem.Value.ref _, _]) _ _ _); (k_here; (with_reducible show wpAny _ _ (PySem.call (PySem.Value.builtin "list.append") [PySem.Value.ref _, _]) _ _ _); k_dflt (refine' append_K (by k_asm) (by k_asm) (by first | (k_upd; done) | fail) ?_ (by exact Nat.le_of_ble_eq_true rfl); k_whole); intro h' F' N'; (try k_sweep))) | with_reducible ((with_reducible show UnrEnd ..); (k_here; k_dflt (refine' unr_keep (by k_asm) (by k_asm) (by first | (k_mem; done) | fail) (by first | (k_allIn; done) | fail) ?_))) | with_reducible ((with_reducible show PySem.wpAny _ _ (PySem.call (PySem.Value.builtin _) _) _ _ _); (k_here; (with_reducible show wpAny _ _ (call (Value.builtin "len") [Value.ref _]) _ _ _); k_dflt (refine' my_len3 (by k_asm) (by first | (k_mem; done) | fail) ?_; k_whole))) | with_reducible ((with_reducible show PySem.wpAny _ _ (PySem.call (PySem.Value.ref _) _) _ _ _); (k_here; (with_reducible show wpAny _ _ (PySem.call (Value.ref 473) _) _ _ _); k_dflt (refine' use_A (by k_asm) (by first | (lcg_sub; done) | fail) (by k_asm) (by k_asm) (by k_asm) (by k_asm) (by first | ((first | exact rfl | assumption); done) | fail) (by ktr_room) (by ktr_units) (narrow_T (by assumption) (by assumption) (by first | ((first | with_reducible assumption | omega); done) | fail) (by first | ((first | with_reducible assumption | omega); done) | fail) (by first | ((first | with_reducible assumption | ((try dsimp only); omega)); done) | fail)) ?_; k_whole); intro t1' t2' t3' h' tk' F' N'; (try k_sweep))) | with_reducible ((with_reducible show PySem.wpAny _ _ (PySem.call (PySem.Value.ref _) _) _ _ _); (k_here; (with_reducible show wpAny _ _ (PySem.call (Value.ref 433) _) _ _ _); k_dflt (refine' use_A (by k_asm) (by first | (lcg_sub; done) | fail) (by k_asm) (by k_asm) (by k_asm) (by k_asm) (by first | ((first | exact rfl | assumption); done) | fail) (by ktr_room) (by ktr_units) (goto_T (by assumption)) ?_; k_whole); intro t1' t2' h' tk' F' N'; (try k_sweep))) | with_reducible ((with_reducible show PySem.wpAny _ _ (PySem.call (PySem.Value.ref _) _) _ _ _); (k_here; (with_reducible show wpAny _ _ (PySem.call (Value.ref 480) _) _ _ _); k_dflt (refine' use_K3 (by k_asm) (by first | (k_mem; done) | fail) (by first | (k_mem; done) | fail) (by first | (k_mem; done) | fail) (by first | (k_allIn; done) | fail) (by k_asm) (by k_asm) (by k_asm) (by k_asm) (by first | ((first | exact rfl | assumption); done) | fail) (by ktr_room) (by ktr_units) (fun off => set_T (by first | (k_mem; done) | fail) (by first | (k_mem; done) | fail) (by first | (k_mem; done) | fail) (by first | (k_mem; done) | fail) (by first | (k_mem; done) | fail) (by first | (k_mem; done) | fail) (by first | (k_mem; done) | fail) (by assumption) (by assumption) (by first | ((rw [sizeLine_eq]; exact Nat.le_of_ble_eq_true (by with_unfolding_all rfl)); done) | fail) (by assumption) (by first | (lcg_off; done) | fail) (by first | (lcg_off; done) | fail) off (by first | ((first | with_reducible assumption | omega); done) | fail) (by first | ((first | with_reducible assumption | omega); done) | fail)) ?_; k_whole); intro o' M' ho' ha' hp' h' tk' F' N'; (try k_sweep))) | with_reducible ((with_reducible show PySem.wpAny _ _ (PySem.call (PySem.Value.ref _) _) _ _ _); (k_here; (with_reducible show wpAny _ _ (PySem.call (Value.ref 290) _) _ _ _); k_dflt (refine' use_A (by k_asm) sub_refl (by k_asm) (by k_asm) (by k_asm) (by k_asm) (by first | ((first | exact rfl | assumption); done) | fail) (by ktr_room) (by ktr_units) (mk_T) ?_; k_whole); intro x' d' M' ha' hb' l1 l1' l2 h' tk' F' N'; (k_lt l1); (k_lt l1'); (try k_sweep); (try k_sweep))) | with_reducible ((with_reducible show PySem.wpAny _ _ (PySem.call (PySem.Value.ref _) _) _ _ _); (k_here; (with_reducible show wpAny _ _ (PySem.call (Value.ref 112) [_, _, _]) _ _ _); k_dflt (refine' use_A (by k_asm) sub_refl (by k_asm) (by k_asm) (by k_asm) (by k_asm) (by first | ((first | exact rfl | assumption); done) | fail) (by ktr_room) (by ktr_units) (ins0_T (by assumption) (by exact BufOrd.belowZ (by assumption) (by assumption)) (by assumption) (by assumption) (by assumption) (by first | (k_mem; done) | fail) (by first | ((first | exact Int.le_of_eq (by assumption) | omega); done) | fail) (by first | ((first | with_reducible assumption | omega); done) | fail) (by omega) (by omega) (by omega) (by omega)) ?_; k_whole); intro S' I' h' tk' F' N'; (have G' := I'.g); (have tl' := congrArg List.length (text_of0 (by assumption) I'.text)); (try k_sweep))) | with_reducible ((with_reducible show PySem.wpAny _ _ (PySem.call (PySem.Value.ref _) _) _ _ _); (k_here; (with_reducible show wpAny _ _ (PySem.call (Value.ref 464) _) _ _ _); k_dflt (refine' use_A (by k_asm) sub_refl (by k_asm) (by k_asm) (by k_asm) (by k_asm) (by first | ((first | exact rfl | assumption); done) | fail) (by ktr_room) (by ktr_units) (new_T (by first | ((first | with_reducible assumption | omega); done) | fail) (by first | ((first | with_reducible assumption | omega); done) | fail)) ?_; k_whole); intro a' S' o' M' h' tk' F' N'; (have G' := M'.good); (have ho' := M'.o); (have lo' := M'.lo); (have ord' := M'.ord); (have b0' := M'.b0); (have m1' := M'.text); (have m3' := M'.begv); (have m4' := M'.zv); (have m6' := M'.room); (have m7' := M'.len); (try k_sweep))) | with_reducible ((with_reducible show PySem.wpAny _ _ (subscriptTail (PySem.Expr.Name _ _) (PySem.Expr.Name _ _) (PySem.Value.ref _) (PySem.Value.int _ _)) _ _ _); (k_here; (with_reducible show wpAny _ _ (subscriptTail _ _ (Value.ref _) (Value.int _ _)) _ _ _); k_dflt (refine' my_item (by k_asm) (by first | (k_mem; done) | fail) (by first | ((first | decide | omega); done) | fail) (by first | ((first | decide | omega); done) | fail) (by first | (with_unfolding_all rfl; done) | fail) ?_ (by first | (with_unfolding_all rfl; done) | fail); k_whole))) | walk1 | (dsimp only) | (leave1; (try dsimp only)) | fail "no step")
    (rename Hid (_ ∧ AllLt _ (_ :: _ :: gapL _ _ _ _)) => lq)
    refine' hret _ _ _ _ _ (lbuf_is FR.ord PM ?hqb ?Gb ?rowsb FR.lo ?g1b ?g2b ?tb ?v1b ?v2b ?v3b ?v4b ?p0b ?p1b ?p2b ?a0b ?a1b ?a2b ?capb ?roomb) FR.b0 ?leb _ _ ?fb ?nb
    case fb => k_asm
    case nb => exact cb_drop (by k_asm) (sub_cons (.head _) (sub_tail (lay_back eK eR)))
    case Gb => exact IN.g
    case hqb => exact lt_in (e := (_, instObj 290 _)) (bufC_K (K := K) (by rw [eK]; k_mem)) (allLt_lt lq)
    case leb => exact Nat.le_of_lt (lt_in bufC_bd (allLt_lt lq))
    case rowsb => with_unfolding_all assumption
    case p0b => assumption
    case p1b => assumption
    case p2b => assumption
    case a0b => exact Eq.trans (by assumption) (by assumption)
    case a1b => exact Eq.trans (by assumption) (by assumption)
    case a2b => exact Eq.trans (by assumption) (by assumption)
    case tb => exact TX
    case roomb => exact e4
    all_goals first | ((try rw [TX]); (try dsimp only [lawView]); (try rw [TX]); done) | ((try rw [TX]); (try dsimp only [lawView]); (try rw [TX]); (try rw [clamp_in (x := ph)]); all_goals omega)
end


theorem Bounds.mono {Z Z' : List (Addr × Obj)} {size : Nat} {ph : Int} {bv : Value} {vp vb vz : Int} (h : Bounds Z size ph bv vp vb vz) (k : ∀ p ∈ Z, p ∈ Z') : Bounds Z' size ph bv vp vb vz := by
  cases h with
  | none => exact .none
  | some h h1 h2 h3 => exact .some (k _ h) h1 h2 h3
theorem ar_law {α : Type} {w : World} {A : Around} {t : Sem α} {Q : α → Shared → Prop} {E : Value → Shared → Prop} {s : Shared} {gd : Option (List Code)} {cn : Str} {cs : Scope} {L a : Addr} {ccd : Value} {cl : List (Str × Addr)} {outer : List Env} {dp un : Nat}
    (hA : A = ktrTop dp un gd cn cs L a ccd cl outer) (h : wpAny (model PySem.Challenge.pw_np0066_01 w) (ktrTop dp un gd cn cs L a ccd cl outer) t Q E s) : wpAny (model PySem.Challenge.pw_np0066_01 w) A t Q E s := by rw [hA]; exact h
theorem BufIs.within {w : World} {lo hi bx om : Addr} {B : List (Addr × Obj)} {V : View} (I : BufIs w lo hi bx om B V) : ∀ p ∈ B, @LE.le Nat _ lo p.1 ∧ @LT.lt Nat _ p.1 hi := by
  obtain ⟨a, S, n, -, rfl, -, r⟩ := I
  have q := r.all
  simp only [bufL, bufT, gapL, marksL, List.forall_mem_cons]
  exact ⟨⟨q.l_bx, q.u_bx⟩, ⟨q.l_bd, q.u_bd⟩, ⟨q.l_gx, q.u_gx⟩, ⟨q.l_gd, q.u_gd⟩, ⟨q.l_gc, q.u_gc⟩, ⟨q.l_ls, q.u_ls⟩, ⟨q.l_mx, q.u_mx⟩, ⟨q.l_md, q.u_md⟩, ⟨q.l_rw, q.u_rw⟩, ⟨q.l_x0, q.u_x0⟩, ⟨q.l_d0, q.u_d0⟩, ⟨q.l_x1, q.u_x1⟩, ⟨q.l_d1, q.u_d1⟩, ⟨q.l_x2, q.u_x2⟩, ⟨q.l_d2, q.u_d2⟩, ⟨q.l_om, q.u_om⟩, List.forall_mem_nil _⟩
theorem BufIs.lt {w : World} {lo hi bx om : Addr} {B : List (Addr × Obj)} {V : View} (I : BufIs w lo hi bx om B V) : AllLt hi B := allLt_of fun p hp => (I.within p hp).2
theorem BufIs.out_le {w : World} {lo hi lo2 hi2 bx om : Addr} {B : List (Addr × Obj)} {V : View} (I : BufIs w lo hi bx om B V) (h : @LE.le Nat _ hi lo2 ∨ @LE.le Nat _ hi2 lo) : ∀ p ∈ B, Out lo2 hi2 p.1 := by
  intro p hp
  have q := I.within p hp
  unfold Out
  omega
/-- rest is what all holds beside what lies in [lo, hi) -/
inductive KeepO (lo hi : Addr) : List (Addr × Obj) → List (Addr × Obj) → Prop
  | nil : KeepO lo hi [] []
  | skipT {R : List (Addr × Obj)} {w : World} {bx om : Addr} {V : View} (I : BufIs w lo hi bx om R V) : KeepO lo hi R []
  | tail {R : List (Addr × Obj)} (h : ∀ p ∈ R, Out lo hi p.1) : KeepO lo hi R R
  | keep {a : Addr} {o : Obj} {l r : List (Addr × Obj)} (h : Out lo hi a) (k : KeepO lo hi l r) : KeepO lo hi ((a, o) :: l) ((a, o) :: r)
  | drop {e : Addr × Obj} {l r : List (Addr × Obj)} (k : KeepO lo hi l r) : KeepO lo hi (e :: l) r
  | skip {R l r : List (Addr × Obj)} {w : World} {bx om : Addr} {V : View} (I : BufIs w lo hi bx om R V) (k : KeepO lo hi l r) : KeepO lo hi (R ++ l) r
  | chunk {R l r : List (Addr × Obj)} (h : ∀ p ∈ R, Out lo hi p.1) (k : KeepO lo hi l r) : KeepO lo hi (R ++ l) (R ++ r)
theorem KeepO.sub {lo hi : Addr} {l r : List (Addr × Obj)} (k : KeepO lo hi l r) : ∀ p ∈ r, p ∈ l := by
  induction k with
  | nil => exact fun _ h => h
  | skipT _ => exact fun _ h => nomatch h
  | tail _ => exact fun _ h => h
  | keep _ _ ih => exact sub_cons (.head _) (sub_tail ih)
  | drop _ ih => exact sub_tail ih
  | skip _ _ ih => exact fun p hp => List.mem_append_right _ (ih p hp)
  | chunk _ _ ih =>
    intro p hp
    rcases List.mem_append.mp hp with h | h
    · exact List.mem_append_left _ h
    · exact List.mem_append_right _ (ih p h)
theorem KeepO.out {lo hi : Addr} {l r : List (Addr × Obj)} (k : KeepO lo hi l r) : ∀ p ∈ r, Out lo hi p.1 := by
  induction k with
  | nil => exact fun _ h => nomatch h
  | skipT _ => exact fun _ h => nomatch h
  | tail h => exact h
  | keep h _ ih => exact List.forall_mem_cons.mpr ⟨h, ih⟩
  | drop _ ih => exact ih
  | skip _ _ ih => exact ih
  | chunk h _ ih =>
    intro p hp
    rcases List.mem_append.mp hp with q | q
    · exact h p q
    · exact ih p q
theorem app_left {α : Type} {l r B : List α} (h : ∀ p ∈ B, p ∈ l) : ∀ p ∈ B, p ∈ l ++ r := fun p hp => List.mem_append_left _ (h p hp)
theorem app_right {α : Type} {l r B : List α} (h : ∀ p ∈ B, p ∈ r) : ∀ p ∈ B, p ∈ l ++ r := fun p hp => List.mem_append_right _ (h p hp)

section
variable {w : World} {mean : ExcName → Option Value} {mg mb : Str → Option Value} {R all : List (Addr × Obj)}
    {dp un : Nat} {gd : Option (List Code)} {cn : Str} {cs : Scope} {a1 : Addr} {ccd : Value} {cl : List (Str × Addr)} {outer : List Env} {A₀ : Around} {base h₀ : Heap} {L : Addr} {m : Str → Option Value} {s : Shared} {Q E : Value → Shared → Prop}
theorem edit_use {D C : Addr} {cells : List Value} {ns : List Int} {nD nC : Nat} {k st en : Int} {tk t1 t2 : Tok}
    (B : Below A₀ base outer h₀) (F : Fr h₀ L s.heap m) (X : (heapK w.params).In h₀) (N : News h₀ L s.heap all)
    (s1 : (D, listOf #[.ref C, .int k tk] nD) ∈ all) (s2 : (C, listOf cells.toArray nC) ∈ all)
    (hc : IntsAre cells ns) (hl : ns.length ≤ 63) (h0 : 0 ≤ k) (h1 : k ≤ 900) (hse : st ≤ en) (hDC : @Ne Nat D C) (K : Keep [D] all R)
    (T : Top view LO mean mg mb h₀) (hk : cs.kind = .function) (hr : dp + 2 < recursionLimit) (hu : un + 16 < cLine)
    (ret : ∀ q c ws nc ah k' tk'' h' tk', EditOk st en ws ah → k ≤ k' → k' ≤ k + 8 → (@Ne Nat c D) → AllLt q ((c, listOf ws.toArray nc) :: (D, listOf #[.ref C, .int k' tk''] nD) :: R) → Fr h₀ L h' m →
      News h₀ L h' ((q, editO st en t1 t2 c ah) :: (c, listOf ws.toArray nc) :: (D, listOf #[.ref C, .int k' tk''] nD) :: R) → Q (.ref q) { s with heap := h', toks := tk' }) :
    wpAny (model PySem.Challenge.pw_np0066_01 w) (ktrTop dp un gd cn cs L a1 ccd cl outer) (call (.ref 492) [.ref D, .int st t1, .int en t2]) Q E s := by
  refine use_spec (law_edit_spec (R := R) (tk := tk) (nD := nD) (nC := nC) hc hl h0 h1 hse hDC K.off) B F X N (sub_cons s1 (sub_cons s2 K.sub)) T hk hr (by omega) ?_
  rintro v n h' tk' ⟨q, c, ws, nc, ah, k', tk'', rfl, rfl, K', q1, q2, q3, l1⟩ F' N'
  exact ret q c ws nc ah k' tk'' h' tk' K' q1 q2 q3 (allLt_of fun p hp => allLt_lt l1 p (by
    rcases List.mem_cons.mp hp with e | hp
    · exact e ▸ .head _
    rcases List.mem_cons.mp hp with e | hp
    · exact e ▸ .tail _ (.head _)
    · exact .tail _ (.tail _ (.tail _ hp)))) F' (cb_drop N' (by lcg_sub))
theorem done_S {lo hi bx om e c : Addr} {B all R : List (Addr × Obj)} {V : View} {st en more : Int} {t1 t2 t3 : Tok} {ws : List Value} {nc : Nat} {ah : Bool}
    (I : BufIs w lo hi bx om B V) (hB : ∀ p ∈ B, p ∈ all) (Ke : KeepO lo hi all R) (he : List.Mem (e, editO st en t1 t2 c ah) R) (hc : List.Mem (c, listOf ws.toArray nc) R) (K : EditOk st en ws ah) (h0 : V.begv ≤ st + more) (h1 : en + more ≤ V.zv) (hcap : V.cap + V.room ≤ 90000) :
    SpecT w mean mg mb 20 506 [.ref bx, .ref e, .int more t3] all (fun k => ∀ q zs nz B', BufIs w lo hi bx om B' (V.done (st + more) (en + more) ws ah) → zs = (V.text.drop (st + more - 1).toNat).take ((en + more - 1).toNat - (st + more - 1).toNat) → AllLt q R → k (.ref q) ((q, listOf zs.toArray nz) :: (R ++ B'))) :=
  fun dp un gd cn cs a ccd cl outer A₀ base h₀ L m s Q E Bb F X N T hk hr hu ret => done_T (R := R) (t1 := t1) (t2 := t2) (nc := nc) I K he hc Ke.out h0 h1 hcap dp un gd cn cs a ccd cl outer A₀ base h₀ L m s Q E Bb F X (cb_drop N (sub_app hB Ke.sub)) T hk hr hu
    fun q zs nz B' I' hz l h' tk' F' N' => ret q zs nz B' I' hz (allLt_of l) h' tk' F' (cb_drop N' (sub_cons (.head _) (sub_app (fun e h => .tail _ (List.mem_append_right _ h)) fun e h => .tail _ (List.mem_append_left _ h))))
theorem join_or {A : Around} {M : Model} {env : Env} {e₂ : PySem.Expr} {pos : Pos} {b b2 : Bool} {s₂ : Shared} {QQ : Value → Shared → Prop}
    (h : wpAny M A (eval (.BoolOp .Or [e₂] pos) env) (fun v s₃ => v = .bool b2 ∧ ∃ tk, s₃ = { s₂ with toks := tk }) E s₂) (hQ : ∀ tk, QQ (.bool (b || b2)) { s₂ with toks := tk }) :
    if b = true then QQ (.bool b) s₂ else wpAny M A (eval (.BoolOp .Or [e₂] pos) env) QQ E s₂ := by
  cases b with
  | true => exact hQ s₂.toks
  | false =>
    refine wpAny_mono h (fun v s₃ q => ?_) fun _ _ e => e
    obtain ⟨rfl, tk, rfl⟩ := q
    exact hQ tk
end
theorem KeepO.dropP {lo hi a x y : Addr} {l r : List (Addr × Obj)} (k : KeepO lo hi l r) : KeepO lo hi ((a, pairO x y) :: l) r := .drop k
theorem KeepO.dropT {lo hi a sg mk : Addr} {room ph : Int} {bv : Value} {t1 t2 : Tok} {l r : List (Addr × Obj)} (k : KeepO lo hi l r) : KeepO lo hi ((a, toldO room ph sg mk bv t1 t2) :: l) r := .drop k
theorem allLt_left {d : Addr} {l r : List (Addr × Obj)} (h : AllLt d (l ++ r)) : AllLt d l := allLt_of fun p hp => allLt_lt h p (List.mem_append_left _ hp)
theorem allLt_right {d : Addr} {l r : List (Addr × Obj)} (h : AllLt d (l ++ r)) : AllLt d r := allLt_of fun p hp => allLt_lt h p (List.mem_append_right _ hp)
theorem out_low {lo hi : Addr} {Z : List (Addr × Obj)} (h : AllLt lo Z) : ∀ p ∈ Z, Out lo hi p.1 := fun p hp => .inl (allLt_lt h p hp)
theorem out_hi {lo hi a : Addr} (h : @LT.lt Nat _ hi a) : Out lo hi a := .inr (Nat.le_of_lt h)
theorem out_lo {lo hi a : Addr} (h : @LT.lt Nat _ a lo) : Out lo hi a := .inl h


local macro_rules | `(tactic| lcg_sub) => `(tactic| first | with_reducible assumption | exact app_left sub_refl | (refine' app_right ?x; (case x => lcg_sub)))
local macro_rules | `(tactic| k_mem) => `(tactic| (refine' List.mem_append_left _ ?x; (case x => ktr_member)))
local macro_rules | `(tactic| k_allIn) => `(tactic| first | (with_reducible exact KeepO.nil) | (with_reducible refine' KeepO.dropT ?k; (case k => k_allIn)) | (with_reducible refine' KeepO.keep ?h ?k; (case h => first | k_dflt (exact .inr (Nat.le_refl _)) | exact out_hi (by walk_at "HL") | exact out_lo (by walk_at "HL")); (case k => k_allIn)) | (with_reducible refine' KeepO.drop ?k; (case k => k_allIn)) | (with_reducible refine' KeepO.skip (by with_reducible assumption) ?k; (case k => k_allIn)) | (with_reducible refine' KeepO.chunk ?h ?k; (case h => first | exact out_low (by walk_at "HA") | exact out_low (allLt_left (by walk_at "HA")) | exact BufIs.out_le (by assumption) (.inl (Nat.le_of_lt (by walk_at "HL"))) | exact BufIs.out_le (by assumption) (.inr (Nat.le_of_lt (by walk_at "HL")))); (case k => k_allIn)) | (with_reducible exact KeepO.skipT (by with_reducible assumption)) | (with_reducible refine' KeepO.tail ?h; (case h => first | exact BufIs.out_le (by assumption) (.inl (Nat.le_of_lt (by walk_at "HL"))) | exact BufIs.out_le (by assumption) (.inr (Nat.le_of_lt (by walk_at "HL"))))))
section
variable {prog : Program} {w : World} {A : Around} {E : Value → Shared → Prop} {s : Shared} {h₀ : Heap} {L l l2 : Addr} {m : Str → Option Value} {news : List (Addr × Obj)} {vs : List Value} {n n2 : Nat} {x y : Int}
theorem pick_to {vs : List Value} {y : Int} (h1 : 0 ≤ y) (h2 : y ≤ vs.length) : slicePick vs.toArray none (some y) none = (vs.take y.toNat).toArray := by
  have e := kmk_pick_nat (lo := none) (hi := some y) vs.toArray (a := 0) (b := y.toNat) (by
    simp only [sliceBounds, Option.getD_none, show (1 : Int) > 0 by decide, if_true, if_neg (show ¬ (y < 0) by omega), List.size_toArray]
    congr 1
    congr 1; omega)
  rw [e, List.drop_zero, Nat.sub_zero]
theorem pick_from {vs : List Value} {x : Int} (h1 : 0 ≤ x) (h2 : x ≤ vs.length) : slicePick vs.toArray (some x) none none = (vs.drop x.toNat).toArray := by
  have e := kmk_pick_nat (lo := some x) (hi := none) vs.toArray (a := x.toNat) (b := vs.length) (by
    simp only [sliceBounds, Option.getD_none, show (1 : Int) > 0 by decide, if_true, if_neg (show ¬ (x < 0) by omega), List.size_toArray]
    congr 1
    omega)
  rw [e, List.take_of_length_le (by simp only [List.length_drop]; omega)]
theorem my_sliceL {value slice : PySem.Expr} {vu : Value} {Q : Value → Shared → Prop} (F : Fr h₀ L s.heap m) (N : News h₀ L s.heap news) (hm : (l, listOf vs.toArray n) ∈ news)
    (pu : IsPart vu (some y)) (h1 : 0 ≤ y) (h2 : y ≤ vs.length) (hz : vs.length ≤ 1000000)
    (h : ∀ D zs h', zs = vs.take y.toNat → (zs.length : Int) = y → Fr h₀ L h' m → News h₀ L h' ((D, listOf zs.toArray 0) :: news) → (∀ p ∈ news, p.1 < D) → Q (.ref D) { s with heap := h' })
    (hs : subscripted slice false (.ref l) (.ref s.heap.objs.size) = operate [.ref s.heap.objs.size, .ref l] (getItem (.ref l) (.ref s.heap.objs.size))) (ht : ∀ r, letTemporaryGo value (.ref l) r = pure ()) :
    wpAny (model prog w) A (subscriptTail value slice (.ref l) (.ref s.heap.objs.size)) Q E { s with heap := s.heap.push { cls := .type "slice", data := .fields #[.none, vu, .none] } } := by
  refine kmk_slice F N (PySem.IsL.isList (n := n) (N _ hm).1) .none pu (fun D h' F' N' l1 => ?_) hs ht (by rw [List.size_toArray, PySem.sizeLine_eq]; omega)
  rw [pick_to h1 h2] at N'
  refine h D _ h' rfl ?_ F' N' l1
  rw [List.length_take]
  omega
theorem my_sliceR {value slice : PySem.Expr} {vl : Value} {Q : Value → Shared → Prop} (F : Fr h₀ L s.heap m) (N : News h₀ L s.heap news) (hm : (l, listOf vs.toArray n) ∈ news)
    (pl : IsPart vl (some x)) (h1 : 0 ≤ x) (h2 : x ≤ vs.length) (hz : vs.length ≤ 1000000)
    (h : ∀ D zs h', zs = vs.drop x.toNat → (zs.length : Int) = vs.length - x → Fr h₀ L h' m → News h₀ L h' ((D, listOf zs.toArray 0) :: news) → (∀ p ∈ news, p.1 < D) → Q (.ref D) { s with heap := h' })
    (hs : subscripted slice false (.ref l) (.ref s.heap.objs.size) = operate [.ref s.heap.objs.size, .ref l] (getItem (.ref l) (.ref s.heap.objs.size))) (ht : ∀ r, letTemporaryGo value (.ref l) r = pure ()) :
    wpAny (model prog w) A (subscriptTail value slice (.ref l) (.ref s.heap.objs.size)) Q E { s with heap := s.heap.push { cls := .type "slice", data := .fields #[vl, .none, .none] } } := by
  refine kmk_slice F N (PySem.IsL.isList (n := n) (N _ hm).1) pl .none (fun D h' F' N' l1 => ?_) hs ht (by rw [List.size_toArray, PySem.sizeLine_eq]; omega)
  rw [pick_from h1 h2] at N'
  refine h D _ h' rfl ?_ F' N' l1
  rw [List.length_drop]
  omega
/-- [a, b][::-1], the display a temporary -/
theorem my_rev {value slice : PySem.Expr} {a b vk : Value} {ops : List Value} {Q : Value → Shared → Prop} (F : Fr h₀ L s.heap m) (N : News h₀ L s.heap news) (hm : (l, listOf #[a, b] n) ∈ news) (pk : IsPart vk (some (-1)))
    (h : ∀ D h', Fr h₀ L h' m → News h₀ L h' ((D, listOf #[b, a] 0) :: news) → (∀ p ∈ news, p.1 < D) → Q (.ref D) { s with heap := h' })
    (hs : subscripted slice false (.ref l) (.ref s.heap.objs.size) = operate ops (getItem (.ref l) (.ref s.heap.objs.size))) :
    wpAny (model prog w) A (subscriptTail value slice (.ref l) (.ref s.heap.objs.size)) Q E { s with heap := s.heap.push { cls := .type "slice", data := .fields #[.none, .none, vk] } } :=
  kba_turn (value' := PySem.Expr.Name (PySem.Str.ofString "x") ⟨0, 0, 0, 0⟩) (fun _ => rfl) (krv_lit (zs := [b, a]) F N (PySem.IsL.isList (n := n) (N _ hm).1) pk rfl (fun D h' F' N' l1 => h D h' F' N' l1) hs (fun _ => rfl) (by show 2 ≤ sizeLine; rw [PySem.sizeLine_eq]; omega))

theorem reads_ints {a : Addr} {x : List Value} {i : List Int} {k : Nat} (N : News h₀ L s.heap news) (h : (a, listOf x.toArray k) ∈ news) (j : IntsAre x i) : Reads s.heap (.ref a) (.list (i.map PyData.int)) [a] :=
  reads_newData (PySem.IsL.isList (n := k) (N _ h).1) (ke_carried j)
theorem reads_pair {a1 a2 : Addr} {x1 x2 : List Value} {i1 i2 : List Int} {k1 k2 : Nat} (N : News h₀ L s.heap news) (h : (l, listOf #[.ref a1, .ref a2] n) ∈ news) (h1 : (a1, listOf x1.toArray k1) ∈ news) (h2 : (a2, listOf x2.toArray k2) ∈ news)
    (j1 : IntsAre x1 i1) (j2 : IntsAre x2 i2) : ∃ as, Reads s.heap (.ref l) (.list [.list (i1.map PyData.int), .list (i2.map PyData.int)]) as :=
  ⟨_, reads_list_at (N _ h).1 rfl rfl (ReadsAll.cons (reads_ints N h1 j1) (ReadsAll.cons (reads_ints N h2 j2) ReadsAll.nil))⟩
theorem shaped_pair (i1 i2 : List Int) : SeqAt.shaped (.list [.list (i1.map PyData.int), .list (i2.map PyData.int)]) = true := by
  simp [SeqAt.shaped, PyData.canLay0, PyData.canLayAll0, PyData.depth, PyData.depthAll, ke_canLayAll0, ke_depthAll]
/-- two pairs of lists of the same ints: != says no -/
theorem my_ne_pair {a1 a2 b1 b2 : Addr} {x1 x2 y1 y2 : List Value} {i1 i2 : List Int} {k1 k2 k3 k4 : Nat} {Q : Value → Shared → Prop} (N : News h₀ L s.heap news) (h : (l, listOf #[.ref a1, .ref a2] n) ∈ news) (h' : (l2, listOf #[.ref b1, .ref b2] n2) ∈ news)
    (h1 : (a1, listOf x1.toArray k1) ∈ news) (h2 : (a2, listOf x2.toArray k2) ∈ news) (h3 : (b1, listOf y1.toArray k3) ∈ news) (h4 : (b2, listOf y2.toArray k4) ∈ news)
    (j1 : IntsAre x1 i1) (j2 : IntsAre y2 i2) (e1 : y1 = x1) (e2 : x2 = y2) (hu : A.units + 64 < cLine) (q : Q (.bool false) s) :
    wpAny (model prog w) A (compareOp .NotEq (.ref l) (.ref l2)) Q E s := by
  subst e1 e2
  obtain ⟨as, r1⟩ := reads_pair N h h1 h2 j1 j2
  obtain ⟨bs, r2⟩ := reads_pair N h' h3 h4 j1 j2
  refine ne_dataH r1 r2 (shaped_pair _ _) (shaped_pair _ _) hu ?_
  have e : PyData.eqv (.list [.list (i1.map PyData.int), .list (i2.map PyData.int)]) (.list [.list (i1.map PyData.int), .list (i2.map PyData.int)]) = true := by
    simp [PyData.eqv, PyData.eqvAll, ked_eqvAll]
  rw [e]
  exact q
theorem reads_state {a c : Addr} {x : List Value} {i : List Int} {b d e f p0 p1 p2 : Int} {t1 t2 t3 t4 t5 t6 t7 : Tok} {k1 k2 : Nat} (N : News h₀ L s.heap news) (h : (l, listOf #[.ref a, .int b t1, .ref c, .int d t2, .int e t3, .int f t4] n) ∈ news) (h1 : (a, listOf x.toArray k1) ∈ news)
    (h2 : (c, listOf #[.int p0 t5, .int p1 t6, .int p2 t7] k2) ∈ news) (j : IntsAre x i) : ∃ as, Reads s.heap (.ref l) (.list [.list (i.map PyData.int), .int b, .list [.int p0, .int p1, .int p2], .int d, .int e, .int f]) as :=
  ⟨_, reads_list_at (N _ h).1 rfl rfl (ReadsAll.cons (reads_ints N h1 j) (ReadsAll.cons (.int _ _) (ReadsAll.cons (reads_list_at (N _ h2).1 rfl rfl (ReadsAll.cons (.int _ _) (ReadsAll.cons (.int _ _) (ReadsAll.cons (.int _ _) .nil)))) (ReadsAll.cons (.int _ _) (ReadsAll.cons (.int _ _) (ReadsAll.cons (.int _ _) .nil))))))⟩
theorem shaped_state (i : List Int) (b d e f p0 p1 p2 : Int) : SeqAt.shaped (.list [.list (i.map PyData.int), .int b, .list [.int p0, .int p1, .int p2], .int d, .int e, .int f]) = true := by
  simp [SeqAt.shaped, PyData.canLay0, PyData.canLayAll0, PyData.depth, PyData.depthAll, ke_canLayAll0, ke_depthAll]
/-- list(state) == due -/
theorem my_eq_state {a c a' c' : Addr} {x x' : List Value} {i : List Int} {b d e f p0 p1 p2 b' d' e' f' p0' p1' p2' : Int} {t1 t2 t3 t4 t5 t6 t7 u1 u2 u3 u4 u5 u6 u7 : Tok} {k1 k2 k3 k4 : Nat} {Q : Value → Shared → Prop} (N : News h₀ L s.heap news)
    (h : (l, listOf #[.ref a, .int b t1, .ref c, .int d t2, .int e t3, .int f t4] n) ∈ news) (h1 : (a, listOf x.toArray k1) ∈ news) (h2 : (c, listOf #[.int p0 t5, .int p1 t6, .int p2 t7] k2) ∈ news)
    (h' : (l2, listOf #[.ref a', .int b' u1, .ref c', .int d' u2, .int e' u3, .int f' u4] n2) ∈ news) (h3 : (a', listOf x'.toArray k3) ∈ news) (h4 : (c', listOf #[.int p0' u5, .int p1' u6, .int p2' u7] k4) ∈ news)
    (j : IntsAre x i) (ex : x' = x) (eb : b' = b) (ed : d' = d) (ee : e' = e) (ef : f' = f) (e0 : p0' = p0) (e1 : p1' = p1) (e2 : p2' = p2) (hu : A.units + 64 < cLine) (q : Q (.bool true) s) :
    wpAny (model prog w) A (compareOp .Eq (.ref l) (.ref l2)) Q E s := by
  subst ex eb ed ee ef e0 e1 e2
  obtain ⟨as, r1⟩ := reads_state N h h1 h2 j
  obtain ⟨bs, r2⟩ := reads_state N h' h3 h4 j
  refine eq_dataH r1 r2 (shaped_state _ _ _ _ _ _ _ _) (shaped_state _ _ _ _ _ _ _ _) hu ?_
  have e : ∀ (u v o p q r t : Int), PyData.eqv (.list [.list (i.map PyData.int), .int u, .list [.int v, .int o, .int p], .int q, .int r, .int t]) (.list [.list (i.map PyData.int), .int u, .list [.int v, .int o, .int p], .int q, .int r, .int t]) = true := by
    intro u v o p q r t
    simp [PyData.eqv, PyData.eqvAll, ked_eqvAll]
  rw [e]
  exact q
end
/-- behind «if ..: bounds = (..)»: one path -/
structure JB (size : Nat) (ph fi fo : Int) (h₀ : Heap) (L : Addr) (m : Str → Option Value) (R : List (Addr × Obj)) (s : Shared) (f : Flow) (s' : Shared) : Prop where
  next : f = .next
  here : ∃ bv vp vb vz bt bo h tk, s' = { s with heap := h, toks := tk } ∧ Bounds [(bt, bo)] size ph bv vp vb vz ∧ vb ≤ fi ∧ fo ≤ vz ∧ Fr h₀ L h (fun y => if y = PySem.Str.ofString "bounds" then some bv else m y) ∧ News h₀ L h ((bt, bo) :: R)
def JB2 (P : Prop) : Prop := P
theorem join_bounds {M : Model} {A : Around} {E : Value → Shared → Prop} {s : Shared} {env : Env} {h₀ : Heap} {L D C sg : Addr} {m : Str → Option Value} {news R : List (Addr × Obj)} {test : PySem.Expr} {body : List Stmt} {pos : Pos} {sgn : List Value} {ph fi fo k : Int} {t t1 t2 tk : Tok} {nD nsg : Nat} {Q : Flow → Shared → Prop}
    (F : Fr h₀ L s.heap m) (N : News h₀ L s.heap news) (sd : (D, listOf #[.ref C, .int k tk] nD) ∈ news) (hsg : m (PySem.Str.ofString "signs") = some (.ref sg)) (hsl : (sg, listOf sgn.toArray nsg) ∈ news)
    (hph : m (PySem.Str.ofString "own_point_here") = some (.int ph t)) (hfi : m (PySem.Str.ofString "first") = some (.int fi t1)) (hfo : m (PySem.Str.ofString "fourth") = some (.int fo t2)) (K : Keep [D] news R)
    (h : wpAny M A (isTrue test env (eval test env)) (fun b s₂ => if b = true then wpAny M A (execs body env) (fun f s₃ => JB sgn.length ph fi fo h₀ L m R s f s₃) E s₂ else wpAny M A (execs [] env) (fun f s₃ => JB sgn.length ph fi fo h₀ L m R s f s₃) E s₂) E s)
    (k : JB2 (∀ bv vp vb vz bt bo h tk, Bounds [(bt, bo)] sgn.length ph bv vp vb vz → vb ≤ fi → fo ≤ vz → Fr h₀ L h (fun y => if y = PySem.Str.ofString "bounds" then some bv else m y) → News h₀ L h ((bt, bo) :: R) → Q .next { s with heap := h, toks := tk })) :
    wpAny M A (exec (.If test body [] pos) env) Q E s := by
  refine wpAny_mono (wpAny_If h) (fun f s₃ q => ?_) fun _ _ e => e
  obtain ⟨rfl, bv, vp, vb, vz, bt, bo, h', tk', rfl, q1, q4, q5, q2, q3⟩ := q
  exact k bv vp vb vz bt bo h' tk' q1 q4 q5 q2 q3
theorem JB.none {size : Nat} {ph fi fo : Int} {h₀ : Heap} {L z : Addr} {m : Str → Option Value} {zo : Obj} {R news : List (Addr × Obj)} {s : Shared} {h : Heap} {tk : Nat} (hold : m (PySem.Str.ofString "bounds") = some .none) (F : Fr h₀ L h m) (N : News h₀ L h news) (k : ∀ p ∈ (z, zo) :: R, p ∈ news)
    (h1 : 1 ≤ fi) (h2 : fo ≤ size + 1) : JB size ph fi fo h₀ L m R s .next { s with heap := h, toks := tk } := by
  refine ⟨rfl, .none, _, _, _, z, zo, h, tk, rfl, .none, h1, by omega, ?_, cb_drop N k⟩
  have e : (fun y => if y = PySem.Str.ofString "bounds" then some Value.none else m y) = m := by
    funext y
    by_cases hy : y = PySem.Str.ofString "bounds"
    · rw [if_pos hy, hy, hold]
    · rw [if_neg hy]
  rw [e]
  exact F
theorem JB.some {size : Nat} {ph fi fo x y : Int} {t1 t2 : Tok} {h₀ : Heap} {L z : Addr} {m : Str → Option Value} {R news : List (Addr × Obj)} {s : Shared} {h : Heap} {tk : Nat} (F : Fr h₀ L h (fun q => if q = PySem.Str.ofString "bounds" then Option.some (.ref z) else m q)) (N : News h₀ L h news) (k : ∀ p ∈ (z, boundsO x y t1 t2) :: R, p ∈ news)
    (h1 : 1 ≤ x) (h2 : x ≤ y) (h3 : y ≤ size + 1) (h4 : x ≤ fi) (h5 : fo ≤ y) : JB size ph fi fo h₀ L m R s .next { s with heap := h, toks := tk } :=
  ⟨rfl, .ref z, _, _, _, z, boundsO x y t1 t2, h, tk, rfl, .some (.head _) h1 h2 h3, h4, h5, F, cb_drop N k⟩


theorem ints_cut {z T : List Value} {ns : List Int} {a b : Nat} (h : z = List.take a (List.drop b T)) (j : IntsAre T ns) : IntsAre z ((ns.drop b).take a) := h ▸ (j.drop b).take a
theorem gone_eq1 {z z0 W2 : List Value} {V : View} {a b c d : Int} {h2 : Bool} (h : z = List.take ((b - 1).toNat - (a - 1).toNat) (List.drop (a - 1).toNat (V.done c d W2 h2).text)) (h0 : z0 = List.take ((b - 1).toNat - (a - 1).toNat) (List.drop (a - 1).toNat V.text))
    (e0 : 1 ≤ a) (e1 : a ≤ b) (e2 : b < c) (e3 : c ≤ d) (e4 : d ≤ V.text.length + 1) : z = z0 := by
  rw [h, h0]
  exact view_gone1 e0 e1 e2 e3 e4
theorem gone_eq2 {z z0 W1 : List Value} {V : View} {a b c d more : Int} {h1 : Bool} (h : z = List.take ((d + more - 1).toNat - (c + more - 1).toNat) (List.drop (c + more - 1).toNat (V.done (a + 0) (b + 0) W1 h1).text))
    (h0 : z0 = List.take ((d + 0 - 1).toNat - (c + 0 - 1).toNat) (List.drop (c + 0 - 1).toNat V.text)) (e0 : 1 ≤ a) (e1 : a ≤ b) (e2 : b < c) (e3 : c ≤ d) (e4 : d ≤ V.text.length + 1) (hm : more = (W1.length : Int) - (b - a)) : z = z0 := by
  simp only [Int.add_zero] at h h0
  rw [h, h0]
  exact view_gone2 e0 e1 e2 e3 e4 hm
theorem gone_eq3 {z z0 : List Value} {T : List Value} {a b : Int} (h : z = List.take ((b - 1).toNat - (a - 1).toNat) (List.drop (a - 1).toNat T)) (h0 : z0 = List.take ((b + 0 - 1).toNat - (a + 0 - 1).toNat) (List.drop (a + 0 - 1).toNat T)) : z = z0 := by
  simp only [Int.add_zero] at h h0
  rw [h, h0]
theorem gone_eq4 {z z0 W1 : List Value} {V : View} {a b c d more : Int} {h1 : Bool} (h : z = List.take ((d + more - 1).toNat - (c + more - 1).toNat) (List.drop (c + more - 1).toNat (V.done (a + 0) (b + 0) W1 h1).text))
    (h0 : z0 = List.take ((d - 1).toNat - (c - 1).toNat) (List.drop (c - 1).toNat V.text)) (e0 : 1 ≤ a) (e1 : a ≤ b) (e2 : b < c) (e3 : c ≤ d) (e4 : d ≤ V.text.length + 1) (hm : more = (W1.length : Int) - (b - a)) : z = z0 := by
  simp only [Int.add_zero] at h
  rw [h, h0]
  exact view_gone2 e0 e1 e2 e3 e4 hm
/-- what due says of the text -/
theorem due_text {T z1 z2 z3 s1 s2 s3 s4 W1 W2 : List Value} {V : View} {a b c d more : Int} {h1 h2 : Bool} (hT : V.text = T)
    (f1 : z1 = T.take (a - 1).toNat) (f2 : s1 = z1 ++ W1) (f3 : z2 = (T.drop (b - 1).toNat).take ((c - 1).toNat - (b - 1).toNat)) (f4 : s2 = s1 ++ z2) (f5 : s3 = s2 ++ W2) (f6 : z3 = T.drop (d - 1).toNat) (f7 : s4 = s3 ++ z3)
    (e0 : 1 ≤ a) (e1 : a ≤ b) (e2 : b < c) (e3 : c ≤ d) (e4 : d ≤ V.text.length + 1) (hm : more = (W1.length : Int) - (b - a)) :
    s4 = ((V.done (a + 0) (b + 0) W1 h1).done (c + more) (d + more) W2 h2).text := by
  rw [Int.add_zero, Int.add_zero, view_text e0 e1 e2 e3 e4 hm, f7, f5, f4, f2, f1, f3, f6, hT]
/-- the later buffer's view is the first one's -/
theorem later_view {V : View} {a b c d more : Int} {W1 W2 : List Value} {h1 h2 : Bool} (e0 : 1 ≤ a) (e1 : a ≤ b) (e2 : b < c) (e3 : c ≤ d) (e4 : d ≤ V.text.length + 1) (hm : more = (W1.length : Int) - (b - a)) :
    (V.done (c + 0) (d + 0) W2 h2).done (a + 0) (b + 0) W1 h1 = (V.done (a + 0) (b + 0) W1 h1).done (c + more) (d + more) W2 h2 := by
  simp only [Int.add_zero]
  exact view_comm e0 e1 e2 e3 e4 hm


theorem unrw_keep {h₀ : Heap} {L I : Addr} {it : Obj} {rest : (Str → Option Value) → List (Addr × Obj) → Prop} {s₁ : Shared} {h' : Heap} {tk : Nat} {m' : Str → Option Value} {all news' : List (Addr × Obj)} (F : Fr h₀ L h' m') (N : News h₀ L h' all)
    (hI : (I, it) ∈ all) (K : Keep [I] all news') (r : rest m' news') : UnrEndW h₀ L s₁ [(I, it)] rest { s₁ with heap := h', toks := tk } := by
  refine ⟨h', tk, m', news', rfl, F, cb_drop N (sub_cons hI K.sub), fun p hp q hq => ?_, r⟩
  rw [List.mem_singleton] at hq
  rw [hq]
  exact (K.off p hp).1
def JO (P : Prop) : Prop := P
theorem join_or2 {A : Around} {M : Model} {env : Env} {nm : Str} {sl : PySem.Expr} {p1 p2 pos : Pos} {b ah : Bool} {s₂ : Shared} {E : Value → Shared → Prop} {QQ : Value → Shared → Prop} {h₀ : Heap} {L e c : Addr} {m : Str → Option Value} {news : List (Addr × Obj)} {st en : Int} {t1 t2 : Tok}
    (_F : Fr h₀ L s₂.heap m) (_N : News h₀ L s₂.heap news) (_hx : m nm = some (.ref e)) (_he : (e, editO st en t1 t2 c ah) ∈ news)
    (h : wpAny M A (eval (.BoolOp .Or [.Subscript (.Name nm p1) sl p2] pos) env) (fun v s₃ => v = .bool ah ∧ ∃ tk, s₃ = { s₂ with toks := tk }) E s₂) (hQ : JO (∀ tk, QQ (.bool (b || ah)) { s₂ with toks := tk })) :
    if b = true then QQ (.bool b) s₂ else wpAny M A (eval (.BoolOp .Or [.Subscript (.Name nm p1) sl p2] pos) env) QQ E s₂ := join_or h hQ
theorem my_titem {prog : Program} {w : World} {A : Around} {E : Value → Shared → Prop} {s : Shared} {h₀ : Heap} {L t : Addr} {news : List (Addr × Obj)} {its : Array Value} {n j : Nat} {value slice : PySem.Expr} {k : Int} {u : Tok} {x : Value} {Q : Value → Shared → Prop}
    (N : News h₀ L s.heap news) (hm : (t, ({ cls := .type "tuple", data := .seq its n } : Obj)) ∈ news) (hlo : -(2 ^ 63) ≤ k) (hhi : k < 2 ^ 63) (hj : seqIndex? k its.size = some j) (hx : its[j]? = some x) (h : Q x s)
    (hs : subscripted slice false (.ref t) (.int k u) = operate [.ref t, .int k u] (getItem (.ref t) (.int k u))) (hg : ∀ r, letTemporaryGo value (.ref t) r = pure ()) :
    wpAny (model prog w) A (subscriptTail value slice (.ref t) (.int k u)) Q E s :=
  item_tuple (News.isTup N hm) hlo hhi hj hx h hs hg
section
variable {prog : Program} {w : World} {A : Around} {E : Value → Shared → Prop} {s : Shared} {h₀ : Heap} {L t c : Addr} {news : List (Addr × Obj)} {value slice : PySem.Expr} {u t1 t2 : Tok} {st en : Int} {ah : Bool} {Q : Value → Shared → Prop}
theorem edit_item2 (N : News h₀ L s.heap news) (hm : (t, editO st en t1 t2 c ah) ∈ news) (h : Q (.ref c) s) (hs : subscripted slice false (.ref t) (.int 2 u) = operate [.ref t, .int 2 u] (getItem (.ref t) (.int 2 u))) (hg : ∀ r, letTemporaryGo value (.ref t) r = pure ()) :
    wpAny (model prog w) A (subscriptTail value slice (.ref t) (.int 2 u)) Q E s := my_titem (j := 2) N hm (by decide) (by decide) rfl rfl h hs hg
theorem edit_item3 (N : News h₀ L s.heap news) (hm : (t, editO st en t1 t2 c ah) ∈ news) (h : Q (.bool ah) s) (hs : subscripted slice false (.ref t) (.int 3 u) = operate [.ref t, .int 3 u] (getItem (.ref t) (.int 3 u))) (hg : ∀ r, letTemporaryGo value (.ref t) r = pure ()) :
    wpAny (model prog w) A (subscriptTail value slice (.ref t) (.int 3 u)) Q E s := my_titem (j := 3) N hm (by decide) (by decide) rfl rfl h hs hg
variable {v0 v1 v2 v3 v4 v5 : Value} {n : Nat}
theorem state_item1 (N : News h₀ L s.heap news) (hm : (t, ({ cls := .type "tuple", data := .seq #[v0, v1, v2, v3, v4, v5] n } : Obj)) ∈ news) (h : Q v1 s) (hs : subscripted slice false (.ref t) (.int 1 u) = operate [.ref t, .int 1 u] (getItem (.ref t) (.int 1 u))) (hg : ∀ r, letTemporaryGo value (.ref t) r = pure ()) :
    wpAny (model prog w) A (subscriptTail value slice (.ref t) (.int 1 u)) Q E s := my_titem (j := 1) N hm (by decide) (by decide) rfl rfl h hs hg
theorem state_item3 (N : News h₀ L s.heap news) (hm : (t, ({ cls := .type "tuple", data := .seq #[v0, v1, v2, v3, v4, v5] n } : Obj)) ∈ news) (h : Q v3 s) (hs : subscripted slice false (.ref t) (.int 3 u) = operate [.ref t, .int 3 u] (getItem (.ref t) (.int 3 u))) (hg : ∀ r, letTemporaryGo value (.ref t) r = pure ()) :
    wpAny (model prog w) A (subscriptTail value slice (.ref t) (.int 3 u)) Q E s := my_titem (j := 3) N hm (by decide) (by decide) rfl rfl h hs hg
theorem state_item4 (N : News h₀ L s.heap news) (hm : (t, ({ cls := .type "tuple", data := .seq #[v0, v1, v2, v3, v4, v5] n } : Obj)) ∈ news) (h : Q v4 s) (hs : subscripted slice false (.ref t) (.int 4 u) = operate [.ref t, .int 4 u] (getItem (.ref t) (.int 4 u))) (hg : ∀ r, letTemporaryGo value (.ref t) r = pure ()) :
    wpAny (model prog w) A (subscriptTail value slice (.ref t) (.int 4 u)) Q E s := my_titem (j := 4) N hm (by decide) (by decide) rfl rfl h hs hg
theorem state_item5 (N : News h₀ L s.heap news) (hm : (t, ({ cls := .type "tuple", data := .seq #[v0, v1, v2, v3, v4, v5] n } : Obj)) ∈ news) (h : Q v5 s) (hs : subscripted slice false (.ref t) (.int 5 u) = operate [.ref t, .int 5 u] (getItem (.ref t) (.int 5 u))) (hg : ∀ r, letTemporaryGo value (.ref t) r = pure ()) :
    wpAny (model prog w) A (subscriptTail value slice (.ref t) (.int 5 u)) Q E s := my_titem (j := 5) N hm (by decide) (by decide) rfl rfl h hs hg
end
structure LtW (d : Addr) (l : List (Addr × Obj)) : Prop where
  lt : ∀ p ∈ l, p.1 < d
theorem LtW.sub {d : Addr} {l r : List (Addr × Obj)} (h : LtW d l) (k : ∀ p ∈ r, p ∈ l) : AllLt d r := allLt_of fun p hp => h.lt p (k p hp)
def JI (P : Prop) : Prop := P


/-- the law's own text, cut into stretches: each stretch is walked by itself, in a clean context -/
noncomputable def lawBody (k : Nat) : List Stmt := (bodyOf (stAt 36)).drop k
noncomputable def lawScope : Scope := fnScope (stAt 36)
noncomputable def lay (m : Str → Option Value) : List (Str × Value) → Str → Option Value
  | [] => m
  | (x, v) :: r => fun y => if y = x then some v else lay m r y
theorem lay_eq {m : Str → Option Value} : ∀ {l : List (Str × Value)}, (∀ p ∈ l, m p.1 = some p.2) → lay m l = m
  | [], _ => rfl
  | (x, v) :: r, h => by
    funext y
    show (if y = x then some v else lay m r y) = m y
    rw [lay_eq fun p hp => h p (.tail _ hp)]
    by_cases q : y = x
    · rw [if_pos q, q]
      exact (h _ (.head _)).symm
    · rw [if_neg q]
theorem fr_lay {h₀ h : Heap} {L : Addr} {m : Str → Option Value} (F : Fr h₀ L h m) {l : List (Str × Value)} (e : ∀ p ∈ l, m p.1 = some p.2) : Fr h₀ L h (lay m l) := (lay_eq e).symm ▸ F
theorem no_raise {α : Type} {M : Model} {A : Around} {t : Sem α} {Q : α → Shared → Prop} {E : Value → Shared → Prop} {s : Shared} (h : wpAny M A t Q (fun _ _ => False) s) : wpAny M A t Q E s := wpAny_mono h (fun _ _ x => x) fun _ _ x => x.elim
theorem names_cons {m : Str → Option Value} {x : Str} {v : Value} {r : List (Str × Value)} (h : m x = some v) (t : ∀ p ∈ r, m p.1 = some p.2) : ∀ p ∈ (x, v) :: r, m p.1 = some p.2 := List.forall_mem_cons.mpr ⟨h, t⟩
theorem names_nil {m : Str → Option Value} : ∀ p ∈ ([] : List (Str × Value)), m p.1 = some p.2 := fun _ h => nomatch h
theorem edP_two {a1 b1 a2 b2 p : Int} {k1 k2 : Nat} {h1 h2 b : Bool} : edP a2 b2 k2 false (edP a1 b1 k1 false p (b || h1)) (b || h2) = edP a2 b2 k2 h2 (edP a1 b1 k1 h1 p b) b := by
  rw [edP_or (st := a2) (ah := h2), edP_or (st := a1) (ah := h1)]
theorem iter_three {prog : Program} {w : World} {A : Around} {E : Value → Shared → Prop} {s : Shared} {h₀ : Heap} {env : Env} {target : PySem.Expr} {body : List Stmt} {Q : Flow → Shared → Prop} {m₀ : Str → Option Value} {news : List (Addr × Obj)} {ax m0 m1 m2 : Addr} {n : Nat}
    (hh : A.handled = none) (F : Fr h₀ env.locals s.heap m₀) (N : News h₀ env.locals s.heap news) (hM : (ax, listOf #[.ref m0, .ref m1, .ref m2] n) ∈ news)
    (rest : JI (∀ I : Addr, (∀ p ∈ news, p.1 < I) → ItemsRest prog w A E h₀ env target body Q s [(I, "list_iterator")] [(ax, listOf #[.ref m0, .ref m1, .ref m2] n)] [.val (.ref m0), .val (.ref m1), .val (.ref m2)] m₀ news)) :
    wpAny (model prog w) A (pyIter (.ref ax)) (fun it s₂ => TurnsAt prog w A h₀ env target body Q E it s₂) E s :=
  iter_listTurns (vs := [.ref m0, .ref m1, .ref m2]) hh F N hM rfl rfl rest
theorem nm_hit {α β : Type} {x : α} {i : Decidable (x = x)} {v : β} {r : Option β} : (if x = x then some v else r) = some v := if_pos rfl
theorem nm_skip {α β : Type} {x y : α} {i : Decidable (y = x)} {v w : β} {r : Option β} (h : y ≠ x) (k : r = some w) : (if y = x then some v else r) = some w := (if_neg h).trans k
/-- what of the law's own objects stands when both edits are drawn -/
structure Held (Y : List (Addr × Obj)) (ax m0 m1 m2 e1 c1 e2 c2 : Addr) (W1 W2 : List Value) (nM k1 k2 : Nat) (fi se th fo p0 p1 p2 : Int) (u1 u2 u5 u6 u7 u9 td : Tok) (b0 b1 b2 ah1 ah2 : Bool) : Prop where
  ax : (ax, listOf #[.ref m0, .ref m1, .ref m2] nM) ∈ Y
  m0 : (m0, markO p0 u7 b0) ∈ Y
  m1 : (m1, markO p1 u9 b1) ∈ Y
  m2 : (m2, markO p2 td b2) ∈ Y
  e1 : (e1, editO fi se u1 u2 c1 ah1) ∈ Y
  c1 : (c1, listOf W1.toArray k1) ∈ Y
  e2 : (e2, editO th fo u5 u6 c2 ah2) ∈ Y
  c2 : (c2, listOf W2.toArray k2) ∈ Y
theorem Held.mono {Y Y' : List (Addr × Obj)} {ax m0 m1 m2 e1 c1 e2 c2 : Addr} {W1 W2 : List Value} {nM k1 k2 : Nat} {fi se th fo p0 p1 p2 : Int} {u1 u2 u5 u6 u7 u9 td : Tok} {b0 b1 b2 ah1 ah2 : Bool}
    (M : Held Y ax m0 m1 m2 e1 c1 e2 c2 W1 W2 nM k1 k2 fi se th fo p0 p1 p2 u1 u2 u5 u6 u7 u9 td b0 b1 b2 ah1 ah2) (h : ∀ p ∈ Y, p ∈ Y') : Held Y' ax m0 m1 m2 e1 c1 e2 c2 W1 W2 nM k1 k2 fi se th fo p0 p1 p2 u1 u2 u5 u6 u7 u9 td b0 b1 b2 ah1 ah2 :=
  ⟨h _ M.ax, h _ M.m0, h _ M.m1, h _ M.m2, h _ M.e1, h _ M.c1, h _ M.e2, h _ M.c2⟩


local macro_rules | `(tactic| walk_at "NM") => `(tactic| first | with_reducible assumption | exact nm_hit | (refine' nm_skip ?a ?b; (case a => decide); (case b => walk_at "NM")))
/-- the body of the last loop -/
noncomputable def tailBody : List Stmt := match lawBody 21 with
  | .For _ _ body _ _ :: _ => body
  | _ => []
/-- one turn of it -/
theorem law_tturn {w : World} {mean : ExcName → Option Value} {mg mb : Str → Option Value} {dp un : Nat} {gd : Option (List Code)} {cn : Str} {L a : Addr} {ccd : Value} {cl : List (Str × Addr)} {outer : List Env} {A₀ : Around} {base h₀ : Heap} {m : Str → Option Value} {s : Shared} {Q : Flow → Shared → Prop} {E : Value → Shared → Prop}
    {P e1 c1 e2 c2 : Addr} {all R : List (Addr × Obj)} {A : Array Value} {kP k1 k2 : Nat} {fi se th fo p more : Int} {u1 u2 u3 u4 u7 u8 : Tok} {W1 W2 : List Value} {ah1 ah2 b : Bool}
    (B : Below A₀ base outer h₀) (F : Fr h₀ L s.heap m) (X : (heapK w.params).In h₀) (Tp : Top view LO mean mg mb h₀) (hr : dp + 21 < recursionLimit) (hu : un + 170 < cLine)
    (N : News h₀ L s.heap all) (n1 : m (Str.ofString "places") = some (.ref P)) (sP : (P, listOf A kP) ∈ all) (hA : A.size ≤ 10) (K : Keep [P] all R)
    (n2 : m (Str.ofString "place") = some (.int p u7)) (n3 : m (Str.ofString "advances") = some (.bool b)) (n4 : m (Str.ofString "one") = some (.ref e1)) (n5 : m (Str.ofString "other") = some (.ref e2)) (n6 : m (Str.ofString "own_more") = some (.int more u8))
    (he1 : (e1, editO fi se u1 u2 c1 ah1) ∈ R) (hc1 : (c1, listOf W1.toArray k1) ∈ R) (he2 : (e2, editO th fo u3 u4 c2 ah2) ∈ R) (hc2 : (c2, listOf W2.toArray k2) ∈ R) (s1 : fi ≤ se) (s2 : th ≤ fo) (z1 : W1.length ≤ 3) (z2 : W2.length ≤ 3)
    (hQ : ∀ h' tk' tb t2, Fr h₀ L h' (fun y => if y = Str.ofString "behind" then some (.int (edP (fi + 0) (se + 0) W1.length false p (b || ah1)) tb) else m y) →
      News h₀ L h' ((P, listOf (A.push (.int (edP (th + more) (fo + more) W2.length false (edP (fi + 0) (se + 0) W1.length false p (b || ah1)) (b || ah2)) t2)) (kP + 1)) :: R) → Q .next { s with heap := h', toks := tk' }) :
    wpAny (model PySem.Challenge.pw_np0066_01 w) (ktrTop dp un gd cn lawScope L a ccd cl outer) (execs tailBody (envX cn lawScope L a ccd cl)) Q E s := by
  have N0 := cb_drop N (sub_cons sP K.sub)
  have offP : ∀ p ∈ R, OffL p.1 [P] := K.off
  clear N K sP
  with_unfolding_all show wpAny _ _ (execs (_ :: _) _) _ _ _
  repeat' (first | (k_unfold; (try dsimp only)) | (k_end; wrow_close) | with_reducible ((k_here; (with_reducible show _ = Value.bool _ ∧ ∃ tk, _); exact ⟨rfl, _, rfl⟩)) | ((with_reducible show Mine.JI _); ((show ∀ _, _ → _); intro i' l1; (try k_lt l1))) | ((with_reducible show Mine.JO _); ((show ∀ _, _); intro tk'; (try dsimp only))) | with_reducible ((with_reducible show UnrEndW ..); (k_dflt (refine' unrw_keep (by k_asm) (by k_asm) (by first | (k_mem; done) | fail) (by first | (k_allIn; done) | fail) ⟨⟨(by first | (k_mem; done) | fail), True.intro⟩, ?_⟩))) | with_reducible ((with_reducible show PySem.wpAny _ _ (PySem.call (PySem.Value.builtin _) _) _ _ _); (k_here; (with_reducible show wpAny _ _ (call (Value.builtin "len") [Value.ref _]) _ _ _); k_dflt (refine' my_len (by k_asm) (by first | (k_mem; done) | fail) (by first | ((first | with_reducible assumption | omega); done) | fail) ?_; k_whole))) | with_reducible ((with_reducible show PySem.wpAny _ _ (PySem.call (PySem.Value.ref _) _) _ _ _); (k_here; (with_reducible show wpAny _ _ (PySem.call (Value.ref 513) _) _ _ _); k_dflt (refine' use_A (by k_asm) sub_refl (by k_asm) (by k_asm) (by k_asm) (by k_asm) (by first | ((first | exact rfl | assumption); done) | fail) (by ktr_room) (by ktr_units) (place_T (by first | (k_mem; done) | fail) (by first | (k_mem; done) | fail) (by first | ((first | with_reducible assumption | omega); done) | fail) (by first | ((first | with_reducible assumption | omega); done) | fail)) ?_; k_whole); intro t' h' tk' F' N'; (try k_sweep))) | with_reducible ((with_reducible show PySem.wpAny _ _ (PySem.call (PySem.Value.ref _) _) _ _ _); (k_here; (with_reducible show wpAny _ _ (PySem.call (Value.ref 518) _) _ _ _); k_dflt (refine' use_A (by k_asm) sub_refl (by k_asm) (by k_asm) (by k_asm) (by k_asm) (by first | ((first | exact rfl | assumption); done) | fail) (by ktr_room) (by ktr_units) (state_T (by assumption) (by first | (lcg_sub; done) | fail) (by first | ((first | with_reducible assumption | ((try dsimp only [View.done, lawView]); omega)); done) | fail)) ?_; k_whole); intro t' q' pl' t1' t2' t3' t4' t5' t6' t7' nq' np' l1 h' tk' F' N'; (dsimp only [AllLt] at l1); (try k_sweep))) | with_reducible ((with_reducible show PySem.wpAny _ _ (PySem.compareOp PySem.CmpOp.Eq (PySem.Value.ref _) (PySem.Value.ref _)) _ _ _); (k_here; (with_reducible show wpAny _ _ (compareOp CmpOp.Eq (Value.ref _) (Value.ref _)) _ _ _); k_dflt (refine' my_eq_state (by k_asm) (by first | (k_mem; done) | fail) (by first | (k_mem; done) | fail) (by first | (k_mem; done) | fail) (by first | (k_mem; done) | fail) (by first | (k_mem; done) | fail) (by first | (k_mem; done) | fail) (by assumption) (by assumption) (by assumption) (by assumption) (by first | ((first | assumption | omega); done) | fail) (by first | ((first | assumption | omega); done) | fail) (by assumption) (by assumption) (by assumption) (by first | ((first | ke_room | ktr_units); done) | fail) ?_))) | with_reducible ((with_reducible show PySem.wpAny _ _ (PySem.eval (PySem.Expr.Name _ _) _) _ _ _); (k_here; k_dflt (refine' nameX_L (by k_asm) (by first | (walk_at "NM"; done) | fail) ?_ (by rfl) (by rfl); k_whole))) | with_reducible ((with_reducible show PySem.wpAny _ _ (PySem.exec (PySem.Stmt.For (PySem.Expr.Tuple _ _ _) _ _ _ _) _) _ _ _); (k_here; (rename Fr _ _ _ _ => lF); (with_unfolding_all refine' For_turns lF ?_; k_whole))) | with_reducible ((with_reducible show ite _ _ _); (k_here; (with_reducible show ite _ _ (wpAny _ _ (eval (PySem.Expr.BoolOp PySem.BoolOp.Or [_] _) _) _ _ _)); k_dflt (refine' join_or2 (by k_asm) (by k_asm) (by first | ((first | walk_at "NM" | with_unfolding_all rfl); done) | fail) (by first | (k_mem; done) | fail) ?_ ?_))) | with_reducible ((with_reducible show PySem.wpAny _ _ (PySem.pyIter (PySem.Value.ref _)) _ _ _); (k_here; (with_reducible show wpAny _ _ (pyIter (Value.ref _)) (fun it s₂ => TurnsAt _ _ _ _ _ _ _ _ _ it s₂) _ _); k_dflt (refine' iter_three (by exact rfl) (by k_asm) (by k_asm) (by first | (k_mem; done) | fail) ?_))) | with_reducible ((with_reducible show PySem.wpAny _ _ (subscriptTail (PySem.Expr.Name _ _) (PySem.Expr.Constant _ _ _) (PySem.Value.ref _) (PySem.Value.int _ _)) _ _ _); (k_here; first | ((with_reducible show wpAny _ _ (subscriptTail _ _ (Value.ref _) (Value.int 2 _)) _ _ _); k_dflt (refine' edit_item2 (by k_asm) (by first | (k_mem; done) | fail) ?_ (by first | (with_unfolding_all rfl; done) | fail) (by first | ((intro _; with_unfolding_all rfl); done) | fail); k_whole)) | ((with_reducible show wpAny _ _ (subscriptTail _ _ (Value.ref _) (Value.int 3 _)) _ _ _); k_dflt (refine' edit_item3 (by k_asm) (by first | (k_mem; done) | fail) ?_ (by first | (with_unfolding_all rfl; done) | fail) (by first | ((intro _; with_unfolding_all rfl); done) | fail); k_whole)) | ((with_reducible show wpAny _ _ (subscriptTail _ _ (Value.ref _) (Value.int 1 _)) _ _ _); k_dflt (refine' state_item1 (by k_asm) (by first | (k_mem; done) | fail) ?_ (by first | (with_unfolding_all rfl; done) | fail) (by first | ((intro _; with_unfolding_all rfl); done) | fail); k_whole)) | ((with_reducible show wpAny _ _ (subscriptTail _ _ (Value.ref _) (Value.int 3 _)) _ _ _); k_dflt (refine' state_item3 (by k_asm) (by first | (k_mem; done) | fail) ?_ (by first | (with_unfolding_all rfl; done) | fail) (by first | ((intro _; with_unfolding_all rfl); done) | fail); k_whole)) | ((with_reducible show wpAny _ _ (subscriptTail _ _ (Value.ref _) (Value.int 4 _)) _ _ _); k_dflt (refine' state_item4 (by k_asm) (by first | (k_mem; done) | fail) ?_ (by first | (with_unfolding_all rfl; done) | fail) (by first | ((intro _; with_unfolding_all rfl); done) | fail); k_whole)) | ((with_reducible show wpAny _ _ (subscriptTail _ _ (Value.ref _) (Value.int 5 _)) _ _ _); k_dflt (refine' state_item5 (by k_asm) (by first | (k_mem; done) | fail) ?_ (by first | (with_unfolding_all rfl; done) | fail) (by first | ((intro _; with_unfolding_all rfl); done) | fail); k_whole)))) | walk1 | (dsimp only) | (leave1; (try dsimp only)) | fail "no step")
  refine' hQ _ _ _ _ ?cf ?cn
  case cn => k_asm
  case cf => k_asm
section
/-- from the loop on: places, due, the two comparisons -/
theorem law_tail {w : World} {mean : ExcName → Option Value} {mg mb : Str → Option Value} {dp un : Nat} {gd : Option (List Code)} {cn : Str} {L a : Addr} {ccd : Value} {cl : List (Str × Addr)} {outer : List Env} {A₀ : Around} {base h₀ : Heap} {m : Str → Option Value} {s : Shared} {Q : Flow → Shared → Prop}
    {P Du OP e1 c1 e2 c2 ax m0 m1 m2 g lo1 hi1 lo2 hi2 bx1 bx2 om1 om2 : Addr} {Y B1 B2 : List (Addr × Obj)} {V : View} {v0 v1 v2 : Value} {kP kD kO k1 k2 nM : Nat} {x fi se th fo p0 p1 p2 more bg zv tk : Int} {tx u1 u2 u3 u4 u5 u6 u7 u8 u9 ta tb tc td : Tok} {op W1 W2 : List Value} {ns : List Int} {ah1 ah2 b0 b1 b2 : Bool}
    (B : Below A₀ base outer h₀) (X : (heapK w.params).In h₀) (Tp : Top view LO mean mg mb h₀) (hr : dp + 21 < recursionLimit) (hu : un + 170 < cLine)
    (F : Fr h₀ L s.heap m)
    (n1 : m (Str.ofString "places") = some (.ref P)) (n2 : m (Str.ofString "due") = some (.ref Du)) (n3 : m (Str.ofString "own_begun") = some (.ref g)) (n4 : m (Str.ofString "later_marks") = some (.ref om2)) (n5 : m (Str.ofString "later_buffer") = some (.ref bx2)) (n6 : m (Str.ofString "first_marks") = some (.ref om1)) (n7 : m (Str.ofString "first_buffer") = some (.ref bx1)) (n8 : m (Str.ofString "own_more") = some (.int more u8)) (n9 : m (Str.ofString "other") = some (.ref e2)) (n10 : m (Str.ofString "one") = some (.ref e1)) (n11 : m (Str.ofString "fourth") = some (.int fo u4)) (n12 : m (Str.ofString "third") = some (.int th u3)) (n13 : m (Str.ofString "marks") = some (.ref ax))
    (N : News h₀ L s.heap ((P, listOf #[] kP) :: (Du, listOf #[.ref OP, .int x tx] kD) :: Y))
    (hO : (OP, listOf op.toArray kO) ∈ Y) (hg : (g, { cls := .type "tuple", data := .seq #[v0, v1, v2, .int bg ta, .int zv tb, .int tk tc] }) ∈ Y) (M : Held Y ax m0 m1 m2 e1 c1 e2 c2 W1 W2 nM k1 k2 fi se th fo p0 p1 p2 u1 u2 u5 u6 u7 u9 td b0 b1 b2 ah1 ah2)
    (lP : Hid (@LT.lt Nat _ Du P ∧ AllLt P Y)) (lD : AllLt Du Y)
    (I1 : BufIs w lo1 hi1 bx1 om1 B1 V) (hB1 : ∀ p ∈ B1, p ∈ Y) (I2 : BufIs w lo2 hi2 bx2 om2 B2 V) (hB2 : ∀ p ∈ B2, p ∈ Y) (s1 : fi ≤ se) (s2 : th ≤ fo) (z1 : W1.length ≤ 3) (z2 : W2.length ≤ 3) (hcap : V.cap ≤ 90000)
    (ht : op = V.text) (hi : IntsAre op ns) (hx : x = V.pt) (hb : bg = V.begv) (hz : zv + more + W2.length - (fo - th) = V.zv) (hk : tk + 2 = V.tick)
    (h0 : edP (th + more) (fo + more) W2.length ah2 (edP (fi + 0) (se + 0) W1.length ah1 p0 b0) b0 = V.p0) (h1 : edP (th + more) (fo + more) W2.length ah2 (edP (fi + 0) (se + 0) W1.length ah1 p1 b1) b1 = V.p1) (h2 : edP (th + more) (fo + more) W2.length ah2 (edP (fi + 0) (se + 0) W1.length ah1 p2 b2) b2 = V.p2)
    (hQ : ∀ h' tk' m', Fr h₀ L h' m' → Q (.ret (.bool true)) { s with heap := h', toks := tk' }) :
    wpAny (model PySem.Challenge.pw_np0066_01 w) (ktrTop dp un gd cn lawScope L a ccd cl outer) (execs (lawBody 21) (envX cn lawScope L a ccd cl)) Q (fun _ _ => False) s := by
  obtain ⟨q1, q2, q3, q4, q5, q6, q7, q8⟩ := M
  rw [← edP_two] at h0 h1 h2
  have hi2 : IntsAre V.text ns := ht ▸ hi
  with_unfolding_all show wpAny _ _ (execs (_ :: _ :: _ :: []) _) _ _ _
  repeat' (first | (k_unfold; (try dsimp only)) | (k_end; wrow_close) | ((with_reducible show PySem.wpAny _ _ (PySem.execs (_ :: _) _) _ _ _); (k_here; (with_reducible show wpAny _ _ (PySem.execs (PySem.Stmt.Assign [PySem.Expr.Name _ _] (PySem.Expr.Call _ _ _ _) _ :: PySem.Stmt.Expr _ _ :: _) _) _ _ _); (with_unfolding_all show wpAny _ _ (PySem.execs tailBody _) _ _ _); k_dflt (refine' law_tturn (P := P) B (by k_asm) X Tp hr hu (by k_asm) (by first | (walk_at "NM"; done) | fail) (by first | (k_mem; done) | fail) (by exact Nat.le_of_ble_eq_true rfl) (by first | (k_allIn; done) | fail) (by first | (walk_at "NM"; done) | fail) (by first | (walk_at "NM"; done) | fail) (by first | (walk_at "NM"; done) | fail) (by first | (walk_at "NM"; done) | fail) (by first | (walk_at "NM"; done) | fail) (by first | (k_mem; done) | fail) (by first | (k_mem; done) | fail) (by first | (k_mem; done) | fail) (by first | (k_mem; done) | fail) (by assumption) (by assumption) (by assumption) (by assumption) ?_; k_whole); intro h' tk' tb' t2' F' N'; (try k_sweep))) | with_reducible ((k_here; (with_reducible show _ = Value.bool _ ∧ ∃ tk, _); exact ⟨rfl, _, rfl⟩)) | ((with_reducible show Mine.JI _); ((show ∀ _, _ → _); intro i' l1; (try k_lt l1))) | ((with_reducible show Mine.JO _); ((show ∀ _, _); intro tk'; (try dsimp only))) | with_reducible ((with_reducible show UnrEndW ..); (k_dflt (refine' unrw_keep (by k_asm) (by k_asm) (by first | (k_mem; done) | fail) (by first | (k_allIn; done) | fail) ⟨⟨(by first | (k_mem; done) | fail), True.intro⟩, ?_⟩))) | with_reducible ((with_reducible show PySem.wpAny _ _ (PySem.call (PySem.Value.builtin _) _) _ _ _); (k_here; (with_reducible show wpAny _ _ (call (Value.builtin "len") [Value.ref _]) _ _ _); k_dflt (refine' my_len (by k_asm) (by first | (k_mem; done) | fail) (by first | ((first | with_reducible assumption | omega); done) | fail) ?_; k_whole))) | with_reducible ((with_reducible show PySem.wpAny _ _ (PySem.call (PySem.Value.ref _) _) _ _ _); (k_here; (with_reducible show wpAny _ _ (PySem.call (Value.ref 513) _) _ _ _); k_dflt (refine' use_A (by k_asm) sub_refl (by k_asm) (by k_asm) (by k_asm) (by k_asm) (by first | ((first | exact rfl | assumption); done) | fail) (by ktr_room) (by ktr_units) (place_T (by first | (k_mem; done) | fail) (by first | (k_mem; done) | fail) (by first | ((first | with_reducible assumption | omega); done) | fail) (by first | ((first | with_reducible assumption | omega); done) | fail)) ?_; k_whole); intro t' h' tk' F' N'; (try k_sweep))) | with_reducible ((with_reducible show PySem.wpAny _ _ (PySem.call (PySem.Value.ref _) _) _ _ _); (k_here; (with_reducible show wpAny _ _ (PySem.call (Value.ref 518) _) _ _ _); k_dflt (refine' use_A (by k_asm) sub_refl (by k_asm) (by k_asm) (by k_asm) (by k_asm) (by first | ((first | exact rfl | assumption); done) | fail) (by ktr_room) (by ktr_units) (state_T (by assumption) (by first | (lcg_sub; done) | fail) (by first | ((first | with_reducible assumption | ((try dsimp only [View.done, lawView]); omega)); done) | fail)) ?_; k_whole); intro t' q' pl' t1' t2' t3' t4' t5' t6' t7' nq' np' l1 h' tk' F' N'; (dsimp only [AllLt] at l1); (try k_sweep))) | with_reducible ((with_reducible show PySem.wpAny _ _ (PySem.compareOp PySem.CmpOp.Eq (PySem.Value.ref _) (PySem.Value.ref _)) _ _ _); (k_here; (with_reducible show wpAny _ _ (compareOp CmpOp.Eq (Value.ref _) (Value.ref _)) _ _ _); k_dflt (refine' my_eq_state (by k_asm) (by first | (k_mem; done) | fail) (by first | (k_mem; done) | fail) (by first | (k_mem; done) | fail) (by first | (k_mem; done) | fail) (by first | (k_mem; done) | fail) (by first | (k_mem; done) | fail) (by assumption) (by assumption) (by assumption) (by assumption) (by first | ((first | assumption | omega); done) | fail) (by first | ((first | assumption | omega); done) | fail) (by assumption) (by assumption) (by assumption) (by first | ((first | ke_room | ktr_units); done) | fail) ?_))) | with_reducible ((with_reducible show PySem.wpAny _ _ (PySem.eval (PySem.Expr.Name _ _) _) _ _ _); (k_here; k_dflt (refine' nameX_L (by k_asm) (by first | (walk_at "NM"; done) | fail) ?_ (by rfl) (by rfl); k_whole))) | with_reducible ((with_reducible show PySem.wpAny _ _ (PySem.exec (PySem.Stmt.For (PySem.Expr.Tuple _ _ _) _ _ _ _) _) _ _ _); (k_here; (rename Fr _ _ _ _ => lF); (with_unfolding_all refine' For_turns lF ?_; k_whole))) | with_reducible ((with_reducible show ite _ _ _); (k_here; (with_reducible show ite _ _ (wpAny _ _ (eval (PySem.Expr.BoolOp PySem.BoolOp.Or [_] _) _) _ _ _)); k_dflt (refine' join_or2 (by k_asm) (by k_asm) (by first | ((first | walk_at "NM" | with_unfolding_all rfl); done) | fail) (by first | (k_mem; done) | fail) ?_ ?_))) | with_reducible ((with_reducible show PySem.wpAny _ _ (PySem.pyIter (PySem.Value.ref _)) _ _ _); (k_here; (with_reducible show wpAny _ _ (pyIter (Value.ref _)) (fun it s₂ => TurnsAt _ _ _ _ _ _ _ _ _ it s₂) _ _); k_dflt (refine' iter_three (by exact rfl) (by k_asm) (by k_asm) (by first | (k_mem; done) | fail) ?_))) | with_reducible ((with_reducible show PySem.wpAny _ _ (subscriptTail (PySem.Expr.Name _ _) (PySem.Expr.Constant _ _ _) (PySem.Value.ref _) (PySem.Value.int _ _)) _ _ _); (k_here; first | ((with_reducible show wpAny _ _ (subscriptTail _ _ (Value.ref _) (Value.int 2 _)) _ _ _); k_dflt (refine' edit_item2 (by k_asm) (by first | (k_mem; done) | fail) ?_ (by first | (with_unfolding_all rfl; done) | fail) (by first | ((intro _; with_unfolding_all rfl); done) | fail); k_whole)) | ((with_reducible show wpAny _ _ (subscriptTail _ _ (Value.ref _) (Value.int 3 _)) _ _ _); k_dflt (refine' edit_item3 (by k_asm) (by first | (k_mem; done) | fail) ?_ (by first | (with_unfolding_all rfl; done) | fail) (by first | ((intro _; with_unfolding_all rfl); done) | fail); k_whole)) | ((with_reducible show wpAny _ _ (subscriptTail _ _ (Value.ref _) (Value.int 1 _)) _ _ _); k_dflt (refine' state_item1 (by k_asm) (by first | (k_mem; done) | fail) ?_ (by first | (with_unfolding_all rfl; done) | fail) (by first | ((intro _; with_unfolding_all rfl); done) | fail); k_whole)) | ((with_reducible show wpAny _ _ (subscriptTail _ _ (Value.ref _) (Value.int 3 _)) _ _ _); k_dflt (refine' state_item3 (by k_asm) (by first | (k_mem; done) | fail) ?_ (by first | (with_unfolding_all rfl; done) | fail) (by first | ((intro _; with_unfolding_all rfl); done) | fail); k_whole)) | ((with_reducible show wpAny _ _ (subscriptTail _ _ (Value.ref _) (Value.int 4 _)) _ _ _); k_dflt (refine' state_item4 (by k_asm) (by first | (k_mem; done) | fail) ?_ (by first | (with_unfolding_all rfl; done) | fail) (by first | ((intro _; with_unfolding_all rfl); done) | fail); k_whole)) | ((with_reducible show wpAny _ _ (subscriptTail _ _ (Value.ref _) (Value.int 5 _)) _ _ _); k_dflt (refine' state_item5 (by k_asm) (by first | (k_mem; done) | fail) ?_ (by first | (with_unfolding_all rfl; done) | fail) (by first | ((intro _; with_unfolding_all rfl); done) | fail); k_whole)))) | walk1 | (dsimp only) | (leave1; (try dsimp only)) | fail "no step")
  exact hQ _ _ _ (by k_asm)
end


theorem due_ints {T z1 z2 z3 s1 s2 s3 s4 W1 W2 : List Value} {ns n1 n2 : List Int} {a b c d : Nat}
    (f1 : z1 = T.take a) (f2 : s1 = z1 ++ W1) (f3 : z2 = (T.drop b).take c) (f4 : s2 = s1 ++ z2) (f5 : s3 = s2 ++ W2) (f6 : z3 = T.drop d) (f7 : s4 = s3 ++ z3)
    (j : IntsAre T ns) (j1 : IntsAre W1 n1) (j2 : IntsAre W2 n2) : IntsAre s4 ((((ns.take a ++ n1) ++ (ns.drop b).take c) ++ n2) ++ ns.drop d) := by
  subst f1 f2 f3 f4 f5 f6 f7
  exact ((((j.take a).append j1).append ((j.drop b).take c)).append j2).append (j.drop d)
section
/-- own_parts, due, places; then the loop -/
theorem law_mid {w : World} {mean : ExcName → Option Value} {mg mb : Str → Option Value} {dp un : Nat} {gd : Option (List Code)} {cn : Str} {L a : Addr} {ccd : Value} {cl : List (Str × Addr)} {outer : List Env} {A₀ : Around} {base h₀ : Heap} {m : Str → Option Value} {s : Shared} {Q : Flow → Shared → Prop}
    {sg e1 c1 e2 c2 ax m0 m1 m2 g lo1 hi1 lo2 hi2 bx1 bx2 om1 om2 : Addr} {Y B1 B2 : List (Addr × Obj)} {V : View} {v0 v2 : Value} {kS k1 k2 nM : Nat} {fi se th fo pt p0 p1 p2 more bg zv room : Int} {tx u1 u2 u3 u4 u5 u6 u7 u8 u9 ta tb tc td te tf : Tok} {T W1 W2 : List Value} {ns i1 i2 : List Int} {ah1 ah2 b0 b1 b2 : Bool}
    (B : Below A₀ base outer h₀) (X : (heapK w.params).In h₀) (Tp : Top view LO mean mg mb h₀) (hr : dp + 21 < recursionLimit) (hu : un + 170 < cLine)
    (F : Fr h₀ L s.heap m)
    (n1 : m (Str.ofString "own_begun") = some (.ref g)) (n2 : m (Str.ofString "later_marks") = some (.ref om2)) (n3 : m (Str.ofString "later_buffer") = some (.ref bx2)) (n4 : m (Str.ofString "first_marks") = some (.ref om1)) (n5 : m (Str.ofString "first_buffer") = some (.ref bx1)) (n6 : m (Str.ofString "own_more") = some (.int more u8)) (n7 : m (Str.ofString "other") = some (.ref e2)) (n8 : m (Str.ofString "one") = some (.ref e1)) (n9 : m (Str.ofString "fourth") = some (.int fo u4)) (n10 : m (Str.ofString "first") = some (.int fi te)) (n11 : m (Str.ofString "second") = some (.int se tf)) (n12 : m (Str.ofString "third") = some (.int th u3)) (n13 : m (Str.ofString "marks") = some (.ref ax)) (n14 : m (Str.ofString "signs") = some (.ref sg))
    (N : News h₀ L s.heap Y) (hsg : (sg, listOf T.toArray kS) ∈ Y) (hg : (g, { cls := .type "tuple", data := .seq #[v0, .int pt tx, v2, .int bg ta, .int zv tb, .int 2 tc] }) ∈ Y) (M : Held Y ax m0 m1 m2 e1 c1 e2 c2 W1 W2 nM k1 k2 fi se th fo p0 p1 p2 u1 u2 u5 u6 u7 u9 td b0 b1 b2 ah1 ah2)
    (a1 : 1 ≤ fi) (a2 : fi ≤ se) (a3 : se < th) (a4 : th ≤ fo) (a5 : fo ≤ T.length + 1) (a6 : T.length ≤ 12) (z1 : W1.length ≤ 3) (z2 : W2.length ≤ 3) (r0 : 0 ≤ room) (r1 : room ≤ 3) (hm : more = (W1.length : Int) - (se - fi))
    (jT : IntsAre T ns) (j1 : IntsAre W1 i1) (j2 : IntsAre W2 i2)
    (hV : V = ((lawView T pt bg zv p0 p1 p2 b0 b1 b2 room).done (fi + 0) (se + 0) W1 ah1).done (th + more) (fo + more) W2 ah2)
    (I1 : BufIs w lo1 hi1 bx1 om1 B1 V) (hB1 : ∀ p ∈ B1, p ∈ Y) (I2 : BufIs w lo2 hi2 bx2 om2 B2 V) (hB2 : ∀ p ∈ B2, p ∈ Y)
    (hQ : ∀ h' tk' m', Fr h₀ L h' m' → Q (.ret (.bool true)) { s with heap := h', toks := tk' }) :
    wpAny (model PySem.Challenge.pw_np0066_01 w) (ktrTop dp un gd cn lawScope L a ccd cl outer) (execs (lawBody 18) (envX cn lawScope L a ccd cl)) Q (fun _ _ => False) s := by
  have hcap : V.cap ≤ 90000 := by rw [hV]; dsimp only [View.done, lawView]; omega
  have M0 := M
  obtain ⟨q1, q2, q3, q4, q5, q6, q7, q8⟩ := M
  with_unfolding_all show wpAny _ _ (execs (_ :: _ :: _ :: _ :: _ :: _ :: []) _) _ _ _
  repeat' (first | (k_unfold; (try dsimp only)) | (k_end; wrow_close) | ((with_reducible show PySem.wpAny _ _ (PySem.execs (_ :: _) _) _ _ _); (k_here; (with_reducible show wpAny _ _ (PySem.execs (PySem.Stmt.For (PySem.Expr.Tuple _ _ _) _ _ _ _ :: _) _) _ _ _); refine Stop.out ?_)) | with_reducible ((with_reducible show PySem.wpAny _ _ (PySem.binaryOp _ (PySem.Value.ref _) (PySem.Value.ref _)) _ _ _); (k_here; k_dflt (refine' my_add (by k_asm) (by k_asm) (by first | (k_mem; done) | fail) (by first | (k_mem; done) | fail) (by first | ((first | with_reducible assumption | omega); done) | fail) ?_; k_whole); intro D' zs' h' hz' hn' F' N' l1; (try k_lt l1); (try k_sweep))) | with_reducible ((with_reducible show PySem.wpAny _ _ (PySem.call (PySem.Value.ref _) _) _ _ _); (k_here; (with_reducible show wpAny _ _ (PySem.call (Value.ref 513) _) _ _ _); k_dflt (refine' use_A (by k_asm) sub_refl (by k_asm) (by k_asm) (by k_asm) (by k_asm) (by first | ((first | exact rfl | assumption); done) | fail) (by ktr_room) (by ktr_units) (place_T (by first | (k_mem; done) | fail) (by first | (k_mem; done) | fail) (by first | ((first | with_reducible assumption | omega); done) | fail) (by first | ((first | with_reducible assumption | omega); done) | fail)) ?_; k_whole); intro t' h' tk' F' N'; (try k_sweep))) | with_reducible ((with_reducible show PySem.wpAny _ _ (PySem.eval (PySem.Expr.Name _ _) _) _ _ _); (k_here; k_dflt (refine' nameX_L (by k_asm) (by first | (walk_at "NM"; done) | fail) ?_ (by rfl) (by rfl); k_whole))) | with_reducible ((with_reducible show PySem.wpAny _ _ (subscriptTail (PySem.Expr.Name _ _) (PySem.Expr.Constant _ _ _) (PySem.Value.ref _) (PySem.Value.int _ _)) _ _ _); (k_here; first | ((with_reducible show wpAny _ _ (subscriptTail _ _ (Value.ref _) (Value.int 2 _)) _ _ _); k_dflt (refine' edit_item2 (by k_asm) (by first | (k_mem; done) | fail) ?_ (by first | (with_unfolding_all rfl; done) | fail) (by first | ((intro _; with_unfolding_all rfl); done) | fail); k_whole)) | ((with_reducible show wpAny _ _ (subscriptTail _ _ (Value.ref _) (Value.int 3 _)) _ _ _); k_dflt (refine' edit_item3 (by k_asm) (by first | (k_mem; done) | fail) ?_ (by first | (with_unfolding_all rfl; done) | fail) (by first | ((intro _; with_unfolding_all rfl); done) | fail); k_whole)) | ((with_reducible show wpAny _ _ (subscriptTail _ _ (Value.ref _) (Value.int 1 _)) _ _ _); k_dflt (refine' state_item1 (by k_asm) (by first | (k_mem; done) | fail) ?_ (by first | (with_unfolding_all rfl; done) | fail) (by first | ((intro _; with_unfolding_all rfl); done) | fail); k_whole)) | ((with_reducible show wpAny _ _ (subscriptTail _ _ (Value.ref _) (Value.int 3 _)) _ _ _); k_dflt (refine' state_item3 (by k_asm) (by first | (k_mem; done) | fail) ?_ (by first | (with_unfolding_all rfl; done) | fail) (by first | ((intro _; with_unfolding_all rfl); done) | fail); k_whole)) | ((with_reducible show wpAny _ _ (subscriptTail _ _ (Value.ref _) (Value.int 4 _)) _ _ _); k_dflt (refine' state_item4 (by k_asm) (by first | (k_mem; done) | fail) ?_ (by first | (with_unfolding_all rfl; done) | fail) (by first | ((intro _; with_unfolding_all rfl); done) | fail); k_whole)) | ((with_reducible show wpAny _ _ (subscriptTail _ _ (Value.ref _) (Value.int 5 _)) _ _ _); k_dflt (refine' state_item5 (by k_asm) (by first | (k_mem; done) | fail) ?_ (by first | (with_unfolding_all rfl; done) | fail) (by first | ((intro _; with_unfolding_all rfl); done) | fail); k_whole)))) | with_reducible ((with_reducible show PySem.wpAny _ _ (subscriptTail (PySem.Expr.Name _ _) (PySem.Expr.Slice _ _ _ _) (PySem.Value.ref _) (PySem.Value.ref _)) _ _ _); (k_here; (first | ((with_reducible show wpAny _ _ (subscriptTail _ (PySem.Expr.Slice none (some _) none _) (Value.ref _) (Value.ref _)) _ _ _); k_dflt (refine' my_sliceL (by k_asm) (by k_asm) (by first | (k_mem; done) | fail) (by exact IsPart.int _ _) (by first | ((first | with_reducible assumption | omega); done) | fail) (by first | ((first | with_reducible assumption | omega); done) | fail) (by first | ((first | with_reducible assumption | omega); done) | fail) ?_ (by first | (with_unfolding_all rfl; done) | fail) (by first | ((intro _; with_unfolding_all rfl); done) | fail); k_whole)) | ((with_reducible show wpAny _ _ (subscriptTail _ (PySem.Expr.Slice (some _) none none _) (Value.ref _) (Value.ref _)) _ _ _); k_dflt (refine' my_sliceR (by k_asm) (by k_asm) (by first | (k_mem; done) | fail) (by exact IsPart.int _ _) (by first | ((first | with_reducible assumption | omega); done) | fail) (by first | ((first | with_reducible assumption | omega); done) | fail) (by first | ((first | with_reducible assumption | omega); done) | fail) ?_ (by first | (with_unfolding_all rfl; done) | fail) (by first | ((intro _; with_unfolding_all rfl); done) | fail); k_whole))); intro D' zs' h' hz' hn' F' N' l1; (try k_lt l1); (try k_sweep))) | with_reducible ((with_reducible show PySem.wpAny _ _ (subscriptTail (PySem.Expr.Name _ _) (PySem.Expr.Slice _ _ _ _) (PySem.Value.ref _) (PySem.Value.ref _)) _ _ _); (k_here; k_dflt (refine' my_slice (by k_asm) (by k_asm) (by first | (k_mem; done) | fail) (by exact IsPart.int _ _) (by exact IsPart.int _ _) (by first | ((first | with_reducible assumption | omega); done) | fail) (by first | ((first | with_reducible assumption | omega); done) | fail) (by first | ((first | with_reducible assumption | omega); done) | fail) (by first | ((first | with_reducible assumption | omega); done) | fail) ?_ (by first | (with_unfolding_all rfl; done) | fail) (by first | ((intro _; with_unfolding_all rfl); done) | fail); k_whole); intro D' zs' h' hz' hn' F' N' l1; (try k_lt l1); (try k_sweep))) | walk1 | (dsimp only) | (leave1; (try dsimp only)) | fail "no step")
  refine Stop.mk ?_
  refine' law_tail (op := _) (ns := _) B X Tp hr hu ?F ?n1 ?n2 ?n3 ?n4 ?n5 ?n6 ?n7 ?n8 ?n9 ?n10 ?n11 ?n12 ?n13 ?N ?hO ?hg (M0.mono ?ms) ?lP ?lD I1 (fun p hp => ?hB1) I2 (fun p hp => ?hB2) a2 a4 z1 z2 hcap ?ht ?hi ?hx ?hb ?hz ?hk ?h0 ?h1 ?h2 ?hQ
  case N => k_asm
  case F => k_asm
  case n1 => walk_at "NM"
  case n2 => walk_at "NM"
  case n3 => walk_at "NM"
  case n4 => walk_at "NM"
  case n5 => walk_at "NM"
  case n6 => walk_at "NM"
  case n7 => walk_at "NM"
  case n8 => walk_at "NM"
  case n9 => walk_at "NM"
  case n10 => walk_at "NM"
  case n11 => walk_at "NM"
  case n12 => walk_at "NM"
  case n13 => walk_at "NM"
  case hO => k_mem
  case hg => k_mem
  case ms => lcg_sub
  case lP => assumption
  case lD => (apply unhid; assumption)
  case hB1 => exact (by lcg_sub : ∀ p ∈ B1, p ∈ _) p hp
  case hB2 => exact (by lcg_sub : ∀ p ∈ B2, p ∈ _) p hp
  case ht => exact hV ▸ due_text rfl (by assumption) (by assumption) (by assumption) (by assumption) (by assumption) (by assumption) (by assumption) a1 a2 a3 a4 a5 hm
  case hi => exact due_ints (by assumption) (by assumption) (by assumption) (by assumption) (by assumption) (by assumption) (by assumption) jT j1 j2
  case hx => rw [hV]; rfl
  case hb => rw [hV]; rfl
  case hz => rw [hV]; dsimp only [View.done, lawView]; omega
  case hk => rw [hV]; rfl
  case h0 => rw [hV]; rfl
  case h1 => rw [hV]; rfl
  case h2 => rw [hV]; rfl
  case hQ => exact fun h' tk' m' F' => hQ h' tk' m' F'
end


section
/-- both buffers, both orders, what they tell -/
theorem law_go {w : World} {mean : ExcName → Option Value} {mg mb : Str → Option Value} {dp un : Nat} {gd : Option (List Code)} {cn : Str} {L a : Addr} {ccd : Value} {cl : List (Str × Addr)} {outer : List Env} {A₀ : Around} {base h₀ : Heap} {m : Str → Option Value} {s : Shared} {Q : Flow → Shared → Prop}
    {sg e1 c1 e2 c2 ax m0 m1 m2 : Addr} {Z : List (Addr × Obj)} {bv : Value} {kS k1 k2 nM : Nat} {fi se th fo ph p0 p1 p2 room vp vb vz : Int} {u1 u2 u3 u4 u5 u6 u7 u8 u9 td te tf tg : Tok} {T W1 W2 : List Value} {ns : List Int} {ah1 ah2 b0 b1 b2 : Bool}
    (B : Below A₀ base outer h₀) (X : (heapK w.params).In h₀) (Tp : Top view LO mean mg mb h₀) (hr : dp + 21 < recursionLimit) (hu : un + 170 < cLine)
    (F : Fr h₀ L s.heap m)
    (n1 : m (Str.ofString "bounds") = some bv) (n2 : m (Str.ofString "other") = some (.ref e2)) (n3 : m (Str.ofString "one") = some (.ref e1)) (n4 : m (Str.ofString "fourth") = some (.int fo u4)) (n5 : m (Str.ofString "first") = some (.int fi te)) (n6 : m (Str.ofString "second") = some (.int se tf)) (n7 : m (Str.ofString "third") = some (.int th u3)) (n8 : m (Str.ofString "marks") = some (.ref ax)) (n9 : m (Str.ofString "own_point_here") = some (.int ph tg)) (n10 : m (Str.ofString "signs") = some (.ref sg)) (n11 : m (Str.ofString "room") = some (.int room u8))
    (N : News h₀ L s.heap Z) (hsg : (sg, listOf T.toArray kS) ∈ Z) (M : Held Z ax m0 m1 m2 e1 c1 e2 c2 W1 W2 nM k1 k2 fi se th fo p0 p1 p2 u1 u2 u5 u6 u7 u9 td b0 b1 b2 ah1 ah2)
    (K1 : EditOk fi se W1 ah1) (K2 : EditOk th fo W2 ah2)
    (a1 : 1 ≤ fi) (a2 : fi ≤ se) (a3 : se < th) (a4 : th ≤ fo) (a5 : fo ≤ T.length + 1) (a6 : T.length ≤ 12) (a7 : 4 ≤ T.length) (r0 : 0 ≤ room) (r1 : room ≤ 3) (g1 : 1 ≤ ph) (g2 : ph ≤ T.length + 1)
    (g3 : 1 ≤ p0) (g4 : p0 ≤ T.length + 1) (g5 : 1 ≤ p1) (g6 : p1 ≤ T.length + 1) (g7 : 1 ≤ p2) (g8 : p2 ≤ T.length + 1)
    (hB : Bounds Z T.length ph bv vp vb vz) (hv1 : vb ≤ fi) (hv2 : fo ≤ vz)
    (jT : IntsAre T ns)
    (hQ : ∀ h' tk' m', Fr h₀ L h' m' → Q (.ret (.bool true)) { s with heap := h', toks := tk' }) :
    wpAny (model PySem.Challenge.pw_np0066_01 w) (ktrTop dp un gd cn lawScope L a ccd cl outer) (execs (lawBody 11) (envX cn lawScope L a ccd cl)) Q (fun _ _ => False) s := by
  have M0 := M
  obtain ⟨q1, q2, q3, q4, q5, q6, q7, q8⟩ := M
  have kle1 := K1.le
  have kle2 := K2.le
  have klen1 := K1.len
  have klen2 := K2.len
  with_unfolding_all show wpAny _ _ (execs (_ :: _) _) _ _ _
  repeat' (first | (k_unfold; (try dsimp only)) | (k_end; wrow_close) | ((with_reducible show PySem.wpAny _ _ (PySem.execs (_ :: _) _) _ _ _); (k_here; (with_reducible show wpAny _ _ (PySem.execs (PySem.Stmt.Assign [PySem.Expr.Name _ _] (PySem.Expr.BinOp _ _ _ _) _ :: _) _) _ _ _); refine Stop.out ?_)) | with_reducible ((with_reducible show PySem.wpAny _ _ (PySem.call (PySem.Value.builtin _) _) _ _ _); (k_here; (with_reducible show wpAny _ _ (call (Value.builtin "len") [Value.ref _]) _ _ _); k_dflt (refine' my_len (by k_asm) (by first | (k_mem; done) | fail) (by first | ((first | with_reducible assumption | omega); done) | fail) ?_; k_whole))) | with_reducible ((with_reducible show PySem.wpAny _ _ (PySem.call (PySem.Value.ref _) _) _ _ _); (k_here; (with_reducible show wpAny _ _ (PySem.call (Value.ref 506) _) _ _ _); k_dflt (refine' use_A (by k_asm) sub_refl (by k_asm) (by k_asm) (by k_asm) (by k_asm) (by first | ((first | exact rfl | assumption); done) | fail) (by ktr_room) (by ktr_units) (done_S (by assumption) (by first | (lcg_sub; done) | fail) (by first | (k_allIn; done) | fail) (by first | (k_mem; done) | fail) (by first | (k_mem; done) | fail) (by assumption) (by first | (((try dsimp only [View.done, lawView]); omega); done) | fail) (by first | (((try dsimp only [View.done, lawView]); omega); done) | fail) (by first | (((try dsimp only [View.done, lawView]); omega); done) | fail)) ?_; k_whole); intro q' zs' nz' Bc' I' hz' l1 h' tk' F' N'; (dsimp only [AllLt] at l1); (k_dflt (change Hid _ at l1)); (simp only [List.cons_append, List.nil_append, List.append_assoc] at N'); (try k_sweep))) | with_reducible ((with_reducible show PySem.wpAny _ _ (PySem.call (PySem.Value.ref _) _) _ _ _); (k_here; (with_reducible show wpAny _ _ (PySem.call (Value.ref 518) _) _ _ _); k_dflt (refine' use_A (by k_asm) sub_refl (by k_asm) (by k_asm) (by k_asm) (by k_asm) (by first | ((first | exact rfl | assumption); done) | fail) (by ktr_room) (by ktr_units) (state_T (by assumption) (by first | (lcg_sub; done) | fail) (by first | ((first | with_reducible assumption | ((try dsimp only [View.done, lawView]); omega)); done) | fail)) ?_; k_whole); intro t' q' pl' t1' t2' t3' t4' t5' t6' t7' nq' np' l1 h' tk' F' N'; (dsimp only [AllLt] at l1); (try k_sweep))) | with_reducible ((with_reducible show PySem.wpAny _ _ (PySem.call (PySem.Value.ref _) _) _ _ _); (k_here; (with_reducible show wpAny _ _ (PySem.call (Value.ref 499) _) _ _ _); k_dflt (refine' use_A (by k_asm) sub_refl (by k_asm) (by k_asm) (by k_asm) (by k_asm) (by first | ((first | exact rfl | assumption); done) | fail) (by ktr_room) (by ktr_units) (lbuf_T (by first | (k_mem; done) | fail) (by first | (k_mem; done) | fail) (by first | (k_mem; done) | fail) (by first | (k_mem; done) | fail) (by first | (k_mem; done) | fail) (by first | (k_mem; done) | fail) (by exact Bounds.mono (by assumption) (by lcg_sub)) (by first | ((first | with_reducible assumption | omega); done) | fail) (by first | ((first | with_reducible assumption | omega); done) | fail) (by first | ((first | with_reducible assumption | omega); done) | fail) (by first | ((first | with_reducible assumption | omega); done) | fail) (by first | ((first | with_reducible assumption | omega); done) | fail) (by first | ((first | with_reducible assumption | omega); done) | fail) (by first | ((first | with_reducible assumption | omega); done) | fail) (by first | ((first | with_reducible assumption | omega); done) | fail) (by first | ((first | with_reducible assumption | omega); done) | fail) (by first | ((first | with_reducible assumption | omega); done) | fail) (by first | ((first | with_reducible assumption | omega); done) | fail) (by first | ((first | with_reducible assumption | omega); done) | fail)) ?_; k_whole); intro lo' q' bx' om' Bc' I' l1 l2 h' tk' F' N'; (have l4' := allLt_of fun p hp => Nat.lt_of_lt_of_le (l1 p hp) l2); (dsimp only [AllLt] at l4'); (k_dflt (change Hid _ at l4')); (k_lt l1); (have l3' := hid (And.intro l2 True.intro)); (simp only [List.cons_append, List.nil_append, List.append_assoc] at N'); (try k_sweep))) | with_reducible ((with_reducible show PySem.wpAny _ _ (PySem.compareOp PySem.CmpOp.NotEq (PySem.Value.ref _) (PySem.Value.ref _)) _ _ _); (k_here; (with_reducible show wpAny _ _ (compareOp CmpOp.NotEq (Value.ref _) (Value.ref _)) _ _ _); k_dflt (refine' my_ne_pair (by k_asm) (by first | (k_mem; done) | fail) (by first | (k_mem; done) | fail) (by first | (k_mem; done) | fail) (by first | (k_mem; done) | fail) (by first | (k_mem; done) | fail) (by first | (k_mem; done) | fail) (by first | ((refine' ints_cut (by assumption) (by assumption)); done) | fail) (by first | ((refine' ints_cut (by assumption) (by assumption)); done) | fail) (by first | ((first | (refine' gone_eq1 (by assumption) (by assumption) (by first | ((first | with_reducible assumption | omega); done) | fail) (by first | ((first | with_reducible assumption | omega); done) | fail) (by first | ((first | with_reducible assumption | omega); done) | fail) (by first | ((first | with_reducible assumption | omega); done) | fail) (by first | ((dsimp only [lawView]; omega); done) | fail)) | (refine' gone_eq3 (by assumption) (by assumption))); done) | fail) (by first | ((first | (refine' gone_eq2 (by assumption) (by assumption) (by first | ((first | with_reducible assumption | omega); done) | fail) (by first | ((first | with_reducible assumption | omega); done) | fail) (by first | ((first | with_reducible assumption | omega); done) | fail) (by first | ((first | with_reducible assumption | omega); done) | fail) (by first | ((dsimp only [lawView]; omega); done) | fail) (by rfl)) | (refine' gone_eq4 (by assumption) (by assumption) (by first | ((first | with_reducible assumption | omega); done) | fail) (by first | ((first | with_reducible assumption | omega); done) | fail) (by first | ((first | with_reducible assumption | omega); done) | fail) (by first | ((first | with_reducible assumption | omega); done) | fail) (by first | ((dsimp only [lawView]; omega); done) | fail) (by rfl))); done) | fail) (by first | ((first | ke_room | ktr_units); done) | fail) ?_))) | with_reducible ((with_reducible show PySem.wpAny _ _ (PySem.eval (PySem.Expr.Call _ _ _ _) _) _ _ _); (k_here; (with_reducible show wpAny _ _ (PySem.eval (PySem.Expr.Call (PySem.Expr.Name _ _) (_ :: _) [] _) _) _ _ _); k_dflt (refine' call_KN (by k_asm) (by k_asm) (by k_asm) (by k_is) (by k_is) (by rfl) ?_ (by rfl) (by rfl); k_whole); (try dsimp only))) | with_reducible ((with_reducible show PySem.wpAny _ _ (PySem.eval (PySem.Expr.Name _ _) _) _ _ _); (k_here; k_dflt (refine' nameX_L (by k_asm) (by first | (walk_at "NM"; done) | fail) ?_ (by rfl) (by rfl); k_whole))) | with_reducible ((with_reducible show PySem.wpAny _ _ (subscriptTail (PySem.Expr.List _ _) (PySem.Expr.Slice _ _ _ _) (PySem.Value.ref _) (PySem.Value.ref _)) _ _ _); (k_here; k_dflt (refine' my_rev (by k_asm) (by k_asm) (by first | (k_mem; done) | fail) (by exact IsPart.int _ _) ?_ (by first | (with_unfolding_all rfl; done) | fail); k_whole); intro D' h' F' N' l1; (try k_lt l1); (try k_sweep))) | with_reducible ((with_reducible show PySem.wpAny _ _ (subscriptTail (PySem.Expr.Name _ _) (PySem.Expr.Constant _ _ _) (PySem.Value.ref _) (PySem.Value.int _ _)) _ _ _); (k_here; first | ((with_reducible show wpAny _ _ (subscriptTail _ _ (Value.ref _) (Value.int 2 _)) _ _ _); k_dflt (refine' edit_item2 (by k_asm) (by first | (k_mem; done) | fail) ?_ (by first | (with_unfolding_all rfl; done) | fail) (by first | ((intro _; with_unfolding_all rfl); done) | fail); k_whole)) | ((with_reducible show wpAny _ _ (subscriptTail _ _ (Value.ref _) (Value.int 3 _)) _ _ _); k_dflt (refine' edit_item3 (by k_asm) (by first | (k_mem; done) | fail) ?_ (by first | (with_unfolding_all rfl; done) | fail) (by first | ((intro _; with_unfolding_all rfl); done) | fail); k_whole)) | ((with_reducible show wpAny _ _ (subscriptTail _ _ (Value.ref _) (Value.int 1 _)) _ _ _); k_dflt (refine' state_item1 (by k_asm) (by first | (k_mem; done) | fail) ?_ (by first | (with_unfolding_all rfl; done) | fail) (by first | ((intro _; with_unfolding_all rfl); done) | fail); k_whole)) | ((with_reducible show wpAny _ _ (subscriptTail _ _ (Value.ref _) (Value.int 3 _)) _ _ _); k_dflt (refine' state_item3 (by k_asm) (by first | (k_mem; done) | fail) ?_ (by first | (with_unfolding_all rfl; done) | fail) (by first | ((intro _; with_unfolding_all rfl); done) | fail); k_whole)) | ((with_reducible show wpAny _ _ (subscriptTail _ _ (Value.ref _) (Value.int 4 _)) _ _ _); k_dflt (refine' state_item4 (by k_asm) (by first | (k_mem; done) | fail) ?_ (by first | (with_unfolding_all rfl; done) | fail) (by first | ((intro _; with_unfolding_all rfl); done) | fail); k_whole)) | ((with_reducible show wpAny _ _ (subscriptTail _ _ (Value.ref _) (Value.int 5 _)) _ _ _); k_dflt (refine' state_item5 (by k_asm) (by first | (k_mem; done) | fail) ?_ (by first | (with_unfolding_all rfl; done) | fail) (by first | ((intro _; with_unfolding_all rfl); done) | fail); k_whole)))) | with_reducible ((with_reducible show PySem.wpAny _ _ (subscriptTail (PySem.Expr.Name _ _) (PySem.Expr.Slice _ _ _ _) (PySem.Value.ref _) (PySem.Value.ref _)) _ _ _); (k_here; k_dflt (refine' my_slice (by k_asm) (by k_asm) (by first | (k_mem; done) | fail) (by exact IsPart.int _ _) (by exact IsPart.int _ _) (by first | ((first | with_reducible assumption | omega); done) | fail) (by first | ((first | with_reducible assumption | omega); done) | fail) (by first | ((first | with_reducible assumption | omega); done) | fail) (by first | ((first | with_reducible assumption | omega); done) | fail) ?_ (by first | (with_unfolding_all rfl; done) | fail) (by first | ((intro _; with_unfolding_all rfl); done) | fail); k_whole); intro D' zs' h' hz' hn' F' N' l1; (try k_lt l1); (try k_sweep))) | walk1 | (dsimp only) | (leave1; (try dsimp only)) | fail "no step")
  refine Stop.mk ?_
  obtain ⟨i1, j1⟩ := K1.areInts
  obtain ⟨i2, j2⟩ := K2.areInts
  refine' law_mid (fi := fi) (se := se) (th := th) (fo := fo) (p0 := p0) (p1 := p1) (p2 := p2) (room := room) (b0 := b0) (b1 := b1) (b2 := b2) (ah1 := ah1) (ah2 := ah2) (T := T) (W1 := W1) (W2 := W2) (pt := vp) (bg := vb) (zv := vz) B X Tp hr hu ?F ?n1 ?n2 ?n3 ?n4 ?n5 ?n6 ?n7 ?n8 ?n9 ?n10 ?n11 ?n12 ?n13 ?n14 ?N ?hsg ?hg (M0.mono ?ms) a1 a2 a3 a4 a5 a6 klen1 klen2 r0 r1 rfl jT j1 j2 rfl ?I1 (fun p hp => ?hB1) ?I2 (fun p hp => ?hB2) ?hQ
  case N => k_asm
  case F => k_asm
  case n1 => walk_at "NM"
  case n2 => walk_at "NM"
  case n3 => walk_at "NM"
  case n4 => walk_at "NM"
  case n5 => walk_at "NM"
  case n6 => walk_at "NM"
  case n7 => walk_at "NM"
  case n8 => walk_at "NM"
  case n9 => walk_at "NM"
  case n10 => walk_at "NM"
  case n11 => walk_at "NM"
  case n12 => walk_at "NM"
  case n13 => walk_at "NM"
  case n14 => walk_at "NM"
  case hsg => k_mem
  case hg => k_mem
  case ms => lcg_sub
  case I1 => assumption
  case I2 =>
    rw [← later_view a1 a2 a3 a4 a5 rfl]
    assumption
  case hB1 => exact (by lcg_sub : ∀ p ∈ _, p ∈ _) p hp
  case hB2 => exact (by lcg_sub : ∀ p ∈ _, p ∈ _) p hp
  case hQ => exact fun h' tk' m' F' => hQ h' tk' m' F'
end


section
/-- the bounds -/
theorem law_d10 {w : World} {mean : ExcName → Option Value} {mg mb : Str → Option Value} {dp un : Nat} {gd : Option (List Code)} {cn : Str} {L a : Addr} {ccd : Value} {outer : List Env} {A₀ : Around} {base h₀ : Heap} {m : Str → Option Value} {s : Shared} {Q : Flow → Shared → Prop}
    {D C cA : Addr} {co : Obj} {cells : List Value} {ns : List Int} {nD nC : Nat} {k : Int} {tk : Tok} {Z : List (Addr × Obj)} {sg e1 c1 e2 c2 ax m0 m1 m2 : Addr} {kS k1 k2 nM : Nat} {fi se th fo ph p0 p1 p2 room size : Int} {u1 u2 u3 u4 u5 u6 u7 u8 u9 td te tf tg ts : Tok} {T W1 W2 : List Value} {nT : List Int} {ah1 ah2 b0 b1 b2 : Bool}
    (B : Below A₀ base outer h₀) (X : (heapK w.params).In h₀) (Tp : Top view LO mean mg mb h₀) (hr : dp + 21 < recursionLimit) (hu : un + 170 < cLine)
    (F : Fr h₀ L s.heap m)
    (n1 : m (Str.ofString "bounds") = some .none) (n2 : m (Str.ofString "other") = some (.ref e2)) (n3 : m (Str.ofString "one") = some (.ref e1)) (n4 : m (Str.ofString "fourth") = some (.int fo u4)) (n5 : m (Str.ofString "first") = some (.int fi te)) (n6 : m (Str.ofString "second") = some (.int se tf)) (n7 : m (Str.ofString "third") = some (.int th u3)) (n8 : m (Str.ofString "marks") = some (.ref ax)) (n9 : m (Str.ofString "own_point_here") = some (.int ph tg)) (n10 : m (Str.ofString "signs") = some (.ref sg)) (n11 : m (Str.ofString "room") = some (.int room u8)) (ns1 : m (Str.ofString "size") = some (.int size ts))
    (N : News h₀ L s.heap ((D, listOf #[.ref C, .int k tk] nD) :: Z)) (hC : (C, listOf cells.toArray nC) ∈ Z) (hcA : (cA, co) ∈ Z) (hco : co.data = .cell (some (.ref D))) (offD : ∀ p ∈ Z, OffL p.1 [D]) (hc : IntsAre cells ns) (hl : ns.length ≤ 63) (k0 : 0 ≤ k) (k1' : k ≤ 900)
    (hsg : (sg, listOf T.toArray kS) ∈ Z) (M : Held Z ax m0 m1 m2 e1 c1 e2 c2 W1 W2 nM k1 k2 fi se th fo p0 p1 p2 u1 u2 u5 u6 u7 u9 td b0 b1 b2 ah1 ah2)
    (K1 : EditOk fi se W1 ah1) (K2 : EditOk th fo W2 ah2) (hsz : (T.length : Int) = size)
    (a1 : 1 ≤ fi) (a2 : fi ≤ se) (a3 : se < th) (a4 : th ≤ fo) (a5 : fo ≤ T.length + 1) (a6 : T.length ≤ 12) (a7 : 4 ≤ T.length) (r0 : 0 ≤ room) (r1 : room ≤ 3) (g1 : 1 ≤ ph) (g2 : ph ≤ T.length + 1)
    (g3 : 1 ≤ p0) (g4 : p0 ≤ T.length + 1) (g5 : 1 ≤ p1) (g6 : p1 ≤ T.length + 1) (g7 : 1 ≤ p2) (g8 : p2 ≤ T.length + 1)
    (jT : IntsAre T nT)
    (hQ : ∀ h' tk' m', Fr h₀ L h' m' → Q (.ret (.bool true)) { s with heap := h', toks := tk' }) :
    wpAny (model PySem.Challenge.pw_np0066_01 w) (ktrTop dp un gd cn lawScope L a ccd [(Str.ofString "deck", cA)] outer) (execs (lawBody 10) (envX cn lawScope L a ccd [(Str.ofString "deck", cA)])) Q (fun _ _ => False) s := by
  have M0 := M
  obtain ⟨q1, q2, q3, q4, q5, q6, q7, q8⟩ := M
  have dc := (offD _ hC).1
  with_unfolding_all show wpAny _ _ (execs (_ :: _) _) _ _ _
  repeat' (first | (k_unfold; (try dsimp only)) | (k_end; wrow_close) | ((with_reducible show PySem.wpAny _ _ (PySem.execs (_ :: _) _) _ _ _); (k_here; (with_reducible show wpAny _ _ (PySem.execs (PySem.Stmt.Assign [PySem.Expr.Tuple [_, _] _ _] (PySem.Expr.Tuple [PySem.Expr.BinOp _ PySem.Operator.Sub _ _, _] _ _) _ :: _) _) _ _ _); refine Stop.out ?_)) | with_reducible ((with_reducible show LCg.CompSrc ..); (k_here; k_dflt (refine' draws_src (by exact rfl) (by k_asm) (by k_asm) (by assumption) (by first | ((first | with_reducible assumption | omega); done) | fail) (by first | ((first | with_reducible assumption | omega); done) | fail) (by first | (k_mem; done) | fail) (by first | (k_allIn; done) | fail) (fun i' t0' I' oI' C' oC' D' m' ys' h' tk' E' hi' hC' F' N' oR' off' ne' => ?_) (fun g' ys' ns' t0' hy' hl' => ?_)); (all_goals (try (simp only [LCg.Off3, and_true] at off'))))) | ((with_reducible show Mine.JB ..); first | (refine' JB.none (by first | ((first | walk_at "NM" | with_unfolding_all rfl); done) | fail) (by k_asm) (by k_asm) (sub_cons (by exact .head _) (by first | (lcg_sub; done) | fail)) (by first | ((first | with_reducible assumption | omega); done) | fail) (by first | ((first | with_reducible assumption | omega); done) | fail)) | (refine' JB.some (by k_asm) (by k_asm) (sub_cons (by first | (k_mem; done) | fail) (by first | (lcg_sub; done) | fail)) (by first | ((first | with_reducible assumption | omega); done) | fail) (by first | ((first | with_reducible assumption | omega); done) | fail) (by first | ((first | with_reducible assumption | omega); done) | fail) (by first | ((first | with_reducible assumption | omega); done) | fail) (by first | ((first | with_reducible assumption | omega); done) | fail))) | ((with_reducible show Mine.JB2 _); ((show ∀ _ _ _ _ _ _ _ _, _ → _ → _ → _ → _ → _); intro bv' vp' vb' vz' bt' bo' h' tk' hB' hv1' hv2' F' N'; (try k_sweep))) | with_reducible ((with_reducible show UnrEnd ..); (k_here; k_dflt (refine' unr_keep (by k_asm) (by k_asm) (by first | (k_mem; done) | fail) (by first | (k_allIn; done) | fail) ?_))) | with_reducible ((with_reducible show PySem.wpAny _ _ (PySem.call (PySem.Value.ref _) _) _ _ _); (k_here; (with_reducible show wpAny _ _ (PySem.call (Value.ref 492) _) _ _ _); k_dflt (refine' edit_use (by k_asm) (by k_asm) (by k_asm) (by k_asm) (by first | (k_mem; done) | fail) (by first | (k_mem; done) | fail) (by assumption) (by first | ((first | with_reducible assumption | (simp only [List.length_map, List.length_take]; omega)); done) | fail) (by first | ((first | with_reducible assumption | omega); done) | fail) (by first | ((first | with_reducible assumption | omega); done) | fail) (by first | ((first | with_reducible assumption | omega); done) | fail) (by first | (k_ne; done) | fail) (by first | (k_allIn; done) | fail) (by k_asm) (by first | ((first | exact rfl | assumption); done) | fail) (by ktr_room) (by ktr_units) ?_; k_whole); intro q' c' ws' nc' ah' k' tk2' h' tk' K' kl1' kl2' hcd' l1 F' N'; (have kle' := K'.le); (have klen' := K'.len); (dsimp only [AllLt] at l1); (k_dflt (change Hid _ at l1)); (try k_sweep))) | with_reducible ((with_reducible show PySem.wpAny _ _ (PySem.call (PySem.Value.ref _) _) _ _ _); (k_here; (with_reducible show wpAny _ _ (PySem.call (Value.ref 487) _) _ _ _); k_dflt (refine' draw_A (by k_asm) (by first | (k_mem; done) | fail) (by first | (k_mem; done) | fail) (by assumption) (by first | ((first | with_reducible assumption | (simp only [List.length_map, List.length_take]; omega)); done) | fail) (by first | ((first | with_reducible assumption | omega); done) | fail) (by first | ((first | with_reducible assumption | omega); done) | fail) (by first | ((first | with_reducible assumption | omega); done) | fail) (by first | (k_ne; done) | fail) (by k_asm) (by k_asm) (by k_asm) (by k_asm) (by first | ((first | exact rfl | assumption); done) | fail) (by first | (k_allIn; done) | fail) (by ktr_room) (by ktr_units) ?_; k_whole); intro r' t1' t2' h' tk' hr1' hr2' F' N'; (try k_sweep))) | with_reducible ((with_reducible show PySem.wpAny _ _ (PySem.eval (PySem.Expr.Name _ _) _) _ _ _); (k_here; k_dflt (refine' nameX_L (by k_asm) (by first | (walk_at "NM"; done) | fail) ?_ (by rfl) (by rfl); k_whole))) | with_reducible ((with_reducible show PySem.wpAny _ _ (PySem.exec (PySem.Stmt.Assign (_ :: _) (PySem.Expr.ListComp _ _ _ _) _) _) _ _ _); (k_here; k_dflt (refine LCg.Assign_ListComp_U (F₀ := by k_asm) (by rfl) (by with_unfolding_all rfl) (by with_unfolding_all rfl) (by decide) (by rfl) (by decide) (by rfl) (by rfl) (by rfl) ?_))) | with_reducible ((with_reducible show PySem.wpAny _ _ (PySem.exec (PySem.Stmt.If _ _ _ _) _) _ _ _); (k_here; (with_reducible show wpAny _ _ (PySem.exec (PySem.Stmt.If _ [PySem.Stmt.Assign [PySem.Expr.Name _ _] (PySem.Expr.Tuple _ _ _) _] [] _) _) _ _ _); k_dflt (refine' join_bounds (by k_asm) (by k_asm) (by first | (k_mem; done) | fail) (by first | ((first | walk_at "NM" | with_unfolding_all rfl); done) | fail) (by first | (k_mem; done) | fail) (by first | ((first | walk_at "NM" | with_unfolding_all rfl); done) | fail) (by first | ((first | walk_at "NM" | with_unfolding_all rfl); done) | fail) (by first | ((first | walk_at "NM" | with_unfolding_all rfl); done) | fail) (by first | (k_allIn; done) | fail) ?_ ?_))) | walk1 | (dsimp only) | (leave1; (try dsimp only)) | fail "no step")
  all_goals (try ((with_reducible show Fr _ _ _ _); k_asm))
  all_goals (try ((with_reducible show News _ _ _ _); refine' cb_drop ?NN ?ss; (case NN => k_asm); (case ss => lcg_sub)))
  refine Stop.mk ?_
  refine' law_go (T := T) (W1 := W1) (W2 := W2) B X Tp hr hu ?F ?n1 ?n2 ?n3 ?n4 ?n5 ?n6 ?n7 ?n8 ?n9 ?n10 ?n11 ?N ?hsg (M0.mono ?ms) K1 K2 a1 a2 a3 a4 a5 a6 a7 r0 r1 g1 g2 g3 g4 g5 g6 g7 g8 (Bounds.mono (by assumption) ?mb) ?hv1 ?hv2 jT ?hQ
  case N => k_asm
  case F => k_asm
  case n1 => walk_at "NM"
  case n2 => walk_at "NM"
  case n3 => walk_at "NM"
  case n4 => walk_at "NM"
  case n5 => walk_at "NM"
  case n6 => walk_at "NM"
  case n7 => walk_at "NM"
  case n8 => walk_at "NM"
  case n9 => walk_at "NM"
  case n10 => walk_at "NM"
  case n11 => walk_at "NM"
  case hsg => k_mem
  case ms => lcg_sub
  case mb => lcg_sub
  case hv1 => assumption
  case hv2 => assumption
  case hQ => exact fun h' tk' m' F' => hQ h' tk' m' F'
end
section
/-- both edits -/
theorem law_d9 {w : World} {mean : ExcName → Option Value} {mg mb : Str → Option Value} {dp un : Nat} {gd : Option (List Code)} {cn : Str} {L a : Addr} {ccd : Value} {outer : List Env} {A₀ : Around} {base h₀ : Heap} {m : Str → Option Value} {s : Shared} {Q : Flow → Shared → Prop}
    {D C cA : Addr} {co : Obj} {cells : List Value} {ns : List Int} {nD nC : Nat} {k : Int} {tk : Tok} {Z : List (Addr × Obj)} {sg ax m0 m1 m2 : Addr} {kS nM : Nat} {fi se th fo ph p0 p1 p2 room size : Int} {u3 u4 u7 u8 u9 td te tf tg ts : Tok} {T : List Value} {nT : List Int} {b0 b1 b2 : Bool}
    (B : Below A₀ base outer h₀) (X : (heapK w.params).In h₀) (Tp : Top view LO mean mg mb h₀) (hr : dp + 21 < recursionLimit) (hu : un + 170 < cLine)
    (F : Fr h₀ L s.heap m)
    (n1 : m (Str.ofString "fourth") = some (.int fo u4)) (n2 : m (Str.ofString "first") = some (.int fi te)) (n3 : m (Str.ofString "second") = some (.int se tf)) (n4 : m (Str.ofString "third") = some (.int th u3)) (n5 : m (Str.ofString "marks") = some (.ref ax)) (n6 : m (Str.ofString "own_point_here") = some (.int ph tg)) (n7 : m (Str.ofString "signs") = some (.ref sg)) (n8 : m (Str.ofString "room") = some (.int room u8)) (n9 : m (Str.ofString "size") = some (.int size ts))
    (N : News h₀ L s.heap ((D, listOf #[.ref C, .int k tk] nD) :: Z)) (hC : (C, listOf cells.toArray nC) ∈ Z) (hcA : (cA, co) ∈ Z) (hco : co.data = .cell (some (.ref D))) (offD : ∀ p ∈ Z, OffL p.1 [D]) (hc : IntsAre cells ns) (hl : ns.length ≤ 63) (k0 : 0 ≤ k) (k1' : k ≤ 800)
    (hsg : (sg, listOf T.toArray kS) ∈ Z) (hax : (ax, listOf #[.ref m0, .ref m1, .ref m2] nM) ∈ Z) (hm0 : (m0, markO p0 u7 b0) ∈ Z) (hm1 : (m1, markO p1 u9 b1) ∈ Z) (hm2 : (m2, markO p2 td b2) ∈ Z) (hsz : (T.length : Int) = size)
    (a1 : 1 ≤ fi) (a2 : fi ≤ se) (a3 : se < th) (a4 : th ≤ fo) (a5 : fo ≤ T.length + 1) (a6 : T.length ≤ 12) (a7 : 4 ≤ T.length) (r0 : 0 ≤ room) (r1 : room ≤ 3) (g1 : 1 ≤ ph) (g2 : ph ≤ T.length + 1)
    (g3 : 1 ≤ p0) (g4 : p0 ≤ T.length + 1) (g5 : 1 ≤ p1) (g6 : p1 ≤ T.length + 1) (g7 : 1 ≤ p2) (g8 : p2 ≤ T.length + 1)
    (jT : IntsAre T nT)
    (hQ : ∀ h' tk' m', Fr h₀ L h' m' → Q (.ret (.bool true)) { s with heap := h', toks := tk' }) :
    wpAny (model PySem.Challenge.pw_np0066_01 w) (ktrTop dp un gd cn lawScope L a ccd [(Str.ofString "deck", cA)] outer) (execs (lawBody 9) (envX cn lawScope L a ccd [(Str.ofString "deck", cA)])) Q (fun _ _ => False) s := by
  have dc := (offD _ hC).1
  with_unfolding_all show wpAny _ _ (execs (_ :: _) _) _ _ _
  repeat' (first | (k_unfold; (try dsimp only)) | (k_end; wrow_close) | ((with_reducible show PySem.wpAny _ _ (PySem.execs (_ :: _) _) _ _ _); (k_here; (with_reducible show wpAny _ _ (PySem.execs (PySem.Stmt.If _ _ _ _ :: _) _) _ _ _); refine Stop.out ?_)) | with_reducible ((with_reducible show LCg.CompSrc ..); (k_here; k_dflt (refine' draws_src (by exact rfl) (by k_asm) (by k_asm) (by assumption) (by first | ((first | with_reducible assumption | omega); done) | fail) (by first | ((first | with_reducible assumption | omega); done) | fail) (by first | (k_mem; done) | fail) (by first | (k_allIn; done) | fail) (fun i' t0' I' oI' C' oC' D' m' ys' h' tk' E' hi' hC' F' N' oR' off' ne' => ?_) (fun g' ys' ns' t0' hy' hl' => ?_)); (all_goals (try (simp only [LCg.Off3, and_true] at off'))))) | ((with_reducible show Mine.JB ..); first | (refine' JB.none (by first | ((first | walk_at "NM" | with_unfolding_all rfl); done) | fail) (by k_asm) (by k_asm) (sub_cons (by exact .head _) (by first | (lcg_sub; done) | fail)) (by first | ((first | with_reducible assumption | omega); done) | fail) (by first | ((first | with_reducible assumption | omega); done) | fail)) | (refine' JB.some (by k_asm) (by k_asm) (sub_cons (by first | (k_mem; done) | fail) (by first | (lcg_sub; done) | fail)) (by first | ((first | with_reducible assumption | omega); done) | fail) (by first | ((first | with_reducible assumption | omega); done) | fail) (by first | ((first | with_reducible assumption | omega); done) | fail) (by first | ((first | with_reducible assumption | omega); done) | fail) (by first | ((first | with_reducible assumption | omega); done) | fail))) | ((with_reducible show Mine.JB2 _); ((show ∀ _ _ _ _ _ _ _ _, _ → _ → _ → _ → _ → _); intro bv' vp' vb' vz' bt' bo' h' tk' hB' hv1' hv2' F' N'; (try k_sweep))) | with_reducible ((with_reducible show UnrEnd ..); (k_here; k_dflt (refine' unr_keep (by k_asm) (by k_asm) (by first | (k_mem; done) | fail) (by first | (k_allIn; done) | fail) ?_))) | with_reducible ((with_reducible show PySem.wpAny _ _ (PySem.call (PySem.Value.ref _) _) _ _ _); (k_here; (with_reducible show wpAny _ _ (PySem.call (Value.ref 492) _) _ _ _); k_dflt (refine' edit_use (by k_asm) (by k_asm) (by k_asm) (by k_asm) (by first | (k_mem; done) | fail) (by first | (k_mem; done) | fail) (by assumption) (by first | ((first | with_reducible assumption | (simp only [List.length_map, List.length_take]; omega)); done) | fail) (by first | ((first | with_reducible assumption | omega); done) | fail) (by first | ((first | with_reducible assumption | omega); done) | fail) (by first | ((first | with_reducible assumption | omega); done) | fail) (by first | (k_ne; done) | fail) (by first | (k_allIn; done) | fail) (by k_asm) (by first | ((first | exact rfl | assumption); done) | fail) (by ktr_room) (by ktr_units) ?_; k_whole); intro q' c' ws' nc' ah' k' tk2' h' tk' K' kl1' kl2' hcd' l1 F' N'; (have kle' := K'.le); (have klen' := K'.len); (dsimp only [AllLt] at l1); (k_dflt (change Hid _ at l1)); (try k_sweep))) | with_reducible ((with_reducible show PySem.wpAny _ _ (PySem.call (PySem.Value.ref _) _) _ _ _); (k_here; (with_reducible show wpAny _ _ (PySem.call (Value.ref 487) _) _ _ _); k_dflt (refine' draw_A (by k_asm) (by first | (k_mem; done) | fail) (by first | (k_mem; done) | fail) (by assumption) (by first | ((first | with_reducible assumption | (simp only [List.length_map, List.length_take]; omega)); done) | fail) (by first | ((first | with_reducible assumption | omega); done) | fail) (by first | ((first | with_reducible assumption | omega); done) | fail) (by first | ((first | with_reducible assumption | omega); done) | fail) (by first | (k_ne; done) | fail) (by k_asm) (by k_asm) (by k_asm) (by k_asm) (by first | ((first | exact rfl | assumption); done) | fail) (by first | (k_allIn; done) | fail) (by ktr_room) (by ktr_units) ?_; k_whole); intro r' t1' t2' h' tk' hr1' hr2' F' N'; (try k_sweep))) | with_reducible ((with_reducible show PySem.wpAny _ _ (PySem.eval (PySem.Expr.Name _ _) _) _ _ _); (k_here; k_dflt (refine' nameX_L (by k_asm) (by first | (walk_at "NM"; done) | fail) ?_ (by rfl) (by rfl); k_whole))) | with_reducible ((with_reducible show PySem.wpAny _ _ (PySem.exec (PySem.Stmt.Assign (_ :: _) (PySem.Expr.ListComp _ _ _ _) _) _) _ _ _); (k_here; k_dflt (refine LCg.Assign_ListComp_U (F₀ := by k_asm) (by rfl) (by with_unfolding_all rfl) (by with_unfolding_all rfl) (by decide) (by rfl) (by decide) (by rfl) (by rfl) (by rfl) ?_))) | with_reducible ((with_reducible show PySem.wpAny _ _ (PySem.exec (PySem.Stmt.If _ _ _ _) _) _ _ _); (k_here; (with_reducible show wpAny _ _ (PySem.exec (PySem.Stmt.If _ [PySem.Stmt.Assign [PySem.Expr.Name _ _] (PySem.Expr.Tuple _ _ _) _] [] _) _) _ _ _); k_dflt (refine' join_bounds (by k_asm) (by k_asm) (by first | (k_mem; done) | fail) (by first | ((first | walk_at "NM" | with_unfolding_all rfl); done) | fail) (by first | (k_mem; done) | fail) (by first | ((first | walk_at "NM" | with_unfolding_all rfl); done) | fail) (by first | ((first | walk_at "NM" | with_unfolding_all rfl); done) | fail) (by first | ((first | walk_at "NM" | with_unfolding_all rfl); done) | fail) (by first | (k_allIn; done) | fail) ?_ ?_))) | walk1 | (dsimp only) | (leave1; (try dsimp only)) | fail "no step")
  all_goals (try ((with_reducible show Fr _ _ _ _); k_asm))
  all_goals (try ((with_reducible show News _ _ _ _); refine' cb_drop ?NN ?ss; (case NN => k_asm); (case ss => lcg_sub)))
  refine Stop.mk ?_
  with_unfolding_all show wpAny _ _ (execs (lawBody 10) _) _ _ _
  refine' law_d10 (T := T) B X Tp hr hu ?F ?n1 ?n2 ?n3 ?n4 ?n5 ?n6 ?n7 ?n8 ?n9 ?n10 ?n11 ?ns (cb_drop ?N (sub_cons ?s1 ?ss)) ?hC ?hcA hco ?off hc hl ?k0 ?k1 ?hsg ⟨?ha, ?h0, ?h1, ?h2, ?h3, ?h4, ?h5, ?h6⟩ ?K1 ?K2 hsz a1 a2 a3 a4 a5 a6 a7 r0 r1 g1 g2 g3 g4 g5 g6 g7 g8 jT ?hQ
  case N => k_asm
  case s1 => k_mem
  case F => k_asm
  case n1 => walk_at "NM"
  case n2 => walk_at "NM"
  case n3 => walk_at "NM"
  case n4 => walk_at "NM"
  case n5 => walk_at "NM"
  case n6 => walk_at "NM"
  case n7 => walk_at "NM"
  case n8 => walk_at "NM"
  case n9 => walk_at "NM"
  case n10 => walk_at "NM"
  case n11 => walk_at "NM"
  case ns => walk_at "NM"
  case ss => exact (show ∀ p ∈ (_ :: _ :: _ :: _ :: Z), p ∈ _ from sub_cons (.tail _ (.head _)) (sub_cons (.tail _ (.tail _ (.head _))) (sub_cons (.tail _ (.tail _ (.tail _ (.tail _ (.head _))))) (sub_cons (.tail _ (.tail _ (.tail _ (.tail _ (.tail _ (.head _)))))) fun p hp => .tail _ (.tail _ (.tail _ (.tail _ (.tail _ (.tail _ hp)))))))))
  case off => exact off_cons ⟨by k_ne, trivial⟩ (off_cons ⟨by k_ne, trivial⟩ (off_cons ⟨by k_ne, trivial⟩ (off_cons ⟨by k_ne, trivial⟩ offD)))
  case K1 => assumption
  case K2 => assumption
  case hQ => exact fun h' tk' m' F' => hQ h' tk' m' F'
  case k0 => omega
  case k1 => omega
  case hC => k_mem
  case hcA => k_mem
  case hsg => k_mem
  case ha => k_mem
  case h0 => k_mem
  case h1 => k_mem
  case h2 => k_mem
  case h3 => k_mem
  case h4 => k_mem
  case h5 => k_mem
  case h6 => k_mem
end
section
/-- the four places -/
theorem law_d5 {w : World} {mean : ExcName → Option Value} {mg mb : Str → Option Value} {dp un : Nat} {gd : Option (List Code)} {cn : Str} {L a : Addr} {ccd : Value} {outer : List Env} {A₀ : Around} {base h₀ : Heap} {m : Str → Option Value} {s : Shared} {Q : Flow → Shared → Prop}
    {D C cA : Addr} {co : Obj} {cells : List Value} {ns : List Int} {nD nC : Nat} {k : Int} {tk : Tok} {Z : List (Addr × Obj)} {sg ax m0 m1 m2 : Addr} {kS nM : Nat} {ph p0 p1 p2 room size : Int} {u7 u8 u9 td tg ts : Tok} {T : List Value} {nT : List Int} {b0 b1 b2 : Bool}
    (B : Below A₀ base outer h₀) (X : (heapK w.params).In h₀) (Tp : Top view LO mean mg mb h₀) (hr : dp + 21 < recursionLimit) (hu : un + 170 < cLine)
    (F : Fr h₀ L s.heap m)
    (n1 : m (Str.ofString "marks") = some (.ref ax)) (n2 : m (Str.ofString "own_point_here") = some (.int ph tg)) (n3 : m (Str.ofString "signs") = some (.ref sg)) (n4 : m (Str.ofString "room") = some (.int room u8)) (n5 : m (Str.ofString "size") = some (.int size ts))
    (N : News h₀ L s.heap ((D, listOf #[.ref C, .int k tk] nD) :: Z)) (hC : (C, listOf cells.toArray nC) ∈ Z) (hcA : (cA, co) ∈ Z) (hco : co.data = .cell (some (.ref D))) (offD : ∀ p ∈ Z, OffL p.1 [D]) (hc : IntsAre cells ns) (hl : ns.length ≤ 63) (k0 : 0 ≤ k) (k1' : k ≤ 700)
    (hsg : (sg, listOf T.toArray kS) ∈ Z) (hax : (ax, listOf #[.ref m0, .ref m1, .ref m2] nM) ∈ Z) (hm0 : (m0, markO p0 u7 b0) ∈ Z) (hm1 : (m1, markO p1 u9 b1) ∈ Z) (hm2 : (m2, markO p2 td b2) ∈ Z) (hsz : (T.length : Int) = size)
    (a6 : T.length ≤ 12) (a7 : 4 ≤ T.length) (r0 : 0 ≤ room) (r1 : room ≤ 3) (g1 : 1 ≤ ph) (g2 : ph ≤ T.length + 1)
    (g3 : 1 ≤ p0) (g4 : p0 ≤ T.length + 1) (g5 : 1 ≤ p1) (g6 : p1 ≤ T.length + 1) (g7 : 1 ≤ p2) (g8 : p2 ≤ T.length + 1)
    (jT : IntsAre T nT)
    (hQ : ∀ h' tk' m', Fr h₀ L h' m' → Q (.ret (.bool true)) { s with heap := h', toks := tk' }) :
    wpAny (model PySem.Challenge.pw_np0066_01 w) (ktrTop dp un gd cn lawScope L a ccd [(Str.ofString "deck", cA)] outer) (execs (lawBody 5) (envX cn lawScope L a ccd [(Str.ofString "deck", cA)])) Q (fun _ _ => False) s := by
  have dc := (offD _ hC).1
  with_unfolding_all show wpAny _ _ (execs (_ :: _) _) _ _ _
  repeat' (first | (k_unfold; (try dsimp only)) | (k_end; wrow_close) | ((with_reducible show PySem.wpAny _ _ (PySem.execs (_ :: _) _) _ _ _); (k_here; (with_reducible show wpAny _ _ (PySem.execs (PySem.Stmt.Assign [PySem.Expr.Tuple _ _ _] _ _ :: _) _) _ _ _); refine Stop.out ?_)) | with_reducible ((with_reducible show LCg.CompSrc ..); (k_here; k_dflt (refine' draws_src (by exact rfl) (by k_asm) (by k_asm) (by assumption) (by first | ((first | with_reducible assumption | omega); done) | fail) (by first | ((first | with_reducible assumption | omega); done) | fail) (by first | (k_mem; done) | fail) (by first | (k_allIn; done) | fail) (fun i' t0' I' oI' C' oC' D' m' ys' h' tk' E' hi' hC' F' N' oR' off' ne' => ?_) (fun g' ys' ns' t0' hy' hl' => ?_)); (all_goals (try (simp only [LCg.Off3, and_true] at off'))))) | ((with_reducible show Mine.JB ..); first | (refine' JB.none (by first | ((first | walk_at "NM" | with_unfolding_all rfl); done) | fail) (by k_asm) (by k_asm) (sub_cons (by exact .head _) (by first | (lcg_sub; done) | fail)) (by first | ((first | with_reducible assumption | omega); done) | fail) (by first | ((first | with_reducible assumption | omega); done) | fail)) | (refine' JB.some (by k_asm) (by k_asm) (sub_cons (by first | (k_mem; done) | fail) (by first | (lcg_sub; done) | fail)) (by first | ((first | with_reducible assumption | omega); done) | fail) (by first | ((first | with_reducible assumption | omega); done) | fail) (by first | ((first | with_reducible assumption | omega); done) | fail) (by first | ((first | with_reducible assumption | omega); done) | fail) (by first | ((first | with_reducible assumption | omega); done) | fail))) | ((with_reducible show Mine.JB2 _); ((show ∀ _ _ _ _ _ _ _ _, _ → _ → _ → _ → _ → _); intro bv' vp' vb' vz' bt' bo' h' tk' hB' hv1' hv2' F' N'; (try k_sweep))) | with_reducible ((with_reducible show UnrEnd ..); (k_here; k_dflt (refine' unr_keep (by k_asm) (by k_asm) (by first | (k_mem; done) | fail) (by first | (k_allIn; done) | fail) ?_))) | with_reducible ((with_reducible show PySem.wpAny _ _ (PySem.call (PySem.Value.ref _) _) _ _ _); (k_here; (with_reducible show wpAny _ _ (PySem.call (Value.ref 492) _) _ _ _); k_dflt (refine' edit_use (by k_asm) (by k_asm) (by k_asm) (by k_asm) (by first | (k_mem; done) | fail) (by first | (k_mem; done) | fail) (by assumption) (by first | ((first | with_reducible assumption | (simp only [List.length_map, List.length_take]; omega)); done) | fail) (by first | ((first | with_reducible assumption | omega); done) | fail) (by first | ((first | with_reducible assumption | omega); done) | fail) (by first | ((first | with_reducible assumption | omega); done) | fail) (by first | (k_ne; done) | fail) (by first | (k_allIn; done) | fail) (by k_asm) (by first | ((first | exact rfl | assumption); done) | fail) (by ktr_room) (by ktr_units) ?_; k_whole); intro q' c' ws' nc' ah' k' tk2' h' tk' K' kl1' kl2' hcd' l1 F' N'; (have kle' := K'.le); (have klen' := K'.len); (dsimp only [AllLt] at l1); (k_dflt (change Hid _ at l1)); (try k_sweep))) | with_reducible ((with_reducible show PySem.wpAny _ _ (PySem.call (PySem.Value.ref _) _) _ _ _); (k_here; (with_reducible show wpAny _ _ (PySem.call (Value.ref 487) _) _ _ _); k_dflt (refine' draw_A (by k_asm) (by first | (k_mem; done) | fail) (by first | (k_mem; done) | fail) (by assumption) (by first | ((first | with_reducible assumption | (simp only [List.length_map, List.length_take]; omega)); done) | fail) (by first | ((first | with_reducible assumption | omega); done) | fail) (by first | ((first | with_reducible assumption | omega); done) | fail) (by first | ((first | with_reducible assumption | omega); done) | fail) (by first | (k_ne; done) | fail) (by k_asm) (by k_asm) (by k_asm) (by k_asm) (by first | ((first | exact rfl | assumption); done) | fail) (by first | (k_allIn; done) | fail) (by ktr_room) (by ktr_units) ?_; k_whole); intro r' t1' t2' h' tk' hr1' hr2' F' N'; (try k_sweep))) | with_reducible ((with_reducible show PySem.wpAny _ _ (PySem.eval (PySem.Expr.Name _ _) _) _ _ _); (k_here; k_dflt (refine' nameX_L (by k_asm) (by first | (walk_at "NM"; done) | fail) ?_ (by rfl) (by rfl); k_whole))) | with_reducible ((with_reducible show PySem.wpAny _ _ (PySem.exec (PySem.Stmt.Assign (_ :: _) (PySem.Expr.ListComp _ _ _ _) _) _) _ _ _); (k_here; k_dflt (refine LCg.Assign_ListComp_U (F₀ := by k_asm) (by rfl) (by with_unfolding_all rfl) (by with_unfolding_all rfl) (by decide) (by rfl) (by decide) (by rfl) (by rfl) (by rfl) ?_))) | with_reducible ((with_reducible show PySem.wpAny _ _ (PySem.exec (PySem.Stmt.If _ _ _ _) _) _ _ _); (k_here; (with_reducible show wpAny _ _ (PySem.exec (PySem.Stmt.If _ [PySem.Stmt.Assign [PySem.Expr.Name _ _] (PySem.Expr.Tuple _ _ _) _] [] _) _) _ _ _); k_dflt (refine' join_bounds (by k_asm) (by k_asm) (by first | (k_mem; done) | fail) (by first | ((first | walk_at "NM" | with_unfolding_all rfl); done) | fail) (by first | (k_mem; done) | fail) (by first | ((first | walk_at "NM" | with_unfolding_all rfl); done) | fail) (by first | ((first | walk_at "NM" | with_unfolding_all rfl); done) | fail) (by first | ((first | walk_at "NM" | with_unfolding_all rfl); done) | fail) (by first | (k_allIn; done) | fail) ?_ ?_))) | walk1 | (dsimp only) | (leave1; (try dsimp only)) | fail "no step")
  all_goals (try ((with_reducible show Fr _ _ _ _); k_asm))
  all_goals (try ((with_reducible show News _ _ _ _); refine' cb_drop ?NN ?ss; (case NN => k_asm); (case ss => lcg_sub)))
  refine Stop.mk ?_
  with_unfolding_all show wpAny _ _ (execs (lawBody 9) _) _ _ _
  refine' law_d9 (T := T) B X Tp hr hu ?F ?n1 ?n2 ?n3 ?n4 ?n5 ?n6 ?n7 ?n8 ?n9 ?N hC hcA hco offD hc hl ?k0 ?k1 hsg hax hm0 hm1 hm2 hsz ?a1 ?a2 ?a3 ?a4 ?a5 a6 a7 r0 r1 g1 g2 g3 g4 g5 g6 g7 g8 jT ?hQ
  case N => k_asm
  case F => k_asm
  case n1 => walk_at "NM"
  case n2 => walk_at "NM"
  case n3 => walk_at "NM"
  case n4 => walk_at "NM"
  case n5 => walk_at "NM"
  case n6 => walk_at "NM"
  case n7 => walk_at "NM"
  case n8 => walk_at "NM"
  case n9 => walk_at "NM"
  case hQ => exact fun h' tk' m' F' => hQ h' tk' m' F'
  all_goals omega
end
section
/-- the body of the loop over the markers -/
noncomputable def turnBody : List Stmt := match lawBody 4 with
  | .For _ _ body _ _ :: _ => body
  | _ => []
/-- one turn of it -/
theorem law_turn {w : World} {mean : ExcName → Option Value} {mg mb : Str → Option Value} {dp un : Nat} {gd : Option (List Code)} {cn : Str} {L a : Addr} {ccd : Value} {outer : List Env} {A₀ : Around} {base h₀ : Heap} {m : Str → Option Value} {s : Shared} {Q : Flow → Shared → Prop} {E : Value → Shared → Prop}
    {D C cA l : Addr} {co : Obj} {cells : List Value} {ns : List Int} {nD nC n : Nat} {k size : Int} {tk ts : Tok} {A : Array Value} {all Y1 Y : List (Addr × Obj)}
    (B : Below A₀ base outer h₀) (F : Fr h₀ L s.heap m) (X : (heapK w.params).In h₀) (Tp : Top view LO mean mg mb h₀) (hr : dp + 21 < recursionLimit) (hu : un + 170 < cLine)
    (N : News h₀ L s.heap all) (s1 : (D, listOf #[.ref C, .int k tk] nD) ∈ all) (n1 : m (Str.ofString "marks") = some (.ref l)) (s2 : (l, listOf A n) ∈ all) (hn : n ≤ 10) (hA : A.size ≤ 10) (K : Keep [D] all Y1) (K2 : Keep [l] Y1 Y) (hC : (C, listOf cells.toArray nC) ∈ Y) (hcA : (cA, co) ∈ Y) (hco : co.data = .cell (some (.ref D)))
    (n2 : m (Str.ofString "size") = some (.int size ts)) (nlD : @Ne Nat l D) (hc : IntsAre cells ns) (hl : ns.length ≤ 63) (k0 : 0 ≤ k) (k1 : k ≤ 700) (hs : 0 ≤ size)
    (hQ : ∀ h' tk' D' r t b t2, 0 ≤ r → r < size + 1 → (@LT.lt Nat _ D D' ∧ @LT.lt Nat _ l D' ∧ AllLt D' Y) → Fr h₀ L h' (fun y => if y = Str.ofString "advances" then some (.bool b) else m y) →
      News h₀ L h' ((D', markO (1 + r) t b) :: (D, listOf #[.ref C, .int (k + 1 + 1) t2] nD) :: (l, listOf (A.push (.ref D')) (n + 1)) :: Y) → Q .next { s with heap := h', toks := tk' }) :
    wpAny (model PySem.Challenge.pw_np0066_01 w) (ktrTop dp un gd cn lawScope L a ccd [(Str.ofString "deck", cA)] outer) (execs turnBody (envX cn lawScope L a ccd [(Str.ofString "deck", cA)])) Q E s := by
  have N0 := cb_drop N (sub_cons s1 (sub_cons s2 fun p hp => K.sub p (K2.sub p hp)))
  have offD : ∀ p ∈ Y, OffL p.1 [D] := fun p hp => K.off p (K2.sub p hp)
  have offl : ∀ p ∈ Y, OffL p.1 [l] := K2.off
  have dc := (offD _ hC).1
  clear N K K2 s1 s2
  with_unfolding_all show wpAny _ _ (execs (_ :: _) _) _ _ _
  repeat' (first | (k_unfold; (try dsimp only)) | (k_end; wrow_close) | with_reducible ((with_reducible show LCg.CompSrc ..); (k_here; k_dflt (refine' draws_src (by exact rfl) (by k_asm) (by k_asm) (by assumption) (by first | ((first | with_reducible assumption | omega); done) | fail) (by first | ((first | with_reducible assumption | omega); done) | fail) (by first | (k_mem; done) | fail) (by first | (k_allIn; done) | fail) (fun i' t0' I' oI' C' oC' D' m' ys' h' tk' E' hi' hC' F' N' oR' off' ne' => ?_) (fun g' ys' ns' t0' hy' hl' => ?_)); (all_goals (try (simp only [LCg.Off3, and_true] at off'))))) | ((with_reducible show Mine.JB ..); first | (refine' JB.none (by first | ((first | walk_at "NM" | with_unfolding_all rfl); done) | fail) (by k_asm) (by k_asm) (sub_cons (by exact .head _) (by first | (lcg_sub; done) | fail)) (by first | ((first | with_reducible assumption | omega); done) | fail) (by first | ((first | with_reducible assumption | omega); done) | fail)) | (refine' JB.some (by k_asm) (by k_asm) (sub_cons (by first | (k_mem; done) | fail) (by first | (lcg_sub; done) | fail)) (by first | ((first | with_reducible assumption | omega); done) | fail) (by first | ((first | with_reducible assumption | omega); done) | fail) (by first | ((first | with_reducible assumption | omega); done) | fail) (by first | ((first | with_reducible assumption | omega); done) | fail) (by first | ((first | with_reducible assumption | omega); done) | fail))) | ((with_reducible show Mine.JB2 _); ((show ∀ _ _ _ _ _ _ _ _, _ → _ → _ → _ → _ → _); intro bv' vp' vb' vz' bt' bo' h' tk' hB' hv1' hv2' F' N'; (try k_sweep))) | with_reducible ((with_reducible show UnrEnd ..); (k_here; k_dflt (refine' unr_keep (by k_asm) (by k_asm) (by first | (k_mem; done) | fail) (by first | (k_allIn; done) | fail) ?_))) | with_reducible ((with_reducible show PySem.wpAny _ _ (PySem.call (PySem.Value.ref _) _) _ _ _); (k_here; (with_reducible show wpAny _ _ (PySem.call (Value.ref 492) _) _ _ _); k_dflt (refine' edit_use (by k_asm) (by k_asm) (by k_asm) (by k_asm) (by first | (k_mem; done) | fail) (by first | (k_mem; done) | fail) (by assumption) (by first | ((first | with_reducible assumption | (simp only [List.length_map, List.length_take]; omega)); done) | fail) (by first | ((first | with_reducible assumption | omega); done) | fail) (by first | ((first | with_reducible assumption | omega); done) | fail) (by first | ((first | with_reducible assumption | omega); done) | fail) (by first | (k_ne; done) | fail) (by first | (k_allIn; done) | fail) (by k_asm) (by first | ((first | exact rfl | assumption); done) | fail) (by ktr_room) (by ktr_units) ?_; k_whole); intro q' c' ws' nc' ah' k' tk2' h' tk' K' kl1' kl2' hcd' l1 F' N'; (have kle' := K'.le); (have klen' := K'.len); (dsimp only [AllLt] at l1); (k_dflt (change Hid _ at l1)); (try k_sweep))) | with_reducible ((with_reducible show PySem.wpAny _ _ (PySem.call (PySem.Value.ref _) _) _ _ _); (k_here; (with_reducible show wpAny _ _ (PySem.call (Value.ref 487) _) _ _ _); k_dflt (refine' draw_A (by k_asm) (by first | (k_mem; done) | fail) (by first | (k_mem; done) | fail) (by assumption) (by first | ((first | with_reducible assumption | (simp only [List.length_map, List.length_take]; omega)); done) | fail) (by first | ((first | with_reducible assumption | omega); done) | fail) (by first | ((first | with_reducible assumption | omega); done) | fail) (by first | ((first | with_reducible assumption | omega); done) | fail) (by first | (k_ne; done) | fail) (by k_asm) (by k_asm) (by k_asm) (by k_asm) (by first | ((first | exact rfl | assumption); done) | fail) (by first | (k_allIn; done) | fail) (by ktr_room) (by ktr_units) ?_; k_whole); intro r' t1' t2' h' tk' hr1' hr2' F' N'; (try k_sweep))) | with_reducible ((with_reducible show PySem.wpAny _ _ (PySem.eval (PySem.Expr.Name _ _) _) _ _ _); (k_here; k_dflt (refine' nameX_L (by k_asm) (by first | (walk_at "NM"; done) | fail) ?_ (by rfl) (by rfl); k_whole))) | with_reducible ((with_reducible show PySem.wpAny _ _ (PySem.exec (PySem.Stmt.Assign (_ :: _) (PySem.Expr.ListComp _ _ _ _) _) _) _ _ _); (k_here; k_dflt (refine LCg.Assign_ListComp_U (F₀ := by k_asm) (by rfl) (by with_unfolding_all rfl) (by with_unfolding_all rfl) (by decide) (by rfl) (by decide) (by rfl) (by rfl) (by rfl) ?_))) | with_reducible ((with_reducible show PySem.wpAny _ _ (PySem.exec (PySem.Stmt.If _ _ _ _) _) _ _ _); (k_here; (with_reducible show wpAny _ _ (PySem.exec (PySem.Stmt.If _ [PySem.Stmt.Assign [PySem.Expr.Name _ _] (PySem.Expr.Tuple _ _ _) _] [] _) _) _ _ _); k_dflt (refine' join_bounds (by k_asm) (by k_asm) (by first | (k_mem; done) | fail) (by first | ((first | walk_at "NM" | with_unfolding_all rfl); done) | fail) (by first | (k_mem; done) | fail) (by first | ((first | walk_at "NM" | with_unfolding_all rfl); done) | fail) (by first | ((first | walk_at "NM" | with_unfolding_all rfl); done) | fail) (by first | ((first | walk_at "NM" | with_unfolding_all rfl); done) | fail) (by first | (k_allIn; done) | fail) ?_ ?_))) | walk1 | (dsimp only) | (leave1; (try dsimp only)) | fail "no step")
  refine' hQ _ _ _ _ _ _ _ ?ca ?cb ?cc ?cf ?cn
  case cn => k_asm
  case cf => k_asm
  case ca => assumption
  case cb => assumption
  case cc => assumption
end
section
/-- the markers told -/
theorem law_d3 {w : World} {mean : ExcName → Option Value} {mg mb : Str → Option Value} {dp un : Nat} {gd : Option (List Code)} {cn : Str} {L a : Addr} {ccd : Value} {outer : List Env} {A₀ : Around} {base h₀ : Heap} {m : Str → Option Value} {s : Shared} {Q : Flow → Shared → Prop}
    {D C cA : Addr} {co : Obj} {cells : List Value} {ns : List Int} {nD nC : Nat} {k : Int} {tk : Tok} {Z : List (Addr × Obj)} {sg : Addr} {kS : Nat} {room size : Int} {u8 ts : Tok} {T : List Value} {nT : List Int}
    (B : Below A₀ base outer h₀) (X : (heapK w.params).In h₀) (Tp : Top view LO mean mg mb h₀) (hr : dp + 21 < recursionLimit) (hu : un + 170 < cLine)
    (F : Fr h₀ L s.heap m)
    (n1 : m (Str.ofString "signs") = some (.ref sg)) (n2 : m (Str.ofString "room") = some (.int room u8)) (n3 : m (Str.ofString "size") = some (.int size ts))
    (N : News h₀ L s.heap ((D, listOf #[.ref C, .int k tk] nD) :: Z)) (hC : (C, listOf cells.toArray nC) ∈ Z) (hcA : (cA, co) ∈ Z) (hco : co.data = .cell (some (.ref D))) (offD : ∀ p ∈ Z, OffL p.1 [D]) (hc : IntsAre cells ns) (hl : ns.length ≤ 63) (k0 : 0 ≤ k) (k1' : k ≤ 600)
    (hsg : (sg, listOf T.toArray kS) ∈ Z) (hsz : (T.length : Int) = size)
    (a6 : T.length ≤ 12) (a7 : 4 ≤ T.length) (r0 : 0 ≤ room) (r1 : room ≤ 3)
    (jT : IntsAre T nT)
    (hQ : ∀ h' tk' m', Fr h₀ L h' m' → Q (.ret (.bool true)) { s with heap := h', toks := tk' }) :
    wpAny (model PySem.Challenge.pw_np0066_01 w) (ktrTop dp un gd cn lawScope L a ccd [(Str.ofString "deck", cA)] outer) (execs (lawBody 3) (envX cn lawScope L a ccd [(Str.ofString "deck", cA)])) Q (fun _ _ => False) s := by
  have dc := (offD _ hC).1
  with_unfolding_all show wpAny _ _ (execs (_ :: _) _) _ _ _
  repeat' (first | (k_unfold; (try dsimp only)) | (k_end; wrow_close) | ((with_reducible show PySem.wpAny _ _ (PySem.execs (_ :: _) _) _ _ _); (k_here; (with_reducible show wpAny _ _ (PySem.execs (PySem.Stmt.Assign [PySem.Expr.Name _ _] (PySem.Expr.Compare _ _ _ _) _ :: _) _) _ _ _); (with_unfolding_all show wpAny _ _ (PySem.execs turnBody _) _ _ _); k_dflt (refine' law_turn (D := D) (C := C) (cA := cA) B (by k_asm) X Tp hr hu (by k_asm) (by first | (k_mem; done) | fail) (by first | (walk_at "NM"; done) | fail) (by first | (k_mem; done) | fail) (by exact Nat.le_of_ble_eq_true rfl) (by exact Nat.le_of_ble_eq_true rfl) (by first | (k_allIn; done) | fail) (by first | (k_allIn; done) | fail) (by first | (k_mem; done) | fail) (by first | (k_mem; done) | fail) hco (by first | (walk_at "NM"; done) | fail) (by first | (k_ne; done) | fail) hc hl (by omega) (by omega) (by omega) ?_; k_whole); intro h' tk' D' r' t' b' t2' hr1' hr2' l1 F' N'; (dsimp only [AllLt] at l1); (k_dflt (change Hid _ at l1)); (try k_sweep))) | ((with_reducible show PySem.wpAny _ _ (PySem.execs (_ :: _) _) _ _ _); (k_here; (with_reducible show wpAny _ _ (PySem.execs (PySem.Stmt.Assign [PySem.Expr.Name _ _] (PySem.Expr.BinOp _ _ _ _) _ :: _) _) _ _ _); refine Stop.out ?_)) | with_reducible ((with_reducible show LCg.CompSrc ..); (k_here; k_dflt (refine' draws_src (by exact rfl) (by k_asm) (by k_asm) (by assumption) (by first | ((first | with_reducible assumption | omega); done) | fail) (by first | ((first | with_reducible assumption | omega); done) | fail) (by first | (k_mem; done) | fail) (by first | (k_allIn; done) | fail) (fun i' t0' I' oI' C' oC' D' m' ys' h' tk' E' hi' hC' F' N' oR' off' ne' => ?_) (fun g' ys' ns' t0' hy' hl' => ?_)); (all_goals (try (simp only [LCg.Off3, and_true] at off'))))) | ((with_reducible show Mine.JB ..); first | (refine' JB.none (by first | ((first | walk_at "NM" | with_unfolding_all rfl); done) | fail) (by k_asm) (by k_asm) (sub_cons (by exact .head _) (by first | (lcg_sub; done) | fail)) (by first | ((first | with_reducible assumption | omega); done) | fail) (by first | ((first | with_reducible assumption | omega); done) | fail)) | (refine' JB.some (by k_asm) (by k_asm) (sub_cons (by first | (k_mem; done) | fail) (by first | (lcg_sub; done) | fail)) (by first | ((first | with_reducible assumption | omega); done) | fail) (by first | ((first | with_reducible assumption | omega); done) | fail) (by first | ((first | with_reducible assumption | omega); done) | fail) (by first | ((first | with_reducible assumption | omega); done) | fail) (by first | ((first | with_reducible assumption | omega); done) | fail))) | ((with_reducible show Mine.JB2 _); ((show ∀ _ _ _ _ _ _ _ _, _ → _ → _ → _ → _ → _); intro bv' vp' vb' vz' bt' bo' h' tk' hB' hv1' hv2' F' N'; (try k_sweep))) | with_reducible ((with_reducible show UnrEnd ..); (k_here; k_dflt (refine' unr_keep (by k_asm) (by k_asm) (by first | (k_mem; done) | fail) (by first | (k_allIn; done) | fail) ?_))) | with_reducible ((with_reducible show PySem.wpAny _ _ (PySem.call (PySem.Value.ref _) _) _ _ _); (k_here; (with_reducible show wpAny _ _ (PySem.call (Value.ref 492) _) _ _ _); k_dflt (refine' edit_use (by k_asm) (by k_asm) (by k_asm) (by k_asm) (by first | (k_mem; done) | fail) (by first | (k_mem; done) | fail) (by assumption) (by first | ((first | with_reducible assumption | (simp only [List.length_map, List.length_take]; omega)); done) | fail) (by first | ((first | with_reducible assumption | omega); done) | fail) (by first | ((first | with_reducible assumption | omega); done) | fail) (by first | ((first | with_reducible assumption | omega); done) | fail) (by first | (k_ne; done) | fail) (by first | (k_allIn; done) | fail) (by k_asm) (by first | ((first | exact rfl | assumption); done) | fail) (by ktr_room) (by ktr_units) ?_; k_whole); intro q' c' ws' nc' ah' k' tk2' h' tk' K' kl1' kl2' hcd' l1 F' N'; (have kle' := K'.le); (have klen' := K'.len); (dsimp only [AllLt] at l1); (k_dflt (change Hid _ at l1)); (try k_sweep))) | with_reducible ((with_reducible show PySem.wpAny _ _ (PySem.call (PySem.Value.ref _) _) _ _ _); (k_here; (with_reducible show wpAny _ _ (PySem.call (Value.ref 487) _) _ _ _); k_dflt (refine' draw_A (by k_asm) (by first | (k_mem; done) | fail) (by first | (k_mem; done) | fail) (by assumption) (by first | ((first | with_reducible assumption | (simp only [List.length_map, List.length_take]; omega)); done) | fail) (by first | ((first | with_reducible assumption | omega); done) | fail) (by first | ((first | with_reducible assumption | omega); done) | fail) (by first | ((first | with_reducible assumption | omega); done) | fail) (by first | (k_ne; done) | fail) (by k_asm) (by k_asm) (by k_asm) (by k_asm) (by first | ((first | exact rfl | assumption); done) | fail) (by first | (k_allIn; done) | fail) (by ktr_room) (by ktr_units) ?_; k_whole); intro r' t1' t2' h' tk' hr1' hr2' F' N'; (try k_sweep))) | with_reducible ((with_reducible show PySem.wpAny _ _ (PySem.eval (PySem.Expr.Name _ _) _) _ _ _); (k_here; k_dflt (refine' nameX_L (by k_asm) (by first | (walk_at "NM"; done) | fail) ?_ (by rfl) (by rfl); k_whole))) | with_reducible ((with_reducible show PySem.wpAny _ _ (PySem.exec (PySem.Stmt.Assign (_ :: _) (PySem.Expr.ListComp _ _ _ _) _) _) _ _ _); (k_here; k_dflt (refine LCg.Assign_ListComp_U (F₀ := by k_asm) (by rfl) (by with_unfolding_all rfl) (by with_unfolding_all rfl) (by decide) (by rfl) (by decide) (by rfl) (by rfl) (by rfl) ?_))) | with_reducible ((with_reducible show PySem.wpAny _ _ (PySem.exec (PySem.Stmt.If _ _ _ _) _) _ _ _); (k_here; (with_reducible show wpAny _ _ (PySem.exec (PySem.Stmt.If _ [PySem.Stmt.Assign [PySem.Expr.Name _ _] (PySem.Expr.Tuple _ _ _) _] [] _) _) _ _ _); k_dflt (refine' join_bounds (by k_asm) (by k_asm) (by first | (k_mem; done) | fail) (by first | ((first | walk_at "NM" | with_unfolding_all rfl); done) | fail) (by first | (k_mem; done) | fail) (by first | ((first | walk_at "NM" | with_unfolding_all rfl); done) | fail) (by first | ((first | walk_at "NM" | with_unfolding_all rfl); done) | fail) (by first | ((first | walk_at "NM" | with_unfolding_all rfl); done) | fail) (by first | (k_allIn; done) | fail) ?_ ?_))) | walk1 | (dsimp only) | (leave1; (try dsimp only)) | fail "no step")
  all_goals (try ((with_reducible show Fr _ _ _ _); k_asm))
  all_goals (try ((with_reducible show News _ _ _ _); refine' cb_drop ?NN ?ss; (case NN => k_asm); (case ss => lcg_sub)))
  refine Stop.mk ?_
  with_unfolding_all show wpAny _ _ (execs (lawBody 5) _) _ _ _
  refine' law_d5 (T := T) B X Tp hr hu ?F ?n1 ?n2 ?n3 ?n4 ?n5 (cb_drop ?N (sub_cons ?s1 ?ss)) ?hC ?hcA hco ?off hc hl ?k0 ?k1 ?hsg ?hax ?hm0 ?hm1 ?hm2 hsz a6 a7 r0 r1 ?g1 ?g2 ?g3 ?g4 ?g5 ?g6 ?g7 ?g8 jT ?hQ
  case N => k_asm
  case s1 => k_mem
  case F => k_asm
  case n1 => walk_at "NM"
  case n2 => walk_at "NM"
  case n3 => walk_at "NM"
  case n4 => walk_at "NM"
  case n5 => walk_at "NM"
  case ss => exact (show ∀ p ∈ (_ :: _ :: _ :: _ :: Z), p ∈ _ from sub_cons (.head _) (sub_cons (.tail _ (.tail _ (.tail _ (.head _)))) (sub_cons (.tail _ (.tail _ (.tail _ (.tail _ (.head _))))) (sub_cons (.tail _ (.tail _ (.head _))) fun p hp => .tail _ (.tail _ (.tail _ (.tail _ (.tail _ (.tail _ hp)))))))))
  case off => exact off_cons ⟨by k_ne, trivial⟩ (off_cons ⟨by k_ne, trivial⟩ (off_cons ⟨by k_ne, trivial⟩ (off_cons ⟨by k_ne, trivial⟩ offD)))
  case hsg => k_mem
  case hax => k_mem
  case hm0 => k_mem
  case hm1 => k_mem
  case hm2 => k_mem
  case hC => k_mem
  case hcA => k_mem
  case hQ => exact fun h' tk' m' F' => hQ h' tk' m' F'
  all_goals omega
end
section
/-- size, room, signs -/
theorem law_draws {w : World} {mean : ExcName → Option Value} {mg mb : Str → Option Value} {dp un : Nat} {gd : Option (List Code)} {cn : Str} {L a : Addr} {ccd : Value} {outer : List Env} {A₀ : Around} {base h₀ : Heap} {m : Str → Option Value} {s : Shared} {Q : Flow → Shared → Prop}
    {D C cA : Addr} {co : Obj} {cells : List Value} {ns : List Int} {nD nC : Nat} {k : Int} {tk : Tok} {Z : List (Addr × Obj)}
    (B : Below A₀ base outer h₀) (X : (heapK w.params).In h₀) (Tp : Top view LO mean mg mb h₀) (hr : dp + 21 < recursionLimit) (hu : un + 170 < cLine)
    (F : Fr h₀ L s.heap m)
    (N : News h₀ L s.heap ((D, listOf #[.ref C, .int k tk] nD) :: Z)) (hC : (C, listOf cells.toArray nC) ∈ Z) (hcA : (cA, co) ∈ Z) (hco : co.data = .cell (some (.ref D))) (offD : ∀ p ∈ Z, OffL p.1 [D]) (hc : IntsAre cells ns) (hl : ns.length ≤ 63) (k0 : 0 ≤ k) (k1' : k ≤ 0)
    (hQ : ∀ h' tk' m', Fr h₀ L h' m' → Q (.ret (.bool true)) { s with heap := h', toks := tk' }) :
    wpAny (model PySem.Challenge.pw_np0066_01 w) (ktrTop dp un gd cn lawScope L a ccd [(Str.ofString "deck", cA)] outer) (execs (lawBody 1) (envX cn lawScope L a ccd [(Str.ofString "deck", cA)])) Q (fun _ _ => False) s := by
  have dc := (offD _ hC).1
  with_unfolding_all show wpAny _ _ (execs (_ :: _) _) _ _ _
  repeat' (first | (k_unfold; (try dsimp only)) | (k_end; wrow_close) | ((with_reducible show PySem.wpAny _ _ (PySem.execs (_ :: _) _) _ _ _); (k_here; (with_reducible show wpAny _ _ (PySem.execs (PySem.Stmt.Assign [PySem.Expr.Tuple _ _ _] (PySem.Expr.Tuple [_, PySem.Expr.List _ _] _ _) _ :: _) _) _ _ _); refine Stop.out ?_)) | with_reducible ((with_reducible show LCg.CompSrc ..); (k_here; k_dflt (refine' draws_src (by exact rfl) (by k_asm) (by k_asm) (by assumption) (by first | ((first | with_reducible assumption | omega); done) | fail) (by first | ((first | with_reducible assumption | omega); done) | fail) (by first | (k_mem; done) | fail) (by first | (k_allIn; done) | fail) (fun i' t0' I' oI' C' oC' D' m' ys' h' tk' E' hi' hC' F' N' oR' off' ne' => ?_) (fun g' ys' ns' t0' hy' hl' => ?_)); (all_goals (try (simp only [LCg.Off3, and_true] at off'))))) | ((with_reducible show Mine.JB ..); first | (refine' JB.none (by first | ((first | walk_at "NM" | with_unfolding_all rfl); done) | fail) (by k_asm) (by k_asm) (sub_cons (by exact .head _) (by first | (lcg_sub; done) | fail)) (by first | ((first | with_reducible assumption | omega); done) | fail) (by first | ((first | with_reducible assumption | omega); done) | fail)) | (refine' JB.some (by k_asm) (by k_asm) (sub_cons (by first | (k_mem; done) | fail) (by first | (lcg_sub; done) | fail)) (by first | ((first | with_reducible assumption | omega); done) | fail) (by first | ((first | with_reducible assumption | omega); done) | fail) (by first | ((first | with_reducible assumption | omega); done) | fail) (by first | ((first | with_reducible assumption | omega); done) | fail) (by first | ((first | with_reducible assumption | omega); done) | fail))) | ((with_reducible show Mine.JB2 _); ((show ∀ _ _ _ _ _ _ _ _, _ → _ → _ → _ → _ → _); intro bv' vp' vb' vz' bt' bo' h' tk' hB' hv1' hv2' F' N'; (try k_sweep))) | with_reducible ((with_reducible show UnrEnd ..); (k_here; k_dflt (refine' unr_keep (by k_asm) (by k_asm) (by first | (k_mem; done) | fail) (by first | (k_allIn; done) | fail) ?_))) | with_reducible ((with_reducible show PySem.wpAny _ _ (PySem.call (PySem.Value.ref _) _) _ _ _); (k_here; (with_reducible show wpAny _ _ (PySem.call (Value.ref 492) _) _ _ _); k_dflt (refine' edit_use (by k_asm) (by k_asm) (by k_asm) (by k_asm) (by first | (k_mem; done) | fail) (by first | (k_mem; done) | fail) (by assumption) (by first | ((first | with_reducible assumption | (simp only [List.length_map, List.length_take]; omega)); done) | fail) (by first | ((first | with_reducible assumption | omega); done) | fail) (by first | ((first | with_reducible assumption | omega); done) | fail) (by first | ((first | with_reducible assumption | omega); done) | fail) (by first | (k_ne; done) | fail) (by first | (k_allIn; done) | fail) (by k_asm) (by first | ((first | exact rfl | assumption); done) | fail) (by ktr_room) (by ktr_units) ?_; k_whole); intro q' c' ws' nc' ah' k' tk2' h' tk' K' kl1' kl2' hcd' l1 F' N'; (have kle' := K'.le); (have klen' := K'.len); (dsimp only [AllLt] at l1); (k_dflt (change Hid _ at l1)); (try k_sweep))) | with_reducible ((with_reducible show PySem.wpAny _ _ (PySem.call (PySem.Value.ref _) _) _ _ _); (k_here; (with_reducible show wpAny _ _ (PySem.call (Value.ref 487) _) _ _ _); k_dflt (refine' draw_A (by k_asm) (by first | (k_mem; done) | fail) (by first | (k_mem; done) | fail) (by assumption) (by first | ((first | with_reducible assumption | (simp only [List.length_map, List.length_take]; omega)); done) | fail) (by first | ((first | with_reducible assumption | omega); done) | fail) (by first | ((first | with_reducible assumption | omega); done) | fail) (by first | ((first | with_reducible assumption | omega); done) | fail) (by first | (k_ne; done) | fail) (by k_asm) (by k_asm) (by k_asm) (by k_asm) (by first | ((first | exact rfl | assumption); done) | fail) (by first | (k_allIn; done) | fail) (by ktr_room) (by ktr_units) ?_; k_whole); intro r' t1' t2' h' tk' hr1' hr2' F' N'; (try k_sweep))) | with_reducible ((with_reducible show PySem.wpAny _ _ (PySem.eval (PySem.Expr.Name _ _) _) _ _ _); (k_here; k_dflt (refine' nameX_L (by k_asm) (by first | (walk_at "NM"; done) | fail) ?_ (by rfl) (by rfl); k_whole))) | with_reducible ((with_reducible show PySem.wpAny _ _ (PySem.exec (PySem.Stmt.Assign (_ :: _) (PySem.Expr.ListComp _ _ _ _) _) _) _ _ _); (k_here; k_dflt (refine LCg.Assign_ListComp_U (F₀ := by k_asm) (by rfl) (by with_unfolding_all rfl) (by with_unfolding_all rfl) (by decide) (by rfl) (by decide) (by rfl) (by rfl) (by rfl) ?_))) | with_reducible ((with_reducible show PySem.wpAny _ _ (PySem.exec (PySem.Stmt.If _ _ _ _) _) _ _ _); (k_here; (with_reducible show wpAny _ _ (PySem.exec (PySem.Stmt.If _ [PySem.Stmt.Assign [PySem.Expr.Name _ _] (PySem.Expr.Tuple _ _ _) _] [] _) _) _ _ _); k_dflt (refine' join_bounds (by k_asm) (by k_asm) (by first | (k_mem; done) | fail) (by first | ((first | walk_at "NM" | with_unfolding_all rfl); done) | fail) (by first | (k_mem; done) | fail) (by first | ((first | walk_at "NM" | with_unfolding_all rfl); done) | fail) (by first | ((first | walk_at "NM" | with_unfolding_all rfl); done) | fail) (by first | ((first | walk_at "NM" | with_unfolding_all rfl); done) | fail) (by first | (k_allIn; done) | fail) ?_ ?_))) | walk1 | (dsimp only) | (leave1; (try dsimp only)) | fail "no step")
  all_goals (try ((with_reducible show Fr _ _ _ _); k_asm))
  all_goals (try ((with_reducible show News _ _ _ _); refine' cb_drop ?NN ?ss; (case NN => k_asm); (case ss => lcg_sub)))
  refine Stop.mk ?_
  with_unfolding_all show wpAny _ _ (execs (lawBody 3) _) _ _ _
  refine' law_d3 (T := _) B X Tp hr hu ?F ?n1 ?n2 ?n3 (cb_drop ?N (sub_cons ?s1 ?ss)) ?hC ?hcA hco ?off hc hl ?k0 ?k1 ?hsg ?hsz ?a6 ?a7 ?r0 ?r1 ?jT ?hQ
  case N => k_asm
  case s1 => k_mem
  case F => k_asm
  case n1 => walk_at "NM"
  case n2 => walk_at "NM"
  case n3 => walk_at "NM"
  case ss => exact (show ∀ p ∈ (_ :: Z), p ∈ _ by lcg_sub)
  case off => exact off_cons ⟨by k_ne, trivial⟩ offD
  case hsg => k_mem
  case hC => k_mem
  case hcA => k_mem
  case jT => assumption
  case hQ => exact fun h' tk' m' F' => hQ h' tk' m' F'
  all_goals omega
end


section
/-- the whole body -/
theorem law_all {w : World} {mean : ExcName → Option Value} {mg mb : Str → Option Value} {dp un : Nat} {gd : Option (List Code)} {cn : Str} {L a : Addr} {ccd : Value} {outer : List Env} {A₀ : Around} {base h₀ : Heap} {m : Str → Option Value} {s : Shared} {Q : Flow → Shared → Prop}
    {sc cA : Addr} {co : Obj} {items : List Value} {ns : List Int}
    (B : Below A₀ base outer h₀) (X : (heapK w.params).In h₀) (Tp : Top view LO mean mg mb h₀) (hr : dp + 21 < recursionLimit) (hu : un + 170 < cLine)
    (F : Fr h₀ L s.heap m) (hn : ∀ p ∈ [(Str.ofString "script", Value.ref sc)], m p.1 = some p.2) (N : News h₀ L s.heap ((cA, co) :: [])) (hco : co.data = .cell none)
    (hL : h₀.IsList sc items.toArray) (hI : IntsAre items ns) (hlen : ns.length ≤ 63)
    (hQ : ∀ h' tk' m', Fr h₀ L h' m' → Q (.ret (.bool true)) { s with heap := h', toks := tk' }) :
    wpAny (model PySem.Challenge.pw_np0066_01 w) (ktrTop dp un gd cn lawScope L a ccd [(Str.ofString "deck", cA)] outer) (execs (lawBody 0) (envX cn lawScope L a ccd [(Str.ofString "deck", cA)])) Q (fun _ _ => False) s := by
  replace F := fr_lay F hn
  clear hn
  dsimp only [lay] at F
  with_unfolding_all show wpAny _ _ (execs (_ :: _) _) _ _ _
  repeat' (first | (k_unfold; (try dsimp only)) | (k_end; wrow_close) | ((with_reducible show PySem.wpAny _ _ (PySem.execs (_ :: _) _) _ _ _); (k_here; (with_reducible show wpAny _ _ (PySem.execs (PySem.Stmt.Assign [PySem.Expr.Tuple [PySem.Expr.Name _ _, PySem.Expr.Name _ _] _ _] (PySem.Expr.Tuple [PySem.Expr.BinOp _ PySem.Operator.Add _ _, PySem.Expr.Call _ _ _ _] _ _) _ :: _) _) _ _ _); refine Stop.out ?_)) | with_reducible ((with_reducible show PySem.wpAny _ _ (PySem.eval (PySem.Expr.Name _ _) _) _ _ _); (k_here; k_dflt (refine' nameX_L (by k_asm) (by first | (walk_at "NM"; done) | fail) ?_ (by rfl) (by rfl); k_whole))) | walk1 | (dsimp only) | (leave1; (try dsimp only)) | fail "no step")
  refine Stop.mk ?_
  refine' law_draws (Z := [(_, _), (_, _)]) B X Tp hr hu ?F (cb_drop ?N (sub_cons ?s1 (sub_cons ?s2 (sub_cons ?s3 sub_nil)))) (.head _) (.tail _ (.head _)) ?hco ?off ?hc ?hl (Int.le_refl _) (Int.le_refl _) ?hQ
  case F => k_asm
  case N => k_asm
  case hco => assumption
  case s1 => k_mem
  case s2 => k_mem
  case s3 => k_mem
  case hc => assumption
  case hl => simp only [List.length_map, List.length_take]; omega
  case off => exact off_cons ⟨by k_ne, trivial⟩ (off_cons ⟨by k_ne, trivial⟩ fun _ h => nomatch h)
  case hQ => exact fun h' tk' m' F' => hQ h' tk' m' F'
end


local macro_rules | `(tactic| k_qdec) => `(tactic| decide +kernel)
theorem law_walk : PySem.Challenge.rw_np0066_01.Holds := by
  refine holds_law said fun said' => ?_
  refine holds_open (q := view) (loose := lawLoose) (Xt := fun s => xlAt view [] s && recOk (RowW.records PySem.Challenge.rw_np0066_01.row.toRowW) s) (XP := XL view []) (Yf := Hook.obs hookK) (Ya := Hook.val hookK) (YP := Hook.says hookK) (N := 6706) left (Hook.of hookK) (Hook.keeps hookK) (fun s e => xl_of s (Bool.and_eq_true_iff.mp e).1) XL.keeps (by rfl) (by rfl) (by rfl) (fun s e => recFacts_of (Bool.and_eq_true_iff.mp e).2) (by rfl) (by first | assumption | decide +kernel) (by decide +kernel) ⟨rfl, rfl, rfl, rfl, rfl, by decide +kernel⟩ ?hw ?hc
  case hw => w_witness2
  k_go0
  (all_goals try k_fold)
  refine' ar_law ?hA ?_
  case hA => with_unfolding_all rfl
  refine' no_raise ?_
  with_unfolding_all refine' law_all ?B ?X ?Tp ?hr ?hu ?F (names_cons ?hn names_nil) ?N ?hco ?hL ?hI ?hlen ?hQ
  case B => k_asm
  case X => k_asm
  case Tp => k_asm
  case hr => ktr_room
  case hu => ktr_units
  case F => k_asm
  case hn => with_unfolding_all rfl
  case N => k_asm
  case hL => assumption
  case hI => assumption
  case hlen => omega
  case hco => with_unfolding_all assumption
  intro h' tk' m' F'
  repeat' (first | (k_unfold; (try dsimp only)) | (k_end; wrow_close) | walk1 | (dsimp only) | (leave1; (try dsimp only)) | fail "no step")


end Mine
theorem PySem.Challenge.cw_np0066_01_holds : PySem.Challenge.rw_np0066_01.Holds :=
  Mine.law_walk
