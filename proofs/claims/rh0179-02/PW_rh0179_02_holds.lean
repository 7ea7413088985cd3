import PyProof.Rows.All
import Wide.All
import OpenK.AllK
import Wide.FinOn
import PySem.Challenge.RW_rh0179_02
open PySem PySem.W PyProof.Rows
set_option Elab.async false
set_option maxRecDepth 100000
set_option linter.unusedVariables false
set_option maxHeartbeats 8000000
set_option compiler.extract_closed false
set_option genInjectivity false
set_option genSizeOf false
set_option backward.eqns.nonrecursive false
namespace Mine
section
/-! ## The program's defs -/
noncomputable def noScope : Scope := { kind := .module, names := [], isGenerator := false, isCoroutine := false }
noncomputable def mb : List Stmt := PySem.Challenge.pw_rh0179_02.main.body
noncomputable def bodyOf : Option Stmt → List Stmt
  | some (.FunctionDef _ _ b _ _ _ _ _ _ _) => b
  | some (.ClassDef _ _ _ b _ _ _ _ _ _ _) => b
  | _ => []
noncomputable def scopeOf : Option Stmt → Scope
  | some (.FunctionDef _ _ _ _ _ _ s _ _ _) => s
  | _ => noScope
noncomputable def bd (i : Nat) : List Stmt := bodyOf mb[i]?
noncomputable def sc (i : Nat) : Scope := scopeOf mb[i]?
noncomputable def mbd (i : Nat) : List Stmt := bodyOf (bd 12)[i]?
noncomputable def msc (i : Nat) : Scope := scopeOf (bd 12)[i]?
end
section
/-! ## The objects that the top leaves -/
noncomputable def argsOf : Option Stmt → Arguments
  | some (.FunctionDef _ a _ _ _ _ _ _ _ _) => a
  | _ => ⟨[], [], none, [], [], none, []⟩
noncomputable def dA (i : Nat) : Option Stmt := mb[i]?
noncomputable def dB (i j : Nat) : Option Stmt := (bd i)[j]?
noncomputable def dE (p : Params) (k : Str) (t : Nat) (v : Value) : DictEntry := DictEntry.mk (PyData.keyHash p k) (Value.str k t) v
noncomputable def sV (k : Str) (t : Nat) : Value := Value.str k t
noncomputable def iV (i : Nat) : Value := Value.int (Int.ofNat i) 0
noncomputable def rV (a : Nat) : Value := Value.ref a
noncomputable def dR (p : Params) (k : Str) (t a : Nat) : DictEntry := dE p k t (rV a)
noncomputable def eT : Obj := Obj.mk (Value.type "tuple") none (Data.seq #[] 0) #[]
noncomputable def eF : Obj := Obj.mk Value.none none (Data.fields #[]) #[]
noncomputable def vT : Nat → List Str → List Value
  | _, [] => []
  | t, x :: l => Value.str x t :: vT (t + 1) l
noncomputable def nT (t : Nat) (l : List Str) : Obj := Obj.mk (Value.type "tuple") none (Data.seq (vT t l).toArray 0) #[]
noncomputable def cO (n q : Str) (t l c u a b : Nat) (d e : Value) (f : Nat) : Obj := Obj.mk (Value.type "code") none (Data.fields #[sV n t, sV q (t + 1), sV "/claim/cut.py" (t + 2), iV l, iV c, iV 0, iV 0, iV 3, rV a, .bool true, iV 181, rV b, .none, d, e, rV f, iV u, iV l, sV "/claim/cut.py" (u + 1)]) #[]
noncomputable def fT (n q : Str) (s : Option Stmt) : Obj := Obj.mk Value.none none (Data.func (FuncData.mk n q (argsOf s) (FuncBody.stmts (bodyOf s)) (scopeOf s) 0 [] .none .none .none .none none .none .none 0)) #[]
noncomputable def gO (n q : Str) (s : Option Stmt) (d : Value) (m : Str) (t a : Nat) : Obj := Obj.mk (Value.type "function") none (Data.func (FuncData.mk n q (argsOf s) (FuncBody.stmts (bodyOf s)) (scopeOf s) 3 [] d .none .none (Value.str m t) none (Value.ref a) .none 0)) #[]
noncomputable def K (p : Params) : Frag := [
  (nat_lit 3, Obj.mk (Value.type "dict") none (Data.dict #[(dE p "__name__" (nat_lit 165) (sV "law_rh0179_02" (nat_lit 576))), (dE p "__doc__" (nat_lit 166) Value.none), (dE p "__package__" (nat_lit 167) Value.none), (dE p "__loader__" (nat_lit 168) (Value.builtin "__main__.__loader__#opaque")), (dE p "__spec__" (nat_lit 169) Value.none), dR p "__annotations__" (nat_lit 170) (nat_lit 6), dR p "__builtins__" (nat_lit 171) (nat_lit 4), (dE p "__file__" (nat_lit 173) (sV "/claim/cut.py" (nat_lit 172))), (dE p "__cached__" (nat_lit 174) Value.none), (dE p "GRAIN" (nat_lit 190) (Value.int 1000000 189)), dR p "PostError" (nat_lit 219) (nat_lit 32), dR p "PsError" (nat_lit 235) (nat_lit 45), dR p "divided" (nat_lit 248) (nat_lit 54), dR p "transform" (nat_lit 259) (nat_lit 61), dR p "rows_transformed" (nat_lit 271) (nat_lit 68), (dE p "MOST_ROWS" (nat_lit 275) (Value.int 1500 274)), (dE p "MOST_HALVINGS" (nat_lit 277) (Value.int 10 276)), dR p "Path" (nat_lit 441) (nat_lit 198), dR p "path_of" (nat_lit 450) (nat_lit 210), dR p "path_more" (nat_lit 461) (nat_lit 217), dR p "path_points" (nat_lit 467) (nat_lit 222), dR p "path_row" (nat_lit 478) (nat_lit 229), dR p "char_box" (nat_lit 490) (nat_lit 236), dR p "path_subpaths" (nat_lit 499) (nat_lit 243), dR p "path_reversed" (nat_lit 505) (nat_lit 248), dR p "path_half" (nat_lit 513) (nat_lit 255), dR p "path_halves" (nat_lit 530) (nat_lit 262), dR p "path_is_flat" (nat_lit 546) (nat_lit 269), dR p "path_curve_ends" (nat_lit 560) (nat_lit 276), dR p "path_flattened" (nat_lit 575) (nat_lit 284), dR p "_law_words" (nat_lit 582) (nat_lit 285), dR p "_law_sizes" (nat_lit 588) (nat_lit 292), (dE p "_law_unit" (nat_lit 590) (Value.int 1000 589)), dR p "_law_draw" (nat_lit 600) (nat_lit 299), dR p "_law_row" (nat_lit 606) (nat_lit 304), dR p "_law_after" (nat_lit 612) (nat_lit 309), dR p "_law_put" (nat_lit 620) (nat_lit 316), dR p "_law_backwards" (nat_lit 626) (nat_lit 321), dR p "_law_flat" (nat_lit 635) (nat_lit 328), dR p "_law_stands" (nat_lit 641) (nat_lit 333), dR p "_law_some_rows" (nat_lit 652) (nat_lit 340), dR p "law" (nat_lit 658) (nat_lit 345)] 42) #[]),
  (nat_lit 6, Obj.mk (Value.type "dict") none (Data.dict #[] 0) #[]),
  (nat_lit 22, Obj.mk (Value.type "tuple") none (Data.seq #[Value.none] 0) #[]),
  (nat_lit 28, cO "__init__" "PostError.__init__" (nat_lit 203) (nat_lit 5) (nat_lit 2) (nat_lit 208) (nat_lit 23) (nat_lit 24) (rV (nat_lit 25)) (rV (nat_lit 26)) (nat_lit 27)),
  (nat_lit 29, gO "__init__" "PostError.__init__" (dB (nat_lit 2) (nat_lit 0)) (rV (nat_lit 22)) "postcore.base" (nat_lit 187) (nat_lit 28)),
  (nat_lit 31, Obj.mk (Value.type "dict") none (Data.dict #[(dE p "__module__" (nat_lit 198) (sV "postcore.base" (nat_lit 187))), (dE p "__firstlineno__" (nat_lit 202) (Value.int 3 201)), dR p "__init__" (nat_lit 210) (nat_lit 29), dR p "__static_attributes__" (nat_lit 212) (nat_lit 30), dR p "__weakref__" (nat_lit 214) (nat_lit 33), (dE p "__doc__" (nat_lit 215) Value.none)] 3) #[]),
  (nat_lit 32, Obj.mk (Value.type "type") none (Data.cls (ClassData.mk "PostError" [(Value.type "Exception")] [(rV (nat_lit 32)), (Value.type "Exception"), (Value.type "BaseException"), (Value.type "object")] 31 "PostError" true [] [(rV (nat_lit 45))] false none false)) #[(some (rV (nat_lit 15))), none, (some (sV "PostError" (nat_lit 191))), (some (sV "PostError" (nat_lit 199))), (some (Value.builtin "Exception.__new__")), (some (Value.bool true))]),
  (nat_lit 44, Obj.mk (Value.type "dict") none (Data.dict #[(dE p "__module__" (nat_lit 227) (sV "postcore.base" (nat_lit 187))), (dE p "__firstlineno__" (nat_lit 231) (Value.int 7 230)), dR p "__static_attributes__" (nat_lit 232) (nat_lit 43), (dE p "__doc__" (nat_lit 233) Value.none)] 2) #[]),
  (nat_lit 45, Obj.mk (Value.type "type") none (Data.cls (ClassData.mk "PsError" [(rV (nat_lit 32))] [(rV (nat_lit 45)), (rV (nat_lit 32)), (Value.type "Exception"), (Value.type "BaseException"), (Value.type "object")] 44 "PsError" true [] [] false none false)) #[(some (rV (nat_lit 36))), none, (some (sV "PsError" (nat_lit 220))), (some (sV "PsError" (nat_lit 228))), (some (Value.builtin "Exception.__new__")), (some (Value.bool true))]),
  (nat_lit 53, cO "divided" "divided" (nat_lit 238) (nat_lit 10) (nat_lit 2) (nat_lit 246) (nat_lit 48) (nat_lit 49) (rV (nat_lit 50)) (rV (nat_lit 51)) (nat_lit 52)),
  (nat_lit 54, gO "divided" "divided" (dA (nat_lit 5)) .none "postcore.numbers" (nat_lit 236) (nat_lit 53)),
  (nat_lit 60, cO "transform" "transform" (nat_lit 251) (nat_lit 15) (nat_lit 3) (nat_lit 257) (nat_lit 55) (nat_lit 56) (rV (nat_lit 57)) (rV (nat_lit 58)) (nat_lit 59)),
  (nat_lit 61, gO "transform" "transform" (dA (nat_lit 7)) .none "postcore.matrices" (nat_lit 249) (nat_lit 60)),
  (nat_lit 67, cO "rows_transformed" "rows_transformed" (nat_lit 260) (nat_lit 17) (nat_lit 2) (nat_lit 269) (nat_lit 62) (nat_lit 63) (rV (nat_lit 64)) (rV (nat_lit 65)) (nat_lit 66)),
  (nat_lit 68, gO "rows_transformed" "rows_transformed" (dA (nat_lit 8)) .none "postcore.matrices" (nat_lit 249) (nat_lit 67)),
  (nat_lit 76, Obj.mk (Value.type "tuple") none (Data.seq #[(Value.int 1500 274)] 0) #[]),
  (nat_lit 82, cO "__init__" "Path.__init__" (nat_lit 290) (nat_lit 30) (nat_lit 2) (nat_lit 295) (nat_lit 77) (nat_lit 78) (rV (nat_lit 79)) (rV (nat_lit 80)) (nat_lit 81)),
  (nat_lit 83, gO "__init__" "Path.__init__" (dB (nat_lit 12) (nat_lit 0)) (rV (nat_lit 76)) "postcore.paths" (nat_lit 272) (nat_lit 82)),
  (nat_lit 89, cO "rows" "Path.rows" (nat_lit 298) (nat_lit 36) (nat_lit 1) (nat_lit 302) (nat_lit 84) (nat_lit 85) (rV (nat_lit 86)) (rV (nat_lit 87)) (nat_lit 88)),
  (nat_lit 90, gO "rows" "Path.rows" (dB (nat_lit 12) (nat_lit 1)) .none "postcore.paths" (nat_lit 272) (nat_lit 89)),
  (nat_lit 96, cO "is_empty" "Path.is_empty" (nat_lit 305) (nat_lit 39) (nat_lit 1) (nat_lit 309) (nat_lit 91) (nat_lit 92) (rV (nat_lit 93)) (rV (nat_lit 94)) (nat_lit 95)),
  (nat_lit 97, gO "is_empty" "Path.is_empty" (dB (nat_lit 12) (nat_lit 2)) .none "postcore.paths" (nat_lit 272) (nat_lit 96)),
  (nat_lit 103, cO "current" "Path.current" (nat_lit 312) (nat_lit 42) (nat_lit 1) (nat_lit 316) (nat_lit 98) (nat_lit 99) (rV (nat_lit 100)) (rV (nat_lit 101)) (nat_lit 102)),
  (nat_lit 104, gO "current" "Path.current" (dB (nat_lit 12) (nat_lit 3)) .none "postcore.paths" (nat_lit 272) (nat_lit 103)),
  (nat_lit 110, cO "copy" "Path.copy" (nat_lit 319) (nat_lit 47) (nat_lit 1) (nat_lit 324) (nat_lit 105) (nat_lit 106) (rV (nat_lit 107)) (rV (nat_lit 108)) (nat_lit 109)),
  (nat_lit 111, gO "copy" "Path.copy" (dB (nat_lit 12) (nat_lit 4)) .none "postcore.paths" (nat_lit 272) (nat_lit 110)),
  (nat_lit 117, cO "clear" "Path.clear" (nat_lit 327) (nat_lit 54) (nat_lit 1) (nat_lit 331) (nat_lit 112) (nat_lit 113) (rV (nat_lit 114)) (rV (nat_lit 115)) (nat_lit 116)),
  (nat_lit 118, gO "clear" "Path.clear" (dB (nat_lit 12) (nat_lit 5)) .none "postcore.paths" (nat_lit 272) (nat_lit 117)),
  (nat_lit 124, cO "need_room" "Path.need_room" (nat_lit 334) (nat_lit 59) (nat_lit 2) (nat_lit 339) (nat_lit 119) (nat_lit 120) (rV (nat_lit 121)) (rV (nat_lit 122)) (nat_lit 123)),
  (nat_lit 125, gO "need_room" "Path.need_room" (dB (nat_lit 12) (nat_lit 6)) .none "postcore.paths" (nat_lit 272) (nat_lit 124)),
  (nat_lit 131, cO "move" "Path.move" (nat_lit 342) (nat_lit 63) (nat_lit 3) (nat_lit 349) (nat_lit 126) (nat_lit 127) (rV (nat_lit 128)) (rV (nat_lit 129)) (nat_lit 130)),
  (nat_lit 132, gO "move" "Path.move" (dB (nat_lit 12) (nat_lit 7)) .none "postcore.paths" (nat_lit 272) (nat_lit 131)),
  (nat_lit 138, cO "go_on" "Path.go_on" (nat_lit 352) (nat_lit 72) (nat_lit 3) (nat_lit 358) (nat_lit 133) (nat_lit 134) (rV (nat_lit 135)) (rV (nat_lit 136)) (nat_lit 137)),
  (nat_lit 139, gO "go_on" "Path.go_on" (dB (nat_lit 12) (nat_lit 8)) .none "postcore.paths" (nat_lit 272) (nat_lit 138)),
  (nat_lit 145, cO "line" "Path.line" (nat_lit 361) (nat_lit 80) (nat_lit 3) (nat_lit 367) (nat_lit 140) (nat_lit 141) (rV (nat_lit 142)) (rV (nat_lit 143)) (nat_lit 144)),
  (nat_lit 146, gO "line" "Path.line" (dB (nat_lit 12) (nat_lit 9)) .none "postcore.paths" (nat_lit 272) (nat_lit 145)),
  (nat_lit 152, cO "curve" "Path.curve" (nat_lit 370) (nat_lit 83) (nat_lit 7) (nat_lit 380) (nat_lit 147) (nat_lit 148) (rV (nat_lit 149)) (rV (nat_lit 150)) (nat_lit 151)),
  (nat_lit 153, gO "curve" "Path.curve" (dB (nat_lit 12) (nat_lit 10)) .none "postcore.paths" (nat_lit 272) (nat_lit 152)),
  (nat_lit 159, cO "close" "Path.close" (nat_lit 383) (nat_lit 86) (nat_lit 1) (nat_lit 387) (nat_lit 154) (nat_lit 155) (rV (nat_lit 156)) (rV (nat_lit 157)) (nat_lit 158)),
  (nat_lit 160, gO "close" "Path.close" (dB (nat_lit 12) (nat_lit 11)) .none "postcore.paths" (nat_lit 272) (nat_lit 159)),
  (nat_lit 166, cO "put_rows" "Path.put_rows" (nat_lit 390) (nat_lit 93) (nat_lit 2) (nat_lit 396) (nat_lit 161) (nat_lit 162) (rV (nat_lit 163)) (rV (nat_lit 164)) (nat_lit 165)),
  (nat_lit 167, gO "put_rows" "Path.put_rows" (dB (nat_lit 12) (nat_lit 12)) .none "postcore.paths" (nat_lit 272) (nat_lit 166)),
  (nat_lit 173, cO "bounds" "Path.bounds" (nat_lit 399) (nat_lit 107) (nat_lit 1) (nat_lit 404) (nat_lit 168) (nat_lit 169) (rV (nat_lit 170)) (rV (nat_lit 171)) (nat_lit 172)),
  (nat_lit 174, gO "bounds" "Path.bounds" (dB (nat_lit 12) (nat_lit 13)) .none "postcore.paths" (nat_lit 272) (nat_lit 173)),
  (nat_lit 180, cO "flattened" "Path.flattened" (nat_lit 407) (nat_lit 114) (nat_lit 2) (nat_lit 412) (nat_lit 175) (nat_lit 176) (rV (nat_lit 177)) (rV (nat_lit 178)) (nat_lit 179)),
  (nat_lit 181, gO "flattened" "Path.flattened" (dB (nat_lit 12) (nat_lit 14)) .none "postcore.paths" (nat_lit 272) (nat_lit 180)),
  (nat_lit 187, cO "reversed" "Path.reversed" (nat_lit 415) (nat_lit 117) (nat_lit 1) (nat_lit 419) (nat_lit 182) (nat_lit 183) (rV (nat_lit 184)) (rV (nat_lit 185)) (nat_lit 186)),
  (nat_lit 188, gO "reversed" "Path.reversed" (dB (nat_lit 12) (nat_lit 15)) .none "postcore.paths" (nat_lit 272) (nat_lit 187)),
  (nat_lit 194, cO "transformed" "Path.transformed" (nat_lit 422) (nat_lit 120) (nat_lit 2) (nat_lit 427) (nat_lit 189) (nat_lit 190) (rV (nat_lit 191)) (rV (nat_lit 192)) (nat_lit 193)),
  (nat_lit 195, gO "transformed" "Path.transformed" (dB (nat_lit 12) (nat_lit 16)) .none "postcore.paths" (nat_lit 272) (nat_lit 194)),
  (nat_lit 197, Obj.mk (Value.type "dict") none (Data.dict #[(dE p "__module__" (nat_lit 285) (sV "postcore.paths" (nat_lit 272))), (dE p "__firstlineno__" (nat_lit 289) (Value.int 28 288)), dR p "__init__" (nat_lit 297) (nat_lit 83), dR p "rows" (nat_lit 304) (nat_lit 90), dR p "is_empty" (nat_lit 311) (nat_lit 97), dR p "current" (nat_lit 318) (nat_lit 104), dR p "copy" (nat_lit 326) (nat_lit 111), dR p "clear" (nat_lit 333) (nat_lit 118), dR p "need_room" (nat_lit 341) (nat_lit 125), dR p "move" (nat_lit 351) (nat_lit 132), dR p "go_on" (nat_lit 360) (nat_lit 139), dR p "line" (nat_lit 369) (nat_lit 146), dR p "curve" (nat_lit 382) (nat_lit 153), dR p "close" (nat_lit 389) (nat_lit 160), dR p "put_rows" (nat_lit 398) (nat_lit 167), dR p "bounds" (nat_lit 406) (nat_lit 174), dR p "flattened" (nat_lit 414) (nat_lit 181), dR p "reversed" (nat_lit 421) (nat_lit 188), dR p "transformed" (nat_lit 429) (nat_lit 195), dR p "__static_attributes__" (nat_lit 434) (nat_lit 196), dR p "__dict__" (nat_lit 436) (nat_lit 199), dR p "__weakref__" (nat_lit 438) (nat_lit 200), (dE p "__doc__" (nat_lit 439) Value.none)] 4) #[]),
  (nat_lit 198, Obj.mk (Value.type "type") none (Data.cls (ClassData.mk "Path" [(Value.type "object")] [(rV (nat_lit 198)), (Value.type "object")] 197 "Path" true [] [] false none false)) #[none, none, (some (sV "Path" (nat_lit 278))), (some (sV "Path" (nat_lit 286))), (some (Value.builtin "object.__new__")), (some (Value.bool true))]),
  (nat_lit 203, Obj.mk (Value.type "tuple") none (Data.seq #[(Value.int 1500 274)] 0) #[]),
  (nat_lit 209, cO "path_of" "path_of" (nat_lit 442) (nat_lit 122) (nat_lit 2) (nat_lit 448) (nat_lit 204) (nat_lit 205) (rV (nat_lit 206)) (rV (nat_lit 207)) (nat_lit 208)),
  (nat_lit 210, gO "path_of" "path_of" (dA (nat_lit 13)) (rV (nat_lit 203)) "postcore.paths" (nat_lit 272) (nat_lit 209)),
  (nat_lit 216, cO "path_more" "path_more" (nat_lit 451) (nat_lit 126) (nat_lit 2) (nat_lit 459) (nat_lit 211) (nat_lit 212) (rV (nat_lit 213)) (rV (nat_lit 214)) (nat_lit 215)),
  (nat_lit 217, gO "path_more" "path_more" (dA (nat_lit 14)) .none "postcore.paths" (nat_lit 272) (nat_lit 216)),
  (nat_lit 221, cO "path_points" "path_points" (nat_lit 462) (nat_lit 138) (nat_lit 1) (nat_lit 465) (nat_lit 218) (nat_lit 219) .none .none (nat_lit 220)),
  (nat_lit 222, gO "path_points" "path_points" (dA (nat_lit 15)) .none "postcore.paths" (nat_lit 272) (nat_lit 221)),
  (nat_lit 228, cO "path_row" "path_row" (nat_lit 468) (nat_lit 140) (nat_lit 2) (nat_lit 476) (nat_lit 223) (nat_lit 224) (rV (nat_lit 225)) (rV (nat_lit 226)) (nat_lit 227)),
  (nat_lit 229, gO "path_row" "path_row" (dA (nat_lit 16)) .none "postcore.paths" (nat_lit 272) (nat_lit 228)),
  (nat_lit 235, cO "char_box" "char_box" (nat_lit 479) (nat_lit 145) (nat_lit 1) (nat_lit 488) (nat_lit 230) (nat_lit 231) (rV (nat_lit 232)) (rV (nat_lit 233)) (nat_lit 234)),
  (nat_lit 236, gO "char_box" "char_box" (dA (nat_lit 17)) .none "postcore.paths" (nat_lit 272) (nat_lit 235)),
  (nat_lit 242, cO "path_subpaths" "path_subpaths" (nat_lit 491) (nat_lit 152) (nat_lit 1) (nat_lit 497) (nat_lit 237) (nat_lit 238) (rV (nat_lit 239)) (rV (nat_lit 240)) (nat_lit 241)),
  (nat_lit 243, gO "path_subpaths" "path_subpaths" (dA (nat_lit 18)) .none "postcore.paths" (nat_lit 272) (nat_lit 242)),
  (nat_lit 247, cO "path_reversed" "path_reversed" (nat_lit 500) (nat_lit 162) (nat_lit 1) (nat_lit 503) (nat_lit 244) (nat_lit 245) .none .none (nat_lit 246)),
  (nat_lit 248, gO "path_reversed" "path_reversed" (dA (nat_lit 19)) .none "postcore.paths" (nat_lit 272) (nat_lit 247)),
  (nat_lit 254, cO "path_half" "path_half" (nat_lit 506) (nat_lit 173) (nat_lit 2) (nat_lit 511) (nat_lit 249) (nat_lit 250) (rV (nat_lit 251)) (rV (nat_lit 252)) (nat_lit 253)),
  (nat_lit 255, gO "path_half" "path_half" (dA (nat_lit 20)) .none "postcore.paths" (nat_lit 272) (nat_lit 254)),
  (nat_lit 261, cO "path_halves" "path_halves" (nat_lit 514) (nat_lit 175) (nat_lit 1) (nat_lit 528) (nat_lit 256) (nat_lit 257) (rV (nat_lit 258)) (rV (nat_lit 259)) (nat_lit 260)),
  (nat_lit 262, gO "path_halves" "path_halves" (dA (nat_lit 21)) .none "postcore.paths" (nat_lit 272) (nat_lit 261)),
  (nat_lit 268, cO "path_is_flat" "path_is_flat" (nat_lit 531) (nat_lit 181) (nat_lit 2) (nat_lit 544) (nat_lit 263) (nat_lit 264) (rV (nat_lit 265)) (rV (nat_lit 266)) (nat_lit 267)),
  (nat_lit 269, gO "path_is_flat" "path_is_flat" (dA (nat_lit 22)) .none "postcore.paths" (nat_lit 272) (nat_lit 268)),
  (nat_lit 275, cO "path_curve_ends" "path_curve_ends" (nat_lit 547) (nat_lit 189) (nat_lit 2) (nat_lit 558) (nat_lit 270) (nat_lit 271) (rV (nat_lit 272)) (rV (nat_lit 273)) (nat_lit 274)),
  (nat_lit 276, gO "path_curve_ends" "path_curve_ends" (dA (nat_lit 23)) .none "postcore.paths" (nat_lit 272) (nat_lit 275)),
  (nat_lit 277, Obj.mk (Value.type "tuple") none (Data.seq #[Value.none] 0) #[]),
  (nat_lit 283, cO "path_flattened" "path_flattened" (nat_lit 561) (nat_lit 200) (nat_lit 3) (nat_lit 573) (nat_lit 278) (nat_lit 279) (rV (nat_lit 280)) (rV (nat_lit 281)) (nat_lit 282)),
  (nat_lit 284, gO "path_flattened" "path_flattened" (dA (nat_lit 24)) (rV (nat_lit 277)) "postcore.paths" (nat_lit 272) (nat_lit 283)),
  (nat_lit 285, nT (nat_lit 578) ["m", "l", "c", "z"]),
  (nat_lit 291, cO "_law_sizes" "_law_sizes" (nat_lit 583) (nat_lit 216) (nat_lit 0) (nat_lit 586) (nat_lit 286) (nat_lit 287) (rV (nat_lit 288)) (rV (nat_lit 289)) (nat_lit 290)),
  (nat_lit 292, gO "_law_sizes" "_law_sizes" (dA (nat_lit 27)) .none "law_rh0179_02" (nat_lit 576) (nat_lit 291)),
  (nat_lit 298, cO "_law_draw" "_law_draw" (nat_lit 591) (nat_lit 219) (nat_lit 2) (nat_lit 598) (nat_lit 293) (nat_lit 294) (rV (nat_lit 295)) (rV (nat_lit 296)) (nat_lit 297)),
  (nat_lit 299, gO "_law_draw" "_law_draw" (dA (nat_lit 29)) .none "law_rh0179_02" (nat_lit 576) (nat_lit 298)),
  (nat_lit 303, cO "_law_row" "_law_row" (nat_lit 601) (nat_lit 226) (nat_lit 2) (nat_lit 604) (nat_lit 300) (nat_lit 301) .none .none (nat_lit 302)),
  (nat_lit 304, gO "_law_row" "_law_row" (dA (nat_lit 30)) .none "law_rh0179_02" (nat_lit 576) (nat_lit 303)),
  (nat_lit 308, cO "_law_after" "_law_after" (nat_lit 607) (nat_lit 228) (nat_lit 3) (nat_lit 610) (nat_lit 305) (nat_lit 306) .none .none (nat_lit 307)),
  (nat_lit 309, gO "_law_after" "_law_after" (dA (nat_lit 31)) .none "law_rh0179_02" (nat_lit 576) (nat_lit 308)),
  (nat_lit 315, cO "_law_put" "_law_put" (nat_lit 613) (nat_lit 241) (nat_lit 2) (nat_lit 618) (nat_lit 310) (nat_lit 311) (rV (nat_lit 312)) (rV (nat_lit 313)) (nat_lit 314)),
  (nat_lit 316, gO "_law_put" "_law_put" (dA (nat_lit 32)) .none "law_rh0179_02" (nat_lit 576) (nat_lit 315)),
  (nat_lit 320, cO "_law_backwards" "_law_backwards" (nat_lit 621) (nat_lit 250) (nat_lit 1) (nat_lit 624) (nat_lit 317) (nat_lit 318) .none .none (nat_lit 319)),
  (nat_lit 321, gO "_law_backwards" "_law_backwards" (dA (nat_lit 33)) .none "law_rh0179_02" (nat_lit 576) (nat_lit 320)),
  (nat_lit 327, cO "_law_flat" "_law_flat" (nat_lit 627) (nat_lit 266) (nat_lit 2) (nat_lit 633) (nat_lit 322) (nat_lit 323) (rV (nat_lit 324)) (rV (nat_lit 325)) (nat_lit 326)),
  (nat_lit 328, gO "_law_flat" "_law_flat" (dA (nat_lit 34)) .none "law_rh0179_02" (nat_lit 576) (nat_lit 327)),
  (nat_lit 332, cO "_law_stands" "_law_stands" (nat_lit 636) (nat_lit 270) (nat_lit 2) (nat_lit 639) (nat_lit 329) (nat_lit 330) .none .none (nat_lit 331)),
  (nat_lit 333, gO "_law_stands" "_law_stands" (dA (nat_lit 35)) .none "law_rh0179_02" (nat_lit 576) (nat_lit 332)),
  (nat_lit 339, cO "_law_some_rows" "_law_some_rows" (nat_lit 642) (nat_lit 283) (nat_lit 2) (nat_lit 650) (nat_lit 334) (nat_lit 335) (rV (nat_lit 336)) (rV (nat_lit 337)) (nat_lit 338)),
  (nat_lit 340, gO "_law_some_rows" "_law_some_rows" (dA (nat_lit 36)) .none "law_rh0179_02" (nat_lit 576) (nat_lit 339)),
  (nat_lit 344, cO "law" "law" (nat_lit 653) (nat_lit 289) (nat_lit 1) (nat_lit 656) (nat_lit 341) (nat_lit 342) .none .none (nat_lit 343)),
  (nat_lit 345, gO "law" "law" (dA (nat_lit 37)) .none "law_rh0179_02" (nat_lit 576) (nat_lit 344))]
noncomputable def as : List Nat := [nat_lit 3, nat_lit 6, nat_lit 22, nat_lit 28, nat_lit 29, nat_lit 31, nat_lit 32, nat_lit 44, nat_lit 45, nat_lit 53, nat_lit 54, nat_lit 60, nat_lit 61, nat_lit 67, nat_lit 68, nat_lit 76, nat_lit 82, nat_lit 83, nat_lit 89, nat_lit 90, nat_lit 96, nat_lit 97, nat_lit 103, nat_lit 104, nat_lit 110, nat_lit 111, nat_lit 117, nat_lit 118, nat_lit 124, nat_lit 125, nat_lit 131, nat_lit 132, nat_lit 138, nat_lit 139, nat_lit 145, nat_lit 146, nat_lit 152, nat_lit 153, nat_lit 159, nat_lit 160, nat_lit 166, nat_lit 167, nat_lit 173, nat_lit 174, nat_lit 180, nat_lit 181, nat_lit 187, nat_lit 188, nat_lit 194, nat_lit 195, nat_lit 197, nat_lit 198, nat_lit 203, nat_lit 209, nat_lit 210, nat_lit 216, nat_lit 217, nat_lit 221, nat_lit 222, nat_lit 228, nat_lit 229, nat_lit 235, nat_lit 236, nat_lit 242, nat_lit 243, nat_lit 247, nat_lit 248, nat_lit 254, nat_lit 255, nat_lit 261, nat_lit 262, nat_lit 268, nat_lit 269, nat_lit 275, nat_lit 276, nat_lit 277, nat_lit 283, nat_lit 284, nat_lit 285, nat_lit 291, nat_lit 292, nat_lit 298, nat_lit 299, nat_lit 303, nat_lit 304, nat_lit 308, nat_lit 309, nat_lit 315, nat_lit 316, nat_lit 320, nat_lit 321, nat_lit 327, nat_lit 328, nat_lit 332, nat_lit 333, nat_lit 339, nat_lit 340, nat_lit 344, nat_lit 345]
theorem as_eq : ∀ P, as = (K P).map (·.1) := fun _ => by kernel_rfl
noncomputable def HK : Hook := kHook K as as_eq
noncomputable def pickL (ks : List Nat) (l : List Stmt) : List Stmt := ks.filterMap (l[·]?)
noncomputable def view : Program := { PySem.Challenge.pw_rh0179_02 with main := { PySem.Challenge.pw_rh0179_02.main with body := pickL [1,2,3,5,7,8,10,11,12,14,15,16,17,18,19,20,21,22,23,26,27,28,29,30,31,32,33,34,35,36,37] PySem.Challenge.pw_rh0179_02.main.body } }
noncomputable def loose : List Str := ["PostError", "Path", "path_of", "path_flattened"]
/-! ## The head in pieces -/
noncomputable def rest (p : Params) : List Obj := [
  boot_o_0 p,
  boot_o_1 p,
  Obj.mk Value.none none (Data.dict #[(dE p "type.__subclasses__.Exception.0" (nat_lit 216) (iV (nat_lit 32))), (dE p "type.__subclasses__.Exception.n" (nat_lit 217) (iV (nat_lit 1)))] 2) #[],
  boot_o_4 p,
  boot_o_5 p,
  boot_o_7 p,
  boot_o_8 p,
  boot_o_9 p,
  boot_o_10 p,
  eT,
  Obj.mk Value.none none (Data.fields #[(iV (nat_lit 3)), (iV (nat_lit 0)), (rV (nat_lit 20)), (iV (nat_lit 7)), (iV (nat_lit 0)), (rV (nat_lit 41)), (iV (nat_lit 10)), (iV (nat_lit 0)), (rV (nat_lit 53)), (iV (nat_lit 15)), (iV (nat_lit 0)), (rV (nat_lit 60)), (iV (nat_lit 17)), (iV (nat_lit 0)), (rV (nat_lit 67)), (iV (nat_lit 28)), (iV (nat_lit 0)), (rV (nat_lit 74)), (iV (nat_lit 122)), (iV (nat_lit 0)), (rV (nat_lit 209)), (iV (nat_lit 126)), (iV (nat_lit 0)), (rV (nat_lit 216)), (iV (nat_lit 138)), (iV (nat_lit 0)), (rV (nat_lit 221)), (iV (nat_lit 140)), (iV (nat_lit 0)), (rV (nat_lit 228)), (iV (nat_lit 145)), (iV (nat_lit 0)), (rV (nat_lit 235)), (iV (nat_lit 152)), (iV (nat_lit 0)), (rV (nat_lit 242)), (iV (nat_lit 162)), (iV (nat_lit 0)), (rV (nat_lit 247)), (iV (nat_lit 173)), (iV (nat_lit 0)), (rV (nat_lit 254)), (iV (nat_lit 175)), (iV (nat_lit 0)), (rV (nat_lit 261)), (iV (nat_lit 181)), (iV (nat_lit 0)), (rV (nat_lit 268)), (iV (nat_lit 189)), (iV (nat_lit 0)), (rV (nat_lit 275)), (iV (nat_lit 200)), (iV (nat_lit 0)), (rV (nat_lit 283)), (iV (nat_lit 216)), (iV (nat_lit 0)), (rV (nat_lit 291)), (iV (nat_lit 219)), (iV (nat_lit 0)), (rV (nat_lit 298)), (iV (nat_lit 226)), (iV (nat_lit 0)), (rV (nat_lit 303)), (iV (nat_lit 228)), (iV (nat_lit 0)), (rV (nat_lit 308)), (iV (nat_lit 241)), (iV (nat_lit 0)), (rV (nat_lit 315)), (iV (nat_lit 250)), (iV (nat_lit 0)), (rV (nat_lit 320)), (iV (nat_lit 266)), (iV (nat_lit 0)), (rV (nat_lit 327)), (iV (nat_lit 270)), (iV (nat_lit 0)), (rV (nat_lit 332)), (iV (nat_lit 283)), (iV (nat_lit 0)), (rV (nat_lit 339)), (iV (nat_lit 289)), (iV (nat_lit 0)), (rV (nat_lit 344))]) #[],
  Obj.mk (Value.type "code") none (Data.fields #[(sV "<module>" (nat_lit 182)), (sV "<module>" (nat_lit 183)), (sV "/claim/cut.py" (nat_lit 184)), (iV (nat_lit 1)), (iV (nat_lit 0)), (iV (nat_lit 0)), (iV (nat_lit 0)), (iV (nat_lit 0)), (rV (nat_lit 11)), (Value.bool false), (iV (nat_lit 181)), (rV (nat_lit 12)), Value.none, Value.none, Value.none, Value.none, (iV (nat_lit 185)), (iV (nat_lit 1)), (sV "/claim/cut.py" (nat_lit 186))]) #[],
  Obj.mk (Value.type "frame") none Data.plain #[(some (rV (nat_lit 13))), (some (rV (nat_lit 3))), (some (rV (nat_lit 3))), none, (some (sV "__main__" (nat_lit 164))), none, (some (rV (nat_lit 0)))],
  Obj.mk (Value.type "tuple") none (Data.seq #[(Value.type "Exception")] 0) #[],
  Obj.mk (Value.type "builtin_function_or_method") none (Data.fields #[(Value.builtin "type.__prepare__"), (Value.type "type")]) #[],
  Obj.mk (Value.type "dict") none (Data.dict #[(dE p "__module__" (nat_lit 198) (sV "postcore.base" (nat_lit 187))), (dE p "__qualname__" (nat_lit 200) (sV "PostError" (nat_lit 199))), (dE p "__firstlineno__" (nat_lit 202) (Value.int 3 201)), dR p "__init__" (nat_lit 210) (nat_lit 29), dR p "__static_attributes__" (nat_lit 212) (nat_lit 30)] 5) #[],
  eT,
  Obj.mk Value.none none (Data.fields #[(iV (nat_lit 5)), (iV (nat_lit 4)), (rV (nat_lit 28))]) #[],
  Obj.mk (Value.type "code") none (Data.fields #[(sV "PostError" (nat_lit 193)), (sV "PostError" (nat_lit 194)), (sV "/claim/cut.py" (nat_lit 195)), (iV (nat_lit 3)), (iV (nat_lit 0)), (iV (nat_lit 0)), (iV (nat_lit 0)), (iV (nat_lit 0)), (rV (nat_lit 18)), (Value.bool false), (iV (nat_lit 181)), (rV (nat_lit 19)), Value.none, Value.none, Value.none, Value.none, (iV (nat_lit 196)), (iV (nat_lit 3)), (sV "/claim/cut.py" (nat_lit 197))]) #[],
  Obj.mk (Value.type "frame") none Data.plain #[(some (rV (nat_lit 20))), (some (rV (nat_lit 3))), (some (rV (nat_lit 17))), none, (some (sV "postcore.base" (nat_lit 187))), none, (some (rV (nat_lit 0)))],
  eT,
  eF,
  nT (nat_lit 206) ["self", "told"],
  eT,
  fT "__init__" "PostError.__init__" (dB (nat_lit 2) (nat_lit 0)),
  nT (nat_lit 211) ["told"],
  Obj.mk (Value.type "getset_descriptor") none (Data.fields #[(sV "__weakref__" (nat_lit 213)), (rV (nat_lit 32)), (Value.builtin "ExceptionGroup.__weakref__"), Value.none]) #[],
  Obj.mk (Value.type "super") none (Data.fields #[(rV (nat_lit 32)), (rV (nat_lit 32)), (rV (nat_lit 32))]) #[],
  Obj.mk (Value.type "builtin_function_or_method") none (Data.fields #[(Value.builtin "object.__init_subclass__"), (rV (nat_lit 32))]) #[],
  Obj.mk (Value.type "tuple") none (Data.seq #[(rV (nat_lit 32))] 0) #[],
  Obj.mk (Value.type "builtin_function_or_method") none (Data.fields #[(Value.builtin "type.__prepare__"), (Value.type "type")]) #[],
  Obj.mk (Value.type "dict") none (Data.dict #[(dE p "__module__" (nat_lit 227) (sV "postcore.base" (nat_lit 187))), (dE p "__qualname__" (nat_lit 229) (sV "PsError" (nat_lit 228))), (dE p "__firstlineno__" (nat_lit 231) (Value.int 7 230)), dR p "__static_attributes__" (nat_lit 232) (nat_lit 43)] 4) #[],
  eT,
  eF,
  Obj.mk (Value.type "code") none (Data.fields #[(sV "PsError" (nat_lit 222)), (sV "PsError" (nat_lit 223)), (sV "/claim/cut.py" (nat_lit 224)), (iV (nat_lit 7)), (iV (nat_lit 0)), (iV (nat_lit 0)), (iV (nat_lit 0)), (iV (nat_lit 0)), (rV (nat_lit 39)), (Value.bool false), (iV (nat_lit 181)), (rV (nat_lit 40)), Value.none, Value.none, Value.none, Value.none, (iV (nat_lit 225)), (iV (nat_lit 7)), (sV "/claim/cut.py" (nat_lit 226))]) #[],
  Obj.mk (Value.type "frame") none Data.plain #[(some (rV (nat_lit 41))), (some (rV (nat_lit 3))), (some (rV (nat_lit 38))), none, (some (sV "postcore.base" (nat_lit 187))), none, (some (rV (nat_lit 0)))],
  eT,
  Obj.mk (Value.type "super") none (Data.fields #[(rV (nat_lit 45)), (rV (nat_lit 45)), (rV (nat_lit 45))]) #[],
  Obj.mk (Value.type "builtin_function_or_method") none (Data.fields #[(Value.builtin "object.__init_subclass__"), (rV (nat_lit 45))]) #[],
  eT,
  eF,
  nT (nat_lit 241) ["number", "by", "size", "parts", "found"],
  eT,
  fT "divided" "divided" (dA (nat_lit 5)),
  eT,
  eF,
  nT (nat_lit 254) ["m", "x", "y"],
  eT,
  fT "transform" "transform" (dA (nat_lit 7)),
  eT,
  eF,
  nT (nat_lit 263) ["rows", "m", "found", "row", "moved", "at"],
  eT,
  fT "rows_transformed" "rows_transformed" (dA (nat_lit 8)),
  eT,
  Obj.mk (Value.type "builtin_function_or_method") none (Data.fields #[(Value.builtin "type.__prepare__"), (Value.type "type")]) #[],
  Obj.mk (Value.type "dict") none (Data.dict #[(dE p "__module__" (nat_lit 285) (sV "postcore.paths" (nat_lit 272))), (dE p "__qualname__" (nat_lit 287) (sV "Path" (nat_lit 286))), (dE p "__firstlineno__" (nat_lit 289) (Value.int 28 288)), dR p "__init__" (nat_lit 297) (nat_lit 83), dR p "rows" (nat_lit 304) (nat_lit 90), dR p "is_empty" (nat_lit 311) (nat_lit 97), dR p "current" (nat_lit 318) (nat_lit 104), dR p "copy" (nat_lit 326) (nat_lit 111), dR p "clear" (nat_lit 333) (nat_lit 118), dR p "need_room" (nat_lit 341) (nat_lit 125), dR p "move" (nat_lit 351) (nat_lit 132), dR p "go_on" (nat_lit 360) (nat_lit 139), dR p "line" (nat_lit 369) (nat_lit 146), dR p "curve" (nat_lit 382) (nat_lit 153), dR p "close" (nat_lit 389) (nat_lit 160), dR p "put_rows" (nat_lit 398) (nat_lit 167), dR p "bounds" (nat_lit 406) (nat_lit 174), dR p "flattened" (nat_lit 414) (nat_lit 181), dR p "reversed" (nat_lit 421) (nat_lit 188), dR p "transformed" (nat_lit 429) (nat_lit 195), dR p "__static_attributes__" (nat_lit 434) (nat_lit 196)] 21) #[],
  eT,
  Obj.mk Value.none none (Data.fields #[(iV (nat_lit 30)), (iV (nat_lit 4)), (rV (nat_lit 82)), (iV (nat_lit 36)), (iV (nat_lit 4)), (rV (nat_lit 89)), (iV (nat_lit 39)), (iV (nat_lit 4)), (rV (nat_lit 96)), (iV (nat_lit 42)), (iV (nat_lit 4)), (rV (nat_lit 103)), (iV (nat_lit 47)), (iV (nat_lit 4)), (rV (nat_lit 110)), (iV (nat_lit 54)), (iV (nat_lit 4)), (rV (nat_lit 117)), (iV (nat_lit 59)), (iV (nat_lit 4)), (rV (nat_lit 124)), (iV (nat_lit 63)), (iV (nat_lit 4)), (rV (nat_lit 131)), (iV (nat_lit 72)), (iV (nat_lit 4)), (rV (nat_lit 138)), (iV (nat_lit 80)), (iV (nat_lit 4)), (rV (nat_lit 145)), (iV (nat_lit 83)), (iV (nat_lit 4)), (rV (nat_lit 152)), (iV (nat_lit 86)), (iV (nat_lit 4)), (rV (nat_lit 159)), (iV (nat_lit 93)), (iV (nat_lit 4)), (rV (nat_lit 166)), (iV (nat_lit 107)), (iV (nat_lit 4)), (rV (nat_lit 173)), (iV (nat_lit 114)), (iV (nat_lit 4)), (rV (nat_lit 180)), (iV (nat_lit 117)), (iV (nat_lit 4)), (rV (nat_lit 187)), (iV (nat_lit 120)), (iV (nat_lit 4)), (rV (nat_lit 194))]) #[],
  Obj.mk (Value.type "code") none (Data.fields #[(sV "Path" (nat_lit 280)), (sV "Path" (nat_lit 281)), (sV "/claim/cut.py" (nat_lit 282)), (iV (nat_lit 28)), (iV (nat_lit 0)), (iV (nat_lit 0)), (iV (nat_lit 0)), (iV (nat_lit 0)), (rV (nat_lit 72)), (Value.bool false), (iV (nat_lit 181)), (rV (nat_lit 73)), Value.none, Value.none, Value.none, Value.none, (iV (nat_lit 283)), (iV (nat_lit 28)), (sV "/claim/cut.py" (nat_lit 284))]) #[],
  Obj.mk (Value.type "frame") none Data.plain #[(some (rV (nat_lit 74))), (some (rV (nat_lit 3))), (some (rV (nat_lit 71))), none, (some (sV "postcore.paths" (nat_lit 272))), none, (some (rV (nat_lit 0)))],
  eT,
  eF,
  nT (nat_lit 293) ["self", "most"],
  eT,
  fT "__init__" "Path.__init__" (dB (nat_lit 12) (nat_lit 0)),
  eT,
  eF,
  nT (nat_lit 301) ["self"],
  eT,
  fT "rows" "Path.rows" (dB (nat_lit 12) (nat_lit 1)),
  eT,
  eF,
  nT (nat_lit 308) ["self"],
  eT,
  fT "is_empty" "Path.is_empty" (dB (nat_lit 12) (nat_lit 2)),
  eT,
  eF,
  nT (nat_lit 315) ["self"],
  eT,
  fT "current" "Path.current" (dB (nat_lit 12) (nat_lit 3)),
  eT,
  eF,
  nT (nat_lit 322) ["self", "found"],
  eT,
  fT "copy" "Path.copy" (dB (nat_lit 12) (nat_lit 4)),
  eT,
  eF,
  nT (nat_lit 330) ["self"],
  eT,
  fT "clear" "Path.clear" (dB (nat_lit 12) (nat_lit 5)),
  eT,
  eF,
  nT (nat_lit 337) ["self", "rows"],
  eT,
  fT "need_room" "Path.need_room" (dB (nat_lit 12) (nat_lit 6)),
  eT,
  eF,
  nT (nat_lit 345) ["self", "x", "y", "row"],
  eT,
  fT "move" "Path.move" (dB (nat_lit 12) (nat_lit 7)),
  eT,
  eF,
  nT (nat_lit 355) ["self", "row", "point"],
  eT,
  fT "go_on" "Path.go_on" (dB (nat_lit 12) (nat_lit 8)),
  eT,
  eF,
  nT (nat_lit 364) ["self", "x", "y"],
  eT,
  fT "line" "Path.line" (dB (nat_lit 12) (nat_lit 9)),
  eT,
  eF,
  nT (nat_lit 373) ["self", "x1", "y1", "x2", "y2", "x3", "y3"],
  eT,
  fT "curve" "Path.curve" (dB (nat_lit 12) (nat_lit 10)),
  eT,
  eF,
  nT (nat_lit 386) ["self"],
  eT,
  fT "close" "Path.close" (dB (nat_lit 12) (nat_lit 11)),
  eT,
  eF,
  nT (nat_lit 393) ["self", "rows", "row"],
  eT,
  fT "put_rows" "Path.put_rows" (dB (nat_lit 12) (nat_lit 12)),
  eT,
  eF,
  nT (nat_lit 402) ["self", "rows"],
  eT,
  fT "bounds" "Path.bounds" (dB (nat_lit 12) (nat_lit 13)),
  eT,
  eF,
  nT (nat_lit 410) ["self", "flatness"],
  eT,
  fT "flattened" "Path.flattened" (dB (nat_lit 12) (nat_lit 14)),
  eT,
  eF,
  nT (nat_lit 418) ["self"],
  eT,
  fT "reversed" "Path.reversed" (dB (nat_lit 12) (nat_lit 15)),
  eT,
  eF,
  nT (nat_lit 425) ["self", "matrix"],
  eT,
  fT "transformed" "Path.transformed" (dB (nat_lit 12) (nat_lit 16)),
  nT (nat_lit 430) ["begun", "kept", "most", "point"],
  Obj.mk (Value.type "getset_descriptor") none (Data.fields #[(sV "__dict__" (nat_lit 435)), (rV (nat_lit 198)), (Value.builtin "function.__dict__"), (Value.builtin "function.__dict__#set")]) #[],
  Obj.mk (Value.type "getset_descriptor") none (Data.fields #[(sV "__weakref__" (nat_lit 437)), (rV (nat_lit 198)), (Value.builtin "ExceptionGroup.__weakref__"), Value.none]) #[],
  Obj.mk (Value.type "super") none (Data.fields #[(rV (nat_lit 198)), (rV (nat_lit 198)), (rV (nat_lit 198))]) #[],
  Obj.mk (Value.type "builtin_function_or_method") none (Data.fields #[(Value.builtin "object.__init_subclass__"), (rV (nat_lit 198))]) #[],
  eT,
  eF,
  nT (nat_lit 445) ["rows", "most", "found"],
  eT,
  fT "path_of" "path_of" (dA (nat_lit 13)),
  eT,
  eF,
  nT (nat_lit 454) ["last", "rows", "many", "row", "word"],
  eT,
  fT "path_more" "path_more" (dA (nat_lit 14)),
  eT,
  eF,
  fT "path_points" "path_points" (dA (nat_lit 15)),
  eT,
  eF,
  nT (nat_lit 471) ["word", "points", "found", "x", "y"],
  eT,
  fT "path_row" "path_row" (dA (nat_lit 16)),
  eT,
  eF,
  nT (nat_lit 482) ["rows", "xs", "ys", "row", "x", "y"],
  eT,
  fT "char_box" "char_box" (dA (nat_lit 17)),
  eT,
  eF,
  nT (nat_lit 494) ["rows", "found", "row"],
  eT,
  fT "path_subpaths" "path_subpaths" (dA (nat_lit 18)),
  eT,
  eF,
  fT "path_reversed" "path_reversed" (dA (nat_lit 19)),
  eT,
  eF,
  nT (nat_lit 509) ["one", "other"],
  eT,
  fT "path_half" "path_half" (dA (nat_lit 20)),
  eT,
  eF,
  nT (nat_lit 517) ["points", "a", "b", "c", "d", "ab", "bc", "cd", "abc", "bcd", "middle"],
  eT,
  fT "path_halves" "path_halves" (dA (nat_lit 21)),
  eT,
  eF,
  nT (nat_lit 534) ["points", "flatness", "a", "b", "c", "d", "far", "axis", "near", "last"],
  eT,
  fT "path_is_flat" "path_is_flat" (dA (nat_lit 22)),
  eT,
  eF,
  nT (nat_lit 550) ["points", "flatness", "found", "waiting", "part", "depth", "ahead", "behind"],
  eT,
  fT "path_curve_ends" "path_curve_ends" (dA (nat_lit 23)),
  eT,
  eF,
  nT (nat_lit 564) ["rows", "flatness", "most", "found", "here", "row", "points", "x", "y"],
  eT,
  fT "path_flattened" "path_flattened" (dA (nat_lit 24)),
  eT,
  eF,
  eT,
  eT,
  fT "_law_sizes" "_law_sizes" (dA (nat_lit 27)),
  eT,
  eF,
  nT (nat_lit 594) ["tape", "many", "digit", "rest"],
  eT,
  fT "_law_draw" "_law_draw" (dA (nat_lit 29)),
  eT,
  eF,
  fT "_law_row" "_law_row" (dA (nat_lit 30)),
  eT,
  eF,
  fT "_law_after" "_law_after" (dA (nat_lit 31)),
  eT,
  eF,
  nT (nat_lit 616) ["route", "row"],
  eT,
  fT "_law_put" "_law_put" (dA (nat_lit 32)),
  eT,
  eF,
  fT "_law_backwards" "_law_backwards" (dA (nat_lit 33)),
  eT,
  eF,
  nT (nat_lit 630) ["own", "flatness", "route"],
  eT,
  fT "_law_flat" "_law_flat" (dA (nat_lit 34)),
  eT,
  eF,
  fT "_law_stands" "_law_stands" (dA (nat_lit 35)),
  eT,
  eF,
  nT (nat_lit 645) ["tape", "own", "found", "at", "word"],
  eT,
  fT "_law_some_rows" "_law_some_rows" (dA (nat_lit 36)),
  eT,
  eF,
  fT "law" "law" (dA (nat_lit 37))]
noncomputable def d3A (p : Params) : Obj := Obj.mk (Value.type "dict") none (Data.dict #[(dE p "__name__" (nat_lit 165) (sV "postcore.paths" (nat_lit 272))), (dE p "__doc__" (nat_lit 166) Value.none), (dE p "__package__" (nat_lit 167) Value.none), (dE p "__loader__" (nat_lit 168) (Value.builtin "__main__.__loader__#opaque")), (dE p "__spec__" (nat_lit 169) Value.none), dR p "__annotations__" (nat_lit 170) (nat_lit 6), dR p "__builtins__" (nat_lit 171) (nat_lit 4), (dE p "__file__" (nat_lit 173) (sV "/claim/cut.py" (nat_lit 172))), (dE p "__cached__" (nat_lit 174) Value.none), (dE p "GRAIN" (nat_lit 190) (Value.int 1000000 189)), dR p "PostError" (nat_lit 219) (nat_lit 32), dR p "PsError" (nat_lit 235) (nat_lit 45), dR p "divided" (nat_lit 248) (nat_lit 54), dR p "transform" (nat_lit 259) (nat_lit 61), dR p "rows_transformed" (nat_lit 271) (nat_lit 68), (dE p "MOST_ROWS" (nat_lit 275) (Value.int 1500 274)), (dE p "MOST_HALVINGS" (nat_lit 277) (Value.int 10 276))] 17) #[]
noncomputable def d12A (p : Params) : Obj := Obj.mk Value.none none (Data.fields #[(iV (nat_lit 3)), (iV (nat_lit 0)), (rV (nat_lit 20)), (iV (nat_lit 7)), (iV (nat_lit 0)), (rV (nat_lit 41)), (iV (nat_lit 10)), (iV (nat_lit 0)), (rV (nat_lit 53)), (iV (nat_lit 15)), (iV (nat_lit 0)), (rV (nat_lit 60)), (iV (nat_lit 17)), (iV (nat_lit 0)), (rV (nat_lit 67))]) #[]
noncomputable def d3B (p : Params) : Obj := Obj.mk (Value.type "dict") none (Data.dict #[(dE p "__name__" (nat_lit 165) (sV "postcore.paths" (nat_lit 272))), (dE p "__doc__" (nat_lit 166) Value.none), (dE p "__package__" (nat_lit 167) Value.none), (dE p "__loader__" (nat_lit 168) (Value.builtin "__main__.__loader__#opaque")), (dE p "__spec__" (nat_lit 169) Value.none), dR p "__annotations__" (nat_lit 170) (nat_lit 6), dR p "__builtins__" (nat_lit 171) (nat_lit 4), (dE p "__file__" (nat_lit 173) (sV "/claim/cut.py" (nat_lit 172))), (dE p "__cached__" (nat_lit 174) Value.none), (dE p "GRAIN" (nat_lit 190) (Value.int 1000000 189)), dR p "PostError" (nat_lit 219) (nat_lit 32), dR p "PsError" (nat_lit 235) (nat_lit 45), dR p "divided" (nat_lit 248) (nat_lit 54), dR p "transform" (nat_lit 259) (nat_lit 61), dR p "rows_transformed" (nat_lit 271) (nat_lit 68), (dE p "MOST_ROWS" (nat_lit 275) (Value.int 1500 274)), (dE p "MOST_HALVINGS" (nat_lit 277) (Value.int 10 276)), dR p "Path" (nat_lit 441) (nat_lit 198)] 18) #[]
noncomputable def d12B (p : Params) : Obj := Obj.mk Value.none none (Data.fields #[(iV (nat_lit 3)), (iV (nat_lit 0)), (rV (nat_lit 20)), (iV (nat_lit 7)), (iV (nat_lit 0)), (rV (nat_lit 41)), (iV (nat_lit 10)), (iV (nat_lit 0)), (rV (nat_lit 53)), (iV (nat_lit 15)), (iV (nat_lit 0)), (rV (nat_lit 60)), (iV (nat_lit 17)), (iV (nat_lit 0)), (rV (nat_lit 67)), (iV (nat_lit 28)), (iV (nat_lit 0)), (rV (nat_lit 74))]) #[]
noncomputable def laid : Nat → Nat → List (Nat × Obj) → List Obj → List Obj
  | 0, _, _, _ => []
  | n + 1, a, k, r => match k.head?.any fun x => Nat.beq x.1 a with
    | true => (k.head?.map (·.2)).getD eT :: laid n (a + 1) k.tail r
    | false => r.head?.getD eT :: laid n (a + 1) k r.tail
noncomputable def insAll : List Obj → Nat → BT → BT
  | [], _, t => t
  | o :: r, n, t => insAll r (n + 1) (t.ins n o)
noncomputable def tree (n : Nat) (p : Params) : BT := insAll (laid n 0 (K p) (rest p)) 0 .nil
noncomputable def tree0 (p : Params) : BT := (((tree 15 p).set 2 fun _ => boot_o_2 p).set 3 fun _ => boot_o_3 p).set 12 fun _ => eF
noncomputable def treeA (p : Params) : BT := ((tree 69 p).set 3 fun _ => d3A p).set 12 fun _ => d12A p
noncomputable def treeB (p : Params) : BT := ((tree 203 p).set 3 fun _ => d3B p).set 12 fun _ => d12B p
noncomputable def sT (t : BT) (n k : Nat) (os : OsState) : SharedT := ⟨t, n, {}, #[], {}, k, os⟩
noncomputable abbrev pw : Program := PySem.Challenge.pw_rh0179_02
noncomputable def bB : List Stmt := behindTheImports pw
noncomputable def topE : Env := { scope := pw.main.scope, locals := mainNs, globals := mainNs, cells := [], code := .ref 13, frame := some 14 }
noncomputable def p0 : Pos := ⟨0, 0, 0, 0⟩
noncomputable def pA : Pos := ⟨27, 0, 27, 13⟩
noncomputable def pB : Pos := ⟨28, 0, 121, 70⟩
noncomputable def pE : Pos := ⟨289, 0, 333, 59⟩
noncomputable abbrev ann : Option Value := some (.ref 6)
theorem h_open : ∀ w : World, (fencedOpening treeTable pw w 4252).map (fun s => (s.heap, s.gens, s.drawn, s.toks)) = some (boot_heap w.params, #[], {}, 181) := boot_open (by rfl) (by decide) fun s => by rfl
theorem h_size (w : World) : ((boot_heap w.params).isNs mainGlobals && (#[] : Array GenState).size == 0, (boot_heap w.params).objs.size, (boot_heap w.params).nsMap mainGlobals "__annotations__") = (true, 11, ann) := by kernel_rfl
theorem h_pre (w : World) (os : OsState) : topGo treeTable pw w 11 ann 12 ⟨boot_heap w.params, #[], {}, 181, os⟩ (topStub pw) = some ((sT (tree0 w.params) 15 187 os).abs, ⟨denote treeTable (.body bB topE), .body bB topE, p0, [topFrame p0]⟩) := by kernel_rfl
theorem h_block (w : World) (os : OsState) : segRun treeTable pw w 11 ann 1 1 (sT (tree0 w.params) 15 187 os).abs (blockOf bB topE (.body bB topE) p0 [topFrame p0]) = some (.next, (sT (tree0 w.params) 15 187 os).abs, .body bB topE, p0) := by kernel_rfl
theorem h_a (w : World) (os : OsState) : segRunT treeTable pw w 11 ann 1 700 (sT (tree0 w.params) 15 187 os) (piecesOf (bB.take 12) topE (.body bB topE) p0 [topFrame p0]) = some (.next, sT (treeA w.params) 69 278 os, .body bB topE, pA) := by kernel_rfl
theorem h_b (w : World) (os : OsState) : segRunT treeTable pw w 11 ann 1 800 (sT (treeA w.params) 69 278 os) (piecesOf ((bB.drop 12).take 1) topE (.body bB topE) pA [topFrame p0]) = some (.next, sT (treeB w.params) 203 442 os, .body bB topE, pB) := by kernel_rfl
theorem h_c (w : World) (os : OsState) : segRunT treeTable pw w 11 ann 1 1000 (sT (treeB w.params) 203 442 os) (piecesOf ((bB.drop 12).drop 1) topE (.body bB topE) pB [topFrame p0]) = some (.next, sT (tree 346 w.params) 346 659 os, .body bB topE, pE) := by kernel_rfl
theorem h_fin (w : World) (os : OsState) : topRun treeTable pw w 11 ann 2 (sT (tree 346 w.params) 346 659 os).abs ⟨doneF .next, .body bB topE, pE, [topFrame p0]⟩ = some (sT (tree 346 w.params) 346 659 os).abs := by kernel_rfl
noncomputable def heapE (p : Params) : Heap := absHeap (tree 346 p) 346 {}
theorem h_abs (p : Params) (os : OsState) : (sT (tree 346 p) 346 659 os).abs = ⟨heapE p, #[], {}, 659, os⟩ := by kernel_rfl
theorem h_run (w : World) (os : OsState) : topRun treeTable pw w 11 ann (12 + (1 + (700 + (800 + (1000 + 2))))) ⟨boot_heap w.params, #[], {}, 181, os⟩ (topStub pw) = some ⟨heapE w.params, #[], {}, 659, os⟩ := by
  rw [← h_abs]
  refine go_top (h_pre w os) (piece_block (h_block w os) ?_)
  have e : bB = bB.take 12 ++ ((bB.drop 12).take 1 ++ ((bB.drop 12).drop 1 ++ [])) := by rw [List.append_nil, List.take_append_drop, List.take_append_drop]
  have key : topRun treeTable pw w 11 ann (700 + (800 + (1000 + 2))) (sT (tree0 w.params) 15 187 os).abs (restOf (bB.take 12 ++ ((bB.drop 12).take 1 ++ ((bB.drop 12).drop 1 ++ []))) topE (.body bB topE) p0 [topFrame p0]) = some (sT (tree 346 w.params) 346 659 os).abs :=
    piece_app (segRun_of (h_a w os)) (piece_app (segRun_of (h_b w os)) (piece_app (segRun_of (h_c w os)) (piece_nil (h_fin w os))))
  exact Eq.mp (congrArg (fun l => topRun treeTable pw w 11 ann (700 + (800 + (1000 + 2))) (sT (tree0 w.params) 15 187 os).abs (restOf l topE (.body bB topE) p0 [topFrame p0]) = some (sT (tree 346 w.params) 346 659 os).abs) e.symm) key
theorem h_looks (w : World) : (fun os => ((staticsOk (importedModules pw.main.body) (boot_heap w.params) (heapE w.params) && namesBound pw (heapE w.params) && gensDone ⟨heapE w.params, #[], {}, 659, os⟩ && laidKept (boot_heap w.params) (heapE w.params)),
    openSeen view loose (importedModules pw.main.body) (fun s => xlAt view [] s && recOk [] s) true ⟨heapE w.params, #[], {}, 659, os⟩, (Hook.obs HK) ⟨heapE w.params, #[], {}, 659, os⟩)) = fun _ => (true, openGood view loose, Hook.val HK w) := by kernel_rfl
theorem left : LeftO PySem.Challenge.pw_rh0179_02 view loose (fun s => xlAt view [] s && recOk [] s) (Hook.obs HK) (Hook.val HK) 4252 :=
  LeftO.of_pieces (p := PySem.Challenge.pw_rh0179_02) (H₀ := boot_heap) (H₁ := heapE) (gs₀ := #[]) (gs₁ := #[]) (d₀ := {}) (d₁ := {}) (k₀ := 181) (k₁ := 659) (m₀ := 11) (ann := ann) (M := 12 + (1 + (700 + (800 + (1000 + 2))))) h_open h_size h_run (by decide) h_looks
end
section
/-! ## The looks at the law's text, one by one -/
noncomputable abbrev lw : OpenLaw := PySem.Challenge.rw_rh0179_02
theorem s_res : namesResolve lw.row.prog = true := by kernel_rfl
theorem s_road : noRoadLSs { strict := !(importedModules lw.row.prog.main.body).all cThrough.contains, foot := none, bare := (["vars", "dir", "locals"] : List Str).filter (readsOut lw.row.prog lw.row.prog.main.body) } lw.row.prog.main.body = true := by kernel_rfl
theorem s_meet : (namesMeet lw.row.prog lw.row.prog.main.body fun _ n => attrL n) = true := by kernel_rfl
theorem s_opens : looksOpen lw.row.prog = true := by
  refine look_both (look_both (look_both (look_both (look_both ?_ ?_) s_res) ?_) s_road) s_meet <;> kernel_rfl
theorem s_row : lw.row.wellSaid = true := by
  refine look_both (look_both (look_both (look_both (look_both (look_both (look_both (look_both (look_both (look_both (look_both (look_both (look_both (look_both (look_both s_opens ?_) ?_) ?_) ?_) ?_) ?_) ?_) ?_) ?_) ?_) ?_) ?_) ?_) ?_) ?_ <;> kernel_rfl
theorem s_foot : noRoadLSs { strict := true, foot := some lw.bound', writes := lw.writes, may := lw.may } lw.footing = true := by kernel_rfl
theorem s_bound : (lw.bound'.all (fun n => !builtinNamed n || lw.about == [n] || !lw.reads n)) = true := by kernel_rfl
theorem said : PySem.Challenge.rw_rh0179_02.wellSaid = true := by
  refine look_both (look_both (look_both (look_both (look_both (look_both (look_both (look_both (look_both (look_both (look_both (look_both (look_both (look_both (look_both (look_both (look_both (look_both s_row ?_) ?_) ?_) ?_) ?_) s_foot) ?_) ?_) ?_) s_bound) ?_) ?_) ?_) ?_) ?_) ?_) ?_) ?_ <;> kernel_rfl
end
section
theorem autoD (h : True := by decide) : True := h
theorem autoR (h : True = True := by rfl) : True = True := h
theorem autoU (h : True = True := by with_unfolding_all rfl) : True = True := h
theorem autoI (h : ∀ x : Nat, x = x := by intro _; rfl) : ∀ x : Nat, x = x := h
theorem wpK {α : Type} {M : Model} {A : Around} {t : Sem α} {Q : α → Shared → Prop} {E : Value → Shared → Prop} {s : Shared}
    (h : ∀ Q' : α → Shared → Prop, (∀ a s, Q a s → Q' a s) → ∀ E' : Value → Shared → Prop, (∀ e s, E e s → E' e s) → wpAny M A t Q' E' s) : wpAny M A t Q E s := h Q (fun _ _ h => h) E (fun _ _ h => h)
theorem hid {G : Prop} (h : ∀ P : Prop, (G → P) → P) : G := h G id

/-! ## Deep immutable values, mutable cells -/

inductive D where
  | none
  | bool (b : Bool)
  | int (i : Int)
  | str (x : Str)
  | bytes (b : Array UInt8)
  | tup (ds : List D)
  | ref (a : Addr)
  | obj (C d : Addr)
  | rng (a b c : Int)
  | ty (n : String)
  | bi (i : String)

noncomputable abbrev tupO (vs : Array Value) (n : Nat) : Obj := { cls := .type "tuple", data := .seq vs n }
noncomputable abbrev rangeO (x y z : Value) : Obj := { cls := .type "range", dict := none, data := .fields #[x, y, z], slots := #[] }
noncomputable abbrev listO (vs : Array Value) (n : Nat) : Obj := { cls := .type "list", data := .seq vs n }

mutual
noncomputable def Val (h : Heap) : D → Value → Prop
  | .none, v => v = .none
  | .bool b, v => v = .bool b
  | .int i, v => ∃ t, v = .int i t
  | .str x, v => ∃ t, v = .str x t
  | .bytes b, v => ∃ t, v = .bytes b t
  | .tup ds, v => ∃ a vs n, v = .ref a ∧ h.get? a = some (tupO vs n) ∧ Vals h ds vs.toList
  | .ref a, v => v = .ref a
  | .obj C d, v => ∃ a, v = .ref a ∧ h.get? a = some (instObj C d)
  | .rng a b c, v => ∃ r t u w, v = .ref r ∧ h.get? r = some (rangeO (.int a t) (.int b u) (.int c w))
  | .ty n, v => v = .type n
  | .bi i, v => v = .builtin i
noncomputable def Vals (h : Heap) : List D → List Value → Prop
  | [], vs => vs = []
  | d :: ds, vs => ∃ v r, vs = v :: r ∧ Val h d v ∧ Vals h ds r
end

inductive Cell where
  | list (ds : List D)
  | dict (fs : List (Str × D))
  | idict (fs : List (Int × D))
  | sdict (fs : List (Str × D))

noncomputable def FieldsAt (h : Heap) : List DictEntry → List (Str × D) → Prop
  | [], [] => True
  | e :: es, (n, d) :: fs => (∃ t, e.key = .str n t) ∧ Val h d e.val ∧ FieldsAt h es fs
  | _, _ => False
noncomputable def KPairs {κ : Type} (h : Heap) : List (κ × Value) → List (κ × D) → Prop
  | [], [] => True
  | (k, v) :: r, (k', d) :: fs => k = k' ∧ Val h d v ∧ KPairs h r fs
  | _, _ => False

structure Gd where
  exc : Addr
  base : Heap
  prog : Program
  w : World
  K : Frag

noncomputable abbrev Gd.M (g : Gd) : Model := model g.prog g.w

noncomputable def CellAt (g : Gd) (h : Heap) (a : Addr) : Cell → Prop
  | .list ds => ∃ vs n, h.get? a = some (listO vs n) ∧ Vals h ds vs.toList
  | .dict fs => ∃ es n, h.get? a = some (dictOf es n) ∧ FieldsAt h es fs
  | .idict fs => ∃ kvs, h.DictOf (intKind g.prog g.w) a kvs ∧ KPairs h kvs fs
  | .sdict fs => ∃ kvs, h.DictOf (strKind g.prog g.w) a kvs ∧ KPairs h kvs fs

noncomputable abbrev Mem := Addr → Option Cell
noncomputable abbrev Loc := Str → Option D
structure St where
  loc : Loc
  mem : Mem

noncomputable def Mem.set (σ : Mem) (a : Addr) (c : Cell) : Mem := fun b => if b = a then some c else σ b
noncomputable def Loc.set (l : Loc) (x : Str) (d : D) : Loc := fun y => if y = x then some d else l y
noncomputable def Loc.del (l : Loc) (x : Str) : Loc := fun y => if y = x then none else l y

structure Fx where
  A : Around
  env : Env
  frames : List Env
  taken : List Addr
  mine : List Addr

structure GOk (g : Gd) : Prop where
  inK : g.K.In g.base
  lim : g.base.NoLimit
  tops : ∃ mg mb, g.base.Ns mainGlobals mg ∧ g.base.Ns builtinsNs mb ∧ ∀ x, x ≠ ("__name__" : Str) → mb x = bootBuiltins x

noncomputable def Store (o : Obj) : Prop := (∃ es n, o.data = .dict es n) ∨ ∃ v, o.data = .cell v

structure FxOk (X : Fx) : Prop where
  kind : X.env.scope.kind = .function
  globals : X.env.globals = mainGlobals
  builtins : X.env.builtins = builtinsNs
  stack : X.A.frames = some X.frames
  unhandled : X.A.handled = none
  fr : ∀ e ∈ X.frames, ∀ a, e.frame = some a → a ∈ X.taken
  loc : X.env.locals ∈ X.mine
  sub : ∀ a ∈ X.mine, a ∈ X.taken
  cells : ∀ x c, (x, c) ∈ X.env.cells → c ∈ X.taken
  apart : X.env.cells.Pairwise fun x y => x.2 ≠ y.2
  apartL : ∀ x c, (x, c) ∈ X.env.cells → c ≠ X.env.locals
  top : ∃ L e0 outer, X.env.frame = some L ∧ e0.frame = some L ∧ X.frames = e0 :: outer

noncomputable def NameAt (env : Env) (m : Str → Option Value) (h : Heap) (x : Str) (d : D) : Prop :=
  (env.kindOf x = some .local ∧ ∃ v, m x = some v ∧ Val h d v) ∨
  (env.kindOf x = some .cell ∧ ∃ c v, env.cells.lookup x = some c ∧ h.IsCell c (some v) ∧ Val h d v)

structure Rep (g : Gd) (X : Fx) (st : St) (s : Shared) : Prop where
  stays : g.base.StaysIn s.heap
  frames : s.heap.FunFrames g.base X.frames
  taken : ∀ a ∈ X.taken, g.base.get? a = none ∧ ∃ o, s.heap.get? a = some o ∧ Store o
  names : ∃ m, s.heap.Ns X.env.locals m ∧ ∀ x d, st.loc x = some d → NameAt X.env m s.heap x d
  cellsOk : ∀ x c, (x, c) ∈ X.env.cells → ∃ v, s.heap.IsCell c v
  cells : ∀ a c, st.mem a = some c → CellAt g s.heap a c ∧ g.base.get? a = none ∧ a ∉ X.taken

structure Ext (X : Fx) (σ : Mem) (s : Shared) (σ' : Mem) (s' : Shared) : Prop where
  same : ∀ b o, s.heap.get? b = some o → σ b = none → b ∉ X.taken → s'.heap.get? b = some o
  slots : ∀ b o, s.heap.get? b = some o → b ∈ X.taken → b ∉ X.mine → ∃ sl, s'.heap.get? b = some { o with slots := sl }
  new : ∀ b o, s.heap.get? b = some o → σ b = none → b ∉ X.taken → σ' b = none
  gens : s'.gens = s.gens
  os : s'.os = s.os
  drawn : s'.drawn = s.drawn
  more : ∀ b o, s.heap.get? b = some o → ∃ o', s'.heap.get? b = some o'

/-! ## Values stay -/

noncomputable def Keeps (P : Obj → Prop) (h h' : Heap) : Prop := ∀ b o, h.get? b = some o → P o → h'.get? b = some o
noncomputable def Still (o : Obj) : Prop := (∃ vs n, o = tupO vs n) ∨ (∃ C d, o = instObj C d) ∨ ∃ x y z, o = rangeO x y z

mutual
theorem Val.keeps {h h' : Heap} (k : Keeps Still h h') : ∀ (d : D) (v : Value), Val h d v → Val h' d v
  | .none, _, x => x
  | .bool _, _, x => x
  | .int _, _, x => x
  | .str _, _, x => x
  | .bytes _, _, x => x
  | .ref _, _, x => x
  | .ty _, _, x => x
  | .bi _, _, x => x
  | .obj C d, _, hq7 => by obtain ⟨a, e, ho⟩ := hq7; exact ⟨a, e, k a _ ho (.inr (.inl ⟨C, d, rfl⟩))⟩
  | .rng _ _ _, _, hq7 => by obtain ⟨r, t, u, w, e, ho⟩ := hq7; exact ⟨r, t, u, w, e, k r _ ho (.inr (.inr ⟨_, _, _, rfl⟩))⟩
  | .tup ds, _, hq7 => by obtain ⟨a, vs, n, e, ho, hv⟩ := hq7; exact ⟨a, vs, n, e, k a _ ho (.inl ⟨vs, n, rfl⟩), Vals.keeps k ds _ hv⟩
theorem Vals.keeps {h h' : Heap} (k : Keeps Still h h') : ∀ (ds : List D) (vs : List Value), Vals h ds vs → Vals h' ds vs
  | [], _, x => x
  | d :: ds, _, hq7 => by obtain ⟨v, r, e, hv, hr⟩ := hq7; exact ⟨v, r, e, Val.keeps k d v hv, Vals.keeps k ds r hr⟩
end

theorem FieldsAt.keeps {h h' : Heap} (k : Keeps Still h h') : ∀ {es : List DictEntry} {fs : List (Str × D)}, FieldsAt h es fs → FieldsAt h' es fs
  | [], [], x => x
  | _ :: _, (_, _) :: _, hq7 => by obtain ⟨hk, hv, hr⟩ := hq7; exact ⟨hk, Val.keeps k _ _ hv, FieldsAt.keeps k hr⟩
theorem KPairs.keeps {κ : Type} {h h' : Heap} (k : Keeps Still h h') : ∀ {es : List (κ × Value)} {fs : List (κ × D)}, KPairs h es fs → KPairs h' es fs
  | [], [], x => x
  | _ :: _, (_, _) :: _, hq7 => by obtain ⟨hk, hv, hr⟩ := hq7; exact ⟨hk, Val.keeps k _ _ hv, KPairs.keeps k hr⟩

/-- a cell's object is neither a tuple nor an object of a class, nor a frame's -/
theorem CellAt.obj {g : Gd} {h : Heap} {a : Addr} {c : Cell} (x : CellAt g h a c) : ∃ o, h.get? a = some o ∧ ¬ Still o := by
  cases c with
  | list ds => obtain ⟨vs, n, ho, _⟩ := x; exact ⟨_, ho, by rintro (⟨_, _, e⟩ | ⟨_, _, e⟩ | ⟨_, _, _, e⟩) <;> exact absurd (congrArg Obj.cls e) (by simp)⟩
  | dict fs => obtain ⟨es, n, ho, _⟩ := x; exact ⟨_, ho, by rintro (⟨_, _, e⟩ | ⟨_, _, e⟩ | ⟨_, _, _, e⟩) <;> exact absurd (congrArg Obj.cls e) (by simp)⟩
  | idict fs => obtain ⟨kvs, ⟨o, es, ep, ho, _, hd, _⟩, _⟩ := x; exact ⟨_, ho, by rintro (⟨_, _, e⟩ | ⟨_, _, e⟩ | ⟨_, _, _, e⟩) <;> (rw [e] at hd; cases hd)⟩
  | sdict fs => obtain ⟨kvs, ⟨o, es, ep, ho, _, hd, _⟩, _⟩ := x; exact ⟨_, ho, by rintro (⟨_, _, e⟩ | ⟨_, _, e⟩ | ⟨_, _, _, e⟩) <;> (rw [e] at hd; cases hd)⟩

/-- the same object, the still ones kept: the cell stands -/
theorem CellAt.keeps {g : Gd} {h h' : Heap} {a : Addr} {c : Cell} (x : CellAt g h a c) (k : Keeps Still h h') (ka : ∀ o, h.get? a = some o → h'.get? a = some o) : CellAt g h' a c := by
  cases c with
  | list ds => obtain ⟨vs, n, ho, hv⟩ := x; exact ⟨vs, n, ka _ ho, Vals.keeps k _ _ hv⟩
  | dict fs => obtain ⟨es, n, ho, hv⟩ := x; exact ⟨es, n, ka _ ho, FieldsAt.keeps k hv⟩
  | idict fs => obtain ⟨kvs, ⟨o, es, ep, ho, r⟩, hv⟩ := x; exact ⟨kvs, ⟨o, es, ep, ka _ ho, r⟩, KPairs.keeps k hv⟩
  | sdict fs => obtain ⟨kvs, ⟨o, es, ep, ho, r⟩, hv⟩ := x; exact ⟨kvs, ⟨o, es, ep, ka _ ho, r⟩, KPairs.keeps k hv⟩

theorem Still.notStore {o : Obj} (x : Still o) : ¬ Store o := by
  rintro (⟨es, n, e⟩ | ⟨v, e⟩) <;> rcases x with ⟨_, _, q⟩ | ⟨_, _, q⟩ | ⟨_, _, _, q⟩ <;> (rw [q] at e; cases e)

section
variable {g : Gd} {X : Fx} {st st' st'' : St} {s s' s'' : Shared}

/-- a still object is no cell and no frame's -/
theorem Rep.free (r : Rep g X st s) {b : Addr} {o : Obj} (ho : s.heap.get? b = some o) (q : Still o) : st.mem b = none ∧ b ∉ X.taken := by
  constructor
  · cases hc : st.mem b with
    | none => rfl
    | some c =>
      obtain ⟨o', ho', hn⟩ := (r.cells b c hc).1.obj
      rw [ho] at ho'; cases ho'; exact absurd q hn
  · intro ht
    refine hid fun PP9 kk9 => ?_
    obtain ⟨_, o', ho', hs⟩ := r.taken b ht
    refine kk9 ?_
    clear kk9 PP9
    rw [ho] at ho'; cases ho'; exact q.notStore hs
theorem Rep.keeps (r : Rep g X st s) (x : Ext X st.mem s st'.mem s') : Keeps Still s.heap s'.heap := fun b o ho q => x.same b o ho (r.free ho q).1 (r.free ho q).2
theorem Rep.val (r : Rep g X st s) (x : Ext X st.mem s st'.mem s') {d : D} {v : Value} (hv : Val s.heap d v) : Val s'.heap d v := Val.keeps (r.keeps x) d v hv
theorem Rep.vals (r : Rep g X st s) (x : Ext X st.mem s st'.mem s') {d : List D} {v : List Value} (hv : Vals s.heap d v) : Vals s'.heap d v := Vals.keeps (r.keeps x) d v hv

theorem Ext.refl {σ : Mem} : Ext X σ s σ s := ⟨fun _ _ e _ _ => e, fun _ o e _ _ => ⟨o.slots, e⟩, fun _ _ _ e _ => e, rfl, rfl, rfl, fun _ o e => ⟨o, e⟩⟩
theorem Ext.trans {σ σ' σ'' : Mem} (x : Ext X σ s σ' s') (y : Ext X σ' s' σ'' s'') : Ext X σ s σ'' s'' where
  same b o e hb ht := y.same b o (x.same b o e hb ht) (x.new b o e hb ht) ht
  slots b o e ht hm := by
    obtain ⟨sl, e1⟩ := x.slots b o e ht hm
    obtain ⟨sl', e2⟩ := y.slots b _ e1 ht hm
    exact ⟨sl', e2⟩
  new b o e hb ht := y.new b o (x.same b o e hb ht) (x.new b o e hb ht) ht
  gens := y.gens.trans x.gens
  os := y.os.trans x.os
  drawn := y.drawn.trans x.drawn
  more b o e := let ⟨o', e'⟩ := x.more b o e; y.more b o' e'
end

/-! ## The exception on its way -/

noncomputable def TbAt (g : Gd) (fo : Option Addr) (ea : Addr) (h0 h : Heap) (vs : Array Value) : Prop :=
  vs[1]? = some .none ∨ ∃ T oT ts fl, vs[1]? = some (.ref T) ∧ g.base.get? T = none ∧ h0.get? T = none ∧ T ≠ ea ∧ h.get? T = some oT ∧ oT.data = .fields ts ∧ ts[3]? = some fl ∧
    (fl = .none ∨ ∃ L, fo = some L ∧ fl = rawInt L)

noncomputable def Told (g : Gd) (tk : List Addr) (st : St) (told : D) (dd : Addr) (h : Heap) : Prop :=
  g.base.get? dd = none ∧ dd ∉ tk ∧ st.mem dd = none ∧ ∃ es m, h.get? dd = some (dictOf es m) ∧ FieldsAt h es [("told", told)]

structure ExcAt (g : Gd) (tk : List Addr) (fo : Option Addr) (st : St) (told : D) (ea : Addr) (h0 h : Heap) : Prop where
  out : g.base.get? ea = none
  fresh : h0.get? ea = none
  there : ∃ oe vs dd, h.get? ea = some oe ∧ oe.cls = .ref g.exc ∧ oe.dict = some dd ∧ oe.data = .fields vs ∧ Told g tk st told dd h ∧ TbAt g fo ea h0 h vs

structure Raised (g : Gd) (X : Fx) (st : St) (told : D) (e : Value) (h0 : Heap) (s : Shared) : Prop where
  rep : Rep g X st s
  exc : ∃ ea, e = .ref ea ∧ ExcAt g X.taken X.env.frame st told ea h0 s.heap

/-! ## The logic -/

noncomputable abbrev EP := D → St → Prop

noncomputable def Po {α β : Type} (g : Gd) (X : Fx) (σ : Mem) (s : Shared) (R : Heap → β → α → Prop) (Q : β → St → Prop) : α → Shared → Prop :=
  fun a s' => ∃ b st', R s'.heap b a ∧ Rep g X st' s' ∧ Ext X σ s st'.mem s' ∧ Q b st'
noncomputable def Ee (g : Gd) (X : Fx) (σ : Mem) (s : Shared) (E : EP) : Value → Shared → Prop :=
  fun e s' => ∃ told st', Raised g X st' told e s.heap s' ∧ Ext X σ s st'.mem s' ∧ E told st'

noncomputable def Wp {α β : Type} (g : Gd) (R : Heap → β → α → Prop) (X : Fx) (st : St) (t : Sem α) (Q : β → St → Prop) (E : EP) : Prop :=
  ∀ s, Rep g X st s → wpAny g.M X.A t (Po g X st.mem s R Q) (Ee g X st.mem s E) s
noncomputable def W1 {α β : Type} (g : Gd) (R : Heap → β → α → Prop) (X : Fx) (st : St) (f : Value → Sem α) (d : D) (Q : β → St → Prop) (E : EP) : Prop :=
  ∀ v s, Val s.heap d v → Rep g X st s → wpAny g.M X.A (f v) (Po g X st.mem s R Q) (Ee g X st.mem s E) s
noncomputable def W2 {α β : Type} (g : Gd) (R : Heap → β → α → Prop) (X : Fx) (st : St) (f : Value → Value → Sem α) (d1 d2 : D) (Q : β → St → Prop) (E : EP) : Prop :=
  ∀ v1 v2 s, Val s.heap d1 v1 → Val s.heap d2 v2 → Rep g X st s → wpAny g.M X.A (f v1 v2) (Po g X st.mem s R Q) (Ee g X st.mem s E) s
noncomputable def W3 {α β : Type} (g : Gd) (R : Heap → β → α → Prop) (X : Fx) (st : St) (f : Value → Value → Value → Sem α) (d1 d2 d3 : D) (Q : β → St → Prop) (E : EP) : Prop :=
  ∀ v1 v2 v3 s, Val s.heap d1 v1 → Val s.heap d2 v2 → Val s.heap d3 v3 → Rep g X st s → wpAny g.M X.A (f v1 v2 v3) (Po g X st.mem s R Q) (Ee g X st.mem s E) s
noncomputable def WL {α β : Type} (g : Gd) (R : Heap → β → α → Prop) (X : Fx) (st : St) (f : List Value → Sem α) (ds : List D) (Q : β → St → Prop) (E : EP) : Prop :=
  ∀ vs s, Vals s.heap ds vs → Rep g X st s → wpAny g.M X.A (f vs) (Po g X st.mem s R Q) (Ee g X st.mem s E) s

noncomputable def BoolR (_ : Heap) (b a : Bool) : Prop := a = b
noncomputable def UnitR (_ : Heap) (_ _ : Unit) : Prop := True
inductive AF where
  | next | brk | cont | ret (d : D)
noncomputable def FlowR (h : Heap) : AF → Flow → Prop
  | .next, f => f = .next
  | .brk, f => f = .brk
  | .cont, f => f = .cont
  | .ret d, f => ∃ v, f = .ret v ∧ Val h d v

section
variable {α β : Type} {g : Gd} {R : Heap → β → α → Prop} {X : Fx} {σ : Mem} {st : St} {s s₁ : Shared} {Q : β → St → Prop} {E : EP} {Q' : α → Shared → Prop}

theorem Ext.fresh {σ' : Mem} (hx : Ext X σ s σ' s₁) {b : Addr} (h : s₁.heap.get? b = none) : s.heap.get? b = none := by
  cases q : s.heap.get? b with
  | none => rfl
  | some o => obtain ⟨o', e⟩ := hx.more b o q; rw [h] at e; cases e
theorem Raised.lift {σ' : Mem} {st' : St} {told : D} {e : Value} {s' : Shared} (h : Raised g X st' told e s₁.heap s') (hx : Ext X σ s σ' s₁) : Raised g X st' told e s.heap s' := by
  refine hid fun PP9 kk9 => ?_
  obtain ⟨hr, ea, rfl, ho, hf, oe, vs, dd, h1, h2, h3, h4, h5, h6⟩ := h
  refine kk9 ?_
  clear kk9 PP9
  refine ⟨hr, ea, rfl, ho, hx.fresh hf, oe, vs, dd, h1, h2, h3, h4, h5, ?_⟩
  rcases h6 with h6 | ⟨T, oT, ts, fl, a1, a2, a3, a4⟩
  · exact .inl h6
  · exact .inr ⟨T, oT, ts, fl, a1, a2, hx.fresh a3, a4⟩
theorem Ee.lift {e : Value} {s' : Shared} (h : Ee g X st.mem s₁ E e s') (hx : Ext X σ s st.mem s₁) : Ee g X σ s E e s' :=
  let ⟨told, st', hr, hy, hE⟩ := h; ⟨told, st', hr.lift hx, hx.trans hy, hE⟩
theorem Po.lift {a : α} {s' : Shared} (h : Po g X st.mem s₁ R Q a s') (hx : Ext X σ s st.mem s₁) : Po g X σ s R Q a s' :=
  let ⟨b, st', h1, hr, hy, hE⟩ := h; ⟨b, st', h1, hr, hx.trans hy, hE⟩

theorem Wp.then {t : Sem α} (h : Wp g R X st t Q E) (hr : Rep g X st s₁) (hx : Ext X σ s st.mem s₁)
    (k : ∀ a b st' s', R s'.heap b a → Rep g X st' s' → Ext X σ s st'.mem s' → Ext X st.mem s₁ st'.mem s' → Q b st' → Q' a s') : wpAny g.M X.A t Q' (Ee g X σ s E) s₁ :=
  wpAny_mono (h s₁ hr) (fun a s' ⟨b, st', h1, h2, h3, h4⟩ => k a b st' s' h1 h2 (hx.trans h3) h3 h4) fun _ _ he => he.lift hx
theorem Wp.at {t : Sem α} (h : Wp g R X st t Q E) (hr : Rep g X st s₁) (hx : Ext X σ s st.mem s₁) : wpAny g.M X.A t (Po g X σ s R Q) (Ee g X σ s E) s₁ :=
  wpAny_mono (h s₁ hr) (fun _ _ hp => hp.lift hx) fun _ _ he => he.lift hx
theorem W1.at {f : Value → Sem α} {d : D} {v : Value} (h : W1 g R X st f d Q E) (hv : Val s₁.heap d v) (hr : Rep g X st s₁) (hx : Ext X σ s st.mem s₁) : wpAny g.M X.A (f v) (Po g X σ s R Q) (Ee g X σ s E) s₁ :=
  wpAny_mono (h v s₁ hv hr) (fun _ _ hp => hp.lift hx) fun _ _ he => he.lift hx
theorem W1.then {f : Value → Sem α} {d : D} {v : Value} (h : W1 g R X st f d Q E) (hv : Val s₁.heap d v) (hr : Rep g X st s₁) (hx : Ext X σ s st.mem s₁)
    (k : ∀ a b st' s', R s'.heap b a → Rep g X st' s' → Ext X σ s st'.mem s' → Ext X st.mem s₁ st'.mem s' → Q b st' → Q' a s') : wpAny g.M X.A (f v) Q' (Ee g X σ s E) s₁ :=
  wpAny_mono (h v s₁ hv hr) (fun a s' ⟨b, st', h1, h2, h3, h4⟩ => k a b st' s' h1 h2 (hx.trans h3) h3 h4) fun _ _ he => he.lift hx
theorem W2.at {f : Value → Value → Sem α} {d1 d2 : D} {v1 v2 : Value} (h : W2 g R X st f d1 d2 Q E) (hv1 : Val s₁.heap d1 v1) (hv2 : Val s₁.heap d2 v2) (hr : Rep g X st s₁) (hx : Ext X σ s st.mem s₁) :
    wpAny g.M X.A (f v1 v2) (Po g X σ s R Q) (Ee g X σ s E) s₁ :=
  wpAny_mono (h v1 v2 s₁ hv1 hv2 hr) (fun _ _ hp => hp.lift hx) fun _ _ he => he.lift hx
theorem W2.then {f : Value → Value → Sem α} {d1 d2 : D} {v1 v2 : Value} (h : W2 g R X st f d1 d2 Q E) (hv1 : Val s₁.heap d1 v1) (hv2 : Val s₁.heap d2 v2) (hr : Rep g X st s₁) (hx : Ext X σ s st.mem s₁)
    (k : ∀ a b st' s', R s'.heap b a → Rep g X st' s' → Ext X σ s st'.mem s' → Ext X st.mem s₁ st'.mem s' → Q b st' → Q' a s') : wpAny g.M X.A (f v1 v2) Q' (Ee g X σ s E) s₁ :=
  wpAny_mono (h v1 v2 s₁ hv1 hv2 hr) (fun a s' ⟨b, st', h1, h2, h3, h4⟩ => k a b st' s' h1 h2 (hx.trans h3) h3 h4) fun _ _ he => he.lift hx
theorem W3.then {f : Value → Value → Value → Sem α} {d1 d2 d3 : D} {v1 v2 v3 : Value} (h : W3 g R X st f d1 d2 d3 Q E) (hv1 : Val s₁.heap d1 v1) (hv2 : Val s₁.heap d2 v2) (hv3 : Val s₁.heap d3 v3) (hr : Rep g X st s₁) (hx : Ext X σ s st.mem s₁)
    (k : ∀ a b st' s', R s'.heap b a → Rep g X st' s' → Ext X σ s st'.mem s' → Ext X st.mem s₁ st'.mem s' → Q b st' → Q' a s') : wpAny g.M X.A (f v1 v2 v3) Q' (Ee g X σ s E) s₁ :=
  wpAny_mono (h v1 v2 v3 s₁ hv1 hv2 hv3 hr) (fun a s' ⟨b, st', h1, h2, h3, h4⟩ => k a b st' s' h1 h2 (hx.trans h3) h3 h4) fun _ _ he => he.lift hx
theorem WL.at {f : List Value → Sem α} {ds : List D} {vs : List Value} (h : WL g R X st f ds Q E) (hv : Vals s₁.heap ds vs) (hr : Rep g X st s₁) (hx : Ext X σ s st.mem s₁) : wpAny g.M X.A (f vs) (Po g X σ s R Q) (Ee g X σ s E) s₁ :=
  wpAny_mono (h vs s₁ hv hr) (fun _ _ hp => hp.lift hx) fun _ _ he => he.lift hx
theorem WL.then {f : List Value → Sem α} {ds : List D} {vs : List Value} (h : WL g R X st f ds Q E) (hv : Vals s₁.heap ds vs) (hr : Rep g X st s₁) (hx : Ext X σ s st.mem s₁)
    (k : ∀ a b st' s', R s'.heap b a → Rep g X st' s' → Ext X σ s st'.mem s' → Ext X st.mem s₁ st'.mem s' → Q b st' → Q' a s') : wpAny g.M X.A (f vs) Q' (Ee g X σ s E) s₁ :=
  wpAny_mono (h vs s₁ hv hr) (fun a s' ⟨b, st', h1, h2, h3, h4⟩ => k a b st' s' h1 h2 (hx.trans h3) h3 h4) fun _ _ he => he.lift hx
theorem Wp.mono {t : Sem α} {Q₂ : β → St → Prop} {E₂ : EP} (h : Wp g R X st t Q E) (hQ : ∀ b st', Q b st' → Q₂ b st') (hE : ∀ d st', E d st' → E₂ d st') : Wp g R X st t Q₂ E₂ :=
  fun s hr => wpAny_mono (h s hr) (fun _ _ ⟨b, st', h1, h2, h3, h4⟩ => ⟨b, st', h1, h2, h3, hQ _ _ h4⟩) fun _ _ ⟨d, st', h1, h2, h3⟩ => ⟨d, st', h1, h2, hE _ _ h3⟩
end

/-! ## Changes of the heap that the logic knows -/
section
variable {g : Gd} {X : Fx} {st st' : St} {s s' : Shared}

theorem Rep.toks (r : Rep g X st s) (n : Nat) : Rep g X st { s with toks := n } := ⟨r.stays, r.frames, r.taken, r.names, r.cellsOk, r.cells⟩
theorem Ext.toks {σ σ' : Mem} (x : Ext X σ s σ' s') (n : Nat) : Ext X σ s σ' { s' with toks := n } := ⟨x.same, x.slots, x.new, x.gens, x.os, x.drawn, x.more⟩

theorem NameAt.keeps {env : Env} {m : Str → Option Value} {h h' : Heap} {x : Str} {d : D} (n : NameAt env m h x d) (k : Keeps Still h h') (kc : ∀ c v, h.IsCell c v → (∃ y, (y, c) ∈ env.cells) → h'.IsCell c v) : NameAt env m h' x d := by
  rcases n with ⟨hk, v, hm, hv⟩ | ⟨hk, c, v, hl, hc, hv⟩
  · exact .inl ⟨hk, v, hm, Val.keeps k _ _ hv⟩
  · exact .inr ⟨hk, c, v, hl, kc _ _ hc ⟨x, mem_of_lookup hl⟩, Val.keeps k _ _ hv⟩

/-- everything that stood stands: the state is as it was -/
theorem Rep.all {h' : Heap} (r : Rep g X st s) (k : ∀ b o, s.heap.get? b = some o → h'.get? b = some o) (n : Nat) : Rep g X st { s with heap := h', toks := n } where
  stays b o e := k b o (r.stays b o e)
  frames := r.frames.of_keeps fun b o e _ => ⟨o, k b o e, rfl⟩
  taken a ha := let ⟨h1, o, h2, h3⟩ := r.taken a ha; ⟨h1, o, k a o h2, h3⟩
  names := by
    obtain ⟨m, hn, hm⟩ := r.names
    exact ⟨m, hn.keeps k, fun x d e => (hm x d e).keeps (fun b o e _ => k b o e) fun c v hc _ => hc.keeps k⟩
  cellsOk x c hc := let ⟨v, hv⟩ := r.cellsOk x c hc; ⟨v, hv.keeps k⟩
  cells a c e := let ⟨h1, h2, h3⟩ := r.cells a c e; ⟨h1.keeps (fun b o e _ => k b o e) (k a), h2, h3⟩
theorem Ext.all {h' : Heap} (k : ∀ b o, s.heap.get? b = some o → h'.get? b = some o) (n : Nat) {σ : Mem} : Ext X σ s σ { s with heap := h', toks := n } :=
  ⟨fun b o e _ _ => k b o e, fun b o e _ _ => ⟨o.slots, k b o e⟩, fun _ _ _ e _ => e, rfl, rfl, rfl, fun b o e => ⟨o, k b o e⟩⟩

/-- a new object as a cell -/
theorem Rep.put {h' : Heap} {a : Addr} {c : Cell} (r : Rep g X st s) (k : ∀ b o, s.heap.get? b = some o → h'.get? b = some o) (n : Nat) (ha : s.heap.get? a = none) (hc : CellAt g h' a c) :
    Rep g X { st with mem := st.mem.set a c } { s with heap := h', toks := n } ∧ st.mem a = none := by
  have r' := r.all k n
  have hn : st.mem a = none := by
    cases q : st.mem a with
    | none => rfl
    | some c => obtain ⟨o, ho, _⟩ := (r.cells a c q).1.obj; rw [ha] at ho; cases ho
  refine ⟨⟨r'.stays, r'.frames, r'.taken, r'.names, r'.cellsOk, fun b c' e => ?_⟩, hn⟩
  change (if b = a then some c else st.mem b) = some c' at e
  split at e
  · rename_i hb; subst hb; cases e
    refine ⟨hc, ?_, fun ht => ?_⟩
    · cases q : g.base.get? b with
      | none => rfl
      | some o => have := r.stays b o q; rw [ha] at this; cases this
    · obtain ⟨_, o, ho, _⟩ := r.taken b ht; rw [ha] at ho; cases ho
  · exact r'.cells b c' e
theorem Ext.put {h' : Heap} {a : Addr} {c : Cell} {σ : Mem} (k : ∀ b o, s.heap.get? b = some o → h'.get? b = some o) (n : Nat) (ha : s.heap.get? a = none) : Ext X σ s (σ.set a c) { s with heap := h', toks := n } :=
  ⟨fun b o e _ _ => k b o e, fun b o e _ _ => ⟨o.slots, k b o e⟩, fun b o e hb _ => by
    unfold Mem.set; split
    · rename_i q; subst q; rw [ha] at e; cases e
    · exact hb, rfl, rfl, rfl, fun b o e => ⟨o, k b o e⟩⟩

theorem funFrames_on {base h h' : Heap} : ∀ {l : List Env}, (∀ e ∈ l, ∀ a, e.frame = some a → ∀ o, h.get? a = some o → ∃ o', h'.get? a = some o' ∧ o'.data = o.data) → h.FunFrames base l → h'.FunFrames base l
  | [], _, _ => trivial
  | e :: _, k, hq7 => by
    obtain ⟨hk, ⟨L, o, hf, hn, ho, hd⟩, hr⟩ := hq7
    obtain ⟨o', ho', hd'⟩ := k e (.head _) L hf o ho
    exact ⟨hk, ⟨L, o', hf, hn, ho', fun vs => hd' ▸ hd vs⟩, funFrames_on (fun e he => k e (.tail _ he)) hr⟩

/-- a cell's object changed -/
theorem Rep.change {h' : Heap} {a : Addr} {c c' : Cell} (hX : FxOk X) (r : Rep g X st s) (hs : Heap.SameBut a s.heap h') (n : Nat) (hm : st.mem a = some c) (hc : Keeps Still s.heap h' → CellAt g h' a c') :
    Rep g X { st with mem := st.mem.set a c' } { s with heap := h', toks := n } := by
  obtain ⟨hca, hba, hta⟩ := r.cells a c hm
  have ks : Keeps Still s.heap h' := fun b o e q => (hs.2 b fun z => by
    subst z; obtain ⟨o', ho', hn⟩ := hca.obj; rw [e] at ho'; cases ho'; exact hn q).trans e
  refine ⟨fun b o e => (hs.2 b fun z => by subst z; rw [hba] at e; cases e).trans (r.stays b o e), funFrames_on (fun e he b hb o ho => ⟨o, (hs.2 b fun z => hta (z ▸ hX.fr e he b hb)).trans ho, rfl⟩) r.frames, fun b hb => ?_, ?_, ?_, fun b c'' e => ?_⟩
  · refine hid fun PP9 kk9 => ?_
    obtain ⟨h1, o, h2, h3⟩ := r.taken b hb
    refine kk9 ?_
    clear kk9 PP9
    exact ⟨h1, o, (hs.2 b fun z => hta (z ▸ hb)).trans h2, h3⟩
  · obtain ⟨m, hn, hmm⟩ := r.names
    refine ⟨m, hn.sameBut hs fun z => hta (z ▸ hX.sub _ hX.loc), fun x d e => (hmm x d e).keeps ks fun c v hc ⟨y, hy⟩ => hc.sameBut hs fun z => hta (z ▸ hX.cells y c hy)⟩
  · intro x c hxc
    obtain ⟨v, hv⟩ := r.cellsOk x c hxc
    exact ⟨v, hv.sameBut hs fun z => hta (z ▸ hX.cells x c hxc)⟩
  · change (if b = a then some c' else st.mem b) = some c'' at e
    split at e
    · rename_i hb; subst hb; cases e; exact ⟨hc ks, hba, hta⟩
    · rename_i hb
      obtain ⟨h1, h2, h3⟩ := r.cells b c'' e
      exact ⟨h1.keeps ks fun o ho => (hs.2 b hb).trans ho, h2, h3⟩
theorem Ext.change {h' : Heap} {a : Addr} {c c' : Cell} (r : Rep g X st s) (hs : Heap.SameBut a s.heap h') (n : Nat) (hm : st.mem a = some c) (ha : ∃ o, h'.get? a = some o) : Ext X st.mem s (st.mem.set a c') { s with heap := h', toks := n } := by
  obtain ⟨_, _, hta⟩ := r.cells a c hm
  refine ⟨fun b o e hb _ => (hs.2 b fun z => by subst z; rw [hm] at hb; cases hb).trans e, fun b o e ht _ => ⟨o.slots, (hs.2 b fun z => hta (z ▸ ht)).trans e⟩, fun b o e hb _ => ?_, rfl, rfl, rfl, fun b o e => by
    by_cases z : b = a
    · exact z ▸ ha
    · exact ⟨o, (hs.2 b z).trans e⟩⟩
  unfold Mem.set; split
  · rename_i q; subst q; rw [hm] at hb; cases hb
  · exact hb
end
end
section
structure At (g : Gd) (X : Fx) (SC : Scope) (n : Nat) : Prop where
  gok : GOk g
  fx : FxOk X
  sc : X.env.scope = SC
  dep : X.A.depth + n < recursionLimit
  uni : X.A.units + 8 * n < cLine

noncomputable abbrev AStr := Str

noncomputable def GlobIs (g : Gd) (x : Str) (d : D) : Prop :=
  ∃ v, (nsIn g.K mainGlobals x = some (some v) ∨ (nsIn g.K mainGlobals x = some none ∧ bootBuiltins x = some v ∧ x ≠ ("__name__" : Str))) ∧ Val g.base d v

section
variable {g : Gd} {X : Fx} {SC : Scope} {n : Nat} {st : St} {s : Shared} {σ : Mem} {E : EP}

theorem FxOk.notMod (hX : FxOk X) : (X.env.scope.kind == .class || (X.env.scope.kind == .module && X.env.locals != X.env.globals)) = false := by
  rw [hX.kind]; rfl

theorem base_val (r : Rep g X st s) {d : D} {v : Value} (h : Val g.base d v) : Val s.heap d v := Val.keeps (fun b o e _ => r.stays b o e) d v h

/-! ### names -/
theorem r_name {x : Str} {pos : Pos} {d : D} {Q : D → St → Prop} (hA : At g X SC n) (hd : st.loc x = some d) (h : Q d st) (hx : autoParam ((x == ("__debug__" : Str)) = false) autoD._auto_1) :
    Wp g Val X st (eval (.Name x pos) X.env) Q E := by
  intro s hr
  refine wpAny_Name ?_ hx
  obtain ⟨m, hn, hm⟩ := hr.names
  rcases hm x d hd with ⟨hk, v, hv, hV⟩ | ⟨hk, c, v, hl, hc, hV⟩
  · exact wpAny_loadName_local hA.fx.kind hk hn hv ⟨d, st, hV, hr, .refl, h⟩
  · exact wpAny_loadName_cell hA.fx.kind hk hl hc ⟨d, st, hV, hr, .refl, h⟩
theorem r_loadName {x : Str} {d : D} {Q : D → St → Prop} (hA : At g X SC n) (hd : st.loc x = some d) (h : Q d st) : Wp g Val X st (loadName X.env x) Q E := by
  intro s hr
  obtain ⟨m, hn, hm⟩ := hr.names
  rcases hm x d hd with ⟨hk, v, hv, hV⟩ | ⟨hk, c, v, hl, hc, hV⟩
  · exact wpAny_loadName_local hA.fx.kind hk hn hv ⟨d, st, hV, hr, .refl, h⟩
  · exact wpAny_loadName_cell hA.fx.kind hk hl hc ⟨d, st, hV, hr, .refl, h⟩
theorem kindOf_eq (e : Env) (x : Str) : e.kindOf x = e.scope.names.lookup x := rfl
theorem r_glob {x : Str} {pos : Pos} {d : D} {Q : D → St → Prop} (hA : At g X SC n) (hg : GlobIs g x d) (h : Q d st) (hk : autoParam (SC.names.lookup x = some .globalImplicit) autoD._auto_1) (hx : autoParam ((x == ("__debug__" : Str)) = false) autoD._auto_1) :
    Wp g Val X st (eval (.Name x pos) X.env) Q E := by
  intro s hr
  refine hid fun PP9 kk9 => ?_
  obtain ⟨v, hv, hV⟩ := hg
  obtain ⟨mg, mb, G, B, hb⟩ := hA.gok.tops
  refine kk9 ?_
  clear kk9 PP9
  have hG : s.heap.Ns X.env.globals mg := by rw [hA.fx.globals]; exact G.keeps hr.stays
  have hB : s.heap.Ns X.env.builtins mb := by rw [hA.fx.builtins]; exact B.keeps hr.stays
  have hkk : X.env.kindOf x = some .globalImplicit := by rw [kindOf_eq, hA.sc]; exact hk
  have post : Po g X st.mem s Val Q v s := ⟨d, st, base_val hr hV, hr, .refl, h⟩
  refine Calls.Name_function_global hA.fx.kind hkk ?_ hx
  rcases hv with e | ⟨e1, e2, e3⟩
  · exact Calls.loadGlobal_global hG (mg_of hA.gok.inK G e) post
  · exact Calls.loadGlobal_builtin hG (mg_none_of hA.gok.inK G e1) hB ((hb x e3).trans e2) post

/-! ### constants -/
theorem Po.now {α : Type} {R : Heap → α → Value → Prop} {Q : α → St → Prop} {b : α} {v : Value} (hr : Rep g X st s) (hv : R s.heap b v) (h : Q b st) (t : Nat) : Po g X st.mem s R Q v { s with toks := t } :=
  ⟨b, st, hv, hr.toks t, Ext.toks .refl t, h⟩
theorem r_int {i : Int} {k : Nat} {pos : Pos} {Q : D → St → Prop} (h : Q (.int i) st) : Wp g Val X st (eval (.Constant (.int i) k pos) X.env) Q E :=
  fun s hr => wpAny_Constant_int (Po.now hr ⟨_, rfl⟩ h _)
theorem r_none {k : Nat} {pos : Pos} {Q : D → St → Prop} (h : Q .none st) : Wp g Val X st (eval (.Constant .none k pos) X.env) Q E :=
  fun s hr => wpAny_Constant_none ⟨.none, st, rfl, hr, .refl, h⟩
theorem r_bool {b : Bool} {k : Nat} {pos : Pos} {Q : D → St → Prop} (h : Q (.bool b) st) : Wp g Val X st (eval (.Constant (.bool b) k pos) X.env) Q E :=
  fun s hr => wpAny_Constant_bool ⟨.bool b, st, rfl, hr, .refl, h⟩
theorem r_str {x : Str} {k : Nat} {pos : Pos} {Q : D → St → Prop} (h : Q (.str x) st) : Wp g Val X st (eval (.Constant (.str x) k pos) X.env) Q E :=
  fun s hr => wpAny_Constant_str (Po.now hr ⟨_, rfl⟩ h _)
theorem r_bytes {x : List UInt8} {k : Nat} {pos : Pos} {Q : D → St → Prop} (h : Q (.bytes x.toArray) st) : Wp g Val X st (eval (.Constant (.bytes x) k pos) X.env) Q E :=
  fun s hr => by
    show wpAny g.M X.A (mkTextBytes x.toArray) _ _ s
    exact fun _ _ _ => Po.now hr ⟨_, rfl⟩ h _

/-! ### operators -/
theorem r_binop {op : Operator} {l r : Expr} {pos : Pos} {Q : D → St → Prop}
    (h : Wp g Val X st (eval l X.env) (fun d1 st1 => Wp g Val X st1 (eval r X.env) (fun d2 st2 => W2 g Val X st2 (binaryOp op) d1 d2 Q E) E) E) :
    Wp g Val X st (eval (.BinOp l op r pos) X.env) Q E := by
  intro s hr
  refine wpAny_BinOp ?_
  refine h.then hr .refl fun v1 d1 st1 s1 hv1 hr1 hx1 hy1 hq1 => ?_
  refine hq1.then hr1 hx1 fun v2 d2 st2 s2 hv2 hr2 hx2 hy2 hq2 => ?_
  exact hq2.at (hr1.val hy2 hv1) hv2 hr2 hx2
theorem r_unop {op : UnaryOp} {l : Expr} {pos : Pos} {Q : D → St → Prop}
    (h : Wp g Val X st (eval l X.env) (fun d1 st1 => W1 g Val X st1 (unaryOp op) d1 Q E) E) :
    Wp g Val X st (eval (.UnaryOp op l pos) X.env) Q E := by
  intro s hr
  refine wpAny_UnaryOp ?_
  refine h.then hr .refl fun v1 d1 st1 s1 hv1 hr1 hx1 hy1 hq1 => ?_
  exact hq1.at hv1 hr1 hx1

theorem o_add {a b : Int} {Q : D → St → Prop} (h : Q (.int (a + b)) st) : W2 g Val X st (binaryOp .Add) (.int a) (.int b) Q E := by
  rintro _ _ s ⟨t, rfl⟩ ⟨u, rfl⟩ hr; exact add_int (Po.now hr ⟨_, rfl⟩ h _)
theorem o_sub {a b : Int} {Q : D → St → Prop} (h : Q (.int (a - b)) st) : W2 g Val X st (binaryOp .Sub) (.int a) (.int b) Q E := by
  rintro _ _ s ⟨t, rfl⟩ ⟨u, rfl⟩ hr; exact PyProof.Rows.sub_int (Po.now hr ⟨_, rfl⟩ h _)
theorem o_mul {a b : Int} {Q : D → St → Prop} (h : Q (.int (a * b)) st) (hm : IntMulOk a b) : W2 g Val X st (binaryOp .Mult) (.int a) (.int b) Q E := by
  rintro _ _ s ⟨t, rfl⟩ ⟨u, rfl⟩ hr; exact PyProof.Rows.mul_int (Po.now hr ⟨_, rfl⟩ h _) hm
theorem o_mod {a b : Int} {Q : D → St → Prop} (hb : b ≠ 0) (h : Q (.int (a.fmod b)) st) : W2 g Val X st (binaryOp .Mod) (.int a) (.int b) Q E := by
  rintro _ _ s ⟨t, rfl⟩ ⟨u, rfl⟩ hr; exact PyProof.Rows.mod_int' hb (Po.now hr ⟨_, rfl⟩ h _)
theorem o_div {a b : Int} {Q : D → St → Prop} (hb : b ≠ 0) (hp : b.natAbs < 1073741824) (h : Q (.int (a.fdiv b)) st) : W2 g Val X st (binaryOp .FloorDiv) (.int a) (.int b) Q E := by
  rintro _ _ s ⟨t, rfl⟩ ⟨u, rfl⟩ hr; exact PyProof.Rows.floordiv_int hb (Po.now hr ⟨_, rfl⟩ h _) (hp := .inl (PyProof.noPylong_small hp))
theorem o_pow {a b : Int} {Q : D → St → Prop} (hb : 0 ≤ b) (hs : (Builtin.Int.intBits a : Int) * b ≤ 2 ^ 27) (h : Q (.int (a ^ b.toNat)) st) : W2 g Val X st (binaryOp .Pow) (.int a) (.int b) Q E := by
  rintro _ _ s ⟨t, rfl⟩ ⟨u, rfl⟩ hr; exact PyProof.Rows.pow_int hb hs (Po.now hr ⟨_, rfl⟩ h _)
theorem o_neg {a : Int} {Q : D → St → Prop} (h : Q (.int (-a)) st) : W1 g Val X st (unaryOp .USub) (.int a) Q E := by
  rintro _ s ⟨t, rfl⟩ hr; exact PyProof.Rows.neg_int (Po.now hr ⟨_, rfl⟩ h _)
theorem o_iadd {a b : Int} {Q : D → St → Prop} (h : Q (.int (a + b)) st) : W2 g Val X st (inplaceOp .Add) (.int a) (.int b) Q E := by
  rintro _ _ s ⟨t, rfl⟩ ⟨u, rfl⟩ hr; exact PyProof.Rows.iadd_int (Po.now hr ⟨_, rfl⟩ h _)

/-! ### comparisons -/
theorem r_cmp {op : CmpOp} {l r : Expr} {pos : Pos} {Q : D → St → Prop}
    (h : Wp g Val X st (eval l X.env) (fun d1 st1 => Wp g Val X st1 (eval r X.env) (fun d2 st2 => W2 g Val X st2 (compareOp op) d1 d2 Q E) E) E)
    (hm : autoParam (behindInMarks op r = false) autoU._auto_1) :
    Wp g Val X st (eval (.Compare l [op] [r] pos) X.env) Q E := by
  intro s hr
  refine wpAny_Compare1 ?_ hm
  refine h.then hr .refl fun v1 d1 st1 s1 hv1 hr1 hx1 hy1 hq1 => ?_
  refine hq1.then hr1 hx1 fun v2 d2 st2 s2 hv2 hr2 hx2 hy2 hq2 => ?_
  exact hq2.at (hr1.val hy2 hv1) hv2 hr2 hx2

noncomputable abbrev IsB (Q : Bool → St → Prop) : D → St → Prop := fun d st => ∃ b, d = .bool b ∧ Q b st
theorem r_test_cmp {op : CmpOp} {l r : Expr} {pos : Pos} {w : Sem Value} {Q : Bool → St → Prop}
    (h : Wp g Val X st (eval l X.env) (fun d1 st1 => Wp g Val X st1 (eval r X.env) (fun d2 st2 => W2 g Val X st2 (compareOp op) d1 d2 (IsB Q) E) E) E)
    (hm : autoParam (behindInMarks op r = false) autoU._auto_1) :
    Wp g BoolR X st (isTrue (.Compare l [op] [r] pos) X.env w) Q E := by
  intro s hr
  refine wpAny_isTrue_Compare1 ?_ hm
  refine h.then hr .refl fun v1 d1 st1 s1 hv1 hr1 hx1 hy1 hq1 => ?_
  refine hq1.then hr1 hx1 fun v2 d2 st2 s2 hv2 hr2 hx2 hy2 hq2 => ?_
  refine hq2.then (hr1.val hy2 hv1) hv2 hr2 hx2 fun v3 d3 st3 s3 hv3 hr3 hx3 hy3 hq3 => ?_
  obtain ⟨b, rfl, hq⟩ := hq3
  cases hv3
  exact wpAny_truthy_bool ⟨b, st3, rfl, hr3, hx3, hq⟩
theorem r_test_name {x : Str} {pos : Pos} {w : Sem Value} {Q : Bool → St → Prop} (h : Wp g Val X st w (IsB Q) E) : Wp g BoolR X st (isTrue (.Name x pos) X.env w) Q E := by
  intro s hr
  refine wpAny_isTrue_value ?_
  refine h.then hr .refl fun v3 d3 st3 s3 hv3 hr3 hx3 hy3 hq3 => ?_
  obtain ⟨b, rfl, hq⟩ := hq3
  cases hv3
  exact wpAny_truthy_bool ⟨b, st3, rfl, hr3, hx3, hq⟩
theorem r_test_call {f : Expr} {as : List Expr} {ks : List Keyword} {pos : Pos} {w : Sem Value} {Q : Bool → St → Prop} (h : Wp g Val X st w (IsB Q) E) : Wp g BoolR X st (isTrue (.Call f as ks pos) X.env w) Q E := by
  intro s hr
  refine wpAny_isTrue_value ?_
  refine h.then hr .refl fun v3 d3 st3 s3 hv3 hr3 hx3 hy3 hq3 => ?_
  obtain ⟨b, rfl, hq⟩ := hq3
  cases hv3
  exact wpAny_truthy_bool ⟨b, st3, rfl, hr3, hx3, hq⟩
theorem r_test_not {x : Expr} {pos : Pos} {w : Sem Value} {Q : Bool → St → Prop} (h : Wp g BoolR X st (isTrue x X.env (eval x X.env)) (fun b st1 => Q (!b) st1) E) :
    Wp g BoolR X st (isTrue (.UnaryOp .Not x pos) X.env w) Q E := by
  intro s hr
  refine wpAny_isTrue_Not ?_
  refine h.then hr .refl fun v3 d3 st3 s3 hv3 hr3 hx3 hy3 hq3 => ?_
  cases hv3
  exact ⟨_, st3, rfl, hr3, hx3, hq3⟩
theorem r_test_and {xs : List Expr} {pos : Pos} {w : Sem Value} {Q : Bool → St → Prop} (h : Wp g BoolR X st (allTrue .And xs X.env) Q E) :
    Wp g BoolR X st (isTrue (.BoolOp .And xs pos) X.env w) Q E := fun s hr => wpAny_isTrue_BoolOp (h s hr)
theorem r_test_or {xs : List Expr} {pos : Pos} {w : Sem Value} {Q : Bool → St → Prop} (h : Wp g BoolR X st (allTrue .Or xs X.env) Q E) :
    Wp g BoolR X st (isTrue (.BoolOp .Or xs pos) X.env w) Q E := fun s hr => wpAny_isTrue_BoolOp (h s hr)
theorem r_and_nil {Q : Bool → St → Prop} (h : Q true st) : Wp g BoolR X st (allTrue .And [] X.env) Q E := fun s hr => wpAny_allTrue_And_nil ⟨true, st, rfl, hr, .refl, h⟩
theorem r_or_nil {Q : Bool → St → Prop} (h : Q false st) : Wp g BoolR X st (allTrue .Or [] X.env) Q E := fun s hr => wpAny_allTrue_Or_nil ⟨false, st, rfl, hr, .refl, h⟩
theorem r_and_cons {x : Expr} {rest : List Expr} {Q : Bool → St → Prop}
    (h : Wp g BoolR X st (isTrue x X.env (eval x X.env)) (fun b st1 => (b = true → Wp g BoolR X st1 (allTrue .And rest X.env) Q E) ∧ (b = false → Q false st1)) E) :
    Wp g BoolR X st (allTrue .And (x :: rest) X.env) Q E := by
  intro s hr
  refine wpAny_allTrue_And_cons ?_
  refine h.then hr .refl fun v3 b st3 s3 hv3 hr3 hx3 hy3 hq3 => ?_
  cases hv3
  cases v3 with
  | true => exact (hq3.1 rfl).at hr3 hx3
  | false => exact ⟨false, st3, rfl, hr3, hx3, hq3.2 rfl⟩
theorem r_or_cons {x : Expr} {rest : List Expr} {Q : Bool → St → Prop}
    (h : Wp g BoolR X st (isTrue x X.env (eval x X.env)) (fun b st1 => (b = true → Q true st1) ∧ (b = false → Wp g BoolR X st1 (allTrue .Or rest X.env) Q E)) E) :
    Wp g BoolR X st (allTrue .Or (x :: rest) X.env) Q E := by
  intro s hr
  refine wpAny_allTrue_Or_cons ?_
  refine h.then hr .refl fun v3 b st3 s3 hv3 hr3 hx3 hy3 hq3 => ?_
  cases hv3
  cases v3 with
  | true => exact ⟨true, st3, rfl, hr3, hx3, hq3.1 rfl⟩
  | false => exact (hq3.2 rfl).at hr3 hx3
theorem r_ifexp {test body orelse : Expr} {pos : Pos} {Q : D → St → Prop}
    (h : Wp g BoolR X st (isTrue test X.env (eval test X.env)) (fun b st1 => (b = true → Wp g Val X st1 (eval body X.env) Q E) ∧ (b = false → Wp g Val X st1 (eval orelse X.env) Q E)) E) :
    Wp g Val X st (eval (.IfExp test body orelse pos) X.env) Q E := by
  intro s hr
  refine wpAny_IfExp ?_
  refine h.then hr .refl fun v3 b st3 s3 hv3 hr3 hx3 hy3 hq3 => ?_
  cases hv3
  cases v3 with
  | true => exact (hq3.1 rfl).at hr3 hx3
  | false => exact (hq3.2 rfl).at hr3 hx3

theorem c_lt {a b : Int} {Q : D → St → Prop} (h : Q (.bool (decide (a < b))) st) : W2 g Val X st (compareOp .Lt) (.int a) (.int b) Q E := by
  rintro _ _ s ⟨t, rfl⟩ ⟨u, rfl⟩ hr; exact PyProof.Rows.lt_int (Po.now hr rfl h s.toks)
theorem c_gt {a b : Int} {Q : D → St → Prop} (h : Q (.bool (decide (b < a))) st) : W2 g Val X st (compareOp .Gt) (.int a) (.int b) Q E := by
  rintro _ _ s ⟨t, rfl⟩ ⟨u, rfl⟩ hr; exact PyProof.Rows.gt_int (Po.now hr rfl h s.toks)
theorem c_le {a b : Int} {Q : D → St → Prop} (h : Q (.bool (decide (a ≤ b))) st) : W2 g Val X st (compareOp .LtE) (.int a) (.int b) Q E := by
  rintro _ _ s ⟨t, rfl⟩ ⟨u, rfl⟩ hr; exact PyProof.Rows.le_int (Po.now hr rfl h s.toks)
theorem c_eq {a b : Int} {Q : D → St → Prop} (h : Q (.bool (decide (a = b))) st) : W2 g Val X st (compareOp .Eq) (.int a) (.int b) Q E := by
  rintro _ _ s ⟨t, rfl⟩ ⟨u, rfl⟩ hr; exact PyProof.Rows.eq_int (Po.now hr rfl h s.toks)
theorem c_ne {a b : Int} {Q : D → St → Prop} (h : Q (.bool (!decide (a = b))) st) : W2 g Val X st (compareOp .NotEq) (.int a) (.int b) Q E := by
  rintro _ _ s ⟨t, rfl⟩ ⟨u, rfl⟩ hr; exact PyProof.Rows.ne_int (Po.now hr rfl h s.toks)
theorem c_eqS {a b : Str} {Q : D → St → Prop} (h : Q (.bool (a == b)) st) : W2 g Val X st (compareOp .Eq) (.str a) (.str b) Q E := by
  rintro _ _ s ⟨t, rfl⟩ ⟨u, rfl⟩ hr; exact PyProof.Rows.eq_str (Po.now hr rfl h s.toks)
theorem c_neS {a b : Str} {Q : D → St → Prop} (h : Q (.bool (a != b)) st) : W2 g Val X st (compareOp .NotEq) (.str a) (.str b) Q E := by
  rintro _ _ s ⟨t, rfl⟩ ⟨u, rfl⟩ hr; exact PyProof.Rows.ne_str (Po.now hr rfl h s.toks)
theorem c_eqNS {b : Str} {Q : D → St → Prop} (h : Q (.bool false) st) : W2 g Val X st (compareOp .Eq) .none (.str b) Q E := by
  rintro _ _ s rfl ⟨u, rfl⟩ hr; exact PySem.EqNone.eq_none_str (Po.now hr rfl h s.toks)
theorem c_eqB {a b : Bool} {Q : D → St → Prop} (h : Q (.bool (a == b)) st) : W2 g Val X st (compareOp .Eq) (.bool a) (.bool b) Q E := by
  rintro _ _ s rfl rfl hr; exact PyProof.Rows.eq_bool (Po.now hr rfl h s.toks)
noncomputable def D.isNone : D → Bool
  | .none => true
  | .bool _ => false
  | .int _ => false
  | .str _ => false
  | .bytes _ => false
  | .tup _ => false
  | .ref _ => false
  | .obj _ _ => false
  | .rng _ _ _ => false
  | .ty _ => false
  | .bi _ => false
theorem val_isNone {h : Heap} {d : D} {v : Value} (hv : Val h d v) : (v == .none) = d.isNone := by
  cases d
  all_goals first | (cases hv; rfl) | (obtain ⟨_, rfl⟩ := hv; rfl) | (obtain ⟨_, rfl, _⟩ := hv; rfl) | (obtain ⟨_, _, _, rfl, _⟩ := hv; rfl) | (obtain ⟨_, _, _, _, rfl, _⟩ := hv; rfl)
theorem c_isNone {d : D} {Q : D → St → Prop} (h : Q (.bool d.isNone) st) : W2 g Val X st (compareOp .Is) d .none Q E := by
  rintro v _ s hv rfl hr
  exact is_none (by rw [val_isNone hv]; exact Po.now hr rfl h s.toks)
theorem c_isNotNone {d : D} {Q : D → St → Prop} (h : Q (.bool (!d.isNone)) st) : W2 g Val X st (compareOp .IsNot) d .none Q E := by
  rintro v _ s hv rfl hr
  exact isNot_none (by rw [val_isNone hv]; exact Po.now hr rfl h s.toks)
end
end
section
section
variable {α β : Type} {g : Gd} {X : Fx} {SC : Scope} {n : Nat} {st : St} {s : Shared} {σ : Mem} {E : EP}

/-! ### lists of values -/
theorem Vals.append {h : Heap} : ∀ {ds es : List D} {vs ws : List Value}, Vals h ds vs → Vals h es ws → Vals h (ds ++ es) (vs ++ ws)
  | [], _, _, _, e, y => by cases e; exact y
  | _ :: _, _, _, _, hq7, y => by obtain ⟨v, r, e, hv, hr⟩ := hq7; subst e; exact ⟨v, _, rfl, hv, hr.append y⟩
theorem Vals.length {h : Heap} : ∀ {ds : List D} {vs : List Value}, Vals h ds vs → vs.length = ds.length
  | [], _, e => by cases e; rfl
  | _ :: _, _, hq7 => by obtain ⟨v, r, e, hv, hr⟩ := hq7; subst e; simp [hr.length]
theorem Vals.get {h : Heap} : ∀ {ds : List D} {vs : List Value} {i : Nat} {d : D}, Vals h ds vs → ds[i]? = some d → ∃ v, vs[i]? = some v ∧ Val h d v
  | [], _, _, _, _, q => by cases q
  | _ :: _, _, 0, _, hq7, q => by obtain ⟨v, r, e, hv, hr⟩ := hq7; subst e; cases q; exact ⟨v, rfl, hv⟩
  | _ :: _, _, i + 1, _, hq7, q => by obtain ⟨v, r, e, hv, hr⟩ := hq7; subst e; obtain ⟨w, h1, h2⟩ := hr.get (i := i) (by simpa using q); exact ⟨w, by simpa using h1, h2⟩
theorem Vals.of_get {h : Heap} : ∀ {ds : List D} {vs : List Value} {i : Nat} {v : Value}, Vals h ds vs → vs[i]? = some v → ∃ d, ds[i]? = some d ∧ Val h d v
  | [], _, _, _, e, q => by cases e; cases q
  | d :: _, _, 0, _, hq7, q => by obtain ⟨v, r, e, hv, hr⟩ := hq7; subst e; cases q; exact ⟨d, rfl, hv⟩
  | _ :: _, _, i + 1, _, hq7, q => by obtain ⟨v, r, e, hv, hr⟩ := hq7; subst e; obtain ⟨w, h1, h2⟩ := hr.of_get (i := i) (by simpa using q); exact ⟨w, by simpa using h1, h2⟩
theorem Vals.drop {h : Heap} : ∀ {ds : List D} {vs : List Value} (k : Nat), Vals h ds vs → Vals h (ds.drop k) (vs.drop k)
  | [], _, k, e => by cases e; cases k <;> rfl
  | _ :: _, _, 0, x => x
  | _ :: _, _, k + 1, hq7 => by obtain ⟨v, r, e, hv, hr⟩ := hq7; subst e; exact hr.drop k
theorem Vals.take {h : Heap} : ∀ {ds : List D} {vs : List Value} (k : Nat), Vals h ds vs → Vals h (ds.take k) (vs.take k)
  | [], _, k, e => by cases e; cases k <;> rfl
  | _ :: _, _, 0, x => by exact rfl
  | _ :: _, _, k + 1, hq7 => by obtain ⟨v, r, e, hv, hr⟩ := hq7; subst e; exact ⟨v, _, rfl, hv, hr.take k⟩
theorem Vals.one {h : Heap} {d : D} {v : Value} (x : Val h d v) : Vals h [d] [v] := ⟨v, [], rfl, x, rfl⟩
theorem Vals.reverse {h : Heap} : ∀ {ds : List D} {vs : List Value}, Vals h ds vs → Vals h ds.reverse vs.reverse
  | [], _, e => by cases e; rfl
  | _ :: _, _, hq7 => by obtain ⟨v, r, e, hv, hr⟩ := hq7; subst e; simp only [List.reverse_cons]; exact hr.reverse.append (.one hv)
theorem Vals.set {h : Heap} {d : D} {v : Value} (x : Val h d v) : ∀ {ds : List D} {vs : List Value} (k : Nat), Vals h ds vs → Vals h (ds.set k d) (vs.set k v)
  | [], _, k, e => by cases e; cases k <;> rfl
  | _ :: _, _, 0, hq7 => by obtain ⟨w, r, e, hv, hr⟩ := hq7; subst e; exact ⟨v, r, rfl, x, hr⟩
  | _ :: _, _, k + 1, hq7 => by obtain ⟨w, r, e, hv, hr⟩ := hq7; subst e; exact ⟨w, _, rfl, hv, hr.set x k⟩

noncomputable abbrev Items (args : List Expr) (pos : Pos) (env : Env) : Sem (List Value) := spliced (backTo pos (starEach args env))
theorem r_items_nil {pos : Pos} {Q : List D → St → Prop} (h : Q [] st) : Wp g Vals X st (Items [] pos X.env) Q E :=
  fun s hr => wpAny_items_nil ⟨[], st, rfl, hr, .refl, h⟩
theorem r_items_cons {pos : Pos} {e : Expr} {rest : List Expr} {Q : List D → St → Prop}
    (h : Wp g Val X st (eval e X.env) (fun d st1 => Wp g Vals X st1 (Items rest pos X.env) (fun ds st2 => Q (d :: ds) st2) E) E)
    (he : autoParam (starEach (e :: rest) X.env = (false, eval e X.env) :: starEach rest X.env) autoR._auto_1) : Wp g Vals X st (Items (e :: rest) pos X.env) Q E := by
  intro s hr
  refine wpAny_items_cons ?_ he
  refine h.then hr .refl fun v1 d1 st1 s1 hv1 hr1 hx1 hy1 hq1 => ?_
  refine hq1.then hr1 hx1 fun vs ds st2 s2 hv2 hr2 hx2 hy2 hq2 => ?_
  exact ⟨d1 :: ds, st2, ⟨v1, vs, rfl, hr1.val hy2 hv1, hv2⟩, hr2, hx2, hq2⟩

theorem fresh_none (h : Heap) : h.get? h.objs.size = none := Heap.get?_none_of_le (Nat.le_refl _)
theorem push_keeps (h : Heap) (o : Obj) : ∀ b o', h.get? b = some o' → (h.push o).get? b = some o' := fun b o' e => Heap.get?_push_of_some o e

/-- a value made now -/
theorem Po.still {h' : Heap} {v : Value} {d : D} {Q : D → St → Prop} (hr : Rep g X st s) (k : ∀ b o, s.heap.get? b = some o → h'.get? b = some o) (hv : Val h' d v) (h : Q d st) (t : Nat) :
    Po g X st.mem s Val Q v { s with heap := h', toks := t } := ⟨d, st, hv, hr.all k t, .all k t, h⟩
/-- a cell made now -/
theorem Po.cell {h' : Heap} {a : Addr} {c : Cell} {Q : D → St → Prop} (hr : Rep g X st s) (k : ∀ b o, s.heap.get? b = some o → h'.get? b = some o) (ha : s.heap.get? a = none) (hc : CellAt g h' a c)
    (h : ∀ a, st.mem a = none → Q (.ref a) { st with mem := st.mem.set a c }) (t : Nat) : Po g X st.mem s Val Q (.ref a) { s with heap := h', toks := t } :=
  let ⟨r, hn⟩ := hr.put k t ha hc; ⟨.ref a, _, rfl, r, .put k t ha, h a hn⟩

theorem r_tuple {elts : List Expr} {k : Nat} {pos : Pos} {Q : D → St → Prop} (h : Wp g Vals X st (Items elts pos X.env) (fun ds st1 => ds.length ≤ 1000 ∧ Q (.tup ds) st1) E) :
    Wp g Val X st (eval (.Tuple elts k pos) X.env) Q E := by
  intro s hr
  refine wpAny_Tuple ?_
  refine h.then hr .refl fun vs ds st1 s1 hv1 hr1 hx1 hy1 hq1 => ?_
  refine ⟨by have := hv1.length; have := hq1.1; rw [sizeLine_eq]; (first | lia | omega), ?_⟩
  have hp := push_keeps s1.heap (tupO vs.toArray 0)
  refine (Po.still hr1 hp (v := .ref s1.heap.objs.size) (d := .tup ds) ⟨_, vs.toArray, 0, rfl, Heap.get?_push_size _ rfl, ?_⟩ hq1.2 s1.toks).lift hx1
  exact Vals.keeps (fun b o e _ => hp b o e) _ _ hv1
theorem r_list {elts : List Expr} {pos : Pos} {Q : D → St → Prop} (h : Wp g Vals X st (Items elts pos X.env) (fun ds st1 => ds.length ≤ 1000 ∧ ∀ a, st1.mem a = none → Q (.ref a) { st1 with mem := st1.mem.set a (.list ds) }) E) :
    Wp g Val X st (eval (.List elts pos) X.env) Q E := by
  intro s hr
  refine wpAny_List ?_
  refine h.then hr .refl fun vs ds st1 s1 hv1 hr1 hx1 hy1 hq1 => ?_
  refine ⟨by have := hv1.length; have := hq1.1; rw [sizeLine_eq]; (first | lia | omega), ?_⟩
  have hp := push_keeps s1.heap (listO vs.toArray 0)
  refine (Po.cell (c := .list ds) hr1 hp (fresh_none _) ⟨vs.toArray, 0, Heap.get?_push_size _ rfl, ?_⟩ hq1.2 s1.toks).lift hx1
  exact Vals.keeps (fun b o e _ => hp b o e) _ _ hv1

/-! ### subscripts -/
theorem r_sub {value slice : Expr} {pos : Pos} {Q : D → St → Prop}
    (h : Wp g Val X st (eval value X.env) (fun d1 st1 => Wp g Val X st1 (eval slice X.env) (fun d2 st2 => W2 g Val X st2 (subscriptTail value slice) d1 d2 Q E) E) E) :
    Wp g Val X st (eval (.Subscript value slice pos) X.env) Q E := by
  intro s hr
  refine Subscript_ ?_
  refine h.then hr .refl fun v1 d1 st1 s1 hv1 hr1 hx1 hy1 hq1 => ?_
  refine hq1.then hr1 hx1 fun v2 d2 st2 s2 hv2 hr2 hx2 hy2 hq2 => ?_
  exact hq2.at (hr1.val hy2 hv1) hv2 hr2 hx2

noncomputable def notSlice : Expr → Bool
  | .Slice .. => false
  | _ => true
theorem subscripted_plain {slice : Expr} (h : notSlice slice = true) (o i : Value) : subscripted slice false o i = operate [o, i] (getItem o i) := by
  cases slice <;> first | rfl | exact Bool.noConfusion h

theorem s_tup {value slice : Expr} {ds : List D} {i : Int} {j : Nat} {d : D} {Q : D → St → Prop} (hj : seqIndex? i ds.length = some j) (hd : ds[j]? = some d) (h : Q d st)
    (hlo : autoParam (-(2 ^ 63) ≤ i) autoD._auto_1) (hhi : autoParam (i < 2 ^ 63) autoD._auto_1) (hs : autoParam (notSlice slice = true) autoR._auto_1) : W2 g Val X st (subscriptTail value slice) (.tup ds) (.int i) Q E := by
  rintro _ _ s ⟨a, vs, m, rfl, ho, hV⟩ ⟨u, rfl⟩ hr
  have ht : IsTup s.heap a vs := ⟨_, ho, rfl, m, rfl⟩
  have hlen : vs.size = ds.length := by rw [← hV.length]; simp
  obtain ⟨v, hv, hvv⟩ := hV.get hd
  refine tail_any ht.typeIs PySem.F.slot_tuple_getitem.lookup (getItem_tuple ht hlo hhi (by rw [hlen]; exact hj) (by simpa using hv) ?_) (subscripted_plain hs _ _)
  exact ⟨d, st, hvv, hr, .refl, h⟩

theorem IsL_of {h : Heap} {a : Addr} {vs : Array Value} {m : Nat} (ho : h.get? a = some (listO vs m)) : IsL h a vs m := ho
theorem cell_list (hr : Rep g X st s) {a : Addr} {ds : List D} (hm : st.mem a = some (.list ds)) : ∃ vs m, s.heap.get? a = some (listO vs m) ∧ Vals s.heap ds vs.toList := (hr.cells a _ hm).1

theorem s_list {value slice : Expr} {a : Addr} {ds : List D} {i : Int} {d : D} {Q : D → St → Prop} (hm : st.mem a = some (.list ds)) (h0 : 0 ≤ i) (hhi : i < 2 ^ 63) (hd : ds[i.toNat]? = some d) (h : Q d st)
    (hs : autoParam (notSlice slice = true) autoR._auto_1) : W2 g Val X st (subscriptTail value slice) (.ref a) (.int i) Q E := by
  rintro _ _ s rfl ⟨u, rfl⟩ hr
  refine hid fun PP9 kk9 => ?_
  obtain ⟨vs, m, ho, hV⟩ := cell_list hr hm
  obtain ⟨v, hv, hvv⟩ := hV.get hd
  refine kk9 ?_
  clear kk9 PP9
  have hl : s.heap.IsList a vs := (IsL_of ho).isList
  refine tail_any hl.typeIs slot_list_getitem.lookup (wpAny_getItem_list hl h0 hhi (by simpa using hv) ?_) (subscripted_plain hs _ _)
  exact ⟨d, st, hvv, hr, .refl, h⟩
theorem s_list_neg {value slice : Expr} {a : Addr} {ds : List D} {i : Int} {d : D} {Q : D → St → Prop} (hm : st.mem a = some (.list ds)) (h0 : i < 0) (hlo : -(2 ^ 63) ≤ i) (h1 : -(ds.length : Int) ≤ i)
    (hd : ds[(i + ds.length).toNat]? = some d) (h : Q d st) (hs : autoParam (notSlice slice = true) autoR._auto_1) : W2 g Val X st (subscriptTail value slice) (.ref a) (.int i) Q E := by
  rintro _ _ s rfl ⟨u, rfl⟩ hr
  refine hid fun PP9 kk9 => ?_
  obtain ⟨vs, m, ho, hV⟩ := cell_list hr hm
  obtain ⟨v, hv, hvv⟩ := hV.get hd
  refine kk9 ?_
  clear kk9 PP9
  have hlen : vs.size = ds.length := by rw [← hV.length]; simp
  have hl : s.heap.IsList a vs := (IsL_of ho).isList
  refine tail_any hl.typeIs slot_list_getitem.lookup (wpAny_getItem_list_neg hl h0 (by rw [hlen]; exact h1) hlo (by rw [hlen]; simpa using hv) ?_) (subscripted_plain hs _ _)
  exact ⟨d, st, hvv, hr, .refl, h⟩
theorem s_list_last {value slice : Expr} {a : Addr} {ds : List D} {d : D} {Q : D → St → Prop} (hm : st.mem a = some (.list ds)) (hd : ds.getLast? = some d) (h : Q d st) (hs : autoParam (notSlice slice = true) autoR._auto_1) :
    W2 g Val X st (subscriptTail value slice) (.ref a) (.int (-1)) Q E := by
  have hne : 0 < ds.length := by cases ds with | nil => cases hd | cons => simp
  refine s_list_neg hm (by decide) (by decide) (by (first | lia | omega)) ?_ h hs
  rw [List.getLast?_eq_getElem?] at hd
  rw [show ((-1 : Int) + ds.length).toNat = ds.length - 1 by (first | lia | omega)]
  exact hd

/-! ### setItem on a list -/
theorem setItem_front {prog : Program} {w : World} {A : Around} {E : Value → Shared → Prop} {s : Shared} {l : Addr} {items : Array Value} {i : Int} {k : Nat} {t : Tok} {m : Nat} {v : Value} {Q : Unit → Shared → Prop} (ho : s.heap.get? l = some (listO items m))
    (hfit : Builtin.List.listFitsIndex i = true) (hi : i = Int.ofNat k) (hlt : k < items.size)
    (hQ : Q () { s with heap := s.heap.update l (Obj.mapSeq (·.setIfInBounds k v)) }) : wpAny (model prog w) A (setItem (.ref l) (.int i t) v) Q E s := by
  have hl : s.heap.IsList l items := (IsL_of ho).isList
  have hget : items[k]? = some items[k] := Array.getElem?_eq_getElem hlt
  unfold setItem
  try with_reducible refine wpAny_holding ?_
  first | refine wpAny_bind (wpAny_pure ?_) | skip
  refine wpAny_bind (wpAny_sequenceKey hl.typeIs (by decide) ?_)
  refine wpAny_bind (wpAny_callSpecial?_slot (name := Str.ofString "__setitem__") hl.typeIs slot_list_setitem
    (wpAny_call_entry slot_list_setitem hl.typeIs entry_list_setitem ?_ (args_list_setitem _ _ _)))
  show wpAny _ _ (Builtin.List.listSubscript? (.int i t) >>= _) _ _ s
  refine wpAny_bind (wpAny_listSubscript_int hfit ?_)
  clear hfit
  subst hi
  show wpAny _ _ ((seqItemAt l k >>= fun r => pure (r.map (k, ·))) >>= _) _ _ s
  refine wpAny_bind (wpAny_bind (wpAny_seqItemAt ho rfl (wpAny_pure ?_)))
  rw [hget]
  show wpAny _ _ (setSeqItemAt l k v >>= _) _ _ s
  refine wpAny_bind (wpAny_setSeqItemAt ho rfl ?_)
  first
    | exact wpAny_bind (wpAny_pure (wpAny_pure ⟨.none, rfl, wpAny_pure hQ⟩))
    | exact wpAny_pure ⟨.none, rfl, wpAny_pure hQ⟩
theorem setItem_back {prog : Program} {w : World} {A : Around} {E : Value → Shared → Prop} {s : Shared} {l : Addr} {items : Array Value} {i : Int} {k : Nat} {t : Tok} {j m : Nat} {v : Value} {Q : Unit → Shared → Prop} (ho : s.heap.get? l = some (listO items m))
    (hfit : Builtin.List.listFitsIndex i = true) (hi : i = Int.negSucc k) (hj : seqIndex? (Int.negSucc k) items.size = some j) (hlt : j < items.size)
    (hQ : Q () { s with heap := s.heap.update l (Obj.mapSeq (·.setIfInBounds j v)) }) : wpAny (model prog w) A (setItem (.ref l) (.int i t) v) Q E s := by
  have hl : s.heap.IsList l items := (IsL_of ho).isList
  have hget : items[j]? = some items[j] := Array.getElem?_eq_getElem hlt
  unfold setItem
  try with_reducible refine wpAny_holding ?_
  first | refine wpAny_bind (wpAny_pure ?_) | skip
  refine wpAny_bind (wpAny_sequenceKey hl.typeIs (by decide) ?_)
  refine wpAny_bind (wpAny_callSpecial?_slot (name := Str.ofString "__setitem__") hl.typeIs slot_list_setitem
    (wpAny_call_entry slot_list_setitem hl.typeIs entry_list_setitem ?_ (args_list_setitem _ _ _)))
  show wpAny _ _ (Builtin.List.listSubscript? (.int i t) >>= _) _ _ s
  refine wpAny_bind (wpAny_listSubscript_int hfit ?_)
  clear hfit
  subst hi
  show wpAny _ _ ((Builtin.List.listItems (.ref l) >>= fun xs => pure ((seqIndex? (Int.negSucc k) xs.size).bind fun i => xs[i]?.map (i, ·))) >>= _) _ _ s
  refine wpAny_bind (wpAny_bind ?_)
  show wpAny _ _ (seqItems? (.ref l) >>= _) _ _ s
  refine wpAny_bind (wpAny_seqItems ho rfl (wpAny_pure (wpAny_pure ?_)))
  rw [hj]
  simp only [Option.bind_some, hget, Option.map_some]
  show wpAny _ _ (setSeqItemAt l j v >>= _) _ _ s
  refine wpAny_bind (wpAny_setSeqItemAt ho rfl ?_)
  first
    | exact wpAny_bind (wpAny_pure (wpAny_pure ⟨.none, rfl, wpAny_pure hQ⟩))
    | exact wpAny_pure ⟨.none, rfl, wpAny_pure hQ⟩

/-- a list's object changed -/
theorem Po.listed {R : Heap → β → α → Prop} {a : Addr} {ds ds' : List D} {vs ws : Array Value} {m : Nat} {f : Array Value → Array Value} {b : β} {r : α} {Q : β → St → Prop} (hX : FxOk X) (hr : Rep g X st s) (hm : st.mem a = some (.list ds))
    (ho : s.heap.get? a = some (listO vs m)) (hf : f vs = ws) (hV : Vals s.heap ds' ws.toList) (t : Nat) (hR : ∀ h', Keeps Still s.heap h' → R h' b r) (h : Q b { st with mem := st.mem.set a (.list ds') }) :
    Po g X st.mem s R Q r { s with heap := s.heap.update a (Obj.mapSeq f), toks := t } := by
  have hs : Heap.SameBut a s.heap (s.heap.update a (Obj.mapSeq f)) := Heap.SameBut.update ..
  have hnew := IsL.update (IsL_of ho) f
  refine ⟨b, _, ?_, hr.change hX hs t hm (c' := .list ds') fun k => ⟨_, _, hnew, ?_⟩, .change hr hs t hm ⟨_, hnew⟩, h⟩
  · obtain ⟨o', ho', hn⟩ := (hr.cells a _ hm).1.obj
    exact hR _ fun b o e q => (hs.2 b fun z => by subst z; rw [e] at ho'; cases ho'; exact hn q).trans e
  · rw [hf]; exact Vals.keeps k _ _ hV

theorem seq_lt {i : Int} {n j : Nat} (hj : seqIndex? i n = some j) : j < n := by
  simp only [seqIndex?, Bool.and_eq_true, decide_eq_true_eq, Option.ite_none_right_eq_some, Option.some.injEq] at hj
  split at hj <;> omega
theorem seq_nat {k n j : Nat} (hj : seqIndex? (Int.ofNat k) n = some j) : j = k := by
  simp only [seqIndex?, Int.ofNat_eq_natCast, Bool.and_eq_true, decide_eq_true_eq, Option.ite_none_right_eq_some, Option.some.injEq] at hj
  split at hj <;> (first | lia | omega)
theorem i_list_set {a : Addr} {ds : List D} {i : Int} {j : Nat} {d : D} {Q : Unit → St → Prop} (hX : FxOk X) (hm : st.mem a = some (.list ds)) (hlo : -(2 ^ 63) ≤ i) (hhi : i < 2 ^ 63) (hj : seqIndex? i ds.length = some j)
    (h : Q () { st with mem := st.mem.set a (.list (ds.set j d)) }) : W3 g UnitR X st setItem (.ref a) (.int i) d Q E := by
  rintro _ _ v s rfl ⟨u, rfl⟩ hv hr
  refine hid fun PP9 kk9 => ?_
  obtain ⟨vs, m, ho, hV⟩ := cell_list hr hm
  refine kk9 ?_
  clear kk9 PP9
  have hlen : vs.size = ds.length := by rw [← hV.length]; simp
  have hlt : j < vs.size := by
    rw [hlen]
    exact seq_lt hj
  have fin := fun (t : Nat) => Po.listed (R := UnitR) (b := ()) (r := ()) (Q := Q) (t := t) hX hr hm ho (f := (·.setIfInBounds j v)) (ds' := ds.set j d) rfl (by simpa using hV.set hv j) (fun _ _ => trivial) h
  rcases i with k | k
  · have hjk : j = k := seq_nat hj
    subst hjk
    exact setItem_front ho (fitsIndex_of (Int.natCast_nonneg _) hhi) rfl hlt (fin s.toks)
  · exact setItem_back ho (fitsIndex_neg (Int.negSucc_lt_zero _) hlo) rfl (by rw [hlen]; exact hj) hlt (fin s.toks)
end
end
section
/-! ## fields of objects -/
noncomputable def putF (x : Str) (d : D) : List (Str × D) → List (Str × D)
  | [] => [(x, d)]
  | (y, e) :: r => if y == x then (y, d) :: r else (y, e) :: putF x d r

theorem FieldsAt.find {h : Heap} {x : Str} : ∀ {es : List DictEntry} {fs : List (Str × D)}, FieldsAt h es fs →
    (∃ d e, fs.lookup x = some d ∧ es.find? (·.key.isStr x) = some e ∧ Val h d e.val) ∨ (fs.lookup x = none ∧ es.find? (·.key.isStr x) = none)
  | [], [], _ => .inr ⟨rfl, rfl⟩
  | e :: es, (y, d) :: fs, hq7 => by
    obtain ⟨⟨t, hk⟩, hv, hr⟩ := hq7
    simp only [List.lookup_cons, List.find?_cons, hk, Value.isStr]
    by_cases q : y = x
    · subst q
      simp only [beq_self_eq_true]
      exact .inl ⟨d, e, rfl, rfl, hv⟩
    · have q1 : (y == x) = false := beq_eq_false_iff_ne.mpr q
      have q2 : (x == y) = false := beq_eq_false_iff_ne.mpr (Ne.symm q)
      simp only [q1, q2]
      exact hr.find
theorem FieldsAt.noRef {h : Heap} : ∀ {es : List DictEntry} {fs : List (Str × D)}, FieldsAt h es fs → es.any (·.refKey) = false
  | [], [], _ => rfl
  | e :: es, (y, d) :: fs, hq7 => by
    obtain ⟨⟨t, hk⟩, hv, hr⟩ := hq7
    rw [List.any_cons, hr.noRef]; simp [DictEntry.refKey, hk]
theorem FieldsAt.get {h : Heap} {x : Str} {es : List DictEntry} {fs : List (Str × D)} {d : D} (F : FieldsAt h es fs) (hd : fs.lookup x = some d) : ∃ v, getL x es = some (some v) ∧ Val h d v := by
  rcases F.find (x := x) with ⟨d', e, h1, h2, h3⟩ | ⟨h1, _⟩
  · rw [hd] at h1; cases h1; exact ⟨e.val, by unfold getL; rw [h2], h3⟩
  · rw [hd] at h1; cases h1
theorem FieldsAt.miss {h : Heap} {x : Str} {es : List DictEntry} {fs : List (Str × D)} (F : FieldsAt h es fs) (hd : fs.lookup x = none) : getL x es = some none := by
  rcases F.find (x := x) with ⟨d', e, h1, h2, h3⟩ | ⟨_, h2⟩
  · rw [hd] at h1; cases h1
  · unfold getL; rw [h2, F.noRef]; rfl
theorem FieldsAt.any {h : Heap} {x : Str} {es : List DictEntry} {fs : List (Str × D)} (F : FieldsAt h es fs) : (getL x es).isSome = true := by
  rcases F.find (x := x) with ⟨d', e, h1, h2, h3⟩ | ⟨h1, _⟩
  · unfold getL; rw [h2]; rfl
  · rw [F.miss h1]; rfl
theorem FieldsAt.put {h : Heap} {x : Str} {hsh : Int} {t : Tok} {v : Value} {d : D} (hV : Val h d v) : ∀ {es : List DictEntry} {fs : List (Str × D)}, FieldsAt h es fs → FieldsAt h (putL x hsh (.str x t) v es) (putF x d fs)
  | [], [], _ => ⟨⟨t, rfl⟩, hV, trivial⟩
  | e :: es, (y, d') :: fs, hq7 => by
    obtain ⟨⟨u, hk⟩, hv, hr⟩ := hq7
    simp only [putL, putF, hk, Value.isStr]
    by_cases q : y = x
    · subst q
      simp only [beq_self_eq_true, if_true]
      exact ⟨⟨u, rfl⟩, hV, hr⟩
    · have q1 : (y == x) = false := beq_eq_false_iff_ne.mpr q
      simp only [q1, Bool.false_eq_true, if_false]
      exact ⟨⟨u, hk⟩, hv, hr.put hV⟩
theorem FieldsAt.length {h : Heap} : ∀ {es : List DictEntry} {fs : List (Str × D)}, FieldsAt h es fs → es.length = fs.length
  | [], [], _ => rfl
  | _ :: _, (_, _) :: _, hq7 => by obtain ⟨_, _, hr⟩ := hq7; simp [hr.length]
theorem putL_length (x : Str) (hsh : Int) (k v : Value) : ∀ es : List DictEntry, (putL x hsh k v es).length ≤ es.length + 1
  | [] => by simp [putL]
  | e :: r => by
    unfold putL; split
    · simp
    · have := putL_length x hsh k v r; simp; omega

noncomputable def D.plain : D → Bool
  | .bi _ => false
  | _ => true
theorem val_handed {h : Heap} {d : D} {v : Value} (hv : Val h d v) (hp : d.plain = true) : handedIn v = true := by
  cases d
  all_goals first | (subst hv; rfl) | (obtain ⟨_, rfl⟩ := hv; rfl) | (obtain ⟨_, rfl, _⟩ := hv; rfl) | (obtain ⟨_, _, _, rfl, _⟩ := hv; rfl) | (obtain ⟨_, _, _, _, rfl, _⟩ := hv; rfl) | cases hp

structure ClassOk (K : Frag) (C : Addr) : Prop where
  get : ∀ x, plainGet K C x = true
  has : hasDictIn K C = true
  over : plainOver K C = true
  set : findIn K (.ref C) "__setattr__" = some (some (.builtin "object.__setattr__"))

section
variable {α β : Type} {g : Gd} {X : Fx} {SC : Scope} {n : Nat} {st : St} {s : Shared} {σ : Mem} {E : EP}

theorem cell_dict (hr : Rep g X st s) {a : Addr} {fs : List (Str × D)} (hm : st.mem a = some (.dict fs)) : ∃ es m, s.heap.get? a = some (dictOf es m) ∧ FieldsAt s.heap es fs := (hr.cells a _ hm).1
theorem instAt {h : Heap} {a C d : Addr} {es : List DictEntry} {m : Nat} (ha : h.get? a = some (instObj C d)) (hd : h.get? d = some (dictOf es m)) : InstAt h a (instObj C d) C (some (dictOf es m)) := ⟨ha, rfl, rfl, hd⟩

theorem r_attr {value : Expr} {x : Str} {pos : Pos} {Q : D → St → Prop}
    (h : Wp g Val X st (eval value X.env) (fun d st1 => W1 g Val X st1 (fun v => getAttr v x true) d Q E) E)
    (he : autoParam (eval (.Attribute value x pos) X.env = (do
      let o ← eval value X.env
      standAt pos.atName
      let r ← holding [o] (getAttr o x true)
      letTemporaryGo value o r
      pure r)) autoU._auto_1) : Wp g Val X st (eval (.Attribute value x pos) X.env) Q E := by
  intro s hr
  refine Attribute_any_ ?_ he
  refine h.then hr .refl fun v1 d1 st1 s1 hv1 hr1 hx1 hy1 hq1 => ?_
  exact hq1.at hv1 hr1 hx1

theorem a_get {C d : Addr} {x : Str} {fs : List (Str × D)} {r : D} {Q : D → St → Prop} {b : Bool} (hA : At g X SC n) (hC : ClassOk g.K C) (hf : findIn g.K (.ref C) x = some none) (hm : st.mem d = some (.dict fs)) (hd : fs.lookup x = some r)
    (hp : r.plain = true) (h : Q r st) : W1 g Val X st (fun v => getAttr v x b) (.obj C d) Q E := by
  rintro _ s ⟨a, rfl, ha⟩ hr
  refine hid fun PP9 kk9 => ?_
  obtain ⟨es, m, ho, hF⟩ := cell_dict hr hm
  obtain ⟨v, hv, hV⟩ := hF.get hd
  refine kk9 ?_
  clear kk9 PP9
  have hK : g.K.In s.heap := hA.gok.inK.keeps hr.stays
  exact get_value hK (instAt ha ho) (plainGet_of (hC.get x)).1 (findObj_own hC.has hf rfl hv) (val_handed hV hp) (Po.now hr hV h _)

theorem setAttr_raw {prog : Program} {w : World} {A : Around} {E : Value → Shared → Prop} {s : Shared} {K : Frag} {a C d : Addr} {x : Str} {v : Value} {es : List DictEntry} {m : Nat} {Q : Unit → Shared → Prop} (hK : K.In s.heap) (hC : ClassOk K C)
    (ha : s.heap.get? a = some (instObj C d)) (hd : s.heap.get? d = some (dictOf es m)) (ht : takerIn K C x = some none) (hl : (getL x es).isSome = true) (hz : es.length ≤ 1000)
    (h : ∀ t, Q () { s with heap := s.heap.update d (Obj.putName x (PyData.keyHash w.params x) (.str x (s.toks + 1)) v), toks := t }) : wpAny (model prog w) A (setAttr (.ref a) x v) Q E s := by
  have I := instAt ha hd
  refine set_plain hK I hC.set (osa_open (s := { s with toks := s.toks + 1 }) hK I hC.over ht fun b => ?_)
  obtain ⟨cd, hc, hd'⟩ := any_some hC.has
  have e1 := putName_dict x (PyData.keyHash w.params x) (.str x (s.toks + 1)) v es m
  have hnew : (s.heap.update d (Obj.putName x (PyData.keyHash w.params x) (.str x (s.toks + 1)) v)).get? d = some (dictOf (putL x (PyData.keyHash w.params x) (.str x (s.toks + 1)) v es) (putN x es m)) := by
    rw [← e1]; exact Heap.get?_update_self _ hd (by rw [e1]; rfl)
  refine wpAny_bind (wpAny_pure (wpAny_bind (wpAny_bind (wpAny_loadPart ha (wpAny_bind (Looks.here (s := { s with toks := s.toks + 1 }) (looks_clsIn hK hc) ?_))))))
  rw [hd']
  refine wpAny_pure (a := some d) (wpAny_bind (wpAny_pure (wpAny_bind ?_)))
  unfold nsSet
  refine wpAny_bind (wpAny_bind (wpAny_askSetting (wpAny_pure (wpAny_bind (wpAny_mkText (wpAny_bind (wpAny_loadPart hd ?_)))))))
  have c : aRefKeyMayBeTheName x es.toArray = false := by
    rw [aRefKeyMayBeTheName_at]
    unfold getL at hl
    split at hl
    · rename_i en he
      rw [← Array.any_toList, List.any_eq_true.mpr ⟨en, List.mem_of_find?_eq_some he, List.find?_some he⟩]; rfl
    · split at hl
      · cases hl
      · rename_i z; rw [Bool.not_eq_true] at z; rw [← Array.any_toList, ← Array.any_toList, z, Bool.and_false]
  show wpAny _ _ (if aRefKeyMayBeTheName x es.toArray = true then _ else _) _ _ _
  rw [c, if_neg Bool.false_ne_true]
  refine wpAny_updatePart hd ?_
  refine wpAny_bind (wpAny_lookBehind hnew (pastItsLine_dict (by have := putL_length x (PyData.keyHash w.params x) (.str x (s.toks + 1)) v es; rw [List.size_toArray, sizeLine_eq]; (first | lia | omega))) ?_)
  exact wpAny_pure (h _)

theorem a_set {C d : Addr} {x : Str} {fs fs' : List (Str × D)} {r : D} {Q : Unit → St → Prop} (hA : At g X SC n) (hC : ClassOk g.K C) (ht : takerIn g.K C x = some none) (hm : st.mem d = some (.dict fs)) (e : putF x r fs = fs') (hz : fs.length ≤ 100)
    (h : Q () { st with mem := st.mem.set d (.dict fs') }) : W2 g UnitR X st (fun o v => setAttr o x v) (.obj C d) r Q E := by
  rintro _ v s ⟨a, rfl, ha⟩ hv hr
  refine hid fun PP9 kk9 => ?_
  obtain ⟨es, m, ho, hF⟩ := cell_dict hr hm
  refine kk9 ?_
  clear kk9 PP9
  have hK : g.K.In s.heap := hA.gok.inK.keeps hr.stays
  have hlen := hF.length
  refine setAttr_raw hK hC ha ho ht hF.any (by (first | lia | omega)) fun t => ?_
  have e1 := putName_dict x (PyData.keyHash g.w.params x) (.str x (s.toks + 1)) v es m
  have hs : Heap.SameBut d s.heap (s.heap.update d (Obj.putName x (PyData.keyHash g.w.params x) (.str x (s.toks + 1)) v)) := Heap.SameBut.update ..
  have hnew : (s.heap.update d (Obj.putName x (PyData.keyHash g.w.params x) (.str x (s.toks + 1)) v)).get? d = some (dictOf (putL x (PyData.keyHash g.w.params x) (.str x (s.toks + 1)) v es) (putN x es m)) := by
    rw [← e1]; exact Heap.get?_update_self _ ho (by rw [e1]; rfl)
  exact ⟨(), _, trivial, hr.change hA.fx hs t hm (c' := .dict fs') fun k => ⟨_, _, hnew, e ▸ FieldsAt.put (Val.keeps k _ _ hv) (hF.keeps k)⟩, .change hr hs t hm ⟨_, hnew⟩, h⟩
end
end
section
/-! ### a tuple's end from a place on -/
section
variable {prog : Program} {w : World} {A : Around} {E : Value → Shared → Prop} {s : Shared}
theorem sliceApplied_low {sl : Addr} {i : Int} {a n : Nat} {u : Tok} {Q : Int × Int × Nat → Shared → Prop} (hs : s.heap.IsSliceOf sl (.int i u) .none .none)
    (hadj : Builtin.Slice.sliceAdjust (some i) none 1 (n : Int) = ((a : Int), (n : Int))) (ha : a ≤ n) (h : Q ((a : Int), 1, n - a) s) :
    wpAny (model prog w) A (Builtin.Slice.sliceApplied (.ref sl) (pure (n : Int))) Q E s := by
  refine hid fun PP9 kk9 => ?_
  obtain ⟨os, hos, hcs, hds⟩ := id hs
  refine kk9 ?_
  clear kk9 PP9
  unfold Builtin.Slice.sliceApplied Builtin.Slice.sliceFields
  refine wpAny_bind (wpAny_bind (wpAny_field hos hds (x := .int i u) rfl (wpAny_bind (wpAny_field hos hds (x := .none) rfl (wpAny_bind (wpAny_field hos hds (x := .none) rfl (wpAny_pure ?_)))))))
  refine wpAny_bind (slicePart_none ?_)
  show wpAny _ _ (if ((1 : Int) == 0) = true then _ else _) _ _ s
  rw [if_neg (by decide)]
  refine wpAny_bind (slicePart_int (wpAny_bind (slicePart_none (wpAny_bind (wpAny_pure ?_)))))
  show wpAny _ _ (match Builtin.Slice.sliceAdjust (some i) none 1 (n : Int) with | (lo, hi) => pure (lo, (1 : Int), Builtin.Slice.slicePlaces lo hi 1)) _ _ s
  rw [hadj]
  show wpAny _ _ (pure ((a : Int), (1 : Int), Builtin.Slice.slicePlaces (a : Int) (n : Int) 1)) _ _ s
  rw [places_from a n ha]
  exact wpAny_pure h
theorem getItem_tuple_low {t sl : Addr} {items : Array Value} {i : Int} {a : Nat} {u : Tok} {Q : Value → Shared → Prop} (ht : IsTup s.heap t items) (hs : s.heap.IsSliceOf sl (.int i u) .none .none)
    (hadj : Builtin.Slice.sliceAdjust (some i) none 1 (items.size : Int) = ((a : Int), (items.size : Int))) (h1 : 1 ≤ a) (ha : a ≤ items.size)
    (h : Q (.ref s.heap.objs.size) { s with heap := s.heap.push { cls := .type "tuple", data := .seq (items.toList.drop a).toArray } })
    (hsz : items.size ≤ sizeLine) : wpAny (model prog w) A (getItem (.ref t) (.ref sl)) Q E s := by
  have hdrop : sizeOk (.seq (items.toList.drop a).toArray) := by
    show (items.toList.drop a).toArray.size ≤ sizeLine
    rw [List.size_toArray, List.length_drop, Array.length_toList]
    (first | lia | omega)
  refine hid fun PP9 kk9 => ?_
  obtain ⟨os, hos, hcs, hds⟩ := id hs
  refine kk9 ?_
  clear kk9 PP9
  have hTs : s.TypeIs (.ref sl) "slice" := ⟨os, hos, hcs⟩
  unfold getItem
  try with_reducible refine wpAny_holding ?_
  first | refine wpAny_bind (wpAny_pure ?_) | skip
  refine wpAny_bind (wpAny_sequenceKey ht.typeIs (by decide) ?_)
  refine wpAny_bind (wpAny_callSpecial?_slot (name := Str.ofString "__getitem__") ht.typeIs PySem.F.slot_tuple_getitem
    (wpAny_call_entry PySem.F.slot_tuple_getitem ht.typeIs PySem.F.entry_tuple_getitem ?_ (args_tuple_getitem _ _)))
  show wpAny _ _ (Builtin.Tuple.tupleItemsOf (.ref t) >>= _) _ _ s
  refine wpAny_bind (tupleItemsOf_ ht ?_)
  refine wpAny_bind (wpAny_typeOf hTs ?_)
  rw [if_pos (by decide)]
  refine wpAny_bind (sliceApplied_low hs hadj ha ?_)
  have hno : ¬ (((a : Int) == 0 && (1 : Int) == 1 && (items.size - a) == items.size) = true) := by
    have : ((a : Int) == 0) = false := by rw [beq_eq_false_iff_ne]; (first | lia | omega)
    rw [this]; simp
  show wpAny _ _ (if ((a : Int) == 0 && (1 : Int) == 1 && (items.size - a) == items.size) = true then _ else _) _ _ s
  rw [if_neg hno, pick_from items a ha]
  first
    | exact wpAny_bind (m := Builtin.Tuple.tupleExact _) (wpAny_newObj_type (wpAny_pure ⟨_, rfl, wpAny_pure h⟩) hdrop)
    | exact wpAny_bind (m := Builtin.Tuple.tupleExact _) (wpAny_newObj_type (wpAny_bind (wpAny_pure (wpAny_pure ⟨_, rfl, wpAny_pure h⟩))) hdrop)
    | exact wpAny_bind (wpAny_bind (m := Builtin.Tuple.tupleExact _) (wpAny_newObj_type (wpAny_pure (wpAny_pure ⟨_, rfl, wpAny_pure h⟩)) hdrop))
    | exact wpAny_bind (wpAny_bind (m := Builtin.Tuple.tupleExact _) (wpAny_newObj_type (wpAny_pure ⟨_, rfl, wpAny_pure h⟩) hdrop))
theorem adjust_low {i : Int} {n : Nat} : Builtin.Slice.sliceAdjust (some i) none 1 (n : Int) = (((max 0 (min (if i < 0 then i + n else i) (n : Int))).toNat : Int), (n : Int)) := by
  unfold Builtin.Slice.sliceAdjust
  have h1 : ¬ ((1 : Int) < 0) := by (first | lia | omega)
  simp only [h1, if_false]
  congr 1
  split <;> (first | lia | omega)
end

section
variable {α β : Type} {g : Gd} {X : Fx} {SC : Scope} {n : Nat} {st : St} {s : Shared} {σ : Mem} {E : EP}

/-! ### slices -/
noncomputable def PartD : D → Option Int → Prop
  | .none, p => p = none
  | .int i, p => p = some i
  | .bool _, _ => False
  | .str _, _ => False
  | .bytes _, _ => False
  | .tup _, _ => False
  | .ref _, _ => False
  | .obj _ _, _ => False
  | .rng _ _ _, _ => False
  | .ty _, _ => False
  | .bi _, _ => False
theorem PartD.at {h : Heap} {d : D} {p : Option Int} {v : Value} (x : PartD d p) (hv : Val h d v) : IsPart v p := by
  cases d <;> simp only [PartD] at x
  · cases hv; subst x; exact .none
  · obtain ⟨t, rfl⟩ := hv; subst x; exact .int _ t
noncomputable abbrev Part (e : Option Expr) (X : Fx) : Sem Value := evalPart e X.env
theorem r_part_none {Q : D → St → Prop} (h : Q .none st) : Wp g Val X st (Part none X) Q E := fun s hr => wpAny_evalPart_none ⟨.none, st, rfl, hr, .refl, h⟩
theorem r_part_some {e : Expr} {Q : D → St → Prop} (h : Wp g Val X st (eval e X.env) Q E) : Wp g Val X st (Part (some e) X) Q E := fun s hr => wpAny_evalPart_some (h s hr)

noncomputable def cutD (ds : List D) (lo hi : Option Int) : List D := (ds.drop (lo.elim 0 (clipAt ds.length))).take (hi.elim ds.length (clipAt ds.length) - lo.elim 0 (clipAt ds.length))
theorem Vals.cut {h : Heap} {ds : List D} {vs : Array Value} (hV : Vals h ds vs.toList) (lo hi : Option Int) : Vals h (cutD ds lo hi) (slicePick vs lo hi none).toList := by
  rw [slicePick_plain]
  have hlen : vs.size = ds.length := by rw [← hV.length]; simp
  rw [hlen]
  exact (hV.drop _).take _

theorem r_slice_list {value : Expr} {lo hi : Option Expr} {p pos : Pos} {Q : D → St → Prop}
    (h : Wp g Val X st (eval value X.env) (fun d st1 => Wp g Val X st1 (Part lo X) (fun l st2 => Wp g Val X st2 (Part hi X) (fun u st3 => ∃ a ds lo' hi', d = .ref a ∧ st3.mem a = some (.list ds) ∧ ds.length ≤ 1000000 ∧ PartD l lo' ∧ PartD u hi' ∧
      ∀ b, st3.mem b = none → Q (.ref b) { st3 with mem := st3.mem.set b (.list (cutD ds lo' hi')) }) E) E) E) :
    Wp g Val X st (eval (.Subscript value (.Slice lo hi none p) pos) X.env) Q E := by
  intro s hr
  refine Subscript_ ?_
  refine h.then hr .refl fun v1 d1 st1 s1 hv1 hr1 hx1 hy1 hq1 => ?_
  refine wpAny_Slice ?_
  refine hq1.then hr1 hx1 fun v2 d2 st2 s2 hv2 hr2 hx2 hy2 hq2 => ?_
  refine hq2.then hr2 hx2 fun v3 d3 st3 s3 hv3 hr3 hx3 hy3 hq3 => ?_
  refine wpAny_evalPart_none ?_
  obtain ⟨a, ds, lo', hi', rfl, hm, hsz, pl, pu, hq⟩ := hq3
  cases hv1
  refine hid fun PP9 kk9 => ?_
  obtain ⟨vs, m, ho, hV⟩ := cell_list hr3 hm
  refine kk9 ?_
  clear kk9 PP9
  have hlen : vs.size = ds.length := by rw [← hV.length]; simp
  let s4 : Shared := { s3 with heap := s3.heap.push { cls := .type "slice", data := .fields #[v2, v3, .none] } }
  have hp4 := push_keeps s3.heap { cls := .type "slice", data := .fields #[v2, v3, .none] }
  have hl : s4.heap.IsList a vs := (IsL_of (hp4 _ _ ho)).isList
  have hs4 : s4.heap.IsSliceOf s3.heap.objs.size v2 v3 .none := Heap.IsSliceOf.new ..
  have hr4 : Rep g X st3 s4 := hr3.all hp4 s3.toks
  have hx4 : Ext X st.mem s st3.mem s4 := hx3.trans (.all hp4 s3.toks)
  refine tail_any (s := s4) (T := "list") (id := "list.__getitem__") (ops := [.ref s3.heap.objs.size, .ref a]) hl.typeIs slot_list_getitem.lookup (wpAny_getItem_list_slice hl hs4 (pl.at (hr2.val hy3 hv2)) (pu.at hv3) .none (by simp) ?_ (by rw [hlen, sizeLine_eq]; (first | lia | omega))) rfl
  have hp5 := push_keeps s4.heap (listO (slicePick vs lo' hi' none) 0)
  refine (Po.cell (c := .list (cutD ds lo' hi')) hr4 hp5 (fresh_none _) ⟨slicePick vs lo' hi' none, 0, Heap.get?_push_size _ rfl, ?_⟩ hq s3.toks).lift hx4
  exact Vals.keeps (fun b o e _ => hp5 b o (hp4 b o e)) _ _ (hV.cut _ _)

theorem r_slice_rev {value st' : Expr} {p pos : Pos} {Q : D → St → Prop}
    (h : Wp g Val X st (eval value X.env) (fun d st1 => Wp g Val X st1 (eval st' X.env) (fun u st3 => ∃ a ds, d = .ref a ∧ u = .int (-1) ∧ st3.mem a = some (.list ds) ∧ ds.length ≤ 1000000 ∧
      ∀ b, st3.mem b = none → Q (.ref b) { st3 with mem := st3.mem.set b (.list ds.reverse) }) E) E) :
    Wp g Val X st (eval (.Subscript value (.Slice none none (some st') p) pos) X.env) Q E := by
  intro s hr
  refine Subscript_ ?_
  refine h.then hr .refl fun v1 d1 st1 s1 hv1 hr1 hx1 hy1 hq1 => ?_
  refine wpAny_Slice (wpAny_evalPart_none (wpAny_evalPart_none (wpAny_evalPart_some ?_)))
  refine hq1.then hr1 hx1 fun v3 d3 st3 s3 hv3 hr3 hx3 hy3 hq3 => ?_
  obtain ⟨a, ds, rfl, rfl, hm, hsz, hq⟩ := hq3
  cases hv1
  refine hid fun PP9 kk9 => ?_
  obtain ⟨t, rfl⟩ := hv3
  obtain ⟨vs, m, ho, hV⟩ := cell_list hr3 hm
  refine kk9 ?_
  clear kk9 PP9
  have hlen : vs.size = ds.length := by rw [← hV.length]; simp
  let s4 : Shared := { s3 with heap := s3.heap.push { cls := .type "slice", data := .fields #[.none, .none, .int (-1) t] } }
  have hp4 := push_keeps s3.heap { cls := .type "slice", data := .fields #[.none, .none, .int (-1) t] }
  have hl : s4.heap.IsList a vs := (IsL_of (hp4 _ _ ho)).isList
  have hs4 : s4.heap.IsSliceOf s3.heap.objs.size .none .none (.int (-1) t) := Heap.IsSliceOf.new ..
  have hr4 : Rep g X st3 s4 := hr3.all hp4 s3.toks
  have hx4 : Ext X st.mem s st3.mem s4 := hx3.trans (.all hp4 s3.toks)
  refine tail_any (s := s4) (T := "list") (id := "list.__getitem__") (ops := [.ref a, .ref s3.heap.objs.size]) hl.typeIs slot_list_getitem.lookup (wpAny_getItem_list_slice hl hs4 .none .none (.int _ t) (by simp) ?_ (by rw [hlen, sizeLine_eq]; (first | lia | omega))) rfl
  have hp5 := push_keeps s4.heap (listO (slicePick vs none none (some (-1))) 0)
  refine (Po.cell (c := .list ds.reverse) hr4 hp5 (fresh_none _) ⟨slicePick vs none none (some (-1)), 0, Heap.get?_push_size _ rfl, ?_⟩ hq s3.toks).lift hx4
  have := Vals.keeps (h' := s4.heap.push (listO (slicePick vs none none (some (-1))) 0)) (fun b o e _ => hp5 b o (hp4 b o e)) _ _ hV.reverse
  rw [krv_pick] at this ⊢
  exact this

theorem r_slice_tup {value lo : Expr} {p pos : Pos} {Q : D → St → Prop}
    (h : Wp g Val X st (eval value X.env) (fun d st1 => Wp g Val X st1 (eval lo X.env) (fun l st2 => ∃ ds i, d = .tup ds ∧ l = .int i ∧ 1 ≤ (max 0 (min (if i < 0 then i + ds.length else i) (ds.length : Int))).toNat ∧ ds.length ≤ 1000 ∧
      Q (.tup (ds.drop (max 0 (min (if i < 0 then i + ds.length else i) (ds.length : Int))).toNat)) st2) E) E) :
    Wp g Val X st (eval (.Subscript value (.Slice (some lo) none none p) pos) X.env) Q E := by
  intro s hr
  refine Subscript_ ?_
  refine h.then hr .refl fun v1 d1 st1 s1 hv1 hr1 hx1 hy1 hq1 => ?_
  refine wpAny_Slice (wpAny_evalPart_some ?_)
  refine hq1.then hr1 hx1 fun v3 d3 st3 s3 hv3 hr3 hx3 hy3 hq3 => ?_
  refine wpAny_evalPart_none (wpAny_evalPart_none ?_)
  refine hid fun PP9 kk9 => ?_
  obtain ⟨ds, i, rfl, rfl, h1, hsz, hq⟩ := hq3
  obtain ⟨a, vs, m, rfl, ho, hV⟩ := hr1.val hy3 hv1
  obtain ⟨t, rfl⟩ := hv3
  refine kk9 ?_
  clear kk9 PP9
  have hlen : vs.size = ds.length := by rw [← hV.length]; simp
  let s4 : Shared := { s3 with heap := s3.heap.push { cls := .type "slice", data := .fields #[.int i t, .none, .none] } }
  have hp4 := push_keeps s3.heap { cls := .type "slice", data := .fields #[.int i t, .none, .none] }
  have ht : IsTup s4.heap a vs := ⟨_, hp4 _ _ ho, rfl, m, rfl⟩
  have hs4 : s4.heap.IsSliceOf s3.heap.objs.size (.int i t) .none .none := Heap.IsSliceOf.new ..
  have hr4 : Rep g X st3 s4 := hr3.all hp4 s3.toks
  have hx4 : Ext X st.mem s st3.mem s4 := hx3.trans (.all hp4 s3.toks)
  have hk : (max 0 (min (if i < 0 then i + vs.size else i) (vs.size : Int))).toNat = (max 0 (min (if i < 0 then i + ds.length else i) (ds.length : Int))).toNat := by rw [hlen]
  refine tail_any (s := s4) (T := "tuple") (id := "tuple.__getitem__") (ops := [.ref s3.heap.objs.size, .ref a]) ht.typeIs PySem.F.slot_tuple_getitem.lookup (getItem_tuple_low ht hs4 adjust_low (by rw [hk]; exact h1) (by omega) ?_ (by rw [hlen, sizeLine_eq]; omega)) rfl
  have hp5 := push_keeps s4.heap (tupO (vs.toList.drop (max 0 (min (if i < 0 then i + vs.size else i) (vs.size : Int))).toNat).toArray 0)
  refine (Po.still (d := .tup _) hr4 hp5 ⟨_, _, 0, rfl, Heap.get?_push_size _ rfl, ?_⟩ hq s3.toks).lift hx4
  have := Vals.keeps (fun b o e _ => hp5 b o (hp4 b o e)) _ _ (hV.drop (max 0 (min (if i < 0 then i + vs.size else i) (vs.size : Int))).toNat)
  rw [← hk]
  exact this

/-! ### + on lists and tuples -/
theorem o_addL {a b : Addr} {ds es : List D} {Q : D → St → Prop} (ha : st.mem a = some (.list ds)) (hb : st.mem b = some (.list es)) (hsz : ds.length + es.length ≤ 1000000)
    (h : ∀ c, st.mem c = none → Q (.ref c) { st with mem := st.mem.set c (.list (ds ++ es)) }) : W2 g Val X st (binaryOp .Add) (.ref a) (.ref b) Q E := by
  rintro _ _ s rfl rfl hr
  refine hid fun PP9 kk9 => ?_
  obtain ⟨vs, m, ho, hV⟩ := cell_list hr ha
  obtain ⟨ws, m2, ho2, hW⟩ := cell_list hr hb
  refine kk9 ?_
  clear kk9 PP9
  have hlen : vs.size = ds.length := by rw [← hV.length]; simp
  have hlen2 : ws.size = es.length := by rw [← hW.length]; simp
  refine PySem.P.add_list (IsL_of ho) (IsL_of ho2) ?_ (by rw [hlen, hlen2, sizeLine_eq]; (first | lia | omega))
  have hp := push_keeps s.heap (listO (vs ++ ws) 0)
  refine Po.cell (c := .list (ds ++ es)) hr hp (fresh_none _) ⟨vs ++ ws, 0, Heap.get?_push_size _ rfl, ?_⟩ h s.toks
  rw [Array.toList_append]
  exact Vals.keeps (fun b o e _ => hp b o e) _ _ (hV.append hW)
theorem o_addT {ds es : List D} {Q : D → St → Prop} (hsz : ds.length + es.length ≤ 1000) (h : Q (.tup (ds ++ es)) st) : W2 g Val X st (binaryOp .Add) (.tup ds) (.tup es) Q E := by
  rintro _ _ s ⟨a, vs, m, rfl, ho, hV⟩ ⟨b, ws, m2, rfl, ho2, hW⟩ hr
  have hlen : vs.size = ds.length := by rw [← hV.length]; simp
  have hlen2 : ws.size = es.length := by rw [← hW.length]; simp
  by_cases h0 : vs.isEmpty = true
  · have hd : ds = [] := by rw [Array.isEmpty_iff_size_eq_zero] at h0; cases ds with | nil => rfl | cons => simp [h0] at hlen
    subst hd
    refine concat_meets ⟨_, ho, rfl⟩ ⟨_, ho2, rfl⟩ PySem.noFill_tuple_add PySem.seq_tuple_add PySem.F.slot_tuple_add PySem.F.entry_tuple_add (PySem.F.args_tuple_add_2 _ _)
      (tuple_addW0 a b vs ws m m2 none none #[] #[] h0) ⟨ho, ho2, ?_⟩
    exact ⟨.tup es, st, ⟨b, ws, m2, rfl, ho2, hW⟩, hr, .refl, h⟩
  · by_cases h1 : ws.isEmpty = true
    · have hd : es = [] := by rw [Array.isEmpty_iff_size_eq_zero] at h1; cases es with | nil => rfl | cons => simp [h1] at hlen2
      subst hd
      rw [List.append_nil] at h
      refine concat_meets ⟨_, ho, rfl⟩ ⟨_, ho2, rfl⟩ PySem.noFill_tuple_add PySem.seq_tuple_add PySem.F.slot_tuple_add PySem.F.entry_tuple_add (PySem.F.args_tuple_add_2 _ _)
        (tuple_addW1 a b vs ws m m2 none none #[] #[] h0 h1) ⟨ho, ho2, ?_⟩
      exact ⟨.tup ds, st, ⟨a, vs, m, rfl, ho, hV⟩, hr, .refl, h⟩
    · refine PySem.P.add_tuple ho ho2 h0 h1 ?_ (by rw [hlen, hlen2, sizeLine_eq]; (first | lia | omega))
      have hp := push_keeps s.heap (tupO (vs ++ ws) 0)
      refine Po.still hr hp (d := .tup (ds ++ es)) ⟨_, _, 0, rfl, Heap.get?_push_size _ rfl, ?_⟩ h s.toks
      rw [Array.toList_append]
      exact Vals.keeps (fun b o e _ => hp b o e) _ _ (hV.append hW)
end
end
section
section
variable {α β : Type} {g : Gd} {X : Fx} {SC : Scope} {n : Nat} {st : St} {s : Shared} {σ : Mem} {E : EP}

/-! ### calls -/
noncomputable def WCall (g : Gd) (X : Fx) (st : St) (d : D) (ds : List D) (Q : D → St → Prop) (E : EP) : Prop :=
  ∀ f vs s, Val s.heap d f → Vals s.heap ds vs → Rep g X st s → wpAny g.M X.A (call f vs) (Po g X st.mem s Val Q) (Ee g X st.mem s E) s

noncomputable def CalleeOk (g : Gd) : D → Prop
  | .ref a => keepIn g.K (.ref a) = true
  | .ty _ => True
  | .bi _ => True
  | _ => False
theorem CalleeOk.keeper {d : D} {f : Value} {h : Heap} (c : CalleeOk g d) (hv : Val h d f) {M : Model} : ∀ h, g.K.In h → ∃ k, (k = Keeper.frame ∨ k = Keeper.machine ∨ k = Keeper.boundFrame) ∧ Looks M h (keeperOf f) k := by
  cases d <;> first | cases c | skip
  · cases hv; exact keeps_K c
  · cases hv; exact fun h _ => ⟨.machine, .inr (.inl rfl), Looks.of_pure rfl⟩
  · cases hv; exact fun h _ => ⟨.machine, .inr (.inl rfl), Looks.of_pure rfl⟩

theorem backTo_nil (pos : Pos) (env : Env) : backTo pos (starEach [] env) = [] := rfl
theorem callWith_items {f : Value} {first : List Value} {args : List Expr} {pos : Pos} {P : Value → Shared → Prop} {Er : Value → Shared → Prop}
    (hk : ∀ h, g.K.In h → ∃ k, (k = Keeper.frame ∨ k = Keeper.machine ∨ k = Keeper.boundFrame) ∧ Looks g.M h (keeperOf f) k)
    (h : wpAny g.M X.A (Items args pos X.env) (fun vs s₁ => g.K.In s₁.heap ∧ wpAny g.M X.A (call f (first ++ vs)) P Er s₁) Er s) (hplain : (backTo pos (starEach args X.env)).any (·.1) = false) :
    wpAny g.M X.A (callWith pos f first (backTo pos (starEach args X.env)) []) P Er s := by
  refine callWith_of (keywords := []) (by rw [hplain]; rfl) hk ?_
  unfold Items at h
  revert h hplain
  cases backTo pos (starEach args X.env) with
  | nil =>
    intro h _
    unfold evalArgs
    show wpAny _ _ (spliced [] >>= _) _ _ s
    refine wpAny_bind (wpAny_mono h (fun vs s' h' => wpAny_bind (wpAny_pure ?_)) fun _ _ x => x)
    refine wpAny_holding ?_
    simp only [List.append_nil]
    exact wpAny_bind (wpAny_pure (wpAny_bind (wpAny_pure (wpAny_pure h'))))
  | cons x rest =>
    obtain ⟨b, t⟩ := x
    intro h hplain
    cases b with
    | true => simp at hplain
    | false => exact Calls.evalArgs_plain h

theorem r_call {x : Str} {args : List Expr} {np pos : Pos} {d : D} {Q : D → St → Prop} (hA : At g X SC n) (hg : GlobIs g x d) (hc : CalleeOk g d)
    (h : Wp g Vals X st (Items args pos X.env) (fun ds st1 => WCall g X st1 d ds Q E) E)
    (hk : autoParam (SC.names.lookup x = some .globalImplicit) autoD._auto_1) (hx : autoParam ((x == ("__debug__" : Str)) = false) autoD._auto_1) (hplain : autoParam ((backTo pos (starEach args X.env)).any (·.1) = false) autoR._auto_1) :
    Wp g Val X st (eval (.Call (.Name x np) args [] pos) X.env) Q E := by
  intro s hr
  refine wpAny_Call_NameR ?_
  have r1 : Wp g Val X st (eval (.Name x np) X.env) (fun d' st' => d' = d ∧ st' = st) E := r_glob hA hg ⟨rfl, rfl⟩ hk hx
  refine r1.then hr .refl fun v1 d1 st1 s1 hv1 hr1 hx1 hy1 hq1 => ?_
  obtain ⟨rfl, rfl⟩ := hq1
  refine callWith_items (hc.keeper hv1) ?_ hplain
  refine h.then hr1 hx1 fun vs ds st2 s2 hv2 hr2 hx2 hy2 hq2 => ⟨hA.gok.inK.keeps hr2.stays, ?_⟩
  exact wpAny_mono (hq2 _ _ s2 (hr1.val hy2 hv1) hv2 hr2) (fun _ _ hp => hp.lift hx2) fun _ _ he => he.lift hx2

structure MethIs (g : Gd) (C : Addr) (x : Str) (f : Addr) : Prop where
  get : plainGet g.K C x = true
  find : findIn g.K (.ref C) x = some (some (.ref f))
  fn : isFn g.K (.ref f) = true
  keep : keepIn g.K (.ref f) = true

theorem r_meth {o : Expr} {x : Str} {args : List Expr} {apos pos : Pos} {pl : Sem Bool} {Q : D → St → Prop} (hA : At g X SC n)
    (h : Wp g Val X st (eval o X.env) (fun d st1 => ∃ C dd fs f, d = .obj C dd ∧ st1.mem dd = some (.dict fs) ∧ fs.lookup x = none ∧ MethIs g C x f ∧
      Wp g Vals X st1 (Items args pos X.env) (fun ds st2 => WCall g X st2 (.ref f) (d :: ds) Q E) E) E)
    (he : autoParam (eval (.Call (.Attribute o x apos) args [] pos) X.env = (do
      let ov ← eval o X.env
      standAt apos.atName
      let (f, first) ← holding [ov] (getMethod ov x pl)
      callWith pos f first (backTo pos (starEach args X.env)) [])) autoR._auto_1) (hplain : autoParam ((backTo pos (starEach args X.env)).any (·.1) = false) autoR._auto_1) :
    Wp g Val X st (eval (.Call (.Attribute o x apos) args [] pos) X.env) Q E := by
  intro s hr
  refine MethodCall_ (pl := pl) ?_ he
  refine h.then hr .refl fun v1 d1 st1 s1 hv1 hr1 hx1 hy1 hq1 => ?_
  refine hid fun PP9 kk9 => ?_
  obtain ⟨C, dd, fs, f, rfl, hm, hl, hM, hq⟩ := hq1
  obtain ⟨a, rfl, ha⟩ := hv1
  obtain ⟨es, m, ho, hF⟩ := cell_dict hr1 hm
  refine kk9 ?_
  clear kk9 PP9
  have hK := hA.gok.inK.keeps hr1.stays
  refine method_fn hK (instAt ha ho) (plainGet_of hM.get).1 (plainGet_of hM.get).2 hM.find (beq_iff_eq.mp hM.fn) (by show (lookIn x (dictOf es m)).map _ = _; rw [lookIn_dict, hF.miss hl]; rfl) ?_
  refine callWith_items (f := .ref f) (first := [.ref a]) (CalleeOk.keeper (g := g) (d := .ref f) hM.keep (h := s1.heap) rfl) ?_ hplain
  refine hq.then hr1 hx1 fun vs ds st2 s2 hv2 hr2 hx2 hy2 hq2 => ⟨hA.gok.inK.keeps hr2.stays, ?_⟩
  have hv1' : Val s2.heap (.obj C dd) (.ref a) := hr1.val hy2 ⟨a, rfl, ha⟩
  exact wpAny_mono (hq2 (.ref f) (.ref a :: vs) s2 rfl ⟨_, _, rfl, hv1', hv2⟩ hr2) (fun _ _ hp => hp.lift hx2) fun _ _ he => he.lift hx2

theorem r_lmeth {o : Expr} {x : Str} {id : String} {args : List Expr} {apos pos : Pos} {pl : Sem Bool} {Q : D → St → Prop} (hA : At g X SC n)
    (pa : PlainAttrs "list") (slot : Slot "list" x id) (hty : typeOf (.builtin id) = pure (.type "method_descriptor"))
    (h : Wp g Val X st (eval o X.env) (fun d st1 => ∃ a ds0, d = .ref a ∧ st1.mem a = some (.list ds0) ∧
      Wp g Vals X st1 (Items args pos X.env) (fun ds st2 => WCall g X st2 (.bi id) (d :: ds) Q E) E) E)
    (he : autoParam (eval (.Call (.Attribute o x apos) args [] pos) X.env = (do
      let ov ← eval o X.env
      standAt apos.atName
      let (f, first) ← holding [ov] (getMethod ov x pl)
      callWith pos f first (backTo pos (starEach args X.env)) [])) autoR._auto_1) (hplain : autoParam ((backTo pos (starEach args X.env)).any (·.1) = false) autoR._auto_1) :
    Wp g Val X st (eval (.Call (.Attribute o x apos) args [] pos) X.env) Q E := by
  intro s hr
  refine MethodCall_ (pl := pl) ?_ he
  refine h.then hr .refl fun v1 d1 st1 s1 hv1 hr1 hx1 hy1 hq1 => ?_
  obtain ⟨a, ds0, rfl, hm, hq⟩ := hq1
  cases hv1
  refine hid fun PP9 kk9 => ?_
  obtain ⟨vs0, m, ho, hV⟩ := cell_list hr1 hm
  refine kk9 ?_
  clear kk9 PP9
  have hl : s1.heap.IsList a vs0 := (IsL_of ho).isList
  refine getMethod_builtin hl.typeIs pa slot hty (fun b e => by cases e; exact ⟨_, ho, rfl⟩) ?_
  refine callWith_items (f := .builtin id) (first := [.ref a]) (CalleeOk.keeper (g := g) (d := .bi id) trivial (h := s1.heap) rfl) ?_ hplain
  refine hq.then hr1 hx1 fun vs ds st2 s2 hv2 hr2 hx2 hy2 hq2 => ⟨hA.gok.inK.keeps hr2.stays, ?_⟩
  exact wpAny_mono (hq2 (.builtin id) (.ref a :: vs) s2 rfl ⟨_, _, rfl, rfl, hv2⟩ hr2) (fun _ _ hp => hp.lift hx2) fun _ _ he => he.lift hx2

/-! ### built-ins -/
theorem Po.list' {R : Heap → β → α → Prop} {h' : Heap} {a : Addr} {ds ds' : List D} {ws : Array Value} {m' : Nat} {b : β} {r : α} {Q : β → St → Prop} (hX : FxOk X) (hr : Rep g X st s) (hm : st.mem a = some (.list ds))
    (hs : Heap.SameBut a s.heap h') (hnew : h'.get? a = some (listO ws m')) (hV : Vals s.heap ds' ws.toList) (t : Nat) (hR : ∀ h', Keeps Still s.heap h' → R h' b r) (h : Q b { st with mem := st.mem.set a (.list ds') }) :
    Po g X st.mem s R Q r { s with heap := h', toks := t } := by
  refine ⟨b, _, ?_, hr.change hX hs t hm (c' := .list ds') fun k => ⟨_, _, hnew, Vals.keeps k _ _ hV⟩, .change hr hs t hm ⟨_, hnew⟩, h⟩
  obtain ⟨o', ho', hn⟩ := (hr.cells a _ hm).1.obj
  exact hR _ fun b o e q => (hs.2 b fun z => by subst z; rw [e] at ho'; cases ho'; exact hn q).trans e

theorem Vals.two {h : Heap} {d e : D} {vs : List Value} (x : Vals h [d, e] vs) : ∃ v w, vs = [v, w] ∧ Val h d v ∧ Val h e w := by
  obtain ⟨v, r, rfl, hv, w, r', rfl, hw, rfl⟩ := x; exact ⟨v, w, rfl, hv, hw⟩
theorem Vals.single {h : Heap} {d : D} {vs : List Value} (x : Vals h [d] vs) : ∃ v, vs = [v] ∧ Val h d v := by
  obtain ⟨v, r, rfl, hv, rfl⟩ := x; exact ⟨v, rfl, hv⟩

theorem b_append {a : Addr} {ds : List D} {d : D} {Q : D → St → Prop} (hA : At g X SC n) (hm : st.mem a = some (.list ds)) (hsz : ds.length ≤ 1000000) (h : Q .none { st with mem := st.mem.set a (.list (ds ++ [d])) }) :
    WCall g X st (.bi "list.append") [.ref a, d] Q E := by
  rintro _ _ s rfl hvs hr
  refine hid fun PP9 kk9 => ?_
  obtain ⟨_, v, rfl, rfl, hv⟩ := hvs.two
  obtain ⟨vs, m, ho, hV⟩ := cell_list hr hm
  refine kk9 ?_
  clear kk9 PP9
  have hlen : vs.size = ds.length := by rw [← hV.length]; simp
  refine append_at (hsz := by rw [hlen, sizeLine_eq]; (first | lia | omega)) ho fun h' hs hnew => ?_
  exact Po.list' (R := Val) (b := D.none) hA.fx hr hm hs hnew (by rw [Array.toList_push]; exact hV.append (.one hv)) s.toks (fun _ _ => rfl) h
theorem b_pop {a : Addr} {ds : List D} {d : D} {Q : D → St → Prop} (hA : At g X SC n) (hm : st.mem a = some (.list (ds ++ [d]))) (hsz : ds.length ≤ 1000000) (h : Q d { st with mem := st.mem.set a (.list ds) }) :
    WCall g X st (.bi "list.pop") [.ref a] Q E := by
  rintro _ _ s rfl hvs hr
  refine hid fun PP9 kk9 => ?_
  obtain ⟨_, rfl, rfl⟩ := hvs.single
  obtain ⟨vs, m, ho, hV⟩ := cell_list hr hm
  refine kk9 ?_
  clear kk9 PP9
  have hlen : vs.size = ds.length + 1 := by have := hV.length; simpa using this
  obtain ⟨v, hv, hVv⟩ := hV.get (i := ds.length) (d := d) (by simp)
  have hs1 : vs.size - 1 = ds.length := by (first | lia | omega)
  refine call_meets PySem.F.slot_list_pop ⟨_, ho, rfl⟩ PySem.F.entry_list_pop (PySem.F.args_list_pop_1 _) (PySem.MeetsSeq.list_pop_last a vs m v (by rw [hs1]; simpa using hv) (by rw [hlen, sizeLine_eq]; (first | lia | omega))) ⟨ho, ?_⟩
  refine Po.listed (b := d) hA.fx hr hm ho rfl ?_ s.toks (fun h' k => Val.keeps k _ _ hVv) h
  have e : (vs.eraseIdxIfInBounds (vs.size - 1)).toList = vs.toList.take ds.length := by
    rw [hs1]
    have hlt : ds.length < vs.size := by (first | lia | omega)
    rw [Array.eraseIdxIfInBounds, dif_pos hlt, Array.toList_eraseIdx, List.eraseIdx_eq_take_drop_succ, List.drop_of_length_le (by simp; (first | lia | omega)), List.append_nil]
  rw [e]
  have := hV.take ds.length
  rwa [List.take_left' rfl] at this
theorem b_extendL {a b : Addr} {ds es : List D} {Q : D → St → Prop} (hA : At g X SC n) (hm : st.mem a = some (.list ds)) (hb : st.mem b = some (.list es)) (hsz : ds.length + es.length ≤ 1000000) (h : Q .none { st with mem := st.mem.set a (.list (ds ++ es)) }) :
    WCall g X st (.bi "list.extend") [.ref a, .ref b] Q E := by
  rintro _ _ s rfl hvs hr
  refine hid fun PP9 kk9 => ?_
  obtain ⟨_, _, rfl, rfl, rfl⟩ := hvs.two
  obtain ⟨vs, m, ho, hV⟩ := cell_list hr hm
  obtain ⟨ws, m2, ho2, hW⟩ := cell_list hr hb
  refine kk9 ?_
  clear kk9 PP9
  have hlen : vs.size = ds.length := by rw [← hV.length]; simp
  have hlen2 : ws.size = es.length := by rw [← hW.length]; simp
  have hz : vs.size + ws.size ≤ sizeLine := by rw [hlen, hlen2, sizeLine_eq]; (first | lia | omega)
  refine call_meets PySem.F.slot_list_extend ⟨_, ho, rfl⟩ PySem.F.entry_list_extend (PySem.F.args_list_extend_2 _ _) (PySem.AutoSeq1.list_extend_list_list_0 a vs m b ws m2 (extend_door hz) (Nat.le_trans (Nat.le_add_right _ _) hz) (by (first | lia | omega))) ⟨ho, ho2, ?_⟩
  exact Po.listed (R := Val) (b := D.none) hA.fx hr hm ho rfl (by rw [Array.toList_append]; exact hV.append hW) s.toks (fun _ _ => rfl) h
theorem b_extendT {a : Addr} {ds es : List D} {Q : D → St → Prop} (hA : At g X SC n) (hm : st.mem a = some (.list ds)) (hsz : ds.length + es.length ≤ 1000000) (h : Q .none { st with mem := st.mem.set a (.list (ds ++ es)) }) :
    WCall g X st (.bi "list.extend") [.ref a, .tup es] Q E := by
  rintro _ _ s rfl hvs hr
  refine hid fun PP9 kk9 => ?_
  obtain ⟨_, _, rfl, rfl, b, ws, m2, rfl, ho2, hW⟩ := hvs.two
  obtain ⟨vs, m, ho, hV⟩ := cell_list hr hm
  refine kk9 ?_
  clear kk9 PP9
  have hlen : vs.size = ds.length := by rw [← hV.length]; simp
  have hlen2 : ws.size = es.length := by rw [← hW.length]; simp
  have hz : vs.size + ws.size ≤ sizeLine := by rw [hlen, hlen2, sizeLine_eq]; (first | lia | omega)
  refine call_meets PySem.F.slot_list_extend ⟨_, ho, rfl⟩ PySem.F.entry_list_extend (PySem.F.args_list_extend_2 _ _) (PySem.AutoSeq1.list_extend_list_tuple_0 a vs m b ws m2 (extend_door hz) (Nat.le_trans (Nat.le_add_right _ _) hz) (by (first | lia | omega))) ⟨ho, ho2, ?_⟩
  exact Po.listed (R := Val) (b := D.none) hA.fx hr hm ho rfl (by rw [Array.toList_append]; exact hV.append hW) s.toks (fun _ _ => rfl) h
theorem b_lenL {a : Addr} {ds : List D} {Q : D → St → Prop} (hm : st.mem a = some (.list ds)) (hsz : ds.length ≤ 1000000) (h : Q (.int ds.length) st) : WCall g X st (.bi "len") [.ref a] Q E := by
  rintro _ _ s rfl hvs hr
  refine hid fun PP9 kk9 => ?_
  obtain ⟨_, rfl, rfl⟩ := hvs.single
  obtain ⟨vs, m, ho, hV⟩ := cell_list hr hm
  refine kk9 ?_
  clear kk9 PP9
  have hlen : vs.size = ds.length := by rw [← hV.length]; simp
  exact Calls.call_len_list (IsL_of ho).isList (by (first | lia | omega)) (Po.now hr ⟨_, by rw [hlen]⟩ h _)
theorem b_lenT {ds : List D} {Q : D → St → Prop} (hsz : ds.length ≤ 1000000) (h : Q (.int ds.length) st) : WCall g X st (.bi "len") [.tup ds] Q E := by
  rintro _ _ s rfl hvs hr
  refine hid fun PP9 kk9 => ?_
  obtain ⟨_, rfl, a, vs, m, rfl, ho, hV⟩ := hvs.single
  refine kk9 ?_
  clear kk9 PP9
  have hlen : vs.size = ds.length := by rw [← hV.length]; simp
  exact len_tuple ⟨_, ho, rfl, m, rfl⟩ (by (first | lia | omega)) (Po.now hr ⟨_, by rw [hlen]⟩ h _)
theorem b_abs {i : Int} {Q : D → St → Prop} (h : Q (.int (if i < 0 then -i else i)) st) : WCall g X st (.bi "abs") [.int i] Q E := by
  rintro _ _ s rfl hvs hr
  refine hid fun PP9 kk9 => ?_
  obtain ⟨_, rfl, t, rfl⟩ := hvs.single
  refine kk9 ?_
  clear kk9 PP9
  exact call_abs_int fun u tk => Po.now hr ⟨_, rfl⟩ h _
theorem b_int {i : Int} {Q : D → St → Prop} (h : Q (.int i) st) : WCall g X st (.ty "int") [.int i] Q E := by
  rintro _ _ s rfl hvs hr
  refine hid fun PP9 kk9 => ?_
  obtain ⟨_, rfl, t, rfl⟩ := hvs.single
  refine kk9 ?_
  clear kk9 PP9
  exact call_int_int ⟨.int i, st, ⟨t, rfl⟩, hr, .refl, h⟩
theorem b_max {i j : Int} {Q : D → St → Prop} (hA : At g X SC n) (h : Q (.int (if j > i then j else i)) st) : WCall g X st (.bi "max") [.int i, .int j] Q E := by
  rintro _ _ s rfl hvs hr
  refine hid fun PP9 kk9 => ?_
  obtain ⟨_, _, rfl, ⟨t, rfl⟩, ⟨u, rfl⟩⟩ := hvs.two
  refine kk9 ?_
  clear kk9 PP9
  exact max_two_ints hA.fx.unhandled fun h' tk k => Po.still (d := .int _) hr k (by split <;> exact ⟨_, rfl⟩) h _
theorem b_list {a : Addr} {ds : List D} {Q : D → St → Prop} (hm : st.mem a = some (.list ds)) (hsz : ds.length ≤ 1000000) (h : ∀ b, st.mem b = none → Q (.ref b) { st with mem := st.mem.set b (.list ds) }) : WCall g X st (.ty "list") [.ref a] Q E := by
  rintro _ _ s rfl hvs hr
  refine hid fun PP9 kk9 => ?_
  obtain ⟨_, rfl, rfl⟩ := hvs.single
  obtain ⟨vs, m, ho, hV⟩ := cell_list hr hm
  refine kk9 ?_
  clear kk9 PP9
  have hlen : vs.size = ds.length := by rw [← hV.length]; simp
  refine call_list_seq a (T := "list") (.inl rfl) ho rfl rfl (fun h' c' k hn => ?_) (by rw [hlen, sizeLine_eq]; (first | lia | omega))
  exact Po.cell (c := .list ds) hr k (fresh_none _) ⟨vs, c', hn, Vals.keeps (fun b o e _ => k b o e) _ _ hV⟩ h _
theorem b_tuple {a : Addr} {ds : List D} {Q : D → St → Prop} (hm : st.mem a = some (.list ds)) (hsz : ds.length ≤ 1000000) (h : Q (.tup ds) st) : WCall g X st (.ty "tuple") [.ref a] Q E := by
  rintro _ _ s rfl hvs hr
  refine hid fun PP9 kk9 => ?_
  obtain ⟨_, rfl, rfl⟩ := hvs.single
  obtain ⟨vs, m, ho, hV⟩ := cell_list hr hm
  refine kk9 ?_
  clear kk9 PP9
  have hlen : vs.size = ds.length := by rw [← hV.length]; simp
  refine call_tuple_list (IsL_of ho).isList (fun h' k => ?_) (by rw [hlen, sizeLine_eq]; (first | lia | omega))
  have k' : ∀ b o, s.heap.get? b = some o → (h'.push (tupO vs 0)).get? b = some o := fun b o e => Heap.get?_push_of_some _ (k b o e)
  exact Po.still hr k' (d := .tup ds) ⟨_, _, 0, rfl, Heap.get?_push_size _ rfl, Vals.keeps (fun b o e _ => k' b o e) _ _ hV⟩ h _
theorem b_range1 {i : Int} {Q : D → St → Prop} (h : Q (.rng 0 i 1) st) : WCall g X st (.ty "range") [.int i] Q E := by
  rintro _ _ s rfl hvs hr
  refine hid fun PP9 kk9 => ?_
  obtain ⟨_, rfl, t, rfl⟩ := hvs.single
  refine kk9 ?_
  clear kk9 PP9
  refine call_range_1 ?_
  have hp := push_keeps s.heap (rangeO (.int 0 s.toks) (.int i t) (.int 1 (s.toks + 1)))
  exact Po.still hr hp (d := .rng 0 i 1) ⟨_, _, _, _, rfl, Heap.get?_push_size _ rfl⟩ h _
theorem b_range3 {i j k : Int} {Q : D → St → Prop} (hk : k ≠ 0) (hk' : k.natAbs < 1073741824) (h : Q (.rng i j k) st) : WCall g X st (.ty "range") [.int i, .int j, .int k] Q E := by
  rintro _ _ s rfl hvs hr
  refine hid fun PP9 kk9 => ?_
  obtain ⟨_, _, rfl, ⟨t, rfl⟩, _, _, rfl, ⟨u, rfl⟩, hvs⟩ := hvs
  obtain ⟨_, rfl, w, rfl⟩ := Vals.single hvs
  refine kk9 ?_
  clear kk9 PP9
  refine call_range_3 hk ?_ (.inl (PyProof.noPylong_small hk'))
  have hp := push_keeps s.heap (rangeO (.int i t) (.int j u) (.int k w))
  exact Po.still hr hp (d := .rng i j k) ⟨_, _, _, _, rfl, Heap.get?_push_size _ rfl⟩ h _
end
end
section
section
variable {α β : Type} {g : Gd} {X : Fx} {SC : Scope} {n : Nat} {st : St} {s : Shared} {σ : Mem} {E : EP}

/-! ### stores into names -/
noncomputable def CellsMine (X : Fx) : Prop := ∀ x c, (x, c) ∈ X.env.cells → c ∈ X.mine

theorem funFrames_dict {base h h' : Heap} : ∀ {l : List Env}, (∀ e ∈ l, ∀ a, e.frame = some a → ∀ o, h.get? a = some o → ∃ o', h'.get? a = some o' ∧ ∀ vs, o'.data ≠ .fields vs) → h.FunFrames base l → h'.FunFrames base l
  | [], _, _ => trivial
  | e :: _, k, hq7 => by
    obtain ⟨hk, ⟨L, o, hf, hn, ho, hd⟩, hr⟩ := hq7
    obtain ⟨o', ho', hd'⟩ := k e (.head _) L hf o ho
    exact ⟨hk, ⟨L, o', hf, hn, ho', hd'⟩, funFrames_dict (fun e he => k e (.tail _ he)) hr⟩
theorem Rep.same_but {h' : Heap} {L : Addr} (hX : FxOk X) (r : Rep g X st s) (hs : Heap.SameBut L s.heap h') (hL : L ∈ X.taken) (hd : ∃ o, h'.get? L = some o ∧ Store o) (t : Nat) {loc : Loc}
    (hn : Keeps Still s.heap h' → ∃ m, h'.Ns X.env.locals m ∧ ∀ x d, loc x = some d → NameAt X.env m h' x d) (hc : ∀ x c, (x, c) ∈ X.env.cells → ∃ v, h'.IsCell c v) :
    Rep g X { st with loc := loc } { s with heap := h', toks := t } := by
  refine hid fun PP9 kk9 => ?_
  obtain ⟨hb, o0, ho0, hs0⟩ := r.taken L hL
  refine kk9 ?_
  clear kk9 PP9
  have ks : Keeps Still s.heap h' := fun b o e q => (hs.2 b fun z => by subst z; exact (r.free e q).2 hL).trans e
  refine ⟨fun b o e => (hs.2 b fun z => by subst z; rw [hb] at e; cases e).trans (r.stays b o e), funFrames_dict (fun e he b hfb o ho => ?_) r.frames, fun b hbt => ?_, hn ks, hc, fun a c e => ?_⟩
  · by_cases z : b = L
    · subst z; obtain ⟨o', ho', hs'⟩ := hd
      exact ⟨o', ho', fun vs q => by rcases hs' with ⟨_, _, e⟩ | ⟨_, e⟩ <;> rw [e] at q <;> cases q⟩
    · refine hid fun PP9 kk9 => ?_
      obtain ⟨_, o1, ho1, hs1⟩ := r.taken b (hX.fr e he b hfb)
      refine kk9 ?_
      clear kk9 PP9
      refine ⟨o1, (hs.2 b z).trans ho1, fun vs q => by rcases hs1 with ⟨_, _, e⟩ | ⟨_, e⟩ <;> rw [e] at q <;> cases q⟩
  · by_cases z : b = L
    · subst z; exact ⟨hb, hd⟩
    · refine hid fun PP9 kk9 => ?_
      obtain ⟨h1, o, h2, h3⟩ := r.taken b hbt
      refine kk9 ?_
      clear kk9 PP9
      exact ⟨h1, o, (hs.2 b z).trans h2, h3⟩
  · obtain ⟨h1, h2, h3⟩ := r.cells a c e
    exact ⟨h1.keeps ks fun o ho => (hs.2 a fun z => h3 (z ▸ hL)).trans ho, h2, h3⟩

theorem Rep.storeLocal {h' : Heap} {x : Str} {v : Value} {d : D} (hX : FxOk X) (r : Rep g X st s) (hk : X.env.kindOf x = some .local) (hV : Val s.heap d v)
    {m : Str → Option Value} (hm : ∀ x d, st.loc x = some d → NameAt X.env m s.heap x d) (hn : h'.Ns X.env.locals fun y => if y = x then some v else m y) (hs : Heap.SameBut X.env.locals s.heap h') (t : Nat) :
    Rep g X { st with loc := st.loc.set x d } { s with heap := h', toks := t } := by
  have hL := hX.sub _ hX.loc
  refine r.same_but hX hs hL ?_ t (fun ks => ⟨_, hn, fun y e hy => ?_⟩) fun y c hc => ?_
  · obtain ⟨o, es, ep, ho, hd, _⟩ := hn; exact ⟨o, ho, .inl ⟨es, ep, hd⟩⟩
  · unfold Loc.set at hy
    by_cases z : y = x
    · subst z
      rw [if_pos rfl] at hy; cases hy
      exact .inl ⟨hk, v, if_pos rfl, Val.keeps ks _ _ hV⟩
    · rw [if_neg z] at hy
      rcases hm y e hy with ⟨hk', w, hw, hW⟩ | ⟨hk', c, w, hl, hc, hW⟩
      · exact .inl ⟨hk', w, (if_neg z).trans hw, Val.keeps ks _ _ hW⟩
      · exact .inr ⟨hk', c, w, hl, hc.sameBut hs (hX.apartL _ _ (mem_of_lookup hl)), Val.keeps ks _ _ hW⟩
  · obtain ⟨w, hw⟩ := r.cellsOk y c hc
    exact ⟨w, hw.sameBut hs (hX.apartL _ _ hc)⟩
theorem Rep.storeCell {h' : Heap} {x : Str} {c : Addr} {v : Value} {d : D} (hX : FxOk X) (r : Rep g X st s) (hk : X.env.kindOf x = some .cell) (hl : X.env.cells.lookup x = some c) (hV : Val s.heap d v)
    (hn : h'.IsCell c (some v)) (hs : Heap.SameBut c s.heap h') (t : Nat) : Rep g X { st with loc := st.loc.set x d } { s with heap := h', toks := t } := by
  have hmem := mem_of_lookup hl
  have hL := hX.cells _ _ hmem
  obtain ⟨m, hN, hm⟩ := r.names
  refine r.same_but hX hs hL ?_ t (fun ks => ⟨m, hN.sameBut hs (Ne.symm (hX.apartL _ _ hmem)), fun y e hy => ?_⟩) fun y c' hc => ?_
  · obtain ⟨o, ho, hd⟩ := hn; exact ⟨o, ho, .inr ⟨_, hd⟩⟩
  · unfold Loc.set at hy
    by_cases z : y = x
    · subst z
      rw [if_pos rfl] at hy; cases hy
      exact .inr ⟨hk, c, v, hl, hn, Val.keeps ks _ _ hV⟩
    · rw [if_neg z] at hy
      rcases hm y e hy with ⟨hk', w, hw, hW⟩ | ⟨hk', c', w, hl', hc', hW⟩
      · exact .inl ⟨hk', w, hw, Val.keeps ks _ _ hW⟩
      · refine .inr ⟨hk', c', w, hl', hc'.sameBut hs fun q => z ?_, Val.keeps ks _ _ hW⟩
        subst q
        exact name_of_addr hX.apart (mem_of_lookup hl') hmem
  · by_cases z : c' = c
    · subst z; exact ⟨_, hn⟩
    · obtain ⟨w, hw⟩ := r.cellsOk y c' hc
      exact ⟨w, hw.sameBut hs z⟩
theorem Ext.mine {h' : Heap} {L : Addr} (hX : FxOk X) (hL : L ∈ X.mine) (hs : Heap.SameBut L s.heap h') (ha : ∃ o, h'.get? L = some o) (t : Nat) : Ext X σ s σ { s with heap := h', toks := t } :=
  ⟨fun b o e _ ht => (hs.2 b fun z => ht (hX.sub _ (z ▸ hL))).trans e, fun b o e _ hm => ⟨o.slots, (hs.2 b fun z => hm (z ▸ hL)).trans e⟩, fun _ _ _ e _ => e, rfl, rfl, rfl, fun b o e => by
    by_cases z : b = L
    · exact z ▸ ha
    · exact ⟨o, (hs.2 b z).trans e⟩⟩

theorem w_store {x : Str} {d : D} {Q : Unit → St → Prop} (hA : At g X SC n) (hk : SC.names.lookup x = some .local ∨ (SC.names.lookup x = some .cell ∧ CellsMine X ∧ (X.env.cells.lookup x).isSome = true))
    (h : Q () { st with loc := st.loc.set x d }) : W1 g UnitR X st (storeName X.env x) d Q E := by
  intro v s hV hr
  rcases hk with hk | ⟨hk, hc, hsome⟩
  · have hkk : X.env.kindOf x = some .local := by rw [kindOf_eq, hA.sc]; exact hk
    obtain ⟨m, hn, hm⟩ := hr.names
    refine wpAny_storeName_local hkk hn (fun h' hn' hs => ?_) hA.fx.notMod
    exact ⟨(), _, trivial, hr.storeLocal hA.fx hkk hV hm hn' hs _, .mine hA.fx hA.fx.loc hs (let ⟨o, _, _, ho, _⟩ := hn'; ⟨o, ho⟩) _, h⟩
  · have hkk : X.env.kindOf x = some .cell := by rw [kindOf_eq, hA.sc]; exact hk
    obtain ⟨c, hl⟩ := Option.isSome_iff_exists.mp hsome
    obtain ⟨v₀, hv₀⟩ := hr.cellsOk x c (mem_of_lookup hl)
    refine wpAny_storeName_cell hA.fx.kind hkk hl hv₀ fun h' hn' hs => ?_
    exact ⟨(), _, trivial, hr.storeCell hA.fx hkk hl hV hn' hs s.toks, .mine hA.fx (hc _ _ (mem_of_lookup hl)) hs (let ⟨o, ho, _⟩ := hn'; ⟨o, ho⟩) s.toks, h⟩

/-! ### statements -/
noncomputable abbrev WS (g : Gd) (X : Fx) (st : St) (b : List Stmt) (Q : AF → St → Prop) (E : EP) : Prop := Wp g FlowR X st (execs b X.env) Q E

theorem x_nil {Q : AF → St → Prop} (h : Q .next st) : WS g X st [] Q E := fun s hr => wpAny_execs_nil ⟨.next, st, rfl, hr, .refl, h⟩
noncomputable def Then (Q1 : St → Prop) (Q2 : AF → St → Prop) : AF → St → Prop
  | .next, st => Q1 st
  | .brk, st => Q2 .brk st
  | .cont, st => Q2 .cont st
  | .ret d, st => Q2 (.ret d) st
theorem then_next {Q1 : St → Prop} {Q2 : AF → St → Prop} (h : Q1 st) : Then Q1 Q2 .next st := h
theorem then_ret {Q1 : St → Prop} {Q2 : AF → St → Prop} {d : D} (h : Q2 (.ret d) st) : Then Q1 Q2 (.ret d) st := h
theorem x_nilT {Q1 : St → Prop} {Q2 : AF → St → Prop} (h : Q1 st) : WS g X st [] (Then Q1 Q2) E := fun s hr => wpAny_execs_nil ⟨.next, st, rfl, hr, .refl, h⟩
theorem x_cons {b : Stmt} {rest : List Stmt} {Q : AF → St → Prop}
    (h : Wp g FlowR X st (exec b X.env) (Then (fun st1 => WS g X st1 rest Q E) Q) E) : WS g X st (b :: rest) Q E := by
  intro s hr
  refine wpAny_execs_cons ?_
  refine h.then hr .refl fun f af st1 s1 hf hr1 hx1 hy1 hq1 => ?_
  cases af with
  | next => cases hf; exact hq1.at hr1 hx1
  | brk => cases hf; exact ⟨.brk, st1, rfl, hr1, hx1, hq1⟩
  | cont => cases hf; exact ⟨.cont, st1, rfl, hr1, hx1, hq1⟩
  | ret d => obtain ⟨v, rfl, hv⟩ := hf; exact ⟨.ret d, st1, ⟨v, rfl, hv⟩, hr1, hx1, hq1⟩
theorem x_assign {x : Str} {xp pos : Pos} {value : Expr} {Q : AF → St → Prop} (hA : At g X SC n)
    (h : Wp g Val X st (eval value X.env) (fun d st1 => Q .next { st1 with loc := st1.loc.set x d }) E)
    (hk : autoParam (SC.names.lookup x = some .local) autoD._auto_1) (hs : autoParam (swapsWith value (some (.Name x xp)) pos.line X.env = pure false) autoR._auto_1) :
    Wp g FlowR X st (exec (.Assign [.Name x xp] value pos) X.env) Q E := by
  intro s hr
  refine wpAny_Assign_Name ?_ hs
  refine h.then hr .refl fun v d st1 s1 hv hr1 hx1 hy1 hq1 => ?_
  have w := w_store (E := E) (Q := fun _ st' => Q .next st') (d := d) hA (.inl hk) hq1
  exact W1.then w hv hr1 hx1 fun _ _ st2 s2 _ hr2 hx2 _ hq2 => ⟨.next, st2, rfl, hr2, hx2, hq2⟩
theorem x_aug {x : Str} {xp pos : Pos} {op : Operator} {value : Expr} {Q : AF → St → Prop} (hA : At g X SC n)
    (h : Wp g Val X st (loadName X.env x) (fun d1 st1 => Wp g Val X st1 (eval value X.env) (fun d2 st2 => W2 g Val X st2 (inplaceOp op) d1 d2 (fun d3 st3 => Q .next { st3 with loc := st3.loc.set x d3 }) E) E) E)
    (hk : autoParam (SC.names.lookup x = some .local) autoD._auto_1) : Wp g FlowR X st (exec (.AugAssign (.Name x xp) op value pos) X.env) Q E := by
  intro s hr
  refine wpAny_AugAssign_Name ?_
  refine h.then hr .refl fun v1 d1 st1 s1 hv1 hr1 hx1 hy1 hq1 => ?_
  refine hq1.then hr1 hx1 fun v2 d2 st2 s2 hv2 hr2 hx2 hy2 hq2 => ?_
  refine hq2.then (hr1.val hy2 hv1) hv2 hr2 hx2 fun v3 d3 st3 s3 hv3 hr3 hx3 hy3 hq3 => ?_
  have w := w_store (E := E) (Q := fun _ st' => Q .next st') (d := d3) hA (.inl hk) hq3
  exact W1.then w hv3 hr3 hx3 fun _ _ st2 s2 _ hr2 hx2 _ hq2 => ⟨.next, st2, rfl, hr2, hx2, hq2⟩
theorem x_setattr {o value : Expr} {x : Str} {op pos : Pos} {Q : AF → St → Prop}
    (h : Wp g Val X st (eval value X.env) (fun d1 st1 => Wp g Val X st1 (eval o X.env) (fun d2 st2 => W2 g UnitR X st2 (fun o v => setAttr o x v) d2 d1 (fun _ st3 => Q .next st3) E) E) E)
    (hs : autoParam (swapsWith value (some (.Attribute o x op)) pos.line X.env = pure false) autoR._auto_1) :
    Wp g FlowR X st (exec (.Assign [.Attribute o x op] value pos) X.env) Q E := by
  intro s hr
  refine plainObj_wpAny_Assign_Attribute ?_ hs
  refine h.then hr .refl fun v1 d1 st1 s1 hv1 hr1 hx1 hy1 hq1 => ?_
  refine hq1.then hr1 hx1 fun v2 d2 st2 s2 hv2 hr2 hx2 hy2 hq2 => ?_
  exact hq2.then hv2 (hr1.val hy2 hv1) hr2 hx2 fun _ _ st3 s3 _ hr3 hx3 _ hq3 => ⟨.next, st3, rfl, hr3, hx3, hq3⟩
theorem x_setitem {o i value : Expr} {op pos : Pos} {Q : AF → St → Prop}
    (h : Wp g Val X st (eval value X.env) (fun d1 st1 => Wp g Val X st1 (eval o X.env) (fun d2 st2 => Wp g Val X st2 (eval i X.env) (fun d3 st3 => W3 g UnitR X st3 setItem d2 d3 d1 (fun _ st4 => Q .next st4) E) E) E) E)
    (hs : autoParam (swapsWith value (some (.Subscript o i op)) pos.line X.env = pure false) autoR._auto_1) :
    Wp g FlowR X st (exec (.Assign [.Subscript o i op] value pos) X.env) Q E := by
  intro s hr
  refine wpAny_Assign_Subscript ?_ hs
  refine h.then hr .refl fun v1 d1 st1 s1 hv1 hr1 hx1 hy1 hq1 => ?_
  refine hq1.then hr1 hx1 fun v2 d2 st2 s2 hv2 hr2 hx2 hy2 hq2 => ?_
  refine hq2.then hr2 hx2 fun v3 d3 st3 s3 hv3 hr3 hx3 hy3 hq3 => ?_
  exact hq3.then (hr2.val hy3 hv2) hv3 (hr2.val hy3 (hr1.val hy2 hv1)) hr3 hx3 fun _ _ st4 s4 _ hr4 hx4 _ hq4 => ⟨.next, st4, rfl, hr4, hx4, hq4⟩
theorem x_if {test : Expr} {body orelse : List Stmt} {pos : Pos} {Q : AF → St → Prop}
    (h : Wp g BoolR X st (isTrue test X.env (eval test X.env)) (fun b st1 => (b = true → WS g X st1 body Q E) ∧ (b = false → WS g X st1 orelse Q E)) E) :
    Wp g FlowR X st (exec (.If test body orelse pos) X.env) Q E := by
  intro s hr
  refine wpAny_If ?_
  refine h.then hr .refl fun v3 b st3 s3 hv3 hr3 hx3 hy3 hq3 => ?_
  cases hv3
  cases v3 with
  | true => exact (hq3.1 rfl).at hr3 hx3
  | false => exact (hq3.2 rfl).at hr3 hx3
theorem x_ret {e : Expr} {pos : Pos} {Q : AF → St → Prop} (h : Wp g Val X st (eval e X.env) (fun d st1 => Q (.ret d) st1) E) : Wp g FlowR X st (exec (.Return (some e) pos) X.env) Q E := by
  intro s hr
  refine wpAny_Return_some ?_
  exact h.then hr .refl fun v d st1 s1 hv hr1 hx1 hy1 hq1 => ⟨.ret d, st1, ⟨v, rfl, hv⟩, hr1, hx1, hq1⟩
theorem x_ret0 {pos : Pos} {Q : AF → St → Prop} (h : Q (.ret .none) st) : Wp g FlowR X st (exec (.Return none pos) X.env) Q E :=
  fun s hr => wpAny_Return_none ⟨.ret .none, st, ⟨.none, rfl, rfl⟩, hr, .refl, h⟩
theorem x_expr {e : Expr} {pos : Pos} {Q : AF → St → Prop} (hA : At g X SC n) (h : Wp g Val X st (eval e X.env) (fun d st1 => Q .next st1) E)
    (hs : autoParam (swapsWith e none pos.line X.env = pure false) autoR._auto_1) : Wp g FlowR X st (exec (.Expr e pos) X.env) Q E := by
  intro s hr
  refine wpAny_Expr_any ?_ (by unfold interactive; rw [hA.fx.kind]; rfl) hs
  exact h.then hr .refl fun v d st1 s1 hv hr1 hx1 hy1 hq1 => ⟨.next, st1, rfl, hr1, hx1, hq1⟩

noncomputable def envS (SC : Scope) : Env := newEnv SC 0 0 [] "" none .none none 0
theorem swapped_env {targets : List Expr} {value : Expr} {env : Env} (h : env.scope = SC) : swappedStores targets value env = swappedStores targets value (envS SC) := by
  subst h
  rfl
theorem swaps_env {value : Expr} {t : Option Expr} {line : Nat} {env : Env} (h : env.scope = SC) : swapsWith value t line env = swapsWith value t line (envS SC) := by
  subst h
  rfl

/-! ### unpacking -/
noncomputable def WIn (g : Gd) (X : Fx) (st : St) (ts : List (Value → Sem Unit)) (ds : List D) (Q : Unit → St → Prop) (E : EP) : Prop := WL g UnitR X st (assignInOrder ts) ds Q E
theorem in_nil {Q : Unit → St → Prop} (h : Q () st) : WIn g X st [] [] Q E := by
  intro vs s hv hr
  cases hv
  exact wpAny_pure ⟨(), st, trivial, hr, .refl, h⟩
theorem in_cons {t : Value → Sem Unit} {ts : List (Value → Sem Unit)} {d : D} {ds : List D} {Q : Unit → St → Prop} (h : W1 g UnitR X st t d (fun _ st1 => WIn g X st1 ts ds Q E) E) : WIn g X st (t :: ts) (d :: ds) Q E := by
  rintro _ s ⟨v, r, rfl, hv, hvr⟩ hr
  show wpAny _ _ (do holding r (t v); assignInOrder ts r) _ _ s
  refine wpAny_bind (wpAny_holding ?_)
  refine h.then hv hr .refl fun _ _ st1 s1 _ hr1 hx1 hy1 hq1 => ?_
  exact hq1.at (hr.vals hy1 hvr) hr1 hx1
theorem s_name {x : Str} {pos : Pos} {d : D} {Q : Unit → St → Prop} (hA : At g X SC n) (h : Q () { st with loc := st.loc.set x d }) (hk : autoParam (SC.names.lookup x = some .local) autoD._auto_1) : W1 g UnitR X st (assign (.Name x pos) X.env) d Q E :=
  fun v s hv hr => PyProof.Rows.assign_Name (w_store hA (.inl hk) h v s hv hr)
theorem s_nameC {x : Str} {pos : Pos} {d : D} {Q : Unit → St → Prop} (hA : At g X SC n) (hc : CellsMine X) (hsome : (X.env.cells.lookup x).isSome = true) (h : Q () { st with loc := st.loc.set x d }) (hk : autoParam (SC.names.lookup x = some .cell) autoD._auto_1) :
    W1 g UnitR X st (assign (.Name x pos) X.env) d Q E :=
  fun v s hv hr => PyProof.Rows.assign_Name (w_store hA (.inr ⟨hk, hc, hsome⟩) h v s hv hr)
theorem s_bind {x : Str} {d : D} {Q : Unit → St → Prop} (hA : At g X SC n) (h : Q () { st with loc := st.loc.set x d }) (hk : autoParam (SC.names.lookup x = some .local) autoD._auto_1) : W1 g UnitR X st (fun v => bindName X.env x v) d Q E :=
  fun v s hv hr => wpAny_bindName (w_store hA (.inl hk) h v s hv hr)
theorem unpack_at {ds : List D} {k : Nat} {v : Value} {Q' : List Value → Shared → Prop} {E' : Value → Shared → Prop} (hA : At g X SC n) (hk : k = ds.length) (hv : Val s.heap (.tup ds) v)
    (h : ∀ vs h', (∀ b o, s.heap.get? b = some o → h'.get? b = some o) → Vals h' ds vs → Q' vs { s with heap := h' }) : wpAny g.M X.A (unpackItems v k none) Q' E' s := by
  refine hid fun PP9 kk9 => ?_
  obtain ⟨a, vs, m, rfl, ho, hV⟩ := hv
  refine kk9 ?_
  clear kk9 PP9
  have hlen : vs.size = ds.length := by rw [← hV.length]; simp
  rw [hk, ← hlen]
  refine unpackItems_tuple hA.fx.unhandled ⟨_, ho, rfl, m, rfl⟩ fun h' he => ?_
  have ka : ∀ b o, s.heap.get? b = some o → h'.get? b = some o := fun b o e => he b o (Nat.ne_of_lt (Heap.lt_size e)) e
  exact h _ h' ka (Vals.keeps (fun b o e _ => ka b o e) _ _ hV)
theorem assignEach_length : ∀ (es : List Expr) (env : Env), (assignEach es env).length = es.length
  | [], _ => rfl
  | e :: es, env => by cases e <;> exact congrArg (· + 1) (assignEach_length es env)
theorem s_unpack {elts : List Expr} {k : Nat} {pos : Pos} {ds : List D} {ts : List (Value → Sem Unit)} {Q : Unit → St → Prop} (hA : At g X SC n) (hl : elts.length = ds.length)
    (hts : assignEach elts X.env = ts.map fun t => (false, t)) (h : WIn g X st ts ds Q E) : W1 g UnitR X st (assign (.Tuple elts k pos) X.env) (.tup ds) Q E := by
  intro v s hv hr
  show wpAny _ _ (do standAt pos; unpack v (assignEach elts X.env)) _ _ s
  refine wpAny_bind (wpAny_standAt ?_)
  unfold unpack
  have h2 : (assignEach elts X.env).findIdx? (·.1) = none := by rw [hts]; simp [List.findIdx?_eq_none_iff]
  have h3 : (assignEach elts X.env).map (·.2) = ts := by rw [hts, List.map_map]; exact List.map_id' ts
  rw [h2, h3]
  refine wpAny_bind (wpAny_holding (unpack_at hA ((assignEach_length elts X.env).trans hl) hv fun vs h' k hV => ?_))
  exact h.at hV (hr.all k s.toks) (.all k s.toks)
theorem x_unpack {elts : List Expr} {k : Nat} {tpos pos : Pos} {value : Expr} {Q : AF → St → Prop} (hA : At g X SC n)
    (h : Wp g Val X st (eval value X.env) (fun d st1 => W1 g UnitR X st1 (assign (.Tuple elts k tpos) X.env) d (fun _ st2 => Q .next st2) E) E)
    (hs : autoParam (swapsWithSole [.Tuple elts k tpos] value pos.line X.env = pure false) autoR._auto_1) (hw : autoParam (swappedStores [.Tuple elts k tpos] value (envS SC) = pure none) autoR._auto_1) :
    Wp g FlowR X st (exec (.Assign [.Tuple elts k tpos] value pos) X.env) Q E := by
  intro s hr
  refine Assign_Tuple ?_ hs ((swapped_env hA.sc).trans hw)
  refine h.then hr .refl fun v d st1 s1 hv hr1 hx1 hy1 hq1 => ?_
  exact hq1.then hv hr1 hx1 fun _ _ st2 s2 _ hr2 hx2 _ hq2 => ⟨.next, st2, rfl, hr2, hx2, hq2⟩
theorem x_swap2 {elts : List Expr} {k : Nat} {tpos pos : Pos} {value : Expr} {x y : Str} {Q : AF → St → Prop} (hA : At g X SC n)
    (h : Wp g Val X st (eval value X.env) (fun d st1 => ∃ d1 d2, d = .tup [d1, d2] ∧ Q .next { st1 with loc := (st1.loc.set y d2).set x d1 }) E)
    (hs : autoParam (swapsWithSole [.Tuple elts k tpos] value pos.line X.env = pure false) autoR._auto_1) (hw : autoParam (swappedStores [.Tuple elts k tpos] value (envS SC) = pure (some [x, y])) autoR._auto_1)
    (hx : autoParam (SC.names.lookup x = some .local) autoD._auto_1) (hy : autoParam (SC.names.lookup y = some .local) autoD._auto_1) :
    Wp g FlowR X st (exec (.Assign [.Tuple elts k tpos] value pos) X.env) Q E := by
  intro s hr
  refine Assign_Tuple_swapped ?_ hs ((swapped_env hA.sc).trans hw)
  refine h.then hr .refl fun v d st1 s1 hv hr1 hx1 hy1 hq1 => ?_
  refine hid fun PP9 kk9 => ?_
  obtain ⟨d1, d2, rfl, hq⟩ := hq1
  refine kk9 ?_
  clear kk9 PP9
  refine unpack_at hA rfl hv fun vs h' ka hV => ?_
  have w : WIn g X st1 [fun v => bindName X.env y v, fun v => bindName X.env x v] [d2, d1] (fun _ st2 => Q .next st2) E := in_cons (s_bind hA (in_cons (s_bind hA (in_nil hq) hx)) hy)
  have e : vs.reverse = vs.reverse := rfl
  refine hid fun PP9 kk9 => ?_
  obtain ⟨v1, v2, rfl, hv1, hv2⟩ := hV.two
  refine kk9 ?_
  clear kk9 PP9
  exact WL.then w (vs := [v2, v1]) ⟨v2, _, rfl, hv2, v1, _, rfl, hv1, rfl⟩ (hr1.all ka s1.toks) (hx1.trans (.all ka s1.toks)) fun _ _ st2 s2 _ hr2 hx2 _ hq2 => ⟨.next, st2, rfl, hr2, hx2, hq2⟩
theorem x_swap3 {elts : List Expr} {k : Nat} {tpos pos : Pos} {value : Expr} {x y z : Str} {Q : AF → St → Prop} (hA : At g X SC n)
    (h : Wp g Val X st (eval value X.env) (fun d st1 => ∃ d1 d2 d3, d = .tup [d1, d2, d3] ∧ Q .next { st1 with loc := ((st1.loc.set z d3).set y d2).set x d1 }) E)
    (hs : autoParam (swapsWithSole [.Tuple elts k tpos] value pos.line X.env = pure false) autoR._auto_1) (hw : autoParam (swappedStores [.Tuple elts k tpos] value (envS SC) = pure (some [x, y, z])) autoR._auto_1)
    (hx : autoParam (SC.names.lookup x = some .local) autoD._auto_1) (hy : autoParam (SC.names.lookup y = some .local) autoD._auto_1) (hz : autoParam (SC.names.lookup z = some .local) autoD._auto_1) :
    Wp g FlowR X st (exec (.Assign [.Tuple elts k tpos] value pos) X.env) Q E := by
  intro s hr
  refine Assign_Tuple_swapped ?_ hs ((swapped_env hA.sc).trans hw)
  refine h.then hr .refl fun v d st1 s1 hv hr1 hx1 hy1 hq1 => ?_
  refine hid fun PP9 kk9 => ?_
  obtain ⟨d1, d2, d3, rfl, hq⟩ := hq1
  refine kk9 ?_
  clear kk9 PP9
  refine unpack_at hA rfl hv fun vs h' ka hV => ?_
  have w : WIn g X st1 [fun v => bindName X.env z v, fun v => bindName X.env y v, fun v => bindName X.env x v] [d3, d2, d1] (fun _ st2 => Q .next st2) E :=
    in_cons (s_bind hA (in_cons (s_bind hA (in_cons (s_bind hA (in_nil hq) hx)) hy)) hz)
  refine hid fun PP9 kk9 => ?_
  obtain ⟨v1, _, rfl, hv1, hV⟩ := hV
  obtain ⟨v2, v3, rfl, hv2, hv3⟩ := Vals.two hV
  refine kk9 ?_
  clear kk9 PP9
  exact WL.then w (vs := [v3, v2, v1]) ⟨v3, _, rfl, hv3, v2, _, rfl, hv2, v1, _, rfl, hv1, rfl⟩ (hr1.all ka s1.toks) (hx1.trans (.all ka s1.toks)) fun _ _ st2 s2 _ hr2 hx2 _ hq2 => ⟨.next, st2, rfl, hr2, hx2, hq2⟩
end
end
section
/-! ### objects beside the state -/
structure Aside (g : Gd) (h : Heap) (a : Addr) : Prop where
  out : g.base.get? a = none
  there : ∃ o vs, h.get? a = some o ∧ o.data = .fields vs ∧ ¬ Still o

theorem CellAt.data {g : Gd} {h : Heap} {a : Addr} {c : Cell} (x : CellAt g h a c) : ∃ o, h.get? a = some o ∧ ∀ vs, o.data ≠ .fields vs := by
  cases c with
  | list ds => obtain ⟨vs, n, ho, _⟩ := x; exact ⟨_, ho, by intro vs e; cases e⟩
  | dict fs => obtain ⟨es, n, ho, _⟩ := x; exact ⟨_, ho, by intro vs e; cases e⟩
  | idict fs => obtain ⟨kvs, ⟨o, es, ep, ho, _, hd, _⟩, _⟩ := x; exact ⟨_, ho, by intro vs e; rw [e] at hd; cases hd⟩
  | sdict fs => obtain ⟨kvs, ⟨o, es, ep, ho, _, hd, _⟩, _⟩ := x; exact ⟨_, ho, by intro vs e; rw [e] at hd; cases hd⟩

section
variable {α β : Type} {g : Gd} {X : Fx} {SC : Scope} {n : Nat} {st : St} {s s0 : Shared} {σ τ : Mem} {E : EP}

theorem Aside.mem {a : Addr} (x : Aside g s.heap a) (r : Rep g X st s) : st.mem a = none ∧ a ∉ X.taken := by
  refine hid fun PP9 kk9 => ?_
  obtain ⟨o, vs, ho, hd, hs⟩ := x.there
  refine kk9 ?_
  clear kk9 PP9
  constructor
  · cases q : st.mem a with
    | none => rfl
    | some c => obtain ⟨o', ho', hn⟩ := (r.cells a c q).1.data; rw [ho] at ho'; cases ho'; exact absurd hd (hn vs)
  · intro ht
    refine hid fun PP9 kk9 => ?_
    obtain ⟨_, o', ho', hs'⟩ := r.taken a ht
    refine kk9 ?_
    clear kk9 PP9
    rw [ho] at ho'; cases ho'
    rcases hs' with ⟨_, _, e⟩ | ⟨_, e⟩ <;> rw [e] at hd <;> cases hd

theorem Rep.aside {a : Addr} {h' : Heap} (r : Rep g X st s) (x : Aside g s.heap a) (hk : Heap.ExtBut a s.heap h') (t : Nat) : Rep g X st { s with heap := h', toks := t } := by
  obtain ⟨hm, ht⟩ := x.mem r
  have hout := x.out
  refine hid fun PP9 kk9 => ?_
  obtain ⟨oa, vs, hoa, hda, hsa⟩ := x.there
  refine kk9 ?_
  clear kk9 PP9
  have ks : Keeps Still s.heap h' := fun b o e q => hk b o (fun z => by subst z; rw [hoa] at e; cases e; exact hsa q) e
  refine ⟨fun b o e => hk b o (fun z => by subst z; rw [hout] at e; cases e) (r.stays b o e), ?_, fun b hb => ?_, ?_, ?_, fun b c e => ?_⟩
  · refine r.frames.of_keeps fun b o e hn => ⟨o, hk b o (fun z => by subst z; rw [hoa] at e; cases e; exact hn vs hda) e, rfl⟩
  · refine hid fun PP9 kk9 => ?_
    obtain ⟨h1, o, h2, h3⟩ := r.taken b hb
    refine kk9 ?_
    clear kk9 PP9
    exact ⟨h1, o, hk b o (fun z => ht (z ▸ hb)) h2, h3⟩
  · obtain ⟨m, hn, hmm⟩ := r.names
    have kc : ∀ c v, s.heap.IsCell c v → h'.IsCell c v := fun c v ⟨o, ho, hd⟩ => ⟨o, hk c o (fun z => by subst z; rw [hoa] at ho; cases ho; rw [hda] at hd; cases hd) ho, hd⟩
    refine ⟨m, hn.at' fun o ho => hk _ o (fun z => ?_) ho, fun y d e => (hmm y d e).keeps ks fun c v hc _ => kc c v hc⟩
    refine hid fun PP9 kk9 => ?_
    obtain ⟨o', es, ep, ho', hd', _⟩ := hn
    refine kk9 ?_
    clear kk9 PP9
    rw [z, hoa] at ho'; cases ho'; rw [hda] at hd'; cases hd'
  · intro y c hc
    refine hid fun PP9 kk9 => ?_
    obtain ⟨v, o, ho, hd⟩ := r.cellsOk y c hc
    refine kk9 ?_
    clear kk9 PP9
    exact ⟨v, o, hk c o (fun z => by subst z; rw [hoa] at ho; cases ho; rw [hda] at hd; cases hd) ho, hd⟩
  · obtain ⟨h1, h2, h3⟩ := r.cells b c e
    exact ⟨h1.keeps ks fun o ho => hk b o (fun z => by subst z; rw [hm] at e; cases e) ho, h2, h3⟩
theorem Ext.aside {a : Addr} {h' : Heap} (x : Ext X σ s0 τ s) (h0 : s0.heap.get? a = none) (hk : Heap.ExtBut a s.heap h') (t : Nat) : Ext X σ s0 τ { s with heap := h', toks := t } := by
  have ne : ∀ b o, s0.heap.get? b = some o → b ≠ a := fun b o e z => by subst z; rw [h0] at e; cases e
  refine ⟨fun b o e hb ht => hk b o (ne b o e) (x.same b o e hb ht), fun b o e ht hm => ?_, x.new, x.gens, x.os, x.drawn, fun b o e => ?_⟩
  · obtain ⟨sl, e1⟩ := x.slots b o e ht hm
    exact ⟨sl, hk b _ (ne b o e) e1⟩
  · obtain ⟨o', e1⟩ := x.more b o e
    exact ⟨o', hk b _ (ne b o e) e1⟩
theorem Aside.keep {a b : Addr} {h h' : Heap} (x : Aside g h a) (hk : h'.get? a = h.get? a) : Aside g h' a := ⟨x.out, let ⟨o, vs, h1, h2⟩ := x.there; ⟨o, vs, hk.trans h1, h2⟩⟩

theorem Rep.slots {h' : Heap} (hX : FxOk X) (r : Rep g X st s) (hs : Heap.SlotsOnly (X.frames.filterMap (·.frame)) s.heap h') (t : Nat) : Rep g X st { s with heap := h', toks := t } := by
  have hin : ∀ b, b ∈ X.frames.filterMap (·.frame) → b ∈ X.taken := fun b hb => by obtain ⟨e, he, hf⟩ := List.mem_filterMap.mp hb; exact hX.fr e he b hf
  have out : ∀ b, b ∉ X.taken → h'.get? b = s.heap.get? b := fun b hb => hs.2.1 b fun z => hb (hin b z)
  have ks : Keeps Still s.heap h' := fun b o e q => (out b (r.free e q).2).trans e
  refine ⟨fun b o e => (out b fun z => by rw [(r.taken b z).1] at e; cases e).trans (r.stays b o e), r.frames.of_slotsOnly hs, fun b hb => ?_, ?_, ?_, fun b c e => ?_⟩
  · refine hid fun PP9 kk9 => ?_
    obtain ⟨h1, o, h2, h3⟩ := r.taken b hb
    obtain ⟨sl, e⟩ := hs.2.2 b o h2
    refine kk9 ?_
    clear kk9 PP9
    exact ⟨h1, _, e, h3⟩
  · obtain ⟨m, hn, hmm⟩ := r.names
    refine ⟨m, ?_, fun y d e => (hmm y d e).keeps ks fun c v ⟨o, ho, hd⟩ _ => let ⟨sl, e⟩ := hs.2.2 c o ho; ⟨_, e, hd⟩⟩
    refine hid fun PP9 kk9 => ?_
    obtain ⟨o, es, ep, ho, hd, q⟩ := hn
    obtain ⟨sl, e⟩ := hs.2.2 _ o ho
    refine kk9 ?_
    clear kk9 PP9
    exact ⟨_, es, ep, e, hd, q⟩
  · intro y c hc
    refine hid fun PP9 kk9 => ?_
    obtain ⟨v, o, ho, hd⟩ := r.cellsOk y c hc
    obtain ⟨sl, e⟩ := hs.2.2 c o ho
    refine kk9 ?_
    clear kk9 PP9
    exact ⟨v, _, e, hd⟩
  · obtain ⟨h1, h2, h3⟩ := r.cells b c e
    exact ⟨h1.keeps ks fun o ho => (out b h3).trans ho, h2, h3⟩
theorem Ext.ofSlots {h' : Heap} (hX : FxOk X) (hs : Heap.SlotsOnly (X.frames.filterMap (·.frame)) s.heap h') (t : Nat) : Ext X σ s σ { s with heap := h', toks := t } := by
  have hin : ∀ b, b ∈ X.frames.filterMap (·.frame) → b ∈ X.taken := fun b hb => by obtain ⟨e, he, hf⟩ := List.mem_filterMap.mp hb; exact hX.fr e he b hf
  exact ⟨fun b o e _ hb => (hs.2.1 b fun z => hb (hin b z)).trans e, fun b o e _ _ => hs.2.2 b o e, fun _ _ _ e _ => e, rfl, rfl, rfl, fun b o e => let ⟨sl, e⟩ := hs.2.2 b o e; ⟨_, e⟩⟩

/-! ### an exception's traceback -/
theorem Told.extBut {tk : List Addr} {told : D} {dd a : Addr} {h h' : Heap} (x : Told g tk st told dd h) (ha : Aside g h a) (hk : Heap.ExtBut a h h') : Told g tk st told dd h' := by
  refine hid fun PP9 kk9 => ?_
  obtain ⟨h1, h2, h3, es, m, h4, h5⟩ := x
  obtain ⟨_, oa, vs, hoa, hda, hsa⟩ := ha
  refine kk9 ?_
  clear kk9 PP9
  exact ⟨h1, h2, h3, es, m, hk dd _ (fun z => by subst z; rw [hoa] at h4; cases h4; cases hda) h4, h5.keeps fun b o e q => hk b o (fun z => by subst z; rw [hoa] at e; cases e; exact hsa q) e⟩
theorem Told.all {tk : List Addr} {told : D} {dd : Addr} {h h' : Heap} (x : Told g tk st told dd h) (hk : ∀ b o, h.get? b = some o → h'.get? b = some o) : Told g tk st told dd h' := by
  refine hid fun PP9 kk9 => ?_
  obtain ⟨h1, h2, h3, es, m, h4, h5⟩ := x
  refine kk9 ?_
  clear kk9 PP9
  exact ⟨h1, h2, h3, es, m, hk _ _ h4, h5.keeps fun b o e _ => hk b o e⟩
theorem Told.slots {told : D} {dd : Addr} {h' : Heap} (hX : FxOk X) (r : Rep g X st s) (x : Told g X.taken st told dd s.heap) (hs : Heap.SlotsOnly (X.frames.filterMap (·.frame)) s.heap h') : Told g X.taken st told dd h' := by
  refine hid fun PP9 kk9 => ?_
  obtain ⟨h1, h2, h3, es, m, h4, h5⟩ := x
  refine kk9 ?_
  clear kk9 PP9
  have hin : ∀ b, b ∈ X.frames.filterMap (·.frame) → b ∈ X.taken := fun b hb => by obtain ⟨e, he, hf⟩ := List.mem_filterMap.mp hb; exact hX.fr e he b hf
  exact ⟨h1, h2, h3, es, m, (hs.2.1 dd fun z => h2 (hin _ z)).trans h4, h5.keeps fun b o e q => (hs.2.1 b fun z => (r.free e q).2 (hin _ z)).trans e⟩
theorem ExcAt.aside {tk : List Addr} {fo : Option Addr} {told : D} {ea : Addr} {h0 : Heap} (x : ExcAt g tk fo st told ea h0 s.heap) : Aside g s.heap ea := by
  refine hid fun PP9 kk9 => ?_
  obtain ⟨oe, vs, dd, h1, h2, h3, h4, h5, h6⟩ := x.there
  refine kk9 ?_
  clear kk9 PP9
  refine ⟨x.out, oe, vs, h1, h4, ?_⟩
  rintro (⟨_, _, e⟩ | ⟨_, _, e⟩ | ⟨_, _, _, e⟩) <;> rw [e] at h2 h4 <;> first | (cases h4; done) | (exact absurd h2 (by simp))
theorem tb_aside {T : Addr} {oT : Obj} {ts : Array Value} {fl : Value} {h : Heap} (ho : g.base.get? T = none) (hT : h.get? T = some oT) (hd : oT.data = .fields ts) (h3 : ts[3]? = some fl) : Aside g h T := by
  refine ⟨ho, oT, ts, hT, hd, ?_⟩
  rintro (⟨_, _, e⟩ | ⟨_, _, e⟩ | ⟨_, _, _, e⟩) <;> rw [e] at hd <;> first | (cases hd; done) | (injection hd with hd; subst hd; exact absurd h3 (by simp))

/-- the flight mark set -/
theorem setFlight_at {A : Around} {fo fo' : Option Addr} {told : D} {ea : Addr} {fr : Option Addr} {Q : Unit → Shared → Prop} {E' : Value → Shared → Prop} (hr : Rep g X st s) (hx : Ext X σ s0 st.mem s) (he : ExcAt g X.taken fo st told ea s0.heap s.heap)
    (hf : fr = none ∨ fr = fo') (k : ∀ s', Rep g X st s' → Ext X σ s0 st.mem s' → ExcAt g X.taken fo' st told ea s0.heap s'.heap → Q () s') : wpAny g.M A (setFlight (.ref ea) fr) Q E' s := by
  refine hid fun PP9 kk9 => ?_
  obtain ⟨hout, hfresh, oe, vs, dd, h1, h2, h3, h4, h5, h6⟩ := he
  refine kk9 ?_
  clear kk9 PP9
  unfold setFlight
  rcases h6 with h6 | ⟨T, oT, ts, fl, a1, a2, a3, a4, a5, a6, a7, a8⟩
  · refine wpAny_bind (wpAny_field h1 h4 h6 ?_)
    rw [if_neg (by decide)]
    exact wpAny_pure (k s hr hx ⟨hout, hfresh, oe, vs, dd, h1, h2, h3, h4, h5, .inl h6⟩)
  · refine wpAny_bind (wpAny_field h1 h4 a1 ?_)
    rw [if_pos (show (Value.ref T != Value.none) = true from by simp)]
    have hsz3 : 3 < ts.size := (Array.getElem?_eq_some_iff.mp a7).1
    refine wpAny_setField a5 a6 hsz3 ?_
    have hT := tb_aside a2 a5 a6 a7
    have hs : Heap.SameBut T s.heap (s.heap.update T (Obj.mapFields (·.setIfInBounds 3 (fr.elim Value.none fun f => rawInt f)))) := Heap.SameBut.update ..
    refine k { s with heap := s.heap.update T (Obj.mapFields (·.setIfInBounds 3 (fr.elim Value.none fun f => rawInt f))) } (hr.aside hT hs.extBut s.toks) (hx.aside a3 hs.extBut s.toks) ⟨hout, hfresh, oe, vs, dd, (hs.2 ea (Ne.symm a4)).trans h1, h2, h3, h4, h5.extBut hT hs.extBut, .inr ⟨T, _, _, fr.elim Value.none fun f => rawInt f, a1, a2, a3, a4, Heap.get?_update_self _ a5 (Obj.isFreed_of_fields (Obj.data_mapFields a6 _)), Obj.data_mapFields a6 _, by simp [hsz3], ?_⟩⟩
    rcases hf with rfl | rfl
    · exact .inl rfl
    · cases fr with
      | none => exact .inl rfl
      | some f => exact .inr ⟨f, rfl, rfl⟩

noncomputable def Tracd (ea : Addr) (h : Heap) : Prop := ∃ oe vs T, h.get? ea = some oe ∧ oe.data = .fields vs ∧ vs[1]? = some (.ref T)

theorem frameOf_top {M : Model} {A : Around} {base : Heap} {env e0 : Env} {outer : List Env} {L : Addr} {Q : Value → Shared → Prop} {E' : Value → Shared → Prop} (hfr : A.frames = some (e0 :: outer)) (hl : s.heap.FunFrames base (e0 :: outer))
    (hf : env.frame = some L) (h0 : e0.frame = some L) (h : ∀ h', Heap.SlotsOnly ((e0 :: outer).filterMap (·.frame)) s.heap h' → Q (.ref L) { s with heap := h' }) : wpAny M A (PySem.frameOf env) Q E' s := by
  unfold PySem.frameOf
  refine wpAny_bind (wpAny_frameEnvs hfr ?_)
  have hdw : ((e0 :: outer).dropWhile fun x => x.frame != env.frame) = e0 :: outer := by simp [List.dropWhile, hf, h0]
  rw [hdw]
  unfold frameObject
  refine wpAny_bind (wpAny_bind (wpAny_readyFrames_fun hl fun h₁ hs₁ => wpAny_pure ?_))
  rw [h0]
  exact wpAny_pure (h h₁ hs₁)

theorem entry_at {told : D} {ea L : Addr} {head : Value} {hadNext : Bool} {fo : Option Addr} {Q : Unit → Shared → Prop} {E' : Value → Shared → Prop} (hX : FxOk X) (hf : X.env.frame = some L) (hr : Rep g X st s) (hx : Ext X σ s0 st.mem s) (he : ExcAt g X.taken fo st told ea s0.heap s.heap)
    (k : ∀ s', Rep g X st s' → Ext X σ s0 st.mem s' → ExcAt g X.taken X.env.frame st told ea s0.heap s'.heap → Tracd ea s'.heap → Q () s') :
    wpAny g.M X.A (do let a ← frameOf X.env; let pl ← entryPlaceOf L hadNext; let b ← EntryCells.newEntry head a .none (rawInt L) .none pl; setField (.ref ea) 1 b) Q E' s := by
  have hea := he.aside
  refine hid fun PP9 kk9 => ?_
  obtain ⟨_, hnt⟩ := hea.mem hr
  obtain ⟨hout, hfresh, oe, vs, dd, h1, h2, h3, h4, h5, h6⟩ := he
  obtain ⟨L', e0, outer, hL', h0, hfr⟩ := hX.top
  refine kk9 ?_
  clear kk9 PP9
  rw [hf] at hL'; cases hL'
  have hstk := hX.stack
  rw [hfr] at hstk
  have hff := hr.frames
  rw [hfr] at hff
  refine wpAny_bind (frameOf_top (base := g.base) hstk hff hf h0 fun h₁ hs₁ => ?_)
  rw [← hfr] at hs₁
  refine wpAny_bind (wpAny_entryPlaceOf fun pl hpl => ?_)
  unfold EntryCells.newEntry newFields
  refine wpAny_bind (wpAny_newObj_type ?_ (hpl.sizeOk5 _ _ _ _ _))
  have hin : ∀ b, b ∈ X.frames.filterMap (·.frame) → b ∈ X.taken := fun b hb => by obtain ⟨e, he, hf⟩ := List.mem_filterMap.mp hb; exact hX.fr e he b hf
  have r1 := hr.slots hX hs₁ s.toks
  have x1 : Ext X σ s0 st.mem { s with heap := h₁ } := hx.trans (Ext.ofSlots hX hs₁ s.toks)
  have e1 : h₁.get? ea = some oe := (hs₁.2.1 ea fun z => hnt (hin ea z)).trans h1
  have hp := push_keeps h₁ { cls := .type "traceback", dict := none, data := .fields ([head, .ref L, .none, rawInt L, .none] ++ (if pl.isEmpty then List.replicate 6 Value.none else pl)).toArray }
  have e2 := hp _ _ e1
  have hsz : 1 < vs.size := by rcases h6 with h6 | ⟨_, _, _, _, h6, _⟩ <;> exact (Array.getElem?_eq_some_iff.mp h6).1
  refine wpAny_setField e2 h4 hsz ?_
  have r2 := r1.all hp s.toks
  have x2 : Ext X σ s0 st.mem _ := x1.trans (Ext.all hp s.toks)
  have hea2 : Aside g (h₁.push { cls := .type "traceback", dict := none, data := .fields ([head, .ref L, .none, rawInt L, .none] ++ (if pl.isEmpty then List.replicate 6 Value.none else pl)).toArray }) ea :=
    ⟨hea.out, oe, vs, e2, h4, by obtain ⟨o', vs', q1, q2, q3⟩ := hea.there; rw [h1] at q1; cases q1; exact q3⟩
  have hs : Heap.SameBut ea _ ((h₁.push { cls := .type "traceback", dict := none, data := .fields ([head, .ref L, .none, rawInt L, .none] ++ (if pl.isEmpty then List.replicate 6 Value.none else pl)).toArray }).update ea (Obj.mapFields (·.setIfInBounds 1 (Value.ref h₁.objs.size)))) := Heap.SameBut.update ..
  have hTe : h₁.objs.size ≠ ea := Nat.ne_of_gt (Heap.lt_size e1)
  have hd₃ := Obj.data_mapFields h4 (·.setIfInBounds 1 (Value.ref h₁.objs.size))
  have he₃ := Heap.get?_update_self (Obj.mapFields (·.setIfInBounds 1 (Value.ref h₁.objs.size))) e2 (Obj.isFreed_of_fields hd₃)
  have hT₃ : (h₁.push { cls := .type "traceback", dict := none, data := .fields ([head, .ref L, .none, rawInt L, .none] ++ (if pl.isEmpty then List.replicate 6 Value.none else pl)).toArray }).get? h₁.objs.size = _ := Heap.get?_push_size h₁ rfl
  have f1 : h₁.get? h₁.objs.size = none := fresh_none _
  have f2 : g.base.get? h₁.objs.size = none := by
    cases q : g.base.get? h₁.objs.size with
    | none => rfl
    | some o => have := r1.stays _ o q; change h₁.get? h₁.objs.size = _ at this; rw [f1] at this; cases this
  refine k { s with heap := (h₁.push { cls := .type "traceback", dict := none, data := .fields ([head, .ref L, .none, rawInt L, .none] ++ (if pl.isEmpty then List.replicate 6 Value.none else pl)).toArray }).update ea (Obj.mapFields (·.setIfInBounds 1 (Value.ref h₁.objs.size))) } (r2.aside hea2 hs.extBut s.toks) (x2.aside hfresh hs.extBut s.toks)
    ⟨hout, hfresh, _, _, dd, he₃, (Obj.cls_mapFields _ _).trans h2, ?_, hd₃, ((h5.slots hX hr hs₁).all hp).extBut hea2 hs.extBut, .inr ⟨h₁.objs.size, _, _, rawInt L, by simp [hsz], f2, Ext.fresh (s₁ := { s with heap := h₁ }) x1 f1, hTe, (hs.2 _ hTe).trans hT₃, rfl, ?_, .inr ⟨L, hf, rfl⟩⟩⟩ ⟨_, _, _, he₃, hd₃, by simp [hsz]; rfl⟩
  · rw [← h3]; simp only [Obj.mapFields]; split <;> rfl
  · first | (simp; done) | (rcases hpl with rfl | ⟨_, _, _, _, _, _, _, rfl⟩ <;> simp)

theorem noteFrame_at {told : D} {ea : Addr} {Q : Unit → Shared → Prop} {E' : Value → Shared → Prop} (hX : FxOk X) (hr : Rep g X st s) (hx : Ext X σ s0 st.mem s) (he : ExcAt g X.taken X.env.frame st told ea s0.heap s.heap)
    (k : ∀ s', Rep g X st s' → Ext X σ s0 st.mem s' → ExcAt g X.taken X.env.frame st told ea s0.heap s'.heap → Tracd ea s'.heap → Q () s') : wpAny g.M X.A (noteFrame (.ref ea) X.env) Q E' s := by
  refine hid fun PP9 kk9 => ?_
  obtain ⟨L, e0, outer, hf, h0, hfr⟩ := hX.top
  refine kk9 ?_
  clear kk9 PP9
  have he' := he
  refine hid fun PP9 kk9 => ?_
  obtain ⟨hout, hfresh, oe, vs, dd, h1, h2, h3, h4, h5, h6⟩ := he
  refine kk9 ?_
  clear kk9 PP9
  unfold noteFrame
  simp only [hf]
  rcases h6 with h6 | ⟨T, oT, ts, fl, a1, a2, a3, a4, a5, a6, a7, a8⟩
  · refine wpAny_bind (wpAny_field h1 h4 h6 ?_)
    rw [if_neg (by decide)]
    exact entry_at hX hf hr hx he' k
  · refine wpAny_bind (wpAny_field h1 h4 a1 ?_)
    rw [if_pos (show (Value.ref T != Value.none) = true from by simp)]
    refine wpAny_bind (wpAny_field a5 a6 a7 ?_)
    by_cases hfl : (fl == rawInt L) = true
    · rw [if_pos hfl]
      exact wpAny_pure (k s hr hx he' ⟨oe, vs, T, h1, h4, a1⟩)
    · rw [if_neg hfl]
      have hsz3 : 3 < ts.size := (Array.getElem?_eq_some_iff.mp a7).1
      refine wpAny_bind (wpAny_setField a5 a6 hsz3 ?_)
      have hT := tb_aside a2 a5 a6 a7
      have hs : Heap.SameBut T s.heap (s.heap.update T (Obj.mapFields (·.setIfInBounds 3 Value.none))) := Heap.SameBut.update ..
      refine entry_at (s := { s with heap := s.heap.update T (Obj.mapFields (·.setIfInBounds 3 Value.none)) }) (fo := X.env.frame) hX hf (hr.aside hT hs.extBut s.toks) (hx.aside a3 hs.extBut s.toks) ⟨hout, hfresh, oe, vs, dd, (hs.2 ea (Ne.symm a4)).trans h1, h2, h3, h4, h5.extBut hT hs.extBut, .inr ⟨T, _, _, .none, a1, a2, a3, a4, Heap.get?_update_self _ a5 (Obj.isFreed_of_fields (Obj.data_mapFields a6 _)), Obj.data_mapFields a6 _, by simp [hsz3], .inl rfl⟩⟩ k

theorem leaving_at {told : D} {ea : Addr} {Q : Unit → Shared → Prop} {E' : Value → Shared → Prop} (hX : FxOk X) (hr : Rep g X st s) (hx : Ext X σ s0 st.mem s) (he : ExcAt g X.taken X.env.frame st told ea s0.heap s.heap)
    (k : ∀ s', Rep g X st s' → Ext X σ s0 st.mem s' → ExcAt g X.taken none st told ea s0.heap s'.heap → Q () s') : wpAny g.M X.A (leaving X.env (.ref ea)) Q E' s := by
  unfold leaving
  refine wpAny_bind (noteFrame_at hX hr hx he fun s' hr' hx' he' _ => ?_)
  exact setFlight_at hr' hx' he' (.inl rfl) k

theorem passes (hX : FxOk X) : PassesOwn g.M X.A X.env (Ee g X σ s0 E) := by
  intro e s hh9
  refine hid fun PP9 kk9 => ?_
  obtain ⟨told, st, ⟨hr, ea, rfl, he⟩, hx, hE⟩ := hh9
  refine kk9 ?_
  clear kk9 PP9
  show wpAny _ _ _ _ _ _
  refine noteFrame_at hX hr hx he fun s1 hr1 hx1 he1 ht1 => ?_
  refine hid fun PP9 kk9 => ?_
  obtain ⟨oe, vs, T, e1, e2, e3⟩ := ht1
  refine kk9 ?_
  clear kk9 PP9
  show wpAny _ _ _ _ _ _
  refine wpAny_bind (wpAny_field e1 e2 e3 ?_)
  rw [if_neg (by simp)]
  first
    | exact setFlight_at hr1 hx1 he1 (.inr rfl) fun s2 hr2 hx2 he2 => ⟨told, st, ⟨hr2, ea, rfl, he2⟩, hx2, hE⟩
    | exact wpAny_bind (wpAny_pure (setFlight_at hr1 hx1 he1 (.inr rfl) fun s2 hr2 hx2 he2 => ⟨told, st, ⟨hr2, ea, rfl, he2⟩, hx2, hE⟩))
end
end
section
noncomputable abbrev owners : List String := ["enumerate", "zip", "dict_itemiterator", "dict_reverseitemiterator", "odict_iterator", "itertools.zip_longest", "itertools.pairwise"]

structure Walker (g : Gd) (A : Around) (I : Addr) (ds : List D) (need : St → Prop) (C : Nat → Heap → Prop) : Prop where
  frame : ∀ i h h', C i h → Keeps Still h h' → h'.get? I = h.get? I → C i h'
  there : ∀ i h, C i h → ∃ o vs n, h.get? I = some o ∧ o.cls = .type n ∧ owners.contains n = false ∧ o.data = .fields vs ∧ ¬ Still o
  item : ∀ i (s : Shared) st X d (Q : Option Value → Shared → Prop) (E : Value → Shared → Prop), Rep g X st s → need st → C i s.heap → ds[i]? = some d →
    (∀ v h' tk, Val s.heap d v → C (i + 1) h' → Heap.ExtBut I s.heap h' → Q (some v) { s with heap := h', toks := tk }) → wpAny g.M A (pyNext (.ref I)) Q E s
  done : ∀ (s : Shared) st X (Q : Option Value → Shared → Prop) (E : Value → Shared → Prop), Rep g X st s → need st → C ds.length s.heap →
    (∀ h' tk, Heap.ExtBut I s.heap h' → Q none { s with heap := h', toks := tk }) → wpAny g.M A (pyNext (.ref I)) Q E s
  self : ∀ i (s : Shared) (Q : Value → Shared → Prop) (E : Value → Shared → Prop), C i s.heap → Q (.ref I) s → wpAny g.M A (pyIter (.ref I)) Q E s

noncomputable def rngD (a c : Int) (n : Nat) : List D := (List.range n).map fun i => .int (a + (i : Nat) * c)

inductive Seq (st : St) : D → List D → (St → Prop) → Prop
  | list {a ds} (h : st.mem a = some (.list ds)) : Seq st (.ref a) ds (fun st => st.mem a = some (.list ds))
  | tup {ds} : Seq st (.tup ds) ds (fun _ => True)
  | rng {a b c : Int} {n : Nat} (h : Builtin.Range.small a b c = true) (hn : Builtin.Range.rangeSize a b c = (n : Int)) : Seq st (.rng a b c) (rngD a c n) (fun _ => True)

theorem extBut_still {h h' : Heap} {I : Addr} (hk : Heap.ExtBut I h h') (hI : ∃ o, h.get? I = some o ∧ ¬ Still o) : Keeps Still h h' := fun b o e q => hk b o (fun z => by
  obtain ⟨o', e', n⟩ := hI; subst z; rw [e] at e'; cases e'; exact n q) e

theorem not_still {o : Obj} {n : String} {vs : Array Value} (hc : o.cls = .type n) (hd : o.data = .fields vs) (hn : n ≠ "range") : ¬ Still o := by
  rintro (⟨_, _, e⟩ | ⟨_, _, e⟩ | ⟨_, _, _, e⟩) <;> rw [e] at hc hd <;> first | (cases hd; done) | (injection hc with hc; exact hn hc.symm)

section
variable {α β : Type} {g : Gd} {X : Fx} {SC : Scope} {n : Nat} {st : St} {s s0 : Shared} {σ τ : Mem} {E : EP} {A : Around}

theorem Walker.list (hh : A.handled = none) {I a : Addr} {ds : List D} : Walker g A I ds (fun st => st.mem a = some (.list ds)) (fun i h => h.IsListIter I a i) where
  frame i h h' := fun ⟨o, ho, r⟩ _ e => ⟨o, e.trans ho, r⟩
  there i h := fun ⟨o, ho, hc, hd⟩ => ⟨o, _, _, ho, hc, by decide, hd, not_still hc hd (by decide)⟩
  item i s st X d Q E hr hm hC hd hQ := by
    refine hid fun PP9 kk9 => ?_
    obtain ⟨vs, m, ho, hV⟩ := cell_list hr hm
    obtain ⟨v, hv, hvv⟩ := hV.get hd
    refine kk9 ?_
    clear kk9 PP9
    exact wpAny_pyNext_list_item hC (IsL_of ho).isList (by simpa using hv) fun h' hit hs => hQ v h' s.toks hvv hit hs.extBut
  done s st X Q E hr hm hC hQ := by
    refine hid fun PP9 kk9 => ?_
    obtain ⟨vs, m, ho, hV⟩ := cell_list hr hm
    refine kk9 ?_
    clear kk9 PP9
    have hlen : vs.size = ds.length := by rw [← hV.length]; simp
    exact wpAny_pyNext_list_end hh hC (IsL_of ho).isList (Array.getElem?_eq_none (by (first | lia | omega))) fun h' hs => hQ h' s.toks hs
  self i s Q E hC hQ := wpAny_pyIter_listiter hC hQ
theorem Walker.tup (hh : A.handled = none) {I a : Addr} {ds : List D} : Walker g A I ds (fun _ => True) (fun i h => h.IsTupleIter I a i ∧ ∃ vs m, h.get? a = some (tupO vs m) ∧ Vals h ds vs.toList) where
  frame i h h' := fun ⟨⟨o, ho, r⟩, vs, m, h1, h2⟩ k e => ⟨⟨o, e.trans ho, r⟩, vs, m, k _ _ h1 (.inl ⟨_, _, rfl⟩), Vals.keeps k _ _ h2⟩
  there i h := fun ⟨⟨o, ho, hc, hd⟩, _⟩ => ⟨o, _, _, ho, hc, by decide, hd, not_still hc hd (by decide)⟩
  item i s st X d Q E hr hm hC hd hQ := by
    refine hid fun PP9 kk9 => ?_
    obtain ⟨hit, vs, m, ho, hV⟩ := hC
    obtain ⟨v, hv, hvv⟩ := hV.get hd
    refine kk9 ?_
    clear kk9 PP9
    have hI : ∃ o, s.heap.get? I = some o ∧ ¬ Still o := let ⟨o, ho, hc, hd⟩ := hit; ⟨o, ho, not_still hc hd (by decide)⟩
    refine wpAny_pyNext_tuple_item hit ⟨_, ho, rfl, m, rfl⟩ (by simpa using hv) fun h' hit' hs => hQ v h' s.toks hvv ⟨hit', vs, m, ?_, ?_⟩ hs.extBut
    · exact extBut_still hs.extBut hI _ _ ho (.inl ⟨_, _, rfl⟩)
    · exact Vals.keeps (extBut_still hs.extBut hI) _ _ hV
  done s st X Q E hr hm hC hQ := by
    refine hid fun PP9 kk9 => ?_
    obtain ⟨hit, vs, m, ho, hV⟩ := hC
    refine kk9 ?_
    clear kk9 PP9
    have hlen : vs.size = ds.length := by rw [← hV.length]; simp
    exact wpAny_pyNext_tuple_end hh hit ⟨_, ho, rfl, m, rfl⟩ (Array.getElem?_eq_none (by (first | lia | omega))) fun h' hs => hQ h' s.toks hs
  self i s Q E hC hQ := wpAny_pyIter_tupleiter hC.1 hQ
theorem Walker.rng (hh : A.handled = none) {I : Addr} {a c : Int} {n : Nat} : Walker g A I (rngD a c n) (fun _ => True) (fun i h => IsRangeIter h I (a + (i : Nat) * c) ((n : Int) - (i : Nat)) c) where
  frame i h h' hC _ e := e.trans hC
  there i h hC := ⟨_, _, _, hC, rfl, by decide, rfl, not_still rfl rfl (by decide)⟩
  item i s st X d Q E hr hm hC hd hQ := by
    unfold rngD at hd
    rw [List.getElem?_map] at hd
    refine hid fun PP9 kk9 => ?_
    obtain ⟨j, hj, rfl⟩ := Option.map_eq_some_iff.mp hd
    obtain ⟨hlt, rfl⟩ := List.getElem?_eq_some_iff.mp hj
    refine kk9 ?_
    clear kk9 PP9
    simp only [List.length_range] at hlt
    refine wpAny_pyNext_range_item hC (by (first | lia | omega)) fun h' hit hs => hQ _ h' _ ⟨_, by simp; rfl⟩ ?_ hs.extBut
    have e1 : a + ((i + 1 : Nat) : Int) * c = a + (i : Int) * c + c := by push_cast; rw [Int.add_mul, Int.one_mul, Int.add_assoc]
    have e2 : (n : Int) - ((i + 1 : Nat) : Int) = (n : Int) - (i : Int) - 1 := by push_cast; (first | lia | omega)
    rw [e1, e2]; exact hit
  done s st X Q E hr hm hC hQ := by
    have : (rngD a c n).length = n := by simp [rngD]
    rw [this] at hC
    exact wpAny_pyNext_range_end hh hC (by (first | lia | omega)) fun h' hs => hQ h' s.toks hs
  self i s Q E hC hQ := wpAny_pyIter_rangeiter hC hQ

theorem pyIter_seq (hX : FxOk X) {d : D} {ds : List D} {need : St → Prop} {v : Value} {Q : Value → Shared → Prop} {E' : Value → Shared → Prop} (hS : Seq st d ds need) (hv : Val s.heap d v) (hr : Rep g X st s)
    (hQ : ∀ I C h', Walker g X.A I ds need C → C 0 h' → s.heap.get? I = none → (∀ b o, s.heap.get? b = some o → h'.get? b = some o) → Q (.ref I) { s with heap := h' }) : wpAny g.M X.A (pyIter v) Q E' s := by
  cases hS with
  | @list a _ hm =>
    cases hv
    refine hid fun PP9 kk9 => ?_
    obtain ⟨vs, m, ho, hV⟩ := cell_list hr hm
    refine kk9 ?_
    clear kk9 PP9
    exact wpAny_pyIter_list (IsL_of ho).isList (hQ _ _ _ (.list hX.unhandled) ⟨_, Heap.get?_push_size _ rfl, rfl, rfl⟩ (fresh_none _) (push_keeps _ _))
  | tup =>
    refine hid fun PP9 kk9 => ?_
    obtain ⟨a, vs, m, rfl, ho, hV⟩ := hv
    refine kk9 ?_
    clear kk9 PP9
    refine wpAny_pyIter_tuple ⟨_, ho, rfl, m, rfl⟩ (hQ _ _ _ (.tup (a := a) hX.unhandled) ⟨⟨_, Heap.get?_push_size _ rfl, rfl, rfl⟩, vs, m, push_keeps _ _ _ _ ho, Vals.keeps (fun b o e _ => push_keeps _ _ b o e) _ _ hV⟩ (fresh_none _) (push_keeps _ _))
  | @rng a b c n hs hn =>
    refine hid fun PP9 kk9 => ?_
    obtain ⟨r, t, u, w, rfl, ho⟩ := hv
    refine kk9 ?_
    clear kk9 PP9
    refine wpAny_pyIter_range ho hs (hQ _ _ _ (.rng (a := a) (c := c) (n := n) hX.unhandled) ?_ (fresh_none _) (push_keeps _ _))
    rw [← hn]
    show IsRangeIter _ _ _ _ _
    simp only [Int.natCast_zero, Int.zero_mul, Int.add_zero, Int.sub_zero]
    exact Heap.get?_push_size _ rfl

theorem letGo {target : Expr} {I : Addr} {v : Value} {o : Obj} {n : String} {vs : Array Value} {Q : Unit → Shared → Prop} {E' : Value → Shared → Prop} (ho : s.heap.get? I = some o) (hc : o.cls = .type n) (hn : owners.contains n = false) (hd : o.data = .fields vs) (h : Q () s) :
    wpAny g.M A (letOwnedTupleGo target (.ref I) v) Q E' s := by
  have main : ∀ a, wpAny g.M A (do
      let o ← load I
      match o.cls, o.data with
      | .type n, .fields vs =>
        if owners.contains n && vs[0]? == some (rawInt a) then
          rule "for.unpacks-the-owned-tuple"
          updateField I 0 .none
      | _, _ => pure ()) Q E' s := by
    intro a
    refine wpAny_bind (wpAny_load ho ?_)
    rw [hc, hd]
    show wpAny _ _ (if (owners.contains n && vs[0]? == some (rawInt a)) = true then _ else _) _ _ s
    rw [hn, Bool.false_and, if_neg Bool.false_ne_true]
    exact wpAny_pure h
  cases target <;> first
    | exact wpAny_pure h
    | (cases v <;> first | exact main _ | exact wpAny_pure h)

noncomputable def ForQ (I : St → Prop) (Q : AF → St → Prop) : AF → St → Prop
  | .next, st => I st
  | .cont, st => I st
  | .brk, st => Q .next st
  | .ret d, st => Q (.ret d) st

structure Loop (g : Gd) (X : Fx) (target : Expr) (body : List Stmt) (Q : AF → St → Prop) (E : EP) (d : D) (st1 : St) (ds : List D) (need : St → Prop) (Inv : Nat → St → Prop) : Prop where
  seq : Seq st1 d ds need
  keep : ∀ i st, Inv i st → need st
  zero : Inv 0 st1
  step : ∀ i d st2, ds[i]? = some d → Inv i st2 → W1 g UnitR X st2 (assign target X.env) d (fun _ st3 => WS g X st3 body (ForQ (Inv (i + 1)) Q) E) E
  fin : ∀ st2, Inv ds.length st2 → Q .next st2

theorem x_for {target iter : Expr} {body : List Stmt} {pos : Pos} {Q : AF → St → Prop} (hA : At g X SC n)
    (h : Wp g Val X st (eval iter X.env) (fun d st1 => ∃ ds need Inv, Loop g X target body Q E d st1 ds need Inv) E)
    (hs : autoParam (∀ x, foldedSetIterable iter X.env x = pure x) autoI._auto_1) :
    Wp g FlowR X st (exec (.For target iter body [] pos) X.env) Q E := by
  intro s hr
  have hX := hA.fx
  refine wpAny_For ?_ hs
  refine h.then hr .refl fun v d st1 s1 hv hr1 hx1 _ hq => ?_
  refine hid fun PP9 kk9 => ?_
  obtain ⟨ds, need, Inv, L⟩ := hq
  refine kk9 ?_
  clear kk9 PP9
  refine pyIter_seq hX L.seq hv hr1 fun I C h' W hC0 hfr hk => ?_
  have hr2 := hr1.all hk s1.toks
  have hx2 : Ext X st.mem s st1.mem { s1 with heap := h' } := hx1.trans (.all hk s1.toks)
  have hI0 : s.heap.get? I = none := hx1.fresh hfr
  have hIb : g.base.get? I = none := by
    cases q : g.base.get? I with
    | none => rfl
    | some o => rw [hr.stays _ o q] at hI0; cases hI0
  refine codeAny_forLoop_any
    (fun k s' => ∃ i st', Rep g X st' s' ∧ Ext X st.mem s st'.mem s' ∧ Inv i st' ∧ C i s'.heap ∧ i ≤ ds.length ∧ k = ds.length + 1 - i) ?_ (ds.length + 1) ⟨0, st1, hr2, hx2, L.zero, hC0, Nat.zero_le _, rfl⟩
  intro k s' hh9
  refine hid fun PP9 kk9 => ?_
  obtain ⟨i, st', hr', hx', hI, hC, hi, rfl⟩ := hh9
  refine kk9 ?_
  clear kk9 PP9
  refine hid fun PP9 kk9 => ?_
  obtain ⟨oI, vsI, nI, hoI, hcI, hnI, hdI, hsI⟩ := W.there i _ hC
  refine kk9 ?_
  clear kk9 PP9
  have hAs : Aside g s'.heap I := ⟨hIb, oI, vsI, hoI, hdI, hsI⟩
  by_cases hlt : i < ds.length
  · have hd : ds[i]? = some ds[i] := List.getElem?_eq_getElem hlt
    refine W.item i s' st' X ds[i] _ _ hr' (L.keep i st' hI) hC hd fun v h₁ tk hv hC₁ hk₁ => ?_
    have hr₁ := hr'.aside hAs hk₁ tk
    have hx₁ := hx'.aside hI0 hk₁ tk
    have hv₁ := Val.keeps (extBut_still hk₁ ⟨oI, hoI, hsI⟩) _ _ hv
    refine hid fun PP9 kk9 => ?_
    obtain ⟨o1, vs1, n1, ho1, hc1, hn1, hd1, hs1⟩ := W.there (i + 1) _ hC₁
    refine kk9 ?_
    clear kk9 PP9
    have hAs1 : Aside g h₁ I := ⟨hIb, o1, vs1, ho1, hd1, hs1⟩
    refine letGo (s := { s' with heap := h₁, toks := tk }) ho1 hc1 hn1 hd1 ?_
    refine wpAny_mono (W1.then (L.step i ds[i] st' hd hI) hv₁ hr₁ hx₁ fun _ _ st2 s2 _ hr2 hx2 hy2 hq2 => ?_) (fun _ _ q => q) (passes hX)
    refine wpAny_mono (hq2.then hr2 hx2 fun f af st3 s3 hf hr3 hx3 hy3 hq3 => ?_) (fun _ _ q => q) (passes hX)
    have next : Inv (i + 1) st3 → ∃ m, m < ds.length + 1 - i ∧ ∃ j st', Rep g X st' s3 ∧ Ext X st.mem s st'.mem s3 ∧ Inv j st' ∧ C j s3.heap ∧ j ≤ ds.length ∧ m = ds.length + 1 - j := fun hI3 => by
      obtain ⟨hm, ht⟩ := hAs1.mem (s := { s' with heap := h₁, toks := tk }) hr₁
      refine ⟨ds.length + 1 - (i + 1), by (first | lia | omega), i + 1, st3, hr3, hx3, hI3, W.frame _ _ _ hC₁ (hr₁.keeps (hy2.trans hy3)) ?_, hlt, rfl⟩
      exact ((hy2.trans hy3).same I o1 ho1 hm ht).trans ho1.symm
    cases af with
    | next => cases hf; exact next hq3
    | cont => cases hf; exact next hq3
    | brk => cases hf; exact ⟨.next, st3, rfl, hr3, hx3, hq3⟩
    | ret d => obtain ⟨v, rfl, hv⟩ := hf; exact ⟨.ret d, st3, ⟨v, rfl, hv⟩, hr3, hx3, hq3⟩
  · have hin : i = ds.length := by (first | lia | omega)
    subst hin
    refine W.done s' st' X _ _ hr' (L.keep _ st' hI) hC fun h₁ tk hk₁ => wpAny_execs_nil ?_
    exact ⟨.next, st', rfl, hr'.aside hAs hk₁ tk, hx'.aside hI0 hk₁ tk, L.fin st' hI⟩

theorem x_while {test : Expr} {body : List Stmt} {pos : Pos} {Q : AF → St → Prop} (hA : At g X SC n) (Inv : Nat → St → Prop) {k : Nat} (h0 : Inv k st)
    (step : ∀ k st1, Inv k st1 → Wp g BoolR X st1 (isTrue test X.env (eval test X.env)) (fun b st2 => (b = true → WS g X st2 body (ForQ (fun st3 => ∃ m, m < k ∧ Inv m st3) Q) E) ∧ (b = false → Q .next st2)) E) :
    Wp g FlowR X st (exec (.While test body [] pos) X.env) Q E := by
  intro s hr
  have hX := hA.fx
  refine wpAny_While ?_
  refine codeAny_whileLoop (fun k s' => ∃ st', Rep g X st' s' ∧ Ext X st.mem s st'.mem s' ∧ Inv k st') ?_ k ⟨st, hr, .refl, h0⟩
  intro k s' hh9
  refine hid fun PP9 kk9 => ?_
  obtain ⟨st', hr', hx', hI⟩ := hh9
  refine kk9 ?_
  clear kk9 PP9
  refine wpAny_mono ((step k st' hI).then hr' hx' fun b b' st2 s2 hb hr2 hx2 _ hq2 => ?_) (fun _ _ q => q) (passes hX)
  cases hb
  cases b with
  | true =>
    simp only [if_true]
    refine wpAny_mono ((hq2.1 rfl).then hr2 hx2 fun f af st3 s3 hf hr3 hx3 _ hq3 => ?_) (fun _ _ q => q) (passes hX)
    cases af with
    | next => cases hf; obtain ⟨m, hm, hI⟩ := hq3; exact ⟨m, hm, st3, hr3, hx3, hI⟩
    | cont => cases hf; obtain ⟨m, hm, hI⟩ := hq3; exact ⟨m, hm, st3, hr3, hx3, hI⟩
    | brk => cases hf; exact ⟨.next, st3, rfl, hr3, hx3, hq3⟩
    | ret d => obtain ⟨v, rfl, hv⟩ := hf; exact ⟨.ret d, st3, ⟨v, rfl, hv⟩, hr3, hx3, hq3⟩
  | false =>
    simp only [Bool.false_eq_true, if_false]
    exact wpAny_execs_nil ⟨.next, st2, rfl, hr2, hx2, hq2.2 rfl⟩
end
end
section
/-! ### calls of the program's own functions -/
structure FnOk (g : Gd) (a : Addr) (fd : FuncData) (body : List Stmt) (ps : List Str) : Prop where
  obj : ∃ o, g.K.lookup a = some o ∧ o.data = .func fd
  code : g.base.CodeRec fd.code fd.qualname
  body : fd.body = .stmts body
  closure : fd.closure = []
  binds : ∀ s vals, g.K.In s.heap → vals.length = ps.length → BindsTo s fd ⟨vals, []⟩ (ps.zip vals)
  kind : fd.scope.kind = .function
  co : fd.scope.isCoroutine = false
  gen : fd.scope.isGenerator = false
  globals : fd.globals = mainGlobals
  builtins : fd.builtins = builtinsNs
  params : ∀ p ∈ ps, fd.scope.names.lookup p = some .local ∨ (fd.scope.names.lookup p = some .cell ∧ ∀ n, ((cellsFrom n fd.scope.names []).lookup p).isSome = true)
  nodup : (fd.scope.names.map (·.1)).Nodup

noncomputable def bindD : List Str → List D → Loc → Loc
  | p :: ps, d :: ds, l => bindD ps ds (l.set p d)
  | _, _, l => l
noncomputable def noLoc : Loc := fun _ => none
noncomputable def retD : AF → D
  | .ret d => d
  | _ => .none
noncomputable def Less (σ τ : Mem) : Prop := ∀ a c, σ a = some c → τ a = some c
theorem Less.none {σ τ : Mem} (x : Less σ τ) {a : Addr} (h : τ a = none) : σ a = none := by
  cases q : σ a with
  | none => rfl
  | some c => rw [x a c q] at h; cases h

theorem keys_cells : ∀ (names : List (Str × NameKind)) (n : Nat) (acc : List (Str × Addr)), (names.map (·.1) ++ acc.map (·.1)).Nodup → ((cellsFrom n names acc).map (·.1)).Nodup
  | [], _, acc, h => by unfold cellsFrom; simpa using h
  | (x, k) :: r, n, acc, h => by
    unfold cellsFrom
    split
    · refine keys_cells r _ _ ?_
      have : ((x, k) :: r).map (·.1) ++ acc.map (·.1) = x :: (r.map (·.1) ++ acc.map (·.1)) := rfl
      rw [this] at h
      exact (List.perm_middle.nodup_iff).mpr h
    · refine keys_cells r _ _ ?_
      exact (List.nodup_cons.mp h).2
theorem lookup_nodup {α : Type} : ∀ {l : List (Str × α)} {x : Str} {c : α}, (l.map (·.1)).Nodup → (x, c) ∈ l → l.lookup x = some c
  | (y, e) :: r, x, c, hn, hm => by
    rw [List.map_cons, List.nodup_cons] at hn
    rw [List.lookup_cons]
    rcases List.mem_cons.mp hm with q | q
    · cases q; simp
    · have : (x == y) = false := beq_eq_false_iff_ne.mpr fun z => hn.1 (z ▸ List.mem_map.mpr ⟨_, q, rfl⟩)
      rw [this]; exact lookup_nodup hn.2 q

noncomputable def fxOf (X : Fx) (env : Env) : Fx := { A := X.A.deeper env, env := env, frames := env :: X.frames, taken := env.locals :: (env.cells.map (·.2) ++ X.taken), mine := env.locals :: env.cells.map (·.2) }

section
variable {α β : Type} {g : Gd} {X : Fx} {SC : Scope} {n : Nat} {st : St} {s s0 : Shared} {σ τ : Mem} {E : EP} {A : Around}

noncomputable def BRel (env : Env) (h : Heap) (m cm : Str → Option Value) (loc : Loc) : Prop := ∀ x d, loc x = some d →
  (env.kindOf x = some .local ∧ ∃ v, m x = some v ∧ Val h d v) ∨ (env.kindOf x = some .cell ∧ (env.cells.lookup x).isSome = true ∧ ∃ v, cm x = some v ∧ Val h d v)
theorem bRel {env : Env} {h : Heap} : ∀ (ps : List Str) (ds : List D) (vs : List Value) (m cm : Str → Option Value) (loc : Loc), ds.length = ps.length → Vals h ds vs →
    (∀ p ∈ ps, env.kindOf p = some .local ∨ (env.kindOf p = some .cell ∧ (env.cells.lookup p).isSome = true)) → BRel env h m cm loc →
    BRel env h (bindL env.kindOf (ps.zip vs) m) (bindC env.kindOf (ps.zip vs) cm) (bindD ps ds loc)
  | [], [], _, m, cm, loc, _, hV, _, h0 => by cases hV; exact h0
  | p :: ps, d :: ds, _, m, cm, loc, hl, hq7, hk, h0 => by
    obtain ⟨v, r, rfl, hv, hr⟩ := hq7
    show BRel env h (bindL env.kindOf ((p, v) :: ps.zip r) m) (bindC env.kindOf ((p, v) :: ps.zip r) cm) (bindD ps ds (loc.set p d))
    unfold bindL bindC
    refine bRel ps ds r _ _ _ (by simpa using hl) hr (fun q hq => hk q (.tail _ hq)) fun x e hx => ?_
    unfold Loc.set at hx
    rcases hk p (.head _) with hp | ⟨hp, hc⟩
    · rw [if_pos hp, if_pos hp]
      by_cases z : x = p
      · subst z; rw [if_pos rfl] at hx; cases hx
        exact .inl ⟨hp, v, if_pos rfl, hv⟩
      · rw [if_neg z] at hx
        rcases h0 x e hx with ⟨q, w, hw, hW⟩ | q
        · exact .inl ⟨q, w, (if_neg z).trans hw, hW⟩
        · exact .inr q
    · have hn : ¬ env.kindOf p = some .local := by rw [hp]; decide
      rw [if_neg hn, if_neg hn]
      by_cases z : x = p
      · subst z; rw [if_pos rfl] at hx; cases hx
        exact .inr ⟨hp, hc, v, if_pos rfl, hv⟩
      · rw [if_neg z] at hx
        rcases h0 x e hx with q | ⟨q, qc, w, hw, hW⟩
        · exact .inl q
        · exact .inr ⟨q, qc, w, (if_neg z).trans hw, hW⟩

noncomputable def CCall (g : Gd) (X : Fx) (st : St) (d : D) (ds : List D) (Q : D → St → Prop) (E : EP) : Prop :=
  ∀ f vs s, Val s.heap d f → Vals s.heap ds vs → Rep g X st s → codeAny g.M X.A (.call f ⟨vs, []⟩) (fun r s' => match r with | .ok (.ret v) => Po g X st.mem s Val Q v s' | .ok _ => False | .error e => Ee g X st.mem s E e s') s
theorem CCall.w {d : D} {ds : List D} {Q : D → St → Prop} (h : CCall g X st d ds Q E) : WCall g X st d ds Q E := fun f vs s hf hv hr => wpAny_call (h f vs s hf hv hr)

theorem call_fn {a : Addr} {fd : FuncData} {body : List Stmt} {ps : List Str} {ds : List D} {Q : D → St → Prop} (hA : At g X SC (n + 1)) (hF : FnOk g a fd body ps) (hlen : ds.length = ps.length)
    (h : ∀ X', At g X' fd.scope n → CellsMine X' → (∀ x, (∀ k, ((cellsFrom k fd.scope.names []).lookup x).isSome = true) → (X'.env.cells.lookup x).isSome = true) →
      WS g X' ⟨bindD ps ds noLoc, st.mem⟩ body (fun f st' => ∃ σ, Less σ st'.mem ∧ Q (retD f) ⟨st.loc, σ⟩) (fun told st' => ∃ σ, Less σ st'.mem ∧ E told ⟨st.loc, σ⟩)) :
    CCall g X st (.ref a) ds Q E := by
  rintro _ vs s rfl hvs hr
  have hX := hA.fx
  have hK : g.K.In s.heap := hA.gok.inK.keeps hr.stays
  obtain ⟨o, hKo, hdata⟩ := hF.obj
  have ho := hK _ _ hKo
  have hbase : ∀ b, s.heap.get? b = none → g.base.get? b = none := fun b hb => by
    cases q : g.base.get? b with
    | none => rfl
    | some o => rw [hr.stays _ o q] at hb; cases hb
  refine codeAny_call_function (Nat.lt_of_le_of_lt (by (first | lia | omega)) hA.dep) ho hdata hF.co hF.gen hF.body (hF.code.keeps hr.stays) (hF.binds s vs hK (by rw [hvs.length]; exact hlen) _ _ _ _ ?_)
  rw [hF.closure]
  have hkind : ∀ x ∈ ps.zip vs, fd.scope.names.lookup x.1 = some .local ∨ (fd.scope.names.lookup x.1 = some .cell ∧ ((cellsFrom (s.heap.objs.size + 1) fd.scope.names []).lookup x.1).isSome = true) := fun x hx => by
    rcases hF.params x.1 (List.of_mem_zip (a := x.1) (b := x.2) hx).1 with q | ⟨q, q'⟩
    · exact .inl q
    · exact .inr ⟨q, q' _⟩
  refine wpAny_newFunctionEnv_cells hF.kind hkind fun env he s₁ x => ⟨(hA.gok.lim.keeps hr.stays).keeps x.toInCall.keep, ?_⟩
  have hnod : (env.cells.map (·.1)).Nodup := by
    subst he
    exact keys_cells fd.scope.names _ [] (by simpa using hF.nodup)
  have hloc : env.locals = s.heap.objs.size := by subst he; rfl
  have hframe : env.frame = some env.locals := by subst he; rfl
  have hscope : env.scope = fd.scope := by subst he; rfl
  have hL0 : s.heap.get? env.locals = none := by rw [hloc]; exact fresh_none _
  have hc0 : ∀ y c, (y, c) ∈ env.cells → s.heap.get? c = none := fun y c hc => Heap.get?_none_of_le (by have := x.above y c hc; rw [hloc] at this; exact Nat.le_of_lt this)
  have hcell : ∀ y c, (y, c) ∈ env.cells → ∃ v, s₁.heap.IsCell c v := fun y c hc => ⟨_, x.cell y c (lookup_nodup hnod hc)⟩
  have keep := x.toInCall.keep
  obtain ⟨h₁, tk, hs₁⟩ := x.toInCall.same
  have hg1 : s₁.gens = s.gens ∧ s₁.os = s.os ∧ s₁.drawn = s.drawn := by rw [hs₁]; exact ⟨rfl, rfl, rfl⟩
  let X' := fxOf X env
  have inT : ∀ b, b ∈ X'.taken → b = env.locals ∨ (∃ y, (y, b) ∈ env.cells) ∨ b ∈ X.taken := fun b hb => by
    rcases List.mem_cons.mp hb with q | hb
    · exact .inl q
    · rcases List.mem_append.mp hb with hb | hb
      · obtain ⟨y, hy, q⟩ := List.mem_map.mp hb; exact .inr (.inl ⟨y.1, q ▸ hy⟩)
      · exact .inr (.inr hb)
  have inM : ∀ b, b ∈ X'.mine → b = env.locals ∨ (∃ y, (y, b) ∈ env.cells) := fun b hb => by
    rcases List.mem_cons.mp hb with q | hb
    · exact .inl q
    · obtain ⟨y, hy, q⟩ := List.mem_map.mp hb; exact .inr ⟨y.1, q ▸ hy⟩
  have old : ∀ b o, s.heap.get? b = some o → b ∉ X'.mine := fun b o e hb => by
    rcases inM b hb with rfl | ⟨y, hy⟩
    · rw [hL0] at e; cases e
    · rw [hc0 y b hy] at e; cases e
  have oldT : ∀ b o, s.heap.get? b = some o → b ∉ X.taken → b ∉ X'.taken := fun b o e hb ht => by
    rcases inT b ht with rfl | ⟨y, hy⟩ | q
    · rw [hL0] at e; cases e
    · rw [hc0 y b hy] at e; cases e
    · exact hb q
  have hsubT : ∀ b, b ∈ X.taken → b ∈ X'.taken := fun b hb => List.mem_cons_of_mem _ (List.mem_append_right _ hb)
  have hX' : FxOk X' := by
    refine ⟨by show env.scope.kind = _; rw [hscope]; exact hF.kind, by subst he; exact hF.globals, by subst he; exact hF.builtins, Around.frames_deeper hX.stack, hX.unhandled, ?_, List.mem_cons_self, ?_, fun y c hc => ?_, x.apart, fun y c hc q => ?_, ⟨env.locals, env, X.frames, hframe, hframe, rfl⟩⟩
    · intro e he' b hb
      rcases List.mem_cons.mp he' with q | he'
      · subst q; rw [hframe] at hb; cases hb; exact List.mem_cons_self
      · exact hsubT b (hX.fr e he' b hb)
    · intro b hb
      rcases List.mem_cons.mp hb with q | hb
      · rw [q]; exact List.mem_cons_self
      · exact List.mem_cons_of_mem _ (List.mem_append_left _ hb)
    · exact List.mem_cons_of_mem _ (List.mem_append_left _ (List.mem_map.mpr ⟨_, hc, rfl⟩))
    · have := x.above y c hc; rw [q] at this; exact Nat.lt_irrefl _ this
  have hA' : At g X' fd.scope n := ⟨hA.gok, hX', hscope, by have := hA.dep; show X.A.depth + 1 + n < _; (first | lia | omega), by have := hA.uni; show X.A.units + 3 + 8 * n < _; (first | lia | omega)⟩
  have hCM : CellsMine X' := fun y c hc => List.mem_cons_of_mem _ (List.mem_map.mpr ⟨_, hc, rfl⟩)
  have hr1 : Rep g X' ⟨bindD ps ds noLoc, st.mem⟩ s₁ := by
    have hr1 : Rep g X st s₁ := by rw [hs₁] at keep ⊢; exact hr.all keep tk
    refine ⟨hr1.stays, ⟨?_, ⟨env.locals, ?_⟩, hr1.frames⟩, fun b hb => ?_, ?_, hcell, fun b c e => ?_⟩
    · rw [hscope, hF.kind]; decide
    · refine hid fun PP9 kk9 => ?_
      obtain ⟨o, es, ep, ho, hd, _⟩ := x.toInCall.ns
      refine kk9 ?_
      clear kk9 PP9
      exact ⟨o, hframe, hbase _ hL0, ho, fun vs q => by rw [hd] at q; cases q⟩
    · rcases inT b hb with rfl | ⟨y, hy⟩ | q
      · refine hid fun PP9 kk9 => ?_
        obtain ⟨o, es, ep, ho, hd, _⟩ := x.toInCall.ns
        refine kk9 ?_
        clear kk9 PP9
        exact ⟨hbase _ hL0, o, ho, .inl ⟨es, ep, hd⟩⟩
      · refine hid fun PP9 kk9 => ?_
        obtain ⟨v, o, ho, hd⟩ := hcell y b hy
        refine kk9 ?_
        clear kk9 PP9
        exact ⟨hbase _ (hc0 y b hy), o, ho, .inr ⟨v, hd⟩⟩
      · exact hr1.taken b q
    · refine ⟨_, x.toInCall.ns, fun y d hy => ?_⟩
      have hV1 : Vals s₁.heap ds vs := Vals.keeps (fun b o e _ => keep b o e) _ _ hvs
      have R := bRel (env := env) (h := s₁.heap) ps ds vs (fun _ => none) (fun _ => none) noLoc hlen hV1 (fun p hp => by
        rw [kindOf_eq, hscope]
        rcases hF.params p hp with q | ⟨q, q'⟩
        · exact .inl q
        · refine .inr ⟨q, ?_⟩; subst he; exact q' _) (fun x d e => by cases e)
      rcases R y d hy with q | ⟨q, qc, v, hv, hV⟩
      · exact .inl q
      · obtain ⟨c, hc⟩ := Option.isSome_iff_exists.mp qc
        exact .inr ⟨q, c, v, hc, hv ▸ x.cell y c hc, hV⟩
    · refine hid fun PP9 kk9 => ?_
      obtain ⟨h1, h2, h3⟩ := hr1.cells b c e
      obtain ⟨h1', _, _⟩ := hr.cells b c e
      obtain ⟨o, ho, _⟩ := h1'.obj
      refine kk9 ?_
      clear kk9 PP9
      exact ⟨h1, h2, oldT b o ho h3⟩
  have hx1 : ∀ {σ'}, Less σ' st.mem → True := fun _ => trivial
  -- back
  have back : ∀ st' s' σ, Rep g X' st' s' → Ext X' st.mem s₁ st'.mem s' → Less σ st'.mem → Rep g X ⟨st.loc, σ⟩ s' ∧ Ext X st.mem s σ s' := by
    intro st' s' σ hr' hx' hl
    have hx : Ext X st.mem s σ s' := by
      refine ⟨fun b o e hb ht => hx'.same b o (keep b o e) hb (oldT b o e ht), fun b o e ht hm => hx'.slots b o (keep b o e) (hsubT b ht) (old b o e), fun b o e hb ht => hl.none (hx'.new b o (keep b o e) hb (oldT b o e ht)), hx'.gens.trans hg1.1, hx'.os.trans hg1.2.1, hx'.drawn.trans hg1.2.2, fun b o e => hx'.more b o (keep b o e)⟩
    have sl : ∀ b o, s.heap.get? b = some o → b ∈ X.taken → ∃ sl, s'.heap.get? b = some { o with slots := sl } := fun b o e ht => hx'.slots b o (keep b o e) (hsubT b ht) (old b o e)
    have ks : Keeps Still s.heap s'.heap := fun b o e q => hx.same b o e (hr.free e q).1 (hr.free e q).2
    refine ⟨⟨hr'.stays, hr'.frames.2.2, fun b hb => hr'.taken b (hsubT b hb), ?_, fun y c hc => ?_, fun b c e => ?_⟩, hx⟩
    · obtain ⟨m, hn, hm⟩ := hr.names
      refine ⟨m, ?_, fun y d hy => (hm y d hy).keeps ks fun c v ⟨o, ho, hd⟩ ⟨z, hz⟩ => ?_⟩
      · refine hid fun PP9 kk9 => ?_
        obtain ⟨o, es, ep, ho, hd, q⟩ := hn
        obtain ⟨sl', e⟩ := sl _ o ho (hX.sub _ hX.loc)
        refine kk9 ?_
        clear kk9 PP9
        exact ⟨_, es, ep, e, hd, q⟩
      · obtain ⟨sl', e⟩ := sl _ o ho (hX.cells z c hz)
        exact ⟨_, e, hd⟩
    · refine hid fun PP9 kk9 => ?_
      obtain ⟨v, o, ho, hd⟩ := hr.cellsOk y c hc
      obtain ⟨sl', e⟩ := sl _ o ho (hX.cells y c hc)
      refine kk9 ?_
      clear kk9 PP9
      exact ⟨v, _, e, hd⟩
    · obtain ⟨h1, h2, h3⟩ := hr'.cells b c (hl b c e)
      exact ⟨h1, h2, fun z => h3 (hsubT b z)⟩
  refine codeAny_func ?_
  have hb := h X' hA' hCM (fun y hy => by show (env.cells.lookup y).isSome = true; subst he; exact hy _) s₁ hr1
  refine wpAny_mono hb ?_ ?_
  · intro f s' hh9
    refine hid fun PP9 kk9 => ?_
    obtain ⟨af, st', hf, hr', hx', σ, hl, hq⟩ := hh9
    refine kk9 ?_
    clear kk9 PP9
    obtain ⟨hr2, hx2⟩ := back st' s' σ hr' hx' hl
    cases af with
    | next => cases hf; exact ⟨.none, _, rfl, hr2, hx2, hq⟩
    | brk => cases hf; exact ⟨.none, _, rfl, hr2, hx2, hq⟩
    | cont => cases hf; exact ⟨.none, _, rfl, hr2, hx2, hq⟩
    | ret d => obtain ⟨v, rfl, hv⟩ := hf; exact ⟨d, _, hv, hr2, hx2, hq⟩
  · intro e s' hh9
    refine hid fun PP9 kk9 => ?_
    obtain ⟨told, st', ⟨hr', ea, rfl, hea⟩, hx', σ, hl, hq⟩ := hh9
    refine kk9 ?_
    clear kk9 PP9
    refine leaving_at hX' hr' hx' hea fun s2 hr2 hx2 he2 => ?_
    refine hid fun PP9 kk9 => ?_
    obtain ⟨hr3, hx3⟩ := back st' s2 σ hr2 hx2 hl
    obtain ⟨e1, e2, oe, vs', dd, e3, e4, e5, e6, ⟨t1, t2, t3, t4⟩, e8⟩ := he2
    refine kk9 ?_
    clear kk9 PP9
    have fr : ∀ b, s₁.heap.get? b = none → s.heap.get? b = none := fun b hb => by
      cases q : s.heap.get? b with
      | none => rfl
      | some o => rw [keep b o q] at hb; cases hb
    refine ⟨told, _, ⟨hr3, ea, rfl, e1, fr _ e2, oe, vs', dd, e3, e4, e5, e6, ⟨t1, fun z => t2 (hsubT _ z), hl.none t3, t4⟩, ?_⟩, hx3, hq⟩
    rcases e8 with e8 | ⟨T, oT, ts, fl, a1, a2, a3, a4, a5, a6, a7, a8⟩
    · exact .inl e8
    · refine .inr ⟨T, oT, ts, fl, a1, a2, fr _ a3, a4, a5, a6, a7, ?_⟩
      rcases a8 with a8 | ⟨L, q, _⟩
      · exact .inl a8
      · cases q
end
end
section
/-! ### an exception class whose base is the program's own, with the base's `__init__` -/
structure Tail (bmB bm : List Value) : Prop where
  has : ∀ X b, bmB.contains (.type X) = b → bm.contains (.type X) = b
theorem Tail.own {bmB : List Value} (P : Addr) : Tail bmB (.ref P :: bmB) := ⟨fun X b h => by rw [List.contains_cons, h]; rfl⟩

section
variable {M : Model} {A : Around} {E : Value → Shared → Prop} {h : Heap} {g : Array GenState} {d : Drawn} {t : Nat} {os : OsState}
variable {nm q : Str} {C N : Addr} {bs bm bmB : List Value} {hdct : Bool} {sn : List Str} {sub : List Value} {ab : Bool} {col : Option Bool} {dd : Option Addr} {k0 k1 k2 k3 k5 : Option Value} {B newId initId : String}

theorem exc_check_new (F : ExcBaseFacts B newId initId bmB) (T : Tail bmB bm) {rest : List Value} {Q : Unit → Shared → Prop} (hC : h.get? C = some (excClassObj nm q C N bs bm hdct sn sub ab col dd k0 k1 k2 k3 k5 newId))
    (hq : Q () ⟨h, g, d, t, os⟩) : wpAny M A (checkBuiltinCall newId ⟨.ref C :: rest, []⟩) Q E ⟨h, g, d, t, os⟩ := by
  have hcont : (Value.ref C :: bm).contains (.type B) = true := by rw [List.contains_cons, T.has _ _ F.hasB, Bool.or_true]
  have hstar := F.noStar
  unfold checkBuiltinCall
  rw [F.newKind]; dsimp only
  rw [F.newSplit]; dsimp only
  rw [F.newRow]; dsimp only
  repeat (first | refine wpAny_loadPart_at hC ?_ | (refine wpAny_isSubtype_exc hC ?_; rw [hcont]) | refine wpAny_staticBase_exc hC ?_ | refine wpAny_madeBy_exc hC ?_ | simp only [bne_self_eq_false, Bool.false_eq_true, if_false] | wp_step)
  exact hq
end

section
variable {prog : Program} {w : World} {A : Around} {R : Result → Shared → Prop} {E : Value → Shared → Prop} {h : Heap} {g : Array GenState} {d : Drawn} {t : Nat} {os : OsState}
variable {nm q : Str} {C N : Addr} {bs bm bmB : List Value} {hdct : Bool} {sn : List Str} {sub : List Value} {ab : Bool} {col : Option Bool} {dd : Option Addr} {k0 k1 k2 k3 k5 : Option Value} {B newId initId : String} {K : Frag}

theorem exc_new (F : ExcBaseFacts B newId initId bmB) (T : Tail bmB bm) {rest : List Value} (hC : h.get? C = some (excClassObj nm q C N bs bm hdct sn sub ab col dd k0 k1 k2 k3 k5 newId))
    (hq : R (.ok (.ret (.ref (h.objs.size + 1)))) ⟨(h.push { cls := .type "tuple", data := .seq rest.toArray }).push
      { cls := .ref C, data := .fields #[.ref h.objs.size, .none, .none, .none, .bool false, .none] }, g, d, t, os⟩) (hrest : rest.length ≤ sizeLine := by size_fits) :
    codeAny (model prog w) A (.builtin newId ⟨.ref C :: rest, []⟩) R ⟨h, g, d, t, os⟩ := by
  have hends := F.ends
  have hcB : (Value.ref C :: bm).contains (.type B) = true := by rw [List.contains_cons, T.has _ _ F.hasB, Bool.or_true]
  have hcA : (Value.ref C :: bm).contains (.type "AttributeError") = false := by rw [List.contains_cons, T.has _ _ F.noAttr]; rfl
  have hcN : (Value.ref C :: bm).contains (.type "NameError") = false := by rw [List.contains_cons, T.has _ _ F.noName]; rfl
  refine codeAny_builtinAt F.entry ?_
  unfold Builtin.«BaseException.__new__»
  refine PySem.wpAt_bind ?_
  show PySem.wpAt _ _ _ (stack >>= _) _ _ _
  refine PySem.wpAt_bind (PySem.wpAt_stack fun p below => PySem.wpAt_of_wpAny ?_)
  wp_walk
  refine PySem.wpAt_of_wpAny ?_
  rw [F.owner]
  repeat (first | with_reducible refine wpAny_madeHere_exc F.canon hC ?_ | with_reducible refine wpAny_loadPart_at hC ?_ | (with_reducible refine wpAny_isSubtype_exc hC ?_; first | rw [hcB] | rw [hcA] | rw [hcN]) | wp_step)
  show R _ _
  rw [Heap.size_push]
  exact hq

theorem exc_type_call (F : ExcBaseFacts B newId initId bmB) (T : Tail bmB bm) {rest : List Value} {fI : Addr} {Q : Fin → Shared → Prop} (X : K.In h)
    (hC : h.get? C = some (excClassObj nm q C N bs bm hdct sn sub ab col dd k0 k1 k2 k3 k5 newId)) (hi : findIn K (.ref C) "__init__" = some (some (.ref fI))) (hf : typeIn K (.ref fI) = some (.type "function"))
    (hq : ∀ h' e, Heap.MadeExcOf h h' e (.ref C) rest →
      wpAny (model prog w) A (call (.ref fI) (.ref e :: rest)) (fun r s' => r = .none ∧ Q (.done (.ret (.ref e))) s') E ⟨h', g, d, t, os⟩) (hrest : rest.length ≤ sizeLine := by size_fits) :
    wpAny (model prog w) A (Builtin.«type.__call__» ⟨.ref C :: rest, []⟩) Q E ⟨h, g, d, t, os⟩ := by
  repeat (first | with_reducible refine wpAny_loadPart_at hC ?_ | with_reducible refine wpAny_madeBy_exc hC ?_ | wp_step)
  refine codeAny_call_builtin_code (Code.quiet_builtin _ F.quiet) (exc_check_new F T hC ?_)
  refine exc_new F T hC ?_ hrest
  show wpAny _ _ _ _ _ _
  have k : ∀ b o, h.get? b = some o → ((h.push { cls := .type "tuple", data := .seq rest.toArray }).push { cls := .ref C, data := .fields #[.ref h.objs.size, .none, .none, .none, .bool false, .none] }).get? b = some o :=
    fun b o e => Heap.get?_push_of_some _ (Heap.get?_push_of_some _ e)
  have hC₁ := k _ _ hC
  have X₁ := X.keeps k
  have hget : ((h.push { cls := .type "tuple", data := .seq rest.toArray }).push
      { cls := .ref C, data := .fields #[.ref h.objs.size, .none, .none, .none, .bool false, .none] }).get? (h.objs.size + 1) = some
      { cls := .ref C, data := .fields #[.ref h.objs.size, .none, .none, .none, .bool false, .none] } := by heap_get
  have hcC : (Value.ref C :: bm).contains (.ref C) = true := by simp
  unfold isInstance
  repeat (first | with_reducible refine wpAny_loadPart_at hget ?_ | (with_reducible refine wpAny_isSubtype_exc hC₁ ?_; rw [hcC]) | wp_step)
  show wpAny _ _ (typeLookup (.ref C) _) _ _ _
  refine (looks_findIn X₁ hi).at ?_
  refine wpAny_holding (wpAny_bind ?_)
  refine (bind_fn X₁ _ hf).at ?_
  refine (wpAny_bind (wpAny_mono (hq _ (h.objs.size + 1) ⟨fun b o hb => Heap.get?_push_of_some _ (Heap.get?_push_of_some _ hb), Heap.get?_none_of_le (Nat.le_succ _), h.objs.size, hget, Heap.get?_none_of_le (Nat.le_refl _), ?_⟩) (fun r s' hr => ?_) fun _ _ x => x))
  · exact Heap.get?_push_of_some _ (Heap.get?_push_at rfl rfl)
  · obtain ⟨rfl, hQ⟩ := hr
    wp_walk
    exact hQ

theorem exc_check_type_call {rest : List Value} {Q : Unit → Shared → Prop} (hC : h.get? C = some (excClassObj nm q C N bs bm hdct sn sub ab col dd k0 k1 k2 k3 k5 newId)) (hq : Q () ⟨h, g, d, t, os⟩) :
    wpAny (model prog w) A (checkBuiltinCall "type.__call__" ⟨.ref C :: rest, []⟩) Q E ⟨h, g, d, t, os⟩ := wpAny_check_type_call_sub hC hq

theorem exc_call (F : ExcBaseFacts B newId initId bmB) (T : Tail bmB bm) {rest : List Value} {fI : Addr} {Q : Value → Shared → Prop} (X : K.In h)
    (hC : h.get? C = some (excClassObj nm q C N bs bm hdct sn sub ab col dd k0 k1 k2 k3 k5 newId)) (hi : findIn K (.ref C) "__init__" = some (some (.ref fI))) (hf : typeIn K (.ref fI) = some (.type "function"))
    (hq : ∀ h' e, Heap.MadeExcOf h h' e (.ref C) rest →
      wpAny (model prog w) (A.under (.builtin "type.__call__" ⟨.ref C :: rest, []⟩)) (call (.ref fI) (.ref e :: rest)) (fun r s' => r = .none ∧ Q (.ref e) s') E ⟨h', g, d, t, os⟩) (hrest : rest.length ≤ sizeLine := by size_fits) :
    wpAny (model prog w) A (call (.ref C) rest) Q E ⟨h, g, d, t, os⟩ := by
  have f1 := tc_lookup
  have f2 := tc_bind (.ref C)
  have hT : (⟨h, g, d, t, os⟩ : Shared).TypeIs (.ref C) "type" := ⟨_, hC, rfl⟩
  refine wpAny_call (codeAny_of_tree ?_)
  show wpAny _ _ (callAny (.ref C) _) _ _ _
  repeat (any_goals (first | assumption | with_reducible refine wpAny_loadPart_at hC ?_ | wp_step))
  refine ⟨rfl, ?_⟩
  refine codeAny_call_builtin_at (Code.quiet_builtin _ (by decide +kernel)) entry_typeCall (exc_check_type_call hC (exc_type_call (hrest := hrest) F T X hC hi hf fun h' e hm => ?_))
  exact hq h' e hm
end
end
section
open Builtin Builtin.ObjectAttr

/-! ### the exception's own field -/
section
variable {prog : Program} {w : World} {A : Around} {E : Value → Shared → Prop} {s : Shared} {K : Frag} {C x : Addr}

theorem exc_osa {ox : Obj} {od : Option Obj} {name : Str} {tk : Tok} {v : Value} {cd : ClassData} {R : Result → Shared → Prop} (X : K.In s.heap) (I : InstAt s.heap x ox C od)
    (hc : clsIn K C = some cd) (hpass : refuseLoop (.ref x) "__setattr__" cd.mro = pure ()) (hobj : mroIn K C (.type "object") = some true) (ha : findIn K (.ref C) name = some none)
    (h : ∀ b, wpAny (model prog w) A.in1 (storeInOwnDict (.ref x) (.ref C) (.str name tk) name v b)
      (fun fin s' => match fin with | .done f => R (.ok f) s' | .again c' => c'.quiet = true ∧ codeAny (model prog w) A c' R s') (fun e s' => R (.error e) s') s) :
    codeAny (model prog w) A (.call (.builtin "object.__setattr__") ⟨[.ref x, .str name tk, v], []⟩) R s := by
  have SF := PySem.F.store_object
  have sub : Looks (model prog w) s.heap (isInstance (.ref x) (.type "object")) true := I.type.andThen (looks_mroIn X hobj)
  refine codeAny_call_builtin SF.slot.plain SF.entry (@check_slot (model prog w) _ _ s "object.__setattr__" "object" "__setattr__" (.ref x) [.str name tk, v] [] _ SF.kind SF.split sub (SF.args (.ref x) (.str name tk) v) ?_)
  have hm : Looks (model prog w) s.heap (mroOf (.ref C)) cd.mro := (looks_clsIn X hc).andThen .now
  have L3 : Looks (model prog w) s.heap (storeTaker? none) none := .now
  rw [osa_eq, refuse_eq]
  refine wpAny_bind (wpAny_bind (I.type.here (wpAny_bind (hm.here ?_))))
  rw [hpass]
  refine wpAny_pure (wpAny_bind (I.type.here (wpAny_bind ((looks_findIn X ha).here (wpAny_bind (L3.here ?_))))))
  exact h _

theorem exc_store {ox : Obj} {vs : Array Value} {name : Str} {v : Value} {cd : ClassData} {Q : Unit → Shared → Prop} (X : K.In s.heap) (hx : s.heap.get? x = some ox) (hcl : ox.cls = .ref C) (hdt : ox.data = .fields vs) (hdi : ox.dict = none)
    (hc : clsIn K C = some cd) (hpass : refuseLoop (.ref x) "__setattr__" cd.mro = pure ()) (hobj : mroIn K C (.type "object") = some true) (ha : findIn K (.ref C) name = some none)
    (hs : findIn K (.ref C) "__setattr__" = some (some (.builtin "object.__setattr__"))) (hhd : cd.hasDict = true)
    (h : ∀ h' tk, (∀ b o, b ≠ x → s.heap.get? b = some o → h'.get? b = some o) → h'.get? x = some { ox with dict := some s.heap.objs.size } →
      h'.get? s.heap.objs.size = some (dictOf (putL name (PyData.keyHash w.params name) (.str name (s.toks + 1)) v []) (putN name [] 0)) → Q () { s with heap := h', toks := tk }) : wpAny (model prog w) A (setAttr (.ref x) name v) Q E s := by
  have I : InstAt s.heap x ox C none := ⟨hx, hcl, by simp [notCls, hdt], by rw [hdi]; trivial⟩
  refine set_plain X I hs (exc_osa (s := { s with toks := s.toks + 1 }) X I hc hpass hobj ha fun b => ?_)
  refine hid fun PP9 kk9 => ?_
  obtain ⟨oc, odi, oda, osl⟩ := ox
  refine kk9 ?_
  clear kk9 PP9
  dsimp only at hcl hdt hdi
  subst hcl hdt hdi
  have hne : x ≠ s.heap.objs.size := Nat.ne_of_lt (Heap.lt_size hx)
  refine wpAny_bind (wpAny_pure (wpAny_bind (wpAny_bind (wpAny_loadPart hx (wpAny_bind (Looks.here (s := { s with toks := s.toks + 1 }) (looks_clsIn X hc) ?_))))))
  rw [hhd]
  have hx₁ := Heap.get?_push_of_some { cls := .type "dict", data := .dict #[] } hx
  show wpAny _ _ (alloc { cls := .type "dict", data := .dict #[] } >>= _) _ _ _
  refine wpAny_bind (wpAny_alloc (wpAny_bind (wpAny_update (s := { s with heap := s.heap.push { cls := .type "dict", data := .dict #[] }, toks := s.toks + 1 }) hx₁ ?_)))
  have hx₂ := Heap.get?_update_self (fun o : Obj => { cls := o.cls, dict := some s.heap.objs.size, data := o.data, slots := o.slots }) hx₁ rfl
  have hd₂ : ((s.heap.push { cls := .type "dict", data := .dict #[] }).update x fun o : Obj => { cls := o.cls, dict := some s.heap.objs.size, data := o.data, slots := o.slots }).get? s.heap.objs.size = some (dictOf [] 0) :=
    (Heap.get?_update_other _ _ hne).trans (Heap.get?_push_at rfl rfl)
  have hs₂ : Heap.SameBut x (s.heap.push { cls := .type "dict", data := .dict #[] }) ((s.heap.push { cls := .type "dict", data := .dict #[] }).update x fun o : Obj => { cls := o.cls, dict := some s.heap.objs.size, data := o.data, slots := o.slots }) := Heap.SameBut.update ..
  show wpAny _ _ (dictMade _ _ _) _ _ _
  unfold dictMade
  refine wpAny_pure ?_
  show wpAny _ _ (storeInDict s.heap.objs.size _ _ _) _ _ _
  unfold storeInDict newKeyGuard
  refine wpAny_bind (wpAny_pure (wpAny_bind ?_))
  unfold nsSet
  refine wpAny_bind (wpAny_bind (wpAny_askSetting (wpAny_pure (wpAny_bind (wpAny_mkText (wpAny_bind (wpAny_loadPart hd₂ ?_)))))))
  have c : aRefKeyMayBeTheName name (#[] : Array DictEntry) = false := by
    rw [aRefKeyMayBeTheName_at]; simp
  show wpAny _ _ (if aRefKeyMayBeTheName name (#[] : Array DictEntry) = true then _ else _) _ _ _
  rw [c, if_neg Bool.false_ne_true]
  refine wpAny_updatePart hd₂ ?_
  have e1 := putName_dict name (PyData.keyHash w.params name) (.str name (s.toks + 1)) v [] 0
  have hnew := Heap.get?_update_self (Obj.putName name (PyData.keyHash w.params name) (.str name (s.toks + 1)) v) hd₂ (by rw [e1]; rfl)
  rw [e1] at hnew
  refine wpAny_bind (wpAny_lookBehind hnew (pastItsLine_dict (by have := putL_length name (PyData.keyHash w.params name) (.str name (s.toks + 1)) v []; rw [List.size_toArray, sizeLine_eq]; simp at this; (first | lia | omega))) ?_)
  refine wpAny_pure (h _ _ (fun b o hb ho => ?_) ?_ hnew)
  · have hbs : b ≠ s.heap.objs.size := Nat.ne_of_lt (Heap.lt_size ho)
    rw [Heap.get?_update_other _ _ (Ne.symm hbs)]
    exact (hs₂.2 b hb).trans (Heap.get?_push_of_some _ ho)
  · rw [Heap.get?_update_other _ _ (Ne.symm hne)]
    exact hx₂
end

noncomputable abbrev excTail : List Value := [.type "Exception", .type "BaseException", .type "object"]
structure ExcOk (g : Gd) (fI : Addr) : Prop where
  obj : ∃ nm q N bs P sn sub ab col dd k0 k1 k2 k3 k5, g.K.lookup g.exc = some (excClassObj nm q g.exc N bs (.ref P :: excTail) true sn sub ab col dd k0 k1 k2 k3 k5 "Exception.__new__")
  init : findIn g.K (.ref g.exc) "__init__" = some (some (.ref fI))
  fn : typeIn g.K (.ref fI) = some (.type "function")
  told : findIn g.K (.ref g.exc) "told" = some none
  set : findIn g.K (.ref g.exc) "__setattr__" = some (some (.builtin "object.__setattr__"))
  get : findIn g.K (.ref g.exc) "__getattribute__" = some (some (.builtin "BaseException.__getattribute__"))
  noget : findIn g.K (.ref g.exc) "__getattr__" = some none
  fd : ∃ fd p1 p2 p3 p4, FnOk g fI fd [.Assign [.Attribute (.Name "self" p1) "told" p2] (.Name "told" p3) p4] ["self", "told"] ∧ (∀ x ∈ fd.scope.names, x.2 ≠ .cell) ∧
    fd.scope.names.lookup ("self" : Str) = some .local ∧ fd.scope.names.lookup ("told" : Str) = some .local

structure MadeAt (g : Gd) (told : D) (ea : Addr) (h0 h : Heap) : Prop where
  keep : ∀ b o, h0.get? b = some o → h.get? b = some o
  fresh : h0.get? ea = none
  there : ∃ t dd es m, h.get? ea = some { cls := .ref g.exc, dict := some dd, data := .fields #[.ref t, .none, .none, .none, .bool false, .none] } ∧ h0.get? dd = none ∧ h.get? dd = some (dictOf es m) ∧ FieldsAt h es [("told", told)]

theorem exc_init {g : Gd} {fI ea t : Addr} {A : Around} {s : Shared} {d : D} {v : Value} {Q : Value → Shared → Prop} {E : Value → Shared → Prop} (hG : GOk g) (hE : ExcOk g fI) (hst : g.base.StaysIn s.heap) (hroom : A.depth < recursionLimit)
    (he : s.heap.get? ea = some { cls := .ref g.exc, data := .fields #[.ref t, .none, .none, .none, .bool false, .none] }) (hv : Val s.heap d v)
    (h : ∀ h' tk, (∀ b o, b ≠ ea → s.heap.get? b = some o → h'.get? b = some o) → (∃ dd es m, h'.get? ea = some { cls := .ref g.exc, dict := some dd, data := .fields #[.ref t, .none, .none, .none, .bool false, .none] } ∧
      s.heap.get? dd = none ∧ h'.get? dd = some (dictOf es m) ∧ FieldsAt h' es [("told", d)]) → Q .none { s with heap := h', toks := tk }) : wpAny g.M A (call (.ref fI) [.ref ea, v]) Q E s := by
  refine hid fun PP9 kk9 => ?_
  obtain ⟨nm, q, N, bs, P, sn, sub, ab, col, dd0, k0, k1, k2, k3, k5, hKC⟩ := hE.obj
  obtain ⟨fd, p1, p2, p3, p4, hF, hnc, hl1, hl2⟩ := hE.fd
  refine kk9 ?_
  clear kk9 PP9
  have hK : g.K.In s.heap := hG.inK.keeps hst
  obtain ⟨o, hKo, hdata⟩ := hF.obj
  refine wpAny_call ?_
  refine codeAny_call_def (binds := (["self", "told"] : List Str).zip [.ref ea, v]) hroom (hK _ _ hKo) hdata (hG.lim.keeps hst) (hF.code.keeps hst) hF.body (hF.binds s _ hK rfl) hnc (fun x hx => ?_) (fun h₀ hns hk₀ => ?_) hF.co hF.gen hF.kind
  · rcases List.mem_cons.mp hx with rfl | hx
    · exact hl1
    · rcases List.mem_cons.mp hx with rfl | hx
      · exact hl2
      · cases hx
  · obtain ⟨cd, hcd, hmro, hhd⟩ : ∃ cd, clsIn g.K g.exc = some cd ∧ cd.mro = .ref g.exc :: .ref P :: excTail ∧ cd.hasDict = true := by unfold clsIn; rw [hKC]; exact ⟨_, rfl, rfl, rfl⟩
    have ka : ∀ x, fd.scope.names.lookup x = some .local → (callEnv fd s.heap.objs.size fI).kindOf x = some .local := fun x e => e
    refine wpAny_execs_cons (plainObj_wpAny_Assign_Attribute ?_ rfl)
    refine wpAny_Name (wpAny_loadName_local hF.kind (ka _ hl2) hns (v := v) rfl ?_) (by decide)
    refine wpAny_Name (wpAny_loadName_local hF.kind (ka _ hl1) hns (v := .ref ea) rfl ?_) (by decide)
    refine exc_store (K := g.K) (C := g.exc) (s := { s with heap := h₀, toks := s.toks + _ }) (hK.keeps hk₀) (hk₀ _ _ he) rfl rfl rfl hcd ?_ ?_ hE.told hE.set hhd fun h' tk k1 k2 k3 => wpAny_execs_nil ?_
    · rw [hmro, refuseLoop_ref, refuseLoop_ref]; exact PySem.F.store_Exception.passes _
    · unfold mroIn; rw [hcd, Option.bind_some, hmro]; simp [excTail]
    · refine h h' tk (fun b o hb e => k1 b o hb (hk₀ b o e)) ⟨_, _, _, k2, ?_, k3, ?_⟩
      · cases q : s.heap.get? h₀.objs.size with
        | none => rfl
        | some o => have := Heap.lt_size (hk₀ _ _ q); exact absurd this (Nat.lt_irrefl _)
      · refine FieldsAt.put (x := "told") (es := []) (fs := []) (Val.keeps (fun b o e q => ?_) _ _ hv) trivial
        exact k1 b o (fun z => by subst z; rw [he] at e; cases e; rcases q with ⟨_, _, e⟩ | ⟨_, _, e⟩ | ⟨_, _, _, e⟩ <;> cases e) (hk₀ b o e)

theorem tc_weight (a : Addr) (rest : List Value) : Code.weight (.builtin "type.__call__" ⟨.ref a :: rest, []⟩) = 1 := by kernel_rfl
theorem tc_units (a : Addr) (rest : List Value) : Code.cUnits (.builtin "type.__call__" ⟨.ref a :: rest, []⟩) = 1 := by kernel_rfl
theorem tc_envs (a : Addr) (rest : List Value) : Code.envs (.builtin "type.__call__" ⟨.ref a :: rest, []⟩) = [] := by kernel_rfl
theorem exc_make {g : Gd} {fI : Addr} {A : Around} {s : Shared} {d : D} {v : Value} {Q : Value → Shared → Prop} {E : Value → Shared → Prop} (hG : GOk g) (hE : ExcOk g fI) (hst : g.base.StaysIn s.heap) (hroom : A.depth + 1 < recursionLimit) (hv : Val s.heap d v)
    (h : ∀ h' tk ea, MadeAt g d ea s.heap h' → Q (.ref ea) { s with heap := h', toks := tk }) : wpAny g.M A (call (.ref g.exc) [v]) Q E s := by
  refine hid fun PP9 kk9 => ?_
  obtain ⟨nm, q, N, bs, P, sn, sub, ab, col, dd0, k0, k1, k2, k3, k5, hKC⟩ := hE.obj
  refine kk9 ?_
  clear kk9 PP9
  have hK : g.K.In s.heap := hG.inK.keeps hst
  refine hid fun PP9 kk9 => ?_
  obtain ⟨hh, gg, dr, tt, os⟩ := s
  refine kk9 ?_
  clear kk9 PP9
  refine exc_call PySem.F.excBase_Exception (Tail.own P) hK (hK _ _ hKC) hE.init hE.fn fun h' e hm => ?_
  refine hid fun PP9 kk9 => ?_
  obtain ⟨t, ht, _, _⟩ := hm.there
  refine kk9 ?_
  clear kk9 PP9
  refine exc_init (s := ⟨h', gg, dr, tt, os⟩) hG hE (fun b o e => hm.keeps b o (hst b o e)) (by show A.depth + Code.weight _ < _; rw [tc_weight]; exact hroom) ht (Val.keeps (fun b o e _ => hm.keeps b o e) _ _ hv) fun h'' tk k1 k2 => ⟨rfl, h h'' tk e ⟨fun b o eb => ?_, hm.new, ?_⟩⟩
  · exact k1 b o (fun z => by subst z; have := hm.new; dsimp only at eb; rw [this] at eb; cases eb) (hm.keeps b o eb)
  · refine hid fun PP9 kk9 => ?_
    obtain ⟨dd, es, m, e1, e2, e3, e4⟩ := k2
    refine kk9 ?_
    clear kk9 PP9
    refine ⟨t, dd, es, m, e1, ?_, e3, e4⟩
    dsimp only
    cases q : hh.get? dd with
    | none => rfl
    | some o => have := hm.keeps _ _ q; dsimp only at e2; rw [e2] at this; cases this
end
section
section
variable {M : Model} {A : Around} {E : Value → Shared → Prop} {env : Env} {C N : Addr} {nm q : Str} {bs bm : List Value} {hdct : Bool} {sn : List Str} {sub : List Value} {ab : Bool} {col : Option Bool} {dd : Option Addr} {k0 k1 k2 k3 k5 : Option Value} {newId : String}
theorem raise_raw {s : Shared} {x : Sem Value} {Q : Flow → Shared → Prop} (hbase : bm.contains (.type "BaseException") = true) (hh : A.handled = none)
    (h : wpAny M A x (fun v s₁ => ∃ e t de, v = .ref e ∧ s₁.heap.get? C = some (excClassObj nm q C N bs bm hdct sn sub ab col dd k0 k1 k2 k3 k5 newId) ∧
      s₁.heap.get? e = some { cls := .ref C, dict := some de, data := .fields #[.ref t, .none, .none, .none, .bool false, .none] } ∧ E (.ref e) s₁) E s) :
    wpAny M A (raiseStmt env (some x) none) Q E s := by
  have hcB : (Value.ref C :: bm).contains (.type "BaseException") = true := by rw [List.contains_cons, hbase, Bool.or_true]
  unfold raiseStmt
  refine wpAny_bind (wpAny_mono h (fun v s₁ h₁ => ?_) fun _ _ x => x)
  refine hid fun PP9 kk9 => ?_
  obtain ⟨e, t, de, rfl, hC, he, hE⟩ := h₁
  obtain ⟨hp, g, d, tk, os⟩ := s₁
  refine kk9 ?_
  clear kk9 PP9
  repeat (first | with_reducible refine wpAny_loadPart_at he ?_ | with_reducible refine wpAny_loadPart_at hC ?_ | (with_reducible refine wpAny_isSubtype_exc hC ?_; rw [hcB]) | wp_step)
  exact wpAny_raiseNew_none hh hE
end

section
variable {α β : Type} {g : Gd} {X : Fx} {SC : Scope} {n : Nat} {st : St} {s s0 : Shared} {σ τ : Mem} {E : EP} {A : Around}

theorem made_raised {told : D} {ea : Addr} {h' : Heap} {tk : Nat} (hr : Rep g X st s) (m : MadeAt g told ea s.heap h') : Raised g X st told (.ref ea) s.heap { s with heap := h', toks := tk } := by
  have hbase : ∀ b, s.heap.get? b = none → g.base.get? b = none := fun b hb => by
    cases q : g.base.get? b with
    | none => rfl
    | some o => rw [hr.stays _ o q] at hb; cases hb
  refine hid fun PP9 kk9 => ?_
  obtain ⟨t, dd, es, k, h1, h2, h3, h4⟩ := m.there
  refine kk9 ?_
  clear kk9 PP9
  refine ⟨hr.all m.keep tk, ea, rfl, hbase _ m.fresh, m.fresh, _, _, dd, h1, rfl, rfl, rfl, ⟨hbase _ h2, fun ht => ?_, ?_, es, k, h3, h4⟩, .inl rfl⟩
  · obtain ⟨_, o, ho, _⟩ := hr.taken dd ht; rw [h2] at ho; cases ho
  · cases q : st.mem dd with
    | none => rfl
    | some c => obtain ⟨o, ho, _⟩ := (hr.cells dd c q).1.obj; rw [h2] at ho; cases ho

theorem x_raise {x : Str} {args : List Expr} {fI : Addr} {np cpos pos : Pos} {Q : AF → St → Prop} (hA : At g X SC (n + 1)) (hE : ExcOk g fI) (hg : GlobIs g x (.ref g.exc)) (hkeep : keepIn g.K (.ref g.exc) = true)
    (h : Wp g Vals X st (Items args cpos X.env) (fun ds st1 => ∃ d, ds = [d] ∧ E d st1) E)
    (hk : autoParam (SC.names.lookup x = some .globalImplicit) autoD._auto_1) (hx : autoParam ((x == ("__debug__" : Str)) = false) autoD._auto_1) (hplain : autoParam ((backTo cpos (starEach args X.env)).any (·.1) = false) autoR._auto_1) :
    Wp g FlowR X st (exec (.Raise (some (.Call (.Name x np) args [] cpos)) none pos) X.env) Q E := by
  intro s hr
  refine hid fun PP9 kk9 => ?_
  obtain ⟨nm, q, N, bs, P, sn, sub, ab, col, dd0, k0, k1, k2, k3, k5, hKC⟩ := hE.obj
  refine kk9 ?_
  clear kk9 PP9
  have main : wpAny g.M X.A (eval (.Call (.Name x np) args [] cpos) X.env) (fun v s₁ => ∃ e t de, v = .ref e ∧ s₁.heap.get? g.exc = some (excClassObj nm q g.exc N bs (.ref P :: excTail) true sn sub ab col dd0 k0 k1 k2 k3 k5 "Exception.__new__") ∧
      s₁.heap.get? e = some { cls := .ref g.exc, dict := some de, data := .fields #[.ref t, .none, .none, .none, .bool false, .none] } ∧ Ee g X st.mem s E (.ref e) s₁) (Ee g X st.mem s E) s := by
    refine wpAny_Call_NameR ?_
    have r1 : Wp g Val X st (eval (.Name x np) X.env) (fun d' st' => d' = .ref g.exc ∧ st' = st) E := r_glob hA hg ⟨rfl, rfl⟩ hk hx
    refine r1.then hr .refl fun v1 d1 st1 s1 hv1 hr1 hx1 hy1 hq1 => ?_
    obtain ⟨rfl, rfl⟩ := hq1
    cases hv1
    refine callWith_items (f := .ref g.exc) (CalleeOk.keeper (g := g) (d := .ref g.exc) hkeep (h := s1.heap) rfl) ?_ hplain
    refine h.then hr1 hx1 fun vs ds st2 s2 hv2 hr2 hx2 hy2 hq2 => ⟨hA.gok.inK.keeps hr2.stays, ?_⟩
    refine hid fun PP9 kk9 => ?_
    obtain ⟨d, rfl, hE2⟩ := hq2
    obtain ⟨v, rfl, hv⟩ := Vals.single hv2
    refine kk9 ?_
    clear kk9 PP9
    refine exc_make hA.gok hE hr2.stays (by have := hA.dep; (first | lia | omega)) hv fun h' tk ea m => ?_
    have R := made_raised (tk := tk) hr2 m
    refine hid fun PP9 kk9 => ?_
    obtain ⟨t, de, es, k, h1, h2, h3, h4⟩ := m.there
    refine kk9 ?_
    clear kk9 PP9
    refine ⟨ea, t, de, rfl, m.keep _ _ (hA.gok.inK.keeps hr2.stays _ _ hKC), h1, d, st2, R.lift hx2, hx2.trans (.all m.keep tk), hE2⟩
  rw [arm_exec_Raise]
  refine wpAny_bind (wpAny_standAt ?_)
  show wpAny _ _ (raiseStmt X.env (some (do let v ← eval (.Call (.Name x np) args [] cpos) X.env; standAt pos; pure v)) none) _ _ s
  refine raise_raw (C := g.exc) (nm := nm) (q := q) (N := N) (bs := bs) (bm := .ref P :: excTail) (hdct := true) (sn := sn) (sub := sub) (ab := ab) (col := col) (dd := dd0) (k0 := k0) (k1 := k1) (k2 := k2) (k3 := k3) (k5 := k5) (newId := "Exception.__new__") ((Tail.own P).has _ _ (by decide)) hA.fx.unhandled ?_
  exact wpAny_bind (wpAny_mono main (fun v s1 hv => wpAny_bind (wpAny_standAt (wpAny_pure hv))) fun _ _ e => e)
end
end
section
open Builtin Builtin.ObjectAttr

section
variable {prog : Program} {w : World} {A : Around} {E : Value → Shared → Prop} {s : Shared} {K : Frag} {C x : Addr} {ox : Obj} {od : Option Obj} {name : Str} {expr : Bool} {Q : Value → Shared → Prop}

theorem exc_get {v : Value} (X : K.In s.heap) (I : InstAt s.heap x ox C od) (hga : findIn K (.ref C) "__getattribute__" = some (some (.builtin "BaseException.__getattribute__"))) (hgn : findIn K (.ref C) "__getattr__" = some none)
    (hbe : mroIn K C (.type "BaseException") = some true) (hf : findObj K C od name = some (.value v)) (hh : handedIn v = true) (h : ∀ tk, Q v { s with toks := tk }) : wpAny (model prog w) A (getAttr (.ref x) name expr) Q E s := by
  have FB := PySem.F.attrBase_Exception
  refine hid fun PP9 kk9 => ?_
  obtain ⟨hh', g, d, t, os⟩ := s
  refine kk9 ?_
  clear kk9 PP9
  have L0 := I.type (M := model prog w)
  have L1 := looks_findIn (M := model prog w) X hga
  have L2 := looks_findIn (M := model prog w) X hgn
  have L3 := looks_find (M := model prog w) X I hf
  have f3 := FB.ga.bind (.ref x)
  have hx0 : (expr && onTheHeap (Value.builtin "BaseException.__getattribute__")) = false := by cases expr <;> rfl
  have hx2 : (Value.builtin "BaseException.__getattribute__" == Value.builtin "object.__getattribute__") = false := by decide +kernel
  have hx1 : (onTheHeap (Value.ref C) && Value.builtin "BaseException.__getattribute__" == Value.builtin "object.__getattribute__") = false := by rw [hx2]; rfl
  unfold getAttr getAttrBy
  refine wpAny_bind (wpAny_mkText (wpAny_holding (wpAny_bind (L0.at (wpAny_bind (L1.at ?_))))))
  show wpAny _ _ (if (onTheHeap (Value.ref C) && Value.builtin "BaseException.__getattribute__" == Value.builtin "object.__getattribute__") = true then _ else _) _ _ _
  rw [hx1, if_neg Bool.false_ne_true]
  unfold getAttrByItsOwn hookBefore
  refine wpAny_bind (L2.at (wpAny_bind (wpAny_attempt (wpAny_holding ?_))))
  unfold callGetattribute boundAndCalled
  rw [hx0, if_neg Bool.false_ne_true, f3]
  refine wpAny_bind (wpAny_pure (wpAny_call ?_))
  have hk : builtinKind "BaseException.__getattribute__" = some .slot := by decide +kernel
  have hsplit : splitId "BaseException.__getattribute__" = some ("BaseException", "__getattribute__") := by decide +kernel
  have sub : Looks (model prog w) hh' (isInstance (.ref x) (.type "BaseException")) true := L0.andThen (looks_mroIn X hbe)
  refine codeAny_call_builtin FB.ga.plain PySem.F.entry_bexc_ga (@check_slot (model prog w) _ _ _ "BaseException.__getattribute__" "BaseException" "__getattribute__" (.ref x) [.str name t] [] _ hk hsplit sub (PySem.F.args_bexc_ga (.ref x) (.str name t)) ?_)
  unfold Builtin.«object.__getattribute__»
  refine wpAny_bind (wpAny_pure (wpAny_bind (wpAny_pure (wpAny_bind (L0.at (wpAny_bind (L3.at ?_)))))))
  refine wpAny_pure ?_
  show wpAny _ _ (handedOut v) _ _ _
  rw [handedOut_of hh]; exact wpAny_pure (h _)
end

section
variable {α β : Type} {g : Gd} {X : Fx} {SC : Scope} {n : Nat} {st : St} {s s0 : Shared} {σ τ : Mem} {E : EP} {A : Around}

theorem ExcAt.store {fo : Option Addr} {told : D} {ea L : Addr} {h0 h' : Heap} {loc : Loc} (r : Rep g X st s) (he : ExcAt g X.taken fo st told ea h0 s.heap) (hs : Heap.SameBut L s.heap h') (hL : L ∈ X.taken) : ExcAt g X.taken fo ⟨loc, st.mem⟩ told ea h0 h' := by
  have ha := (he.aside.mem r).2
  refine hid fun PP9 kk9 => ?_
  obtain ⟨e1, e2, oe, vs, dd, h1, h2, h3, h4, ⟨t1, t2, t3, es, m, t4, t5⟩, h6⟩ := he
  refine kk9 ?_
  clear kk9 PP9
  have ks : Keeps Still s.heap h' := fun b o e q => (hs.2 b fun z => (r.free e q).2 (z ▸ hL)).trans e
  refine ⟨e1, e2, oe, vs, dd, (hs.2 ea fun z => ha (z ▸ hL)).trans h1, h2, h3, h4, ⟨t1, t2, t3, es, m, (hs.2 dd fun z => t2 (z ▸ hL)).trans t4, t5.keeps ks⟩, ?_⟩
  rcases h6 with h6 | ⟨T, oT, ts, fl, a1, a2, a3, a4, a5, a6, a7, a8⟩
  · exact .inl h6
  · have hT := ((tb_aside a2 a5 a6 a7).mem r).2
    exact .inr ⟨T, oT, ts, fl, a1, a2, a3, a4, (hs.2 T fun z => hT (z ▸ hL)).trans a5, a6, a7, a8⟩

theorem glob_raw {x : Str} {pos : Pos} {d : D} {Q : Value → Shared → Prop} {E' : Value → Shared → Prop} (hA : At g X SC n) (hr : Rep g X st s) (hg : GlobIs g x d) (h : ∀ v, Val s.heap d v → Q v s) (hk : SC.names.lookup x = some .globalImplicit) (hx : (x == ("__debug__" : Str)) = false) :
    wpAny g.M A (eval (.Name x pos) X.env) Q E' s := by
  refine hid fun PP9 kk9 => ?_
  obtain ⟨v, hv, hV⟩ := hg
  obtain ⟨mg, mb, G, B, hb⟩ := hA.gok.tops
  refine kk9 ?_
  clear kk9 PP9
  have hG : s.heap.Ns X.env.globals mg := by rw [hA.fx.globals]; exact G.keeps hr.stays
  have hB : s.heap.Ns X.env.builtins mb := by rw [hA.fx.builtins]; exact B.keeps hr.stays
  have hkk : X.env.kindOf x = some .globalImplicit := by rw [kindOf_eq, hA.sc]; exact hk
  refine Calls.Name_function_global hA.fx.kind hkk ?_ hx
  rcases hv with e | ⟨e1, e2, e3⟩
  · exact Calls.loadGlobal_global hG (mg_of hA.gok.inK G e) (h v (base_val hr hV))
  · exact Calls.loadGlobal_builtin hG (mg_none_of hA.gok.inK G e1) hB ((hb x e3).trans e2) (h v (base_val hr hV))

theorem store_raw {x : Str} {d : D} {v : Value} {Q : Unit → Shared → Prop} {E' : Value → Shared → Prop} (hA : At g X SC n) (hr : Rep g X st s) (hk : SC.names.lookup x = some .local) (hV : Val s.heap d v)
    (h : ∀ h', Rep g X { st with loc := st.loc.set x d } { s with heap := h', toks := s.toks + 1 } → Heap.SameBut X.env.locals s.heap h' → (∃ o, h'.get? X.env.locals = some o) → Q () { s with heap := h', toks := s.toks + 1 }) : wpAny g.M A (storeName X.env x v) Q E' s := by
  have hkk : X.env.kindOf x = some .local := by rw [kindOf_eq, hA.sc]; exact hk
  obtain ⟨m, hn, hm⟩ := hr.names
  refine wpAny_storeName_local hkk hn (fun h' hn' hs => ?_) hA.fx.notMod
  exact h h' (hr.storeLocal hA.fx hkk hV hm hn' hs _) hs (let ⟨o, _, _, ho, _⟩ := hn'; ⟨o, ho⟩)

theorem x_try {body : List Stmt} {x n t : Str} {np ep ap tp sp hp pos : Pos} {Q : AF → St → Prop} {fI : Addr} {k : Nat} (hA : At g X SC k) (hE : ExcOk g fI) (hg : GlobIs g x (.ref g.exc))
    (h : WS g X st body Q (fun told st1 => told.plain = true ∧ Q .next ⟨Loc.del (Loc.set (Loc.set st1.loc n .none) t told) n, st1.mem⟩)) (hne : autoParam (t ≠ n) autoD._auto_1)
    (hk : autoParam (SC.names.lookup x = some .globalImplicit) autoD._auto_1) (hx : autoParam ((x == ("__debug__" : Str)) = false) autoD._auto_1) (hn : autoParam (SC.names.lookup n = some .local) autoD._auto_1) (hnd : autoParam ((n == ("__debug__" : Str)) = false) autoD._auto_1) (ht : autoParam (SC.names.lookup t = some .local) autoD._auto_1) :
    Wp g FlowR X st (exec (.Try body [.ExceptHandler (some (.Name x np)) (some n) [.Assign [.Name t tp] (.Attribute (.Name n ep) "told" ap) sp] hp] [] [] pos) X.env) Q E := by
  intro s hr
  have hX := hA.fx
  have hkn : X.env.kindOf n = some .local := by rw [kindOf_eq, hA.sc]; exact hn
  refine hid fun PP9 kk9 => ?_
  obtain ⟨nm, q, N, bs, P, sn, sub, ab, col, dd0, k0, k1, k2, k3, k5, hKC⟩ := hE.obj
  refine kk9 ?_
  clear kk9 PP9
  refine wpAny_Try_except (wpAny_mono (h s hr) ?_ ?_)
  · rintro f s1 ⟨af, st1, hf, hr1, hx1, hq⟩
    cases af with
    | next => cases hf; exact wpAny_execs_nil ⟨.next, st1, rfl, hr1, hx1, hq⟩
    | brk => cases hf; exact ⟨.brk, st1, rfl, hr1, hx1, hq⟩
    | cont => cases hf; exact ⟨.cont, st1, rfl, hr1, hx1, hq⟩
    | ret d => obtain ⟨v, rfl, hv⟩ := hf; exact ⟨.ret d, st1, ⟨v, rfl, hv⟩, hr1, hx1, hq⟩
  · intro e s1 hh9
    refine hid fun PP9 kk9 => ?_
    obtain ⟨told, st1, ⟨hr1, ea, rfl, hea⟩, hx1, hpl, hq⟩ := hh9
    refine kk9 ?_
    clear kk9 PP9
    refine noteFrame_at hX hr1 hx1 hea fun s2 hr2 hx2 he2 _ => ?_
    refine setFlight_at hr2 hx2 he2 (.inl rfl) (fo' := X.env.frame) fun s3 hr3 hx3 he3 => ?_
    refine wpAny_handleBy_cons (codeAny_handlers_test ?_) (by intro q; cases q)
    refine glob_raw hA hr3 hg (fun v hv => ?_) hk hx
    cases hv
    have hK3 := hA.gok.inK.keeps hr3.stays
    refine hid fun PP9 kk9 => ?_
    obtain ⟨oe, vs, dd, e1, e2, e3, e4, e5, e6⟩ := he3.there
    obtain ⟨hh3, g3, d3, t3, os3⟩ := s3
    refine kk9 ?_
    clear kk9 PP9
    refine wpAny_excMatches_sub_self (hK3 _ _ hKC) e1 e2 ((Tail.own P).has _ _ (by decide)) ?_
    refine codeAny_handlers_suite_as ?_
    refine setFlight_at hr3 hx3 he3 (.inl rfl) (fo' := X.env.frame) fun s4 hr4 hx4 he4 => ?_
    refine store_raw (d := .ref ea) hA hr4 hn rfl fun h5 hr5 hs5 ho5 => ?_
    have hL := hX.sub _ hX.loc
    have hx5 := hx4.trans (Ext.mine hX hX.loc hs5 ho5 (s4.toks + 1))
    have he5 := he4.store (loc := st1.loc.set n (.ref ea)) hr4 hs5 hL
    refine wpAny_execs_cons ?_
    refine wpAny_Assign_Name ?_ rfl
    refine Attribute_any_ ?_ (by with_unfolding_all rfl)
    refine wpAny_Name ?_ hnd
    obtain ⟨m, hnm, hmm⟩ := hr5.names
    have hle : (st1.loc.set n (.ref ea)) n = some (.ref ea) := by unfold Loc.set; rw [if_pos rfl]
    obtain ⟨v6, hv6, hV6⟩ : ∃ v, m n = some v ∧ Val h5 (.ref ea) v := by
      rcases hmm n _ hle with ⟨_, v, hv, hV⟩ | ⟨q, _⟩
      · exact ⟨v, hv, hV⟩
      · rw [hkn] at q; cases q
    cases hV6
    refine wpAny_loadName_local hX.kind hkn hnm hv6 ?_
    have hK5 := hA.gok.inK.keeps hr5.stays
    refine hid fun PP9 kk9 => ?_
    obtain ⟨oe5, vs5, dd5, a1, a2, a3, a4, ⟨b1, b2, b3, es, mm, b4, b5⟩, a6⟩ := he5.there
    obtain ⟨v7, hv7, hV7⟩ := b5.get (x := "told") (d := told) (by simp)
    refine kk9 ?_
    clear kk9 PP9
    have I : InstAt h5 ea oe5 g.exc (some (dictOf es mm)) := ⟨a1, a2, by simp [notCls, a4], by rw [a3]; exact b4⟩
    obtain ⟨cd, hcd, hmro, hhd⟩ : ∃ cd, clsIn g.K g.exc = some cd ∧ cd.mro = .ref g.exc :: .ref P :: excTail ∧ cd.hasDict = true := by unfold clsIn; rw [hKC]; exact ⟨_, rfl, rfl, rfl⟩
    refine exc_get (s := { s4 with heap := h5, toks := s4.toks + 1 }) hK5 I hE.get hE.noget ?_ (findObj_own (by unfold hasDictIn; rw [hcd]; exact hhd) hE.told rfl hv7) (val_handed hV7 hpl) fun tk => ?_
    · unfold mroIn; rw [hcd, Option.bind_some, hmro]; simp [excTail]
    refine store_raw (d := told) hA (hr5.toks tk) ht hV7 fun h6 hr6 hs6 ho6 => wpAny_execs_nil ?_
    have hx6 := (hx5.toks tk).trans (Ext.mine hX hX.loc hs6 ho6 (tk + 1))
    refine wpAny_bind (wpAny_bindName (store_raw (d := .none) hA hr6 hn rfl fun h7 hr7 hs7 ho7 => ?_))
    have hx7 := hx6.trans (Ext.mine hX hX.loc hs7 ho7 (tk + 1 + 1))
    unfold unbindBehindTheSuite
    refine wpAny_onRaise ?_
    obtain ⟨m7, hn7, hm7⟩ := hr7.names
    obtain ⟨v8, hv8, _⟩ : ∃ v, m7 n = some v ∧ Val h7 .none v := by
      rcases hm7 n .none (by show (if n = n then some D.none else _) = _; exact if_pos rfl) with ⟨_, v, hv, hV⟩ | ⟨q, _⟩
      · exact ⟨v, hv, hV⟩
      · rw [hkn] at q; cases q
    refine wpAny_unbindName_local hkn hn7 hv8 hX.notMod fun h8 u hn8 hs8 => ?_
    have ho8 : ∃ o, h8.get? X.env.locals = some o := let ⟨o, _, _, ho, _⟩ := hn8; ⟨o, ho⟩
    refine ⟨.next, ⟨Loc.del (Loc.set (Loc.set st1.loc n .none) t told) n, st1.mem⟩, rfl, ?_, hx7.trans (Ext.mine hX hX.loc hs8 ho8 (tk + 1 + 1)), hq⟩
    refine hr7.same_but (loc := Loc.del (Loc.set (Loc.set st1.loc n .none) t told) n) hX hs8 hL (let ⟨o, es, ep, ho, hd, _⟩ := hn8; ⟨o, ho, .inl ⟨es, ep, hd⟩⟩) (tk + 1 + 1) (fun ks => ⟨_, hn8, fun y d hy => ?_⟩) fun y c hc => ?_
    · unfold Loc.del at hy
      by_cases z : y = n
      · rw [if_pos z] at hy; cases hy
      · rw [if_neg z] at hy
        have hy' : ((Loc.set (Loc.set (Loc.set st1.loc n (.ref ea)) t told) n .none)) y = some d := by
          unfold Loc.set at hy ⊢
          rw [if_neg z]
          by_cases zt : y = t
          · rw [if_pos zt] at hy ⊢; exact hy
          · rw [if_neg zt, if_neg z] at hy; rw [if_neg zt, if_neg z]; exact hy
        rcases hm7 y d hy' with ⟨q1, v, hv, hV⟩ | ⟨q1, c, v, hl, hc, hV⟩
        · exact .inl ⟨q1, v, by simp only [if_neg z]; exact hv, Val.keeps ks _ _ hV⟩
        · exact .inr ⟨q1, c, v, hl, hc.sameBut hs8 (hX.apartL _ _ (mem_of_lookup hl)), Val.keeps ks _ _ hV⟩
    · obtain ⟨w, hw⟩ := hr7.cellsOk y c hc
      exact ⟨w, hw.sameBut hs8 (hX.apartL _ _ hc)⟩
end
end
section
section
variable {α β : Type} {g : Gd} {X : Fx} {SC : Scope} {n : Nat} {st : St} {s s0 : Shared} {σ τ : Mem} {E : EP} {A : Around}

/-! ### a class called -/
theorem tc_under (A : Around) (a : Addr) (rest : List Value) : (A.under (.builtin "type.__call__" ⟨.ref a :: rest, []⟩)).depth = A.depth + 1 ∧ (A.under (.builtin "type.__call__" ⟨.ref a :: rest, []⟩)).units = A.units + 1 ∧
    (A.under (.builtin "type.__call__" ⟨.ref a :: rest, []⟩)).frames = A.frames ∧ (A.under (.builtin "type.__call__" ⟨.ref a :: rest, []⟩)).handled = A.handled := by
  refine ⟨?_, ?_, ?_, rfl⟩
  · show A.depth + Code.weight _ = _; rw [tc_weight]
  · show A.units + Code.cUnits _ = _; rw [tc_units]
  · show pushEnvs (Code.envs (.builtin "type.__call__" ⟨.ref a :: rest, []⟩)) A.frames = A.frames; rw [tc_envs]; cases A.frames <;> rfl

theorem Rep.under {A' : Around} (r : Rep g X st s) : Rep g { X with A := A' } st s := ⟨r.stays, r.frames, r.taken, r.names, r.cellsOk, r.cells⟩
theorem Rep.back {A' : Around} (r : Rep g { X with A := A' } st s) : Rep g X st s := ⟨r.stays, r.frames, r.taken, r.names, r.cellsOk, r.cells⟩
theorem Ext.back {A' : Around} (x : Ext { X with A := A' } σ s0 τ s) : Ext X σ s0 τ s := ⟨x.same, x.slots, x.new, x.gens, x.os, x.drawn, x.more⟩

structure Makable (g : Gd) (C fI : Addr) : Prop where
  makes : makesIn g.K C = true
  init : findIn g.K (.ref C) "__init__" = some (some (.ref fI))
  fn : typeIn g.K (.ref fI) = some (.type "function")

theorem call_class {C fI : Addr} {ds : List D} {Q : D → St → Prop} (hA : At g X SC (n + 1)) (hC : Makable g C fI)
    (h : ∀ A', At g { X with A := A' } SC n → ∀ d, st.mem d = none → CCall g { X with A := A' } { st with mem := st.mem.set d (.dict []) } (.ref fI) (.obj C d :: ds) (fun r st' => r = .none ∧ Q (.obj C d) st') E) :
    WCall g X st (.ref C) ds Q E := by
  rintro _ vs s rfl hvs hr
  have hX := hA.fx
  have hK : g.K.In s.heap := hA.gok.inK.keeps hr.stays
  refine hid fun PP9 kk9 => ?_
  obtain ⟨u1, u2, u3, u4⟩ := tc_under X.A C vs
  refine kk9 ?_
  clear kk9 PP9
  let A' := X.A.under (.builtin "type.__call__" ⟨.ref C :: vs, []⟩)
  have hA' : At g { X with A := A' } SC n := ⟨hA.gok, ⟨hX.kind, hX.globals, hX.builtins, u3.trans hX.stack, u4.trans hX.unhandled, hX.fr, hX.loc, hX.sub, hX.cells, hX.apart, hX.apartL, hX.top⟩, hA.sc,
    by have := hA.dep; show A'.depth + n < _; rw [u1]; (first | lia | omega), by have := hA.uni; show A'.units + 8 * n < _; rw [u2]; (first | lia | omega)⟩
  have k : ∀ b o, s.heap.get? b = some o → ((s.heap.push emptyDict).push (instObj C s.heap.objs.size)).get? b = some o := fun b o e => Heap.get?_push_of_some _ (Heap.get?_push_of_some _ e)
  have hd : ((s.heap.push emptyDict).push (instObj C s.heap.objs.size)).get? s.heap.objs.size = some (dictOf [] 0) := Heap.get?_push_of_some _ (Heap.get?_push_size _ rfl)
  have hx : ((s.heap.push emptyDict).push (instObj C s.heap.objs.size)).get? (s.heap.objs.size + 1) = some (instObj C s.heap.objs.size) := by heap_get
  obtain ⟨hr2, hn⟩ := hr.put (c := .dict []) k s.toks (fresh_none _) ⟨[], 0, hd, trivial⟩
  have hx2 : Ext X st.mem s (st.mem.set s.heap.objs.size (.dict [])) { s with heap := (s.heap.push emptyDict).push (instObj C s.heap.objs.size) } := Ext.put k s.toks (fresh_none _)
  refine hid fun PP9 kk9 => ?_
  obtain ⟨hh, gg, dr, tt, os⟩ := s
  refine kk9 ?_
  clear kk9 PP9
  refine wpAny_call (make_core (makes_of hK hC.makes) (looks_findIn hK hC.init) (fun self => bind_fn hK self hC.fn) (.inl rfl) ?_)
  have main := h A' hA' hh.objs.size hn (.ref fI) (.ref (hh.objs.size + 1) :: vs) ⟨(hh.push emptyDict).push (instObj C hh.objs.size), gg, dr, tt, os⟩ rfl ⟨_, _, rfl, ⟨_, rfl, hx⟩, Vals.keeps (fun b o e _ => k b o e) _ _ hvs⟩ hr2.under
  refine codeAny_mono main fun r s' z => ?_
  rcases r with e | (_ | _ | _ | v)
  · refine hid fun PP9 kk9 => ?_
    obtain ⟨told, st', ⟨hr', ea, rfl, he⟩, hx', hE⟩ := z
    refine kk9 ?_
    clear kk9 PP9
    have R : Raised g X st' told (.ref ea) _ s' := ⟨hr'.back, ea, rfl, he⟩
    exact ⟨told, st', Raised.lift R hx2, hx2.trans hx'.back, hE⟩
  · exact z
  · exact z
  · exact z
  · obtain ⟨d, st', hv, hr', hx', rfl, hq⟩ := z
    cases hv
    exact ⟨rfl, .obj C hh.objs.size, st', ⟨_, rfl, hr2.keeps hx'.back _ _ hx (.inr (.inl ⟨_, _, rfl⟩))⟩, hr'.back, hx2.trans hx'.back, hq⟩
end
end
section
open PySem.SeqAt

noncomputable def Atom : D → Prop
  | .none => True
  | .int _ => True
  | .str _ => True
  | .bool _ => False
  | .bytes _ => False
  | .tup _ => False
  | .ref _ => False
  | .obj _ _ => False
  | .rng _ _ _ => False
  | .ty _ => False
  | .bi _ => False
noncomputable def Flat : D → Prop
  | .tup ds => ∀ d ∈ ds, Atom d
  | .none => False
  | .bool _ => False
  | .int _ => False
  | .str _ => False
  | .bytes _ => False
  | .ref _ => False
  | .obj _ _ => False
  | .rng _ _ _ => False
  | .ty _ => False
  | .bi _ => False

section
variable {α β : Type} {g : Gd} {X : Fx} {SC : Scope} {n : Nat} {st : St} {s s0 : Shared} {σ τ : Mem} {E : EP} {A : Around}

theorem of_rcne {prog : Program} {w : World} {E' : Value → Shared → Prop} {Q : Value → Shared → Prop} {a b : Value} {k : Bool} (h : RcNeAt A s a b k) (hq : Q (.bool k) s) : wpAny (model prog w) A (compareOp .NotEq a b) Q E' s := h prog w E' Q hq
theorem eq_atom {d : D} {v w : Value} (ha : Atom d) (hv : Val s.heap d v) (hw : Val s.heap d w) : EqAt A s v w true := by
  cases d <;> first | exact ha.elim | skip
  · cases hv; cases hw; exact EqAt.same _
  · obtain ⟨t, rfl⟩ := hv; obtain ⟨u, rfl⟩ := hw
    have := EqAt.int_int (A := A) (s := s) ‹Int› t ‹Int› u
    rwa [beq_self_eq_true] at this
  · obtain ⟨t, rfl⟩ := hv; obtain ⟨u, rfl⟩ := hw
    have := EqAt.str_str (A := A) (s := s) ‹Str› t ‹Str› u
    rwa [beq_self_eq_true] at this

theorem vals_at {h : Heap} {ds : List D} {vs ws : Array Value} (hV : Vals h ds vs.toList) (hW : Vals h ds ws.toList) {j : Nat} (h1 : j < vs.size) (h2 : j < ws.size) : ∃ d ∈ ds, Val h d vs[j] ∧ Val h d ws[j] := by
  refine hid fun PP9 kk9 => ?_
  obtain ⟨d, hd, hvd⟩ := hV.of_get (i := j) (v := vs[j]) (by simp [h1])
  obtain ⟨w, hw, hwd⟩ := hW.get hd
  refine kk9 ?_
  clear kk9 PP9
  have : w = ws[j] := by have : ws.toList[j]? = some ws[j] := by simp [h2]
                         rw [this] at hw; exact (Option.some.inj hw).symm
  exact ⟨d, List.mem_of_getElem? hd, hvd, this ▸ hwd⟩

theorem rc_flat {ds : List D} {a b : Addr} {vs ws : Array Value} {m m' : Nat} (hf : ∀ d ∈ ds, Atom d) (ha : s.heap.get? a = some (tupO vs m)) (hb : s.heap.get? b = some (tupO ws m')) (hV : Vals s.heap ds vs.toList) (hW : Vals s.heap ds ws.toList) (hu : A.units < cLine) :
    RcAt A s (.ref a) (.ref b) true := by
  have h1 : vs.size = ds.length := by rw [← hV.length]; simp
  have h2 : ws.size = ds.length := by rw [← hW.length]; simp
  have := RcAt.tuples (A := A) (s := s) (e := fun _ => true) ⟨_, ha, rfl, m, rfl⟩ ⟨_, hb, rfl, m', rfl⟩ hu fun j q1 q2 => by
    refine hid fun PP9 kk9 => ?_
    obtain ⟨d, hd, x, y⟩ := vals_at hV hW q1 q2
    refine kk9 ?_
    clear kk9 PP9
    exact eq_atom (hf d hd) x y
  rw [List.all_eq_true.mpr (fun _ _ => rfl), h1, h2, beq_self_eq_true] at this
  exact this
theorem eq_flat {d : D} {v w : Value} (hf : Flat d) (hv : Val s.heap d v) (hw : Val s.heap d w) (hu : A.units < cLine) : EqAt A s v w true := by
  cases d <;> first | exact hf.elim | skip
  refine hid fun PP9 kk9 => ?_
  obtain ⟨a, vs, m, rfl, ha, hV⟩ := hv
  obtain ⟨b, ws, m', rfl, hb, hW⟩ := hw
  refine kk9 ?_
  clear kk9 PP9
  by_cases z : a = b
  · subst z; exact EqAt.same _
  · exact EqAt.of_refs z (rc_flat hf ha hb hV hW hu)

theorem At.room (hA : At g X SC n) : X.A.units < cLine := by have := hA.uni; (first | lia | omega)

theorem c_eqTup {ds : List D} {Q : D → St → Prop} (hA : At g X SC n) (hf : ∀ d ∈ ds, Atom d) (h : Q (.bool true) st) : W2 g Val X st (compareOp .Eq) (.tup ds) (.tup ds) Q E := by
  rintro _ _ s ⟨a, vs, m, rfl, ha, hV⟩ ⟨b, ws, m', rfl, hb, hW⟩ hr
  exact rc_flat hf ha hb hV hW hA.room _ _ _ _ (Po.now hr rfl h s.toks)
theorem c_eqRows {ds : List D} {a b : Addr} {Q : D → St → Prop} (hA : At g X SC (n + 1)) (hm : st.mem a = some (.list ds)) (hm' : st.mem b = some (.list ds)) (hf : ∀ d ∈ ds, Flat d) (h : Q (.bool true) st) : W2 g Val X st (compareOp .Eq) (.ref a) (.ref b) Q E := by
  rintro _ _ s rfl rfl hr
  refine hid fun PP9 kk9 => ?_
  obtain ⟨vs, m, ho, hV⟩ := cell_list hr hm
  obtain ⟨ws, m', ho', hW⟩ := cell_list hr hm'
  refine kk9 ?_
  clear kk9 PP9
  have h1 : vs.size = ds.length := by rw [← hV.length]; simp
  have h2 : ws.size = ds.length := by rw [← hW.length]; simp
  refine eq_listAt (e := fun _ => true) (IsL_of ho).isList (IsL_of ho').isList (by (first | lia | omega)) hA.room (fun j q1 q2 => ?_) ?_
  · refine hid fun PP9 kk9 => ?_
    obtain ⟨d, hd, x, y⟩ := vals_at hV hW q1 q2
    refine kk9 ?_
    clear kk9 PP9
    exact eq_flat (hf d hd) x y (by have := hA.uni; show X.A.units + 1 < _; (first | lia | omega))
  · rw [List.all_eq_true.mpr (fun _ _ => rfl)]; exact Po.now hr rfl h s.toks
theorem c_eqNil {ds : List D} {a b : Addr} {Q : D → St → Prop} (hA : At g X SC n) (hm : st.mem a = some (.list ds)) (hm' : st.mem b = some (.list [])) (h : Q (.bool ds.isEmpty) st) : W2 g Val X st (compareOp .Eq) (.ref a) (.ref b) Q E := by
  rintro _ _ s rfl rfl hr
  refine hid fun PP9 kk9 => ?_
  obtain ⟨vs, m, ho, hV⟩ := cell_list hr hm
  obtain ⟨ws, m', ho', hW⟩ := cell_list hr hm'
  refine kk9 ?_
  clear kk9 PP9
  have h1 : vs.size = ds.length := by rw [← hV.length]; simp
  have h2 : ws.size = 0 := by rw [← Array.length_toList, hW.length]; rfl
  cases ds with
  | nil =>
    refine eq_listAt (e := fun _ => true) (IsL_of ho).isList (IsL_of ho').isList (by simpa [h2] using h1) hA.room (fun j q1 q2 => by (first | lia | omega)) ?_
    rw [List.all_eq_true.mpr (fun _ _ => rfl)]; exact Po.now hr rfl h s.toks
  | cons d r =>
    refine eq_list_lengthsAt (IsL_of ho).isList (IsL_of ho').isList (by rw [h1, h2]; simp) hA.room (Po.now hr rfl h s.toks)
theorem c_neNil {ds : List D} {a b : Addr} {Q : D → St → Prop} (hA : At g X SC n) (hm : st.mem a = some (.list ds)) (hm' : st.mem b = some (.list [])) (h : Q (.bool (!ds.isEmpty)) st) : W2 g Val X st (compareOp .NotEq) (.ref a) (.ref b) Q E := by
  rintro _ _ s rfl rfl hr
  refine hid fun PP9 kk9 => ?_
  obtain ⟨vs, m, ho, hV⟩ := cell_list hr hm
  obtain ⟨ws, m', ho', hW⟩ := cell_list hr hm'
  refine kk9 ?_
  clear kk9 PP9
  have h1 : vs.size = ds.length := by rw [← hV.length]; simp
  have h2 : ws.size = 0 := by rw [← Array.length_toList, hW.length]; rfl
  cases ds with
  | nil =>
    have := RcNeAt.lists (A := X.A) (s := s) (e := fun _ => true) (IsL_of ho).isList (IsL_of ho').isList (by simpa [h2] using h1) hA.room (fun j q1 q2 => by (first | lia | omega))
    refine of_rcne this ?_
    first
      | exact Po.now hr rfl h s.toks
      | (rw [List.all_eq_true.mpr (fun _ _ => rfl)]; exact Po.now hr rfl h s.toks)
  | cons d r =>
    exact of_rcne (RcNeAt.lists_lengths (IsL_of ho).isList (IsL_of ho').isList (by rw [h1, h2]; simp) hA.room) (Po.now hr rfl h s.toks)
theorem c_eqBytes {a b : Array UInt8} {Q : D → St → Prop} (h : Q (.bool (a.toList == b.toList)) st) : W2 g Val X st (compareOp .Eq) (.bytes a) (.bytes b) Q E := by
  rintro _ _ s ⟨t, rfl⟩ ⟨u, rfl⟩ hr; exact eq_bytes (Po.now hr rfl h s.toks)
theorem c_neBytes {a b : Array UInt8} {Q : D → St → Prop} (h : Q (.bool (a.toList != b.toList)) st) : W2 g Val X st (compareOp .NotEq) (.bytes a) (.bytes b) Q E := by
  rintro _ _ s ⟨t, rfl⟩ ⟨u, rfl⟩ hr; exact ne_bytes (Po.now hr rfl h s.toks)
theorem c_neNone {Q : D → St → Prop} (h : Q (.bool false) st) : W2 g Val X st (compareOp .NotEq) .none .none Q E := by
  rintro _ _ s rfl rfl hr; exact of_rcne RcNeAt.none_none (Po.now hr rfl h s.toks)

/-! ### membership -/
noncomputable def dStr (a : Str) : D → Bool
  | .str b => b == a
  | .none => false
  | .bool _ => false
  | .int _ => false
  | .bytes _ => false
  | .tup _ => false
  | .ref _ => false
  | .obj _ _ => false
  | .rng _ _ _ => false
  | .ty _ => false
  | .bi _ => false
noncomputable def dNone : D → Bool
  | .none => true
  | .bool _ => false
  | .int _ => false
  | .str _ => false
  | .bytes _ => false
  | .tup _ => false
  | .ref _ => false
  | .obj _ _ => false
  | .rng _ _ _ => false
  | .ty _ => false
  | .bi _ => false
noncomputable def Word : D → Prop
  | .none => True
  | .str _ => True
  | .bool _ => False
  | .int _ => False
  | .bytes _ => False
  | .tup _ => False
  | .ref _ => False
  | .obj _ _ => False
  | .rng _ _ _ => False
  | .ty _ => False
  | .bi _ => False
noncomputable def wordB : D → Bool
  | .none => true
  | .str _ => true
  | _ => false
theorem word_all {ds : List D} (h : ds.all wordB = true) : ∀ d ∈ ds, Word d := fun d hd => by
  have h' := List.all_eq_true.mp h d hd
  cases d <;> first | exact trivial | exact Bool.noConfusion h'
noncomputable def vStr (a : Str) : Value → Bool
  | .str b _ => b == a
  | _ => false
noncomputable def vNone : Value → Bool
  | .none => true
  | _ => false
theorem any_map {h : Heap} {e : Value → Bool} {f : D → Bool} : ∀ {ds : List D} {vs : List Value}, Vals h ds vs → (∀ d ∈ ds, ∀ v, Val h d v → e v = f d) → vs.any e = ds.any f
  | [], _, hv, _ => by cases hv; rfl
  | d :: ds, _, hq7, k => by obtain ⟨v, r, rfl, hv, hr⟩ := hq7; rw [List.any_cons, List.any_cons, k d (.head _) v hv, any_map hr fun d hd => k d (.tail _ hd)]

theorem in_str {a : Str} {ds : List D} (hw : ∀ d ∈ ds, Word d) {v : Value} {vs : Array Value} (hV : Vals s.heap ds vs.toList) (t : Tok) :
    (∀ y, y ∈ vs → EqAt A s y (.str a t) (vStr a y)) ∧ vs.any (vStr a) = ds.any (dStr a) := by
  refine ⟨fun y hy => ?_, ?_⟩
  · refine hid fun PP9 kk9 => ?_
    obtain ⟨j, hj, rfl⟩ := Array.mem_iff_getElem.mp hy
    obtain ⟨d, hd, hvd⟩ := hV.of_get (i := j) (v := vs[j]) (by simp [hj])
    refine kk9 ?_
    clear kk9 PP9
    have := hw d (List.mem_of_getElem? hd)
    cases d <;> first | exact this.elim | skip
    · rw [show vs[j] = Value.none from hvd]; exact EqAt.none_str a t
    · obtain ⟨u, hu⟩ := hvd; rw [hu]; exact EqAt.str_str _ _ _ _
  · rw [← Array.any_toList]
    refine any_map hV fun d hd v hv => ?_
    have := hw d hd
    cases d <;> first | exact this.elim | skip
    · cases hv; rfl
    · obtain ⟨u, rfl⟩ := hv; rfl
theorem in_none {ds : List D} (hw : ∀ d ∈ ds, Word d) {vs : Array Value} (hV : Vals s.heap ds vs.toList) :
    (∀ y, y ∈ vs → EqAt A s y .none (vNone y)) ∧ vs.any vNone = ds.any dNone := by
  refine ⟨fun y hy => ?_, ?_⟩
  · refine hid fun PP9 kk9 => ?_
    obtain ⟨j, hj, rfl⟩ := Array.mem_iff_getElem.mp hy
    obtain ⟨d, hd, hvd⟩ := hV.of_get (i := j) (v := vs[j]) (by simp [hj])
    refine kk9 ?_
    clear kk9 PP9
    have := hw d (List.mem_of_getElem? hd)
    cases d <;> first | exact this.elim | skip
    · rw [show vs[j] = Value.none from hvd]; exact EqAt.same _
    · obtain ⟨u, hu⟩ := hvd; rw [hu]; exact EqAt.str_none _ _
  · rw [← Array.any_toList]
    refine any_map hV fun d hd v hv => ?_
    have := hw d hd
    cases d <;> first | exact this.elim | skip
    · cases hv; rfl
    · obtain ⟨u, rfl⟩ := hv; rfl
theorem c_inS {a : Str} {ds : List D} {Q : D → St → Prop} (hw : ∀ d ∈ ds, Word d) (h : Q (.bool (ds.any (dStr a))) st) : W2 g Val X st (compareOp .In) (.str a) (.tup ds) Q E := by
  rintro _ _ s ⟨t, rfl⟩ ⟨b, vs, m, rfl, hb, hV⟩ hr
  obtain ⟨k1, k2⟩ := in_str (A := X.A.in1) (s := s) (a := a) hw (v := .none) hV t
  exact in_tupleAt (vStr a) ⟨_, hb, rfl, m, rfl⟩ k1 (Po.now hr (by rw [k2]; rfl) h s.toks)
theorem c_notInS {a : Str} {ds : List D} {Q : D → St → Prop} (hw : ∀ d ∈ ds, Word d) (h : Q (.bool (!ds.any (dStr a))) st) : W2 g Val X st (compareOp .NotIn) (.str a) (.tup ds) Q E := by
  rintro _ _ s ⟨t, rfl⟩ ⟨b, vs, m, rfl, hb, hV⟩ hr
  obtain ⟨k1, k2⟩ := in_str (A := X.A.in1) (s := s) (a := a) hw (v := .none) hV t
  exact notIn_tupleAt (vStr a) ⟨_, hb, rfl, m, rfl⟩ k1 (Po.now hr (by rw [k2]; rfl) h s.toks)
theorem c_inN {ds : List D} {Q : D → St → Prop} (hw : ∀ d ∈ ds, Word d) (h : Q (.bool (ds.any dNone)) st) : W2 g Val X st (compareOp .In) .none (.tup ds) Q E := by
  rintro _ _ s rfl ⟨b, vs, m, rfl, hb, hV⟩ hr
  obtain ⟨k1, k2⟩ := in_none (A := X.A.in1) (s := s) hw hV
  exact in_tupleAt vNone ⟨_, hb, rfl, m, rfl⟩ k1 (Po.now hr (by rw [k2]; rfl) h s.toks)
end
end
section
/-! ### memory: what stays -/
noncomputable def Mod (T : List Addr) (μ ν : Mem) : Prop := ∀ a c, a ∉ T → μ a = some c → ν a = some c
noncomputable def LLess (l l' : Loc) : Prop := ∀ x d, l x = some d → l' x = some d

section
variable {α β : Type} {g : Gd} {X : Fx} {SC : Scope} {n : Nat} {st : St} {s s0 : Shared} {σ τ : Mem} {E : EP} {A : Around}

/-- fewer things known -/
theorem Rep.less {loc : Loc} (r : Rep g X st s) (hl : LLess loc st.loc) (hm : Less σ st.mem) : Rep g X ⟨loc, σ⟩ s :=
  ⟨r.stays, r.frames, r.taken, let ⟨m, hn, h⟩ := r.names; ⟨m, hn, fun x d e => h x d (hl x d e)⟩, r.cellsOk, fun a c e => r.cells a c (hm a c e)⟩
theorem Ext.less (x : Ext X σ s0 τ s) {ρ : Mem} (hm : Less ρ τ) : Ext X σ s0 ρ s := ⟨x.same, x.slots, fun b o e hb ht => hm.none (x.new b o e hb ht), x.gens, x.os, x.drawn, x.more⟩
theorem Less.refl : Less σ σ := fun _ _ e => e
theorem LLess.refl {l : Loc} : LLess l l := fun _ _ e => e
theorem Po.less {R : Heap → β → α → Prop} {Q : β → St → Prop} {a : α} {s' : Shared} (h : Po g X σ s R (fun b st' => ∃ loc μ, LLess loc st'.loc ∧ Less μ st'.mem ∧ Q b ⟨loc, μ⟩) a s') : Po g X σ s R Q a s' := by
  refine hid fun PP9 kk9 => ?_
  obtain ⟨b, st', h1, h2, h3, loc, μ, h4, h5, h6⟩ := h
  refine kk9 ?_
  clear kk9 PP9
  exact ⟨b, ⟨loc, μ⟩, h1, h2.less h4 h5, h3.less h5, h6⟩
theorem Wp.less {R : Heap → β → α → Prop} {t : Sem α} {Q : β → St → Prop} (h : Wp g R X st t (fun b st' => ∃ loc μ, LLess loc st'.loc ∧ Less μ st'.mem ∧ Q b ⟨loc, μ⟩) E) : Wp g R X st t Q E :=
  fun s hr => wpAny_mono (h s hr) (fun _ _ x => x.less) fun _ _ x => x

/-- an object off the state changed -/
theorem Rep.off {a : Addr} {h' : Heap} (hX : FxOk X) (r : Rep g X st s) (hm : st.mem a = none) (ht : a ∉ X.taken) (hb : g.base.get? a = none) (hs : ∃ o, s.heap.get? a = some o ∧ ¬ Still o) (hk : Heap.ExtBut a s.heap h') (t : Nat) : Rep g X st { s with heap := h', toks := t } := by
  have ks : Keeps Still s.heap h' := extBut_still hk hs
  refine ⟨fun b o e => hk b o (fun z => by subst z; rw [hb] at e; cases e) (r.stays b o e), ?_, fun b hb => ?_, ?_, ?_, fun b c e => ?_⟩
  · exact funFrames_on (fun e he b hb o ho => ⟨o, hk b o (fun z => ht (z ▸ hX.fr e he b hb)) ho, rfl⟩) r.frames
  · refine hid fun PP9 kk9 => ?_
    obtain ⟨h1, o, h2, h3⟩ := r.taken b hb
    refine kk9 ?_
    clear kk9 PP9
    exact ⟨h1, o, hk b o (fun z => ht (z ▸ hb)) h2, h3⟩
  · obtain ⟨m, hn, hmm⟩ := r.names
    exact ⟨m, hn.at' fun o ho => hk _ o (fun z => ht (z ▸ hX.sub _ hX.loc)) ho, fun y d e => (hmm y d e).keeps ks fun c v ⟨o, ho, hd⟩ ⟨z, hz⟩ => ⟨o, hk c o (fun q => ht (q ▸ hX.cells z c hz)) ho, hd⟩⟩
  · intro y c hc
    refine hid fun PP9 kk9 => ?_
    obtain ⟨v, o, ho, hd⟩ := r.cellsOk y c hc
    refine kk9 ?_
    clear kk9 PP9
    exact ⟨v, o, hk c o (fun q => ht (q ▸ hX.cells y c hc)) ho, hd⟩
  · obtain ⟨h1, h2, h3⟩ := r.cells b c e
    exact ⟨h1.keeps ks fun o ho => hk b o (fun z => by subst z; rw [hm] at e; cases e) ho, h2, h3⟩

/-! ### a comprehension's environment -/
noncomputable def rescope (scope SC : Scope) : Scope := { scope with names := scope.names.map fun (n, k) => if (k == .free && SC.kind == .function && SC.names.lookup n == some .cell) then (n, .cell) else (n, k) }
theorem relabel_eq (scope : Scope) (env : Env) : relabel scope env = rescope scope env.scope := rfl

noncomputable def clOf (env : Env) : List (Str × NameKind) → List (Str × Addr) → List (Str × Addr)
  | [], acc => acc
  | (n, k) :: r, acc => if k == .free then clOf env r ((n, (env.cells.lookup n).getD 0) :: acc) else clOf env r acc
theorem closure_at {env : Env} : ∀ (names : List (Str × NameKind)) (acc : List (Str × Addr)), (∀ x ∈ names, x.2 = .free → (env.cells.lookup x.1).isSome = true) →
    (forIn names acc (fun (x : Str × NameKind) (cs : List (Str × Addr)) => if (x.2 == .free) = true then do let c ← cellOf env x.1; pure (ForInStep.yield ((x.1, c) :: cs)) else pure (ForInStep.yield cs)) : Sem _) = pure (clOf env names acc)
  | [], acc, _ => by rw [List.forIn_nil]; rfl
  | (n, k) :: r, acc, h => by
    rw [List.forIn_cons]
    unfold clOf
    by_cases hk : (k == NameKind.free) = true
    · have hs := h (n, k) List.mem_cons_self (beq_iff_eq.mp hk)
      obtain ⟨c, hc⟩ := Option.isSome_iff_exists.mp hs
      dsimp only at hs hc ⊢
      rw [if_pos hk, if_pos hk, hc]
      unfold cellOf
      rw [hc]
      exact closure_at r _ fun x hx => h x (List.mem_cons_of_mem _ hx)
    · dsimp only
      rw [if_neg hk, if_neg hk]
      exact closure_at r acc fun x hx => h x (List.mem_cons_of_mem _ hx)
theorem closure_eq {scope : Scope} {env : Env} (h : ∀ x ∈ scope.names, x.2 = .free → (env.cells.lookup x.1).isSome = true) : closureFor scope env = pure (clOf env scope.names []) := by
  have := closure_at scope.names [] h
  unfold closureFor
  refine Eq.trans ?_ this
  exact bind_pure _
theorem clOf_mem {env : Env} : ∀ (names : List (Str × NameKind)) (acc : List (Str × Addr)) (x : Str) (c : Addr), (x, c) ∈ clOf env names acc → (x, c) ∈ acc ∨ ((x, NameKind.free) ∈ names ∧ c = (env.cells.lookup x).getD 0)
  | [], _, _, _, h => .inl h
  | (n, k) :: r, acc, x, c, h => by
    unfold clOf at h
    split at h
    · rename_i hk
      rcases clOf_mem r _ x c h with h | ⟨h1, h2⟩
      · rcases List.mem_cons.mp h with h | h
        · cases h; exact .inr ⟨by rw [beq_iff_eq.mp hk]; exact List.mem_cons_self, rfl⟩
        · exact .inl h
      · exact .inr ⟨List.mem_cons_of_mem _ h1, h2⟩
    · rcases clOf_mem r _ x c h with h | ⟨h1, h2⟩
      · exact .inl h
      · exact .inr ⟨List.mem_cons_of_mem _ h1, h2⟩
theorem clOf_keys {env : Env} : ∀ (names : List (Str × NameKind)) (acc : List (Str × Addr)), (names.map (·.1) ++ acc.map (·.1)).Nodup → ((clOf env names acc).map (·.1)).Nodup
  | [], acc, h => by unfold clOf; simpa using h
  | (x, k) :: r, acc, h => by
    unfold clOf
    have e : ((x, k) :: r).map (·.1) ++ acc.map (·.1) = x :: (r.map (·.1) ++ acc.map (·.1)) := rfl
    rw [e] at h
    split
    · exact clOf_keys r _ ((List.perm_middle.nodup_iff).mpr h)
    · exact clOf_keys r _ (List.nodup_cons.mp h).2
theorem clOf_has {env : Env} {x : Str} : ∀ (names : List (Str × NameKind)) (acc : List (Str × Addr)), (x, NameKind.free) ∈ names ∨ (x, (env.cells.lookup x).getD 0) ∈ acc → (x, (env.cells.lookup x).getD 0) ∈ clOf env names acc
  | [], acc, h => by rcases h with h | h; cases h; exact h
  | (n, k) :: r, acc, h => by
    unfold clOf
    by_cases hk : (k == NameKind.free) = true
    · rw [if_pos hk]
      refine clOf_has r _ ?_
      rcases h with h | h
      · rcases List.mem_cons.mp h with q | q
        · cases q; exact .inr List.mem_cons_self
        · exact .inl q
      · exact .inr (List.mem_cons_of_mem _ h)
    · rw [if_neg hk]
      refine clOf_has r _ ?_
      rcases h with h | h
      · rcases List.mem_cons.mp h with q | q
        · cases q; exact absurd rfl hk
        · exact .inl q
      · exact .inr h

theorem lookup_free {scope SC : Scope} {x : Str} (hk : SC.kind = .function) (hc : SC.names.lookup x = some .cell) : scope.names.lookup x = some .free → (rescope scope SC).names.lookup x = some .cell := by
  unfold rescope
  show scope.names.lookup x = some .free → (scope.names.map fun (n, k) => if (k == .free && SC.kind == .function && SC.names.lookup n == some .cell) then (n, NameKind.cell) else (n, k)).lookup x = some NameKind.cell
  generalize scope.names = l
  induction l with
  | nil => intro h; cases h
  | cons p r ih =>
    obtain ⟨n, k⟩ := p
    intro h
    show List.lookup x ((if (k == NameKind.free && SC.kind == .function && SC.names.lookup n == some .cell) = true then (n, NameKind.cell) else (n, k)) :: _) = _
    cases q : x == n with
    | true =>
      rw [List.lookup_cons, q] at h; cases h
      have e : x = n := beq_iff_eq.mp q
      subst e
      rw [if_pos (by simp [hk, hc])]
      simp [List.lookup_cons]
    | false =>
      rw [List.lookup_cons, q] at h
      by_cases z : (k == NameKind.free && SC.kind == .function && SC.names.lookup n == some .cell) = true
      · rw [if_pos z]; simp only [List.lookup_cons, q]; exact ih h
      · rw [if_neg z]; simp only [List.lookup_cons, q]; exact ih h

noncomputable def capL (scope : Scope) (l : Loc) : Loc := fun x => if scope.names.lookup x = some .free then l x else none
theorem LLess.cap {scope : Scope} {l : Loc} {x : Str} {d : D} (h : scope.names.lookup x ≠ some .free) : LLess (capL scope l) ((capL scope l).set x d) := by
  intro y e hy
  unfold Loc.set
  by_cases z : y = x
  · subst z; unfold capL at hy; rw [if_neg h] at hy; cases hy
  · rw [if_neg z]; exact hy
theorem LLess.set {l l' : Loc} {x : Str} {d : D} (h : LLess l l') (hx : l x = none) : LLess l (l'.set x d) := by
  intro y e hy
  unfold Loc.set
  by_cases z : y = x
  · subst z; rw [hx] at hy; cases hy
  · rw [if_neg z]; exact h y e hy
end
end
section
noncomputable def NoE : EP := fun _ _ => False
noncomputable def fxC (X : Fx) (scope : Scope) (C : Addr) : Fx := { A := X.A, env := compEnvC scope (clOf X.env scope.names []) C X.env, frames := X.frames, taken := C :: X.taken, mine := [C] }

noncomputable abbrev TestTree (ifs : List Expr) (env : Env) : Sem Bool := forIn ifs true fun c r => if r = true then do let ok ← isTrue c env (eval c env); pure (ForInStep.yield ok) else pure (ForInStep.yield r)

section
variable {α β : Type} {g : Gd} {X : Fx} {SC : Scope} {n : Nat} {st : St} {s s0 : Shared} {σ τ : Mem} {E : EP} {A : Around}

theorem t_nil {Q : Bool → St → Prop} (h : Q true st) : Wp g BoolR X st (TestTree [] X.env) Q E := fun s hr => wpAny_tests_nil ⟨true, st, rfl, hr, .refl, h⟩
theorem t_one {c : Expr} {Q : Bool → St → Prop} (h : Wp g BoolR X st (isTrue c X.env (eval c X.env)) Q E) : Wp g BoolR X st (TestTree [c] X.env) Q E := fun s hr => wpAny_tests_one (h s hr)

noncomputable def CFin (cap : Loc) (D : Addr) (out : List Mine.D) (I : Mem → Prop) (st : St) : Prop := LLess cap st.loc ∧ ∃ μ, μ D = none ∧ Less (μ.set D (.list out)) st.mem ∧ I μ

structure CLoop (g : Gd) (SC scope : Scope) (target elt : Expr) (ifs : List Expr) (n : Nat) (d : D) (st1 : St) (ds : List D) (need : St → Prop) (Inv : Nat → List D → Mem → Prop) : Prop where
  seq : Seq st1 d ds need
  size : ds.length ≤ 100000
  keep : ∀ i out μ, Inv i out μ → ∀ loc D l, μ D = none → need ⟨loc, μ.set D l⟩
  zero : Inv 0 [] st1.mem
  step : ∀ XC, At g XC (rescope scope SC) n → ∀ i out μ D d, ds[i]? = some d → Inv i out μ → μ D = none →
    W1 g UnitR XC ⟨capL scope st1.loc, μ.set D (.list out)⟩ (assign target XC.env) d (fun _ st2 => Wp g BoolR XC st2 (TestTree ifs XC.env) (fun b st3 =>
      (b = true → Wp g Val XC st3 (eval elt XC.env) (fun r st4 => CFin (capL scope st1.loc) D out (Inv (i + 1) (out ++ [r])) st4) NoE) ∧
      (b = false → CFin (capL scope st1.loc) D out (Inv (i + 1) out) st3)) NoE) NoE

theorem noE {e : Value} {s' : Shared} (h : Ee g X σ s NoE e s') : False := let ⟨_, _, _, _, h⟩ := h; h

theorem compLoop_any {prog : Program} {w : World} {R : Result → Shared → Prop} {elt target iter : Expr} {ifs : List Expr} {scope : Scope} {pos : Pos} {it acc : Value} {env : Env} (I : Nat → Shared → Prop)
    (turn : ∀ n s, I n s → wpAny (model prog w) A (pyNext it) (fun r s₁ => match r with
      | none => R (.ok .next) s₁
      | some v => wpAny (model prog w) A (letOwnedTupleGo target it v) (fun _ s₁' => wpAny (model prog w) A (assign target env v) (fun _ s₂ =>
          wpAny (model prog w) A (TestTree ifs env) (fun ok s₃ =>
            if ok = true then wpAny (model prog w) A (eval elt env) (fun x s₄ =>
              wpAny (model prog w) A (call (.builtin "list.append") [acc, x]) (fun _ s₅ => ∃ m, m < n ∧ I m s₅) (fun _ _ => False) s₄) (fun _ _ => False) s₃
            else ∃ m, m < n ∧ I m s₃) (fun _ _ => False) s₂) (fun _ _ => False) s₁') (fun _ _ => False) s₁) (fun _ _ => False) s)
    (n : Nat) (h : I n s) : codeAny (model prog w) A (.compLoop (.ListComp elt [⟨target, iter, ifs, 0⟩] scope pos) 0 it acc env) R s := by
  refine codeAny_loop rfl I (fun n s hI => ?_) n h
  show wpAny _ A ((compTurn (.ListComp elt [⟨target, iter, ifs, 0⟩] scope pos) 0 it acc env).onRaise (fun x => do noteFrame x env; theTreesLotGoes x)) _ _ s
  refine wpAny_noted (wpAny_noRaise ?_)
  rw [compTurn_list]
  refine wpAny_bind (wpAny_standAt (wpAny_bind (wpAny_mono (turn n s hI) (fun r s₁ h₁ => ?_) fun _ _ h' => h')))
  cases r with
  | none => exact wpAny_pure h₁
  | some v =>
    refine wpAny_bind (wpAny_mono h₁ (fun _ s₁' h₁' => ?_) fun _ _ h' => h')
    refine wpAny_bind (wpAny_mono h₁' (fun _ s₂ h₂ => wpAny_bind (wpAny_mono h₂ (fun ok s₃ h₃ => ?_) fun _ _ h' => h')) fun _ _ h' => h')
    cases ok with
    | false => exact wpAny_pure ⟨rfl, h₃⟩
    | true =>
      exact wpAny_bind (wpAny_bind (wpAny_mono h₃ (fun x s₄ h₄ => wpAny_bind (wpAny_mono h₄ (fun _ s₅ h₅ => wpAny_pure (wpAny_pure ⟨rfl, h₅⟩)) fun _ _ h' => h')) fun _ _ h' => h'))

structure CDone (g : Gd) (X : Fx) (st1 : St) (s1 : Shared) (D C : Addr) (out : List Mine.D) (μ : Mem) (s' : Shared) : Prop where
  rep : Rep g X ⟨st1.loc, μ.set D (.list out)⟩ s'
  ext : Ext X st1.mem s1 (μ.set D (.list out)) s'
  fresh : μ D = none
  mem : (μ.set D (.list out)) C = none
  taken : C ∉ X.taken
  base : g.base.get? C = none
  new : s1.heap.get? C = none
  still : ∃ o, s'.heap.get? C = some o ∧ ¬ Still o
  ns : ∃ m, s'.heap.Ns C m

theorem comp_core {scope : Scope} {target elt iter : Expr} {ifs : List Expr} {pos : Pos} {d : D} {st1 : St} {ds : List D} {need : St → Prop} {Inv : Nat → List D → Mem → Prop} {s1 : Shared} {I : Addr} {C0 : Nat → Heap → Prop} {h2 : Heap}
    (hA : At g X SC n) (L : CLoop g SC scope target elt ifs n d st1 ds need Inv) (hk : scope.kind = .function) (hcell : ∀ y ∈ scope.names, y.2 ≠ .cell) (hnod : (scope.names.map (·.1)).Nodup)
    (hfree : ∀ y ∈ scope.names, y.2 = .free → (X.env.cells.lookup y.1).isSome = true ∧ SC.names.lookup y.1 = some .cell) (hSC : SC.kind = .function)
    (hr : Rep g X st1 s1) (hI1 : s1.heap.get? I = none) (hk2 : ∀ b o, s1.heap.get? b = some o → h2.get? b = some o) (W : Walker g X.A I ds need C0) (hC0 : C0 0 h2)
    {RR : Value → Addr → Result → Shared → Prop} {E' : Value → Shared → Prop}
    (hRR : ∀ D C s' out μ, Inv ds.length out μ → CDone g X st1 s1 D C out μ s' → RR (.ref D) C (.ok .next) s') :
    wpAny g.M X.A (newList []) (fun acc s₃ => wpAny g.M X.A (newFunctionEnv scope X.env.globals (clOf X.env scope.names []) [] X.env.qual none .none (some X.env)) (fun cenv s₄ =>
      codeAny g.M X.A (.compStart (.ListComp elt [⟨target, iter, ifs, 0⟩] scope pos) 0 (.ref I) acc { cenv with scope := relabel scope X.env }) (RR acc cenv.locals) s₄) E' s₃) E' { s1 with heap := h2 } := by
  have hX := hA.fx
  refine wpAny_newObj_type (wpAny_newFunctionEnv hcell (by intro y hy; simp at hy) (fun h₁ hns₁ hsb₁ => ?_) hk)
  dsimp only at hns₁ hsb₁ ⊢
  generalize hH2 : h2.push { cls := .type "list", dict := none, data := .seq ([] : List Value).toArray } = H2 at hns₁ hsb₁ ⊢
  have hCs : H2.objs.size = h2.objs.size + 1 := by rw [← hH2, Heap.size_push]
  have hDC : h2.objs.size ≠ H2.objs.size := by rw [hCs]; exact Nat.ne_of_lt (Nat.lt_succ_self _)
  have old2 : ∀ b o, h2.get? b = some o → h₁.get? b = some o := fun b o e => hsb₁.extBut b o (by rw [hCs]; exact Nat.ne_of_lt (Nat.lt_succ_of_lt (Heap.lt_size e))) (Heap.get?_push_of_some _ (hH2 ▸ Heap.get?_push_of_some _ e))
  have old : ∀ b o, s1.heap.get? b = some o → h₁.get? b = some o := fun b o e => old2 b o (hk2 b o e)
  have newer : ∀ a, h2.objs.size ≤ a → s1.heap.get? a = none := fun a ha => by
    cases e : s1.heap.get? a with
    | none => rfl
    | some o' => exact absurd (Heap.lt_size (hk2 _ _ e)) (Nat.not_lt.mpr ha)
  have hD1 := newer h2.objs.size (Nat.le_refl _)
  have hC1 := newer H2.objs.size (by rw [hCs]; exact Nat.le_succ _)
  have hbase : ∀ b, s1.heap.get? b = none → g.base.get? b = none := fun b hb => by
    cases q : g.base.get? b with
    | none => rfl
    | some o => rw [hr.stays _ o q] at hb; cases hb
  have hIb := hbase I hI1
  have hDlist : h₁.get? h2.objs.size = some (listO #[] 0) := hsb₁.extBut _ _ hDC (Heap.get?_push_of_some _ (hH2 ▸ Heap.get?_push_size _ rfl))
  generalize hDe : h2.objs.size = D at *
  generalize hCe : H2.objs.size = C at *
  obtain ⟨hrD, hmD⟩ := hr.put (c := .list []) old s1.toks hD1 ⟨#[], 0, hDlist, rfl⟩
  have hCt : C ∉ X.taken := fun ht => by obtain ⟨_, o, ho, _⟩ := hr.taken C ht; rw [hC1] at ho; cases ho
  let XC := fxC X scope C
  have clm : ∀ x c, (x, c) ∈ XC.env.cells → (x, c) ∈ X.env.cells ∧ (x, NameKind.free) ∈ scope.names := fun x c hc => by
    rcases clOf_mem scope.names [] x c hc with h | ⟨h1, h2⟩
    · cases h
    · obtain ⟨c', hc'⟩ := Option.isSome_iff_exists.mp (hfree _ h1 rfl).1
      dsimp only at hc'
      rw [hc'] at h2
      exact ⟨by rw [h2]; exact mem_of_lookup hc', h1⟩
  have clk : (XC.env.cells.map (·.1)).Nodup := clOf_keys scope.names [] (by simpa using hnod)
  have clp : XC.env.cells.Pairwise fun x y => x.2 ≠ y.2 := by
    refine List.Pairwise.imp_of_mem ?_ (List.pairwise_map.mp clk)
    rintro ⟨x, c⟩ ⟨y, c'⟩ hx hy hne e
    dsimp only at e hne
    subst e
    exact hne (name_of_addr hX.apart (clm _ _ hx).1 (clm _ _ hy).1)
  have hXC : FxOk XC := by
    refine ⟨hk, hX.globals, hX.builtins, hX.stack, hX.unhandled, fun e he a ha => List.mem_cons_of_mem _ (hX.fr e he a ha), List.mem_cons_self, fun a ha => ?_, fun x c hc => List.mem_cons_of_mem _ (hX.cells x c (clm x c hc).1), clp, fun x c hc e => ?_, hX.top⟩
    · rcases List.mem_cons.mp ha with q | q
      · rw [q]; exact List.mem_cons_self
      · cases q
    · exact hCt (show C ∈ X.taken from (show c = C from e) ▸ hX.cells x c (clm x c hc).1)
  have hAC : At g XC (rescope scope SC) n := ⟨hA.gok, hXC, by rw [← hA.sc]; rfl, hA.dep, hA.uni⟩
  have kcell : ∀ x, scope.names.lookup x = some .free → XC.env.kindOf x = some .cell := fun x hx => by
    have := lookup_free hSC (hfree _ (mem_of_lookup hx) rfl).2 hx
    rw [kindOf_eq, hAC.sc]; exact this
  -- the start
  let s4 : Shared := { s1 with heap := h₁, toks := s1.toks + ([] : List (Str × Value)).length }
  have hr4 : Rep g XC ⟨capL scope st1.loc, st1.mem.set D (.list [])⟩ s4 := by
    refine ⟨hrD.stays, hrD.frames, fun b hb => ?_, ⟨_, hns₁, fun x d hx => ?_⟩, fun x c hc => hrD.cellsOk x c (clm x c hc).1, fun a c e => ?_⟩
    · rcases List.mem_cons.mp hb with rfl | hb
      · refine hid fun PP9 kk9 => ?_
        obtain ⟨o, es, ep, ho, hd, _⟩ := hns₁
        refine kk9 ?_
        clear kk9 PP9
        exact ⟨hbase _ hC1, o, ho, .inl ⟨es, ep, hd⟩⟩
      · exact hrD.taken b hb
    · have hx : capL scope st1.loc x = some d := hx
      unfold capL at hx
      split at hx
      · rename_i hfr
        obtain ⟨m0, hn0, hm0⟩ := hrD.names
        have hxc := (hfree _ (mem_of_lookup hfr) rfl)
        rcases hm0 x d hx with ⟨q, _⟩ | ⟨q, c, v, hl, hc, hV⟩
        · rw [kindOf_eq, hA.sc, hxc.2] at q; cases q
        · refine .inr ⟨kcell x hfr, c, v, ?_, hc, hV⟩
          have := clOf_has (env := X.env) scope.names [] (.inl (mem_of_lookup hfr))
          rw [hl] at this
          exact lookup_nodup clk this
      · cases hx
    · obtain ⟨h1, h2, h3⟩ := hrD.cells a c e
      refine ⟨h1, h2, fun z => ?_⟩
      rcases List.mem_cons.mp z with rfl | z
      · change (if a = D then _ else st1.mem a) = _ at e
        split at e
        · rename_i q; exact hDC q.symm
        · obtain ⟨o, ho, _⟩ := (hr.cells a c e).1.obj; rw [hC1] at ho; cases ho
      · exact h3 z
  have hx4 : Ext XC st1.mem s1 (st1.mem.set D (.list [])) s4 := Ext.put (X := XC) old (s1.toks + ([] : List (Str × Value)).length) hD1
  have hC4 : C0 0 h₁ := by
    refine hid fun PP9 kk9 => ?_
    obtain ⟨o, vs, nn, ho, _⟩ := W.there 0 _ hC0
    refine kk9 ?_
    clear kk9 PP9
    exact W.frame 0 _ _ hC0 (fun b o e _ => old2 b o e) ((old2 _ _ ho).trans ho.symm)
  -- the end
  have fin : ∀ s' out μ, μ D = none → Rep g XC ⟨capL scope st1.loc, μ.set D (.list out)⟩ s' → Ext XC st1.mem s1 (μ.set D (.list out)) s' → CDone g X st1 s1 D C out μ s' := by
    intro s' out μ hμ hr' hx'
    have oldC : ∀ b o, s1.heap.get? b = some o → b ∉ XC.mine := fun b o e hb => by
      rcases List.mem_cons.mp hb with rfl | hb
      · rw [hC1] at e; cases e
      · cases hb
    have oldT : ∀ b o, s1.heap.get? b = some o → b ∉ X.taken → b ∉ XC.taken := fun b o e hb ht => by
      rcases List.mem_cons.mp ht with rfl | ht
      · rw [hC1] at e; cases e
      · exact hb ht
    have hx : Ext X st1.mem s1 (μ.set D (.list out)) s' := ⟨fun b o e hb ht => hx'.same b o e hb (oldT b o e ht), fun b o e ht hm => hx'.slots b o e (List.mem_cons_of_mem _ ht) (oldC b o e), fun b o e hb ht => hx'.new b o e hb (oldT b o e ht), hx'.gens, hx'.os, hx'.drawn, hx'.more⟩
    have sl : ∀ b o, s1.heap.get? b = some o → b ∈ X.taken → ∃ sl, s'.heap.get? b = some { o with slots := sl } := fun b o e ht => hx'.slots b o e (List.mem_cons_of_mem _ ht) (oldC b o e)
    have ks : Keeps Still s1.heap s'.heap := fun b o e q => hx.same b o e (hr.free e q).1 (hr.free e q).2
    refine hid fun PP9 kk9 => ?_
    obtain ⟨mC, hnC, _⟩ := hr'.names
    obtain ⟨hCb, oC, hoC, hsC⟩ := hr'.taken C List.mem_cons_self
    refine kk9 ?_
    clear kk9 PP9
    refine ⟨⟨hr'.stays, hr'.frames, fun b hb => hr'.taken b (List.mem_cons_of_mem _ hb), ?_, fun y c hc => ?_, fun b c e => ?_⟩, hx, hμ, ?_, hCt, hCb, hC1, ⟨oC, hoC, fun q => q.notStore hsC⟩, ⟨mC, hnC⟩⟩
    · obtain ⟨m, hn, hm⟩ := hr.names
      refine ⟨m, ?_, fun y d hy => (hm y d hy).keeps ks fun c v ⟨o, ho, hd⟩ ⟨z, hz⟩ => ?_⟩
      · refine hid fun PP9 kk9 => ?_
        obtain ⟨o, es, ep, ho, hd, q⟩ := hn
        obtain ⟨sl', e⟩ := sl _ o ho (hX.sub _ hX.loc)
        refine kk9 ?_
        clear kk9 PP9
        exact ⟨_, es, ep, e, hd, q⟩
      · obtain ⟨sl', e⟩ := sl _ o ho (hX.cells z c hz)
        exact ⟨_, e, hd⟩
    · refine hid fun PP9 kk9 => ?_
      obtain ⟨v, o, ho, hd⟩ := hr.cellsOk y c hc
      obtain ⟨sl', e⟩ := sl _ o ho (hX.cells y c hc)
      refine kk9 ?_
      clear kk9 PP9
      exact ⟨v, _, e, hd⟩
    · obtain ⟨h1, h2, h3⟩ := hr'.cells b c e
      exact ⟨h1, h2, fun z => h3 (List.mem_cons_of_mem _ z)⟩
    · cases q : (μ.set D (.list out)) C with
      | none => rfl
      | some c => exact absurd List.mem_cons_self (hr'.cells C c q).2.2
  have loop : codeAny g.M X.A (.compLoop (.ListComp elt [⟨target, iter, ifs, 0⟩] scope pos) 0 (.ref I) (.ref D) XC.env) (RR (.ref D) C) s4 := by
    refine compLoop_any (fun k s' => ∃ i out μ, Rep g XC ⟨capL scope st1.loc, μ.set D (.list out)⟩ s' ∧ Ext XC st1.mem s1 (μ.set D (.list out)) s' ∧ Inv i out μ ∧ μ D = none ∧ C0 i s'.heap ∧ out.length ≤ i ∧ i ≤ ds.length ∧ k = ds.length + 1 - i) ?_ (ds.length + 1)
      ⟨0, [], st1.mem, hr4, hx4, L.zero, hmD, hC4, Nat.le_refl _, Nat.zero_le _, rfl⟩
    intro k s' hh9
    refine hid fun PP9 kk9 => ?_
    obtain ⟨i, out, μ, hr', hx', hI, hμ, hC, hol, hi, rfl⟩ := hh9
    refine kk9 ?_
    clear kk9 PP9
    refine hid fun PP9 kk9 => ?_
    obtain ⟨oI, vsI, nI, hoI, hcI, hnI, hdI, hsI⟩ := W.there i _ hC
    refine kk9 ?_
    clear kk9 PP9
    have hAs : Aside g s'.heap I := ⟨hIb, oI, vsI, hoI, hdI, hsI⟩
    have hneed := L.keep i out μ hI (capL scope st1.loc) D (.list out) hμ
    by_cases hlt : i < ds.length
    · have hd : ds[i]? = some ds[i] := List.getElem?_eq_getElem hlt
      refine W.item i s' _ XC ds[i] _ _ hr' hneed hC hd fun v h₁ tk hv hC₁ hk₁ => ?_
      have hr₁ := hr'.aside hAs hk₁ tk
      have hx₁ := hx'.aside hI1 hk₁ tk
      have hv₁ := Val.keeps (extBut_still hk₁ ⟨oI, hoI, hsI⟩) _ _ hv
      refine hid fun PP9 kk9 => ?_
      obtain ⟨o1, vs1, n1, ho1, hc1, hn1, hd1, hs1⟩ := W.there (i + 1) _ hC₁
      refine kk9 ?_
      clear kk9 PP9
      have hAs1 : Aside g h₁ I := ⟨hIb, o1, vs1, ho1, hd1, hs1⟩
      obtain ⟨hm1, ht1⟩ := hAs1.mem (s := { s' with heap := h₁, toks := tk }) hr₁
      refine letGo (s := { s' with heap := h₁, toks := tk }) ho1 hc1 hn1 hd1 ?_
      refine wpAny_mono (W1.then (X := XC) (L.step XC hAC i out μ D ds[i] hd hI hμ) hv₁ hr₁ hx₁ fun _ _ st2 s2 _ hr2 hx2 hy2 hq2 => ?_) (fun _ _ q => q) (fun _ _ q => noE (X := XC) (σ := st1.mem) (s := s1) q)
      refine wpAny_mono (hq2.then hr2 hx2 fun b b' st3 s3 hb hr3 hx3 hy3 hq3 => ?_) (fun _ _ q => q) (fun _ _ q => noE (X := XC) (σ := st1.mem) (s := s1) q)
      cases hb
      have go : ∀ st5 s5, Rep g XC st5 s5 → Ext XC st1.mem s1 st5.mem s5 → Ext XC (μ.set D (.list out)) { s' with heap := h₁, toks := tk } st5.mem s5 → C0 (i + 1) s5.heap := fun st5 s5 hr5 hx5 hy5 =>
        W.frame _ _ _ hC₁ (hr₁.keeps hy5) ((hy5.same I o1 ho1 hm1 ht1).trans ho1.symm)
      cases b with
      | true =>
        simp only [if_true]
        refine wpAny_mono ((hq3.1 rfl).then hr3 hx3 fun v4 d4 st4 s4 hv4 hr4 hx4 hy4 hq4 => ?_) (fun _ _ q => q) (fun _ _ q => noE (X := XC) (σ := st1.mem) (s := s1) q)
        refine hid fun PP9 kk9 => ?_
        obtain ⟨hll, μ', hμ', hls, hI'⟩ := hq4
        refine kk9 ?_
        clear kk9 PP9
        have hmD4 : st4.mem D = some (.list out) := hls D _ (by unfold Mem.set; rw [if_pos rfl])
        have ap := b_append (g := g) (X := XC) (SC := rescope scope SC) (n := n) (st := st4) (a := D) (ds := out) (d := d4) (E := NoE) (Q := fun _ st5 => st5 = { st4 with mem := st4.mem.set D (.list (out ++ [d4])) }) hAC hmD4 (by have := L.size; (first | lia | omega)) rfl
        refine wpAny_mono (ap (.builtin "list.append") [.ref D, v4] s4 rfl ⟨_, _, rfl, rfl, v4, _, rfl, hv4, rfl⟩ hr4) ?_ (fun _ _ q => noE (X := XC) (σ := st4.mem) (s := s4) q)
        intro _ s5 hh9
        refine hid fun PP9 kk9 => ?_
        obtain ⟨_, st5, _, hr5, hx5, rfl⟩ := hh9
        refine kk9 ?_
        clear kk9 PP9
        have hl5 : Less (μ'.set D (.list (out ++ [d4]))) (st4.mem.set D (.list (out ++ [d4]))) := fun a c e => by
          unfold Mem.set at e ⊢
          by_cases z : a = D
          · rw [if_pos z] at e ⊢; exact e
          · rw [if_neg z] at e ⊢
            exact hls a c (by unfold Mem.set; rw [if_neg z]; exact e)
        refine ⟨ds.length + 1 - (i + 1), by (first | lia | omega), i + 1, out ++ [d4], μ', hr5.less hll hl5, (hx4.trans hx5).less hl5, hI', hμ', go _ _ hr5 (hx4.trans hx5) (hy2.trans (hy3.trans (hy4.trans hx5))), by simp; (first | lia | omega), hlt, rfl⟩
      | false =>
        simp only [Bool.false_eq_true, if_false]
        refine hid fun PP9 kk9 => ?_
        obtain ⟨hll, μ', hμ', hls, hI'⟩ := hq3.2 rfl
        refine kk9 ?_
        clear kk9 PP9
        exact ⟨ds.length + 1 - (i + 1), by (first | lia | omega), i + 1, out, μ', hr3.less hll hls, hx3.less hls, hI', hμ', go _ _ hr3 hx3 (hy2.trans hy3), by (first | lia | omega), hlt, rfl⟩
    · have hin : i = ds.length := by (first | lia | omega)
      subst hin
      refine W.done s' _ XC _ _ hr' hneed hC fun h₁ tk hk₁ => ?_
      exact hRR D C _ out μ hI (fin _ out μ hμ (hr'.aside hAs hk₁ tk) (hx'.aside hI1 hk₁ tk))
  exact codeAny_compStart_list loop (W.self 0 _ _ _ hC4 loop)
end
end
section
section
variable {α β : Type} {g : Gd} {X : Fx} {SC : Scope} {n : Nat} {st : St} {s s0 : Shared} {σ τ : Mem} {E : EP} {A : Around}

structure CScope (SC scope : Scope) : Prop where
  kind : scope.kind = .function
  out : SC.kind = .function
  cell : ∀ y ∈ scope.names, y.2 ≠ .cell
  nodup : (scope.names.map (·.1)).Nodup
  free : ∀ y ∈ scope.names, y.2 = .free → SC.names.lookup y.1 = some .cell

noncomputable def CellsHere (X : Fx) (scope : Scope) : Prop := ∀ y ∈ scope.names, y.2 = .free → (X.env.cells.lookup y.1).isSome = true

theorem r_comp {scope : Scope} {target elt iter : Expr} {ifs : List Expr} {pos : Pos} {Q : D → St → Prop} (hA : At g X SC n) (hS : CScope SC scope) (hC : CellsHere X scope)
    (h : Wp g Val X st (eval iter X.env) (fun d st1 => ∃ ds need Inv, CLoop g SC scope target elt ifs n d st1 ds need Inv ∧ ∀ out μ a, Inv ds.length out μ → μ a = none → Q (.ref a) ⟨st1.loc, μ.set a (.list out)⟩) E)
    (hs : autoParam (∀ x, foldedSetIterable iter X.env x = pure x) autoI._auto_1) :
    Wp g Val X st (eval (.ListComp elt [⟨target, iter, ifs, 0⟩] scope pos) X.env) Q E := by
  intro s hr
  have hX := hA.fx
  rw [eval_ListComp]
  refine wpAny_comprehension_free (use := none) rfl hs (closure_eq hC) hS.kind (fun x hx hl => lookup_nodup hS.nodup (by obtain ⟨a, b⟩ := x; dsimp only at hl; subst hl; exact hx)) ?_
  refine h.then hr .refl fun v d st1 s1 hv hr1 hx1 _ hq => ?_
  refine hid fun PP9 kk9 => ?_
  obtain ⟨ds, need, Inv, L, hQ⟩ := hq
  refine kk9 ?_
  clear kk9 PP9
  refine pyIter_seq hX L.seq hv hr1 fun I C0 h2 W hC0 hI hk2 => ?_
  refine comp_core (RR := fun acc C => compPost g.M X.A (Ee g X st.mem s E) none (Po g X st.mem s Val Q) acc C) hA L hS.kind hS.cell hS.nodup (fun y hy hf => ⟨hC y hy hf, hS.free y hy hf⟩) hS.out hr1 hI hk2 W hC0 fun D C s' out μ hI' d => ?_
  obtain ⟨m, hn⟩ := d.ns
  refine ⟨m, hn, fun h' hs' => ?_⟩
  exact ⟨.ref D, _, rfl, d.rep.off hX d.mem d.taken d.base d.still hs'.extBut s'.toks, (hx1.trans (d.ext.aside d.new hs'.extBut s'.toks)), hQ out μ D hI' d.fresh⟩

theorem x_comp {y : Str} {py : Pos} {scope : Scope} {target elt iter : Expr} {ifs : List Expr} {pos spos : Pos} {Q : AF → St → Prop} (hA : At g X SC n) (hS : CScope SC scope) (hC : CellsHere X scope)
    (h : Wp g Val X st (eval iter X.env) (fun d st1 => ∃ ds need Inv, CLoop g SC scope target elt ifs n d st1 ds need Inv ∧ ∀ out μ a, Inv ds.length out μ → μ a = none → Q .next ⟨st1.loc.set y (.ref a), μ.set a (.list out)⟩) E)
    (hsw : autoParam (swapsWith (.ListComp elt [⟨target, iter, ifs, 0⟩] scope pos) (some (.Name y py)) spos.line (envS SC) = pure true) autoR._auto_1) (hy : autoParam (SC.names.lookup y = some .local) autoD._auto_1)
    (hs : autoParam (∀ x, foldedSetIterable iter X.env x = pure x) autoI._auto_1) :
    Wp g FlowR X st (exec (.Assign [.Name y py] (.ListComp elt [⟨target, iter, ifs, 0⟩] scope pos) spos) X.env) Q E := by
  intro s hr
  have hX := hA.fx
  rw [exec_Assign_Name_used _ _ _ _ ((swaps_env hA.sc).trans hsw)]
  refine wpAny_bind (wpAny_standAt (wpAny_bind ?_))
  show wpAny _ _ (do let _ ← comprehension (.ListComp elt [⟨target, iter, ifs, 0⟩] scope pos) scope X.env _ (newList []) false (eval iter X.env) (some (assign (.Name y py) X.env))) _ _ s
  refine wpAny_bind (wpAny_mono (wpAny_comprehension_free (use := some (assign (.Name y py) X.env)) (Q := fun _ s' => Po g X st.mem s FlowR Q .next s') rfl hs (closure_eq hC) hS.kind
    (fun x hx hl => lookup_nodup hS.nodup (by obtain ⟨a, b⟩ := x; dsimp only at hl; subst hl; exact hx)) ?_) (fun _ s' hq => wpAny_pure (wpAny_pure hq)) fun _ _ e => e)
  refine h.then hr .refl fun v d st1 s1 hv hr1 hx1 _ hq => ?_
  refine hid fun PP9 kk9 => ?_
  obtain ⟨ds, need, Inv, L, hQ⟩ := hq
  refine kk9 ?_
  clear kk9 PP9
  refine pyIter_seq hX L.seq hv hr1 fun I C0 h2 W hC0 hI hk2 => ?_
  refine comp_core (RR := fun acc C => compPost g.M X.A (Ee g X st.mem s E) (some (assign (.Name y py) X.env)) (fun _ s' => Po g X st.mem s FlowR Q .next s') acc C) hA L hS.kind hS.cell hS.nodup (fun y hy hf => ⟨hC y hy hf, hS.free y hy hf⟩) hS.out hr1 hI hk2 W hC0 fun D C s' out μ hI' d => ?_
  obtain ⟨m, hn⟩ := d.ns
  show wpAny _ _ (assign (.Name y py) X.env (.ref D)) _ _ s'
  refine PyProof.Rows.assign_Name (store_raw (d := .ref D) hA d.rep hy rfl fun h2 hr2 hs2 ho2 => ?_)
  have hL := hX.sub _ hX.loc
  have hCL : C ≠ X.env.locals := fun z => d.taken (z ▸ hL)
  refine ⟨m, hn.sameBut hs2 hCL, fun h' hs' => ?_⟩
  obtain ⟨oC, hoC, hsC⟩ := d.still
  exact ⟨.next, _, rfl, hr2.off hX d.mem d.taken d.base ⟨oC, (hs2.2 C hCL).trans hoC, hsC⟩ hs'.extBut (s'.toks + 1), (hx1.trans ((d.ext.trans (Ext.mine hX hX.loc hs2 ho2 (s'.toks + 1))).aside d.new hs'.extBut (s'.toks + 1))), hQ out μ D hI' d.fresh⟩

/-! ### all -/
theorem b_all {a : Addr} {ds : List D} {Q : D → St → Prop} (hA : At g X SC n) (hm : st.mem a = some (.list ds)) (hd : ∀ d ∈ ds, d = .bool true) (h : Q (.bool true) st) : WCall g X st (.bi "all") [.ref a] Q E := by
  rintro _ _ s rfl hvs hr
  refine hid fun PP9 kk9 => ?_
  obtain ⟨_, rfl, rfl⟩ := hvs.single
  obtain ⟨vs, m, ho, hV⟩ := cell_list hr hm
  refine kk9 ?_
  clear kk9 PP9
  have hl := (IsL_of ho).isList
  refine call_all_walk (wpAny_pyIter_list hl ?_)
  have hne : a ≠ s.heap.objs.size := Nat.ne_of_lt (Heap.lt_size ho)
  refine ⟨s.heap.objs.size, _, _, _, _, _, fun _ => true, rfl, Walks.list (A := X.A.in1) hA.fx.unhandled s.heap.objs.size a hne vs, ⟨⟨_, Heap.get?_push_size _ rfl, rfl, rfl⟩, (IsL_of (push_keeps _ _ _ _ ho)).isList⟩, fun i v s' Q' E' hv hq => ?_, fun h' tk k => ?_⟩
  · obtain ⟨d, hd', hvd⟩ := hV.of_get (i := i) (v := v) (by simpa using hv)
    have := hd d (List.mem_of_getElem? hd')
    subst this
    cases hvd
    exact wpAny_truthy_bool hq
  · rw [List.all_eq_true.mpr (fun _ _ => rfl)]
    have k' : ∀ b o, s.heap.get? b = some o → h'.get? b = some o := fun b o e => k b o (by simp; exact Nat.ne_of_lt (Heap.lt_size e)) (push_keeps _ _ _ _ e)
    exact ⟨.bool true, st, rfl, hr.all k' tk, .all k' tk, h⟩
end
end
section
/-! ### dict displays -/
noncomputable def PairsR (h : Heap) : List (D × D) → List (Value × Value) → Prop
  | [], vs => vs = []
  | (k, d) :: r, vs => ∃ kv vv ws, vs = (kv, vv) :: ws ∧ Val h k kv ∧ Val h d vv ∧ PairsR h r ws

section
variable {α β : Type} {g : Gd} {X : Fx} {SC : Scope} {n : Nat} {st : St} {s s0 : Shared} {σ τ : Mem} {E : EP} {A : Around}

theorem p_nil {Q : List (D × D) → St → Prop} (h : Q [] st) : Wp g PairsR X st (evalPairs []) Q E := fun s hr => evalPairs_nil ⟨[], st, rfl, hr, .refl, h⟩
theorem p_cons {k v : Sem Value} {rest : List (Sem Value × Sem Value)} {Q : List (D × D) → St → Prop}
    (h : Wp g Val X st k (fun d1 st1 => Wp g Val X st1 v (fun d2 st2 => Wp g PairsR X st2 (evalPairs rest) (fun ds st3 => Q ((d1, d2) :: ds) st3) E) E) E) : Wp g PairsR X st (evalPairs ((k, v) :: rest)) Q E := by
  intro s hr
  refine evalPairs_cons ?_
  refine h.then hr .refl fun v1 d1 st1 s1 hv1 hr1 hx1 hy1 hq1 => ?_
  refine hq1.then hr1 hx1 fun v2 d2 st2 s2 hv2 hr2 hx2 hy2 hq2 => ?_
  refine hq2.then hr2 hx2 fun vs ds st3 s3 hv3 hr3 hx3 hy3 hq3 => ?_
  exact ⟨(d1, d2) :: ds, st3, ⟨v1, v2, vs, rfl, hr1.val (hy2.trans hy3) hv1, hr2.val hy3 hv2, hv3⟩, hr3, hx3, hq3⟩
theorem p_back {e : Expr} {pos : Pos} {Q : D → St → Prop} (h : Wp g Val X st (eval e X.env) Q E) : Wp g Val X st (do let x ← eval e X.env; standAt pos; pure x) Q E :=
  fun s hr => wpAny_bind (wpAny_mono (h s hr) (fun _ _ hq => wpAny_bind (wpAny_standAt (wpAny_pure hq))) fun _ _ e => e)

theorem merged_nodup {K : Type} [DecidableEq K] : ∀ (kvs acc : List (K × Value)), (acc.map (·.1) ++ kvs.map (·.1)).Nodup → merged acc kvs = acc ++ kvs
  | [], acc, _ => by simp [merged]
  | (k, v) :: r, acc, h => by
    have hk : k ∉ acc.map (·.1) := fun hm => by
      have := (List.nodup_append.mp h).2.2 k hm k (by simp)
      exact this rfl
    have hany : ¬ (acc.any fun kv => decide (kv.1 = k)) = true := by
      rw [List.any_eq_true]
      rintro ⟨x, hx, e⟩
      exact hk (List.mem_map.mpr ⟨x, hx, of_decide_eq_true e⟩)
    show merged (stored acc k v) r = _
    unfold stored
    rw [if_neg hany, merged_nodup r (acc ++ [(k, v)]) (by simpa using h)]
    simp

noncomputable def strPairs : List (D × D) → Option (List (Str × D))
  | [] => some []
  | (.str k, d) :: r => (strPairs r).map ((k, d) :: ·)
  | _ => none
noncomputable def intPairs : List (D × D) → Option (List (Int × D))
  | [] => some []
  | (.int k, d) :: r => (intPairs r).map ((k, d) :: ·)
  | _ => none
theorem str_key {prog : Program} {w : World} (k : Str) (t : Tok) : (strKind prog w).is k (.str k t) = true := by simp [PySem.strKind, Value.isStrOf]
theorem int_key {prog : Program} {w : World} (k : Int) (t : Tok) : (intKind prog w).is k (.int k t) = true := by simp [PySem.intKind, Value.isInt]
theorem carries_str {h : Heap} {prog : Program} {w : World} : ∀ {kds : List (D × D)} {fs : List (Str × D)} {vs : List (Value × Value)}, strPairs kds = some fs → PairsR h kds vs →
    ∃ kvs : List (Str × Value), Carries (strKind prog w) vs kvs ∧ KPairs h kvs fs ∧ kvs.map (·.1) = fs.map (·.1)
  | [], _, _, e, hv => by cases e; cases hv; exact ⟨[], trivial, trivial, rfl⟩
  | (k, d) :: r, fs, _, e, hq7 => by
    obtain ⟨kv, vv, ws, rfl, hk, hd, hr⟩ := hq7
    cases k <;> first | (have e0 : (none : Option (List (Str × D))) = some fs := e; cases e0; done) | (have e : (strPairs r).map _ = some fs := e)
    refine hid fun PP9 kk9 => ?_
    obtain ⟨fs', e', rfl⟩ := Option.map_eq_some_iff.mp e
    obtain ⟨kvs, h1, h2, h3⟩ := carries_str (prog := prog) (w := w) e' hr
    obtain ⟨t, rfl⟩ := hk
    refine kk9 ?_
    clear kk9 PP9
    exact ⟨(_, vv) :: kvs, ⟨str_key _ _, rfl, h1⟩, ⟨rfl, hd, h2⟩, by simp [h3]⟩
theorem carries_int {h : Heap} {prog : Program} {w : World} : ∀ {kds : List (D × D)} {fs : List (Int × D)} {vs : List (Value × Value)}, intPairs kds = some fs → PairsR h kds vs →
    ∃ kvs : List (Int × Value), Carries (intKind prog w) vs kvs ∧ KPairs h kvs fs ∧ kvs.map (·.1) = fs.map (·.1)
  | [], _, _, e, hv => by cases e; cases hv; exact ⟨[], trivial, trivial, rfl⟩
  | (k, d) :: r, fs, _, e, hq7 => by
    obtain ⟨kv, vv, ws, rfl, hk, hd, hr⟩ := hq7
    cases k <;> first | (have e0 : (none : Option (List (Int × D))) = some fs := e; cases e0; done) | (have e : (intPairs r).map _ = some fs := e)
    refine hid fun PP9 kk9 => ?_
    obtain ⟨fs', e', rfl⟩ := Option.map_eq_some_iff.mp e
    obtain ⟨kvs, h1, h2, h3⟩ := carries_int (prog := prog) (w := w) e' hr
    obtain ⟨t, rfl⟩ := hk
    refine kk9 ?_
    clear kk9 PP9
    exact ⟨(_, vv) :: kvs, ⟨int_key _ _, rfl, h1⟩, ⟨rfl, hd, h2⟩, by simp [h3]⟩

theorem r_sdict {keys : List (Option Expr)} {values : List Expr} {pos : Pos} {pairs : List (Sem Value × Sem Value)} {Q : D → St → Prop} (hX : FxOk X)
    (h : ∀ a, st.mem a = none → Wp g PairsR X { st with mem := st.mem.set a (.sdict []) } (evalPairs pairs) (fun kds st1 => ∃ fs, strPairs kds = some fs ∧ (fs.map (·.1)).Nodup ∧ st1.mem a = some (.sdict []) ∧ Q (.ref a) { st1 with mem := st1.mem.set a (.sdict fs) }) E)
    (hshape : (evalEachOpt keys X.env).zip ((evalEach values X.env).map fun v => do let x ← v; standAt pos; pure x) = pairs.map fun p => (some p.1, p.2)) (h0 : pairs ≠ []) (hlen : pairs.length ≤ 15) :
    Wp g Val X st (eval (.Dict keys values pos) X.env) Q E := by
  intro s hr
  have k := push_keeps s.heap { cls := .type "dict", data := .dict #[] }
  obtain ⟨hr1, hn⟩ := hr.put (c := .sdict []) k s.toks (fresh_none _) ⟨[], Heap.DictOf.new _, trivial⟩
  refine wpAny_Dict_pairs (knd := strKind g.prog g.w) hshape h0 hlen ?_
  refine (h _ hn).then hr1 (Ext.put k s.toks (fresh_none _)) fun vs kds st1 s1 hv1 hr1 hx1 hy1 hq => ?_
  refine hid fun PP9 kk9 => ?_
  obtain ⟨fs, hfs, hnd, hm, hQ⟩ := hq
  obtain ⟨kvs, c1, c2, c3⟩ := carries_str (prog := g.prog) (w := g.w) hfs hv1
  obtain ⟨kvs0, hd0, hk0⟩ := (hr1.cells _ _ hm).1
  refine kk9 ?_
  clear kk9 PP9
  have : kvs0 = [] := by cases kvs0 with | nil => rfl | cons => exact hk0.elim
  subst this
  refine ⟨kvs, c1, hd0, fun h' hd' hs' => ?_⟩
  rw [merged_nodup kvs [] (by rw [c3]; simpa using hnd), List.nil_append] at hd'
  obtain ⟨od, hod⟩ : ∃ o, h'.get? s.heap.objs.size = some o := let ⟨o, _, _, ho, _⟩ := hd'; ⟨o, ho⟩
  exact ⟨.ref s.heap.objs.size, _, rfl, hr1.change (c' := .sdict fs) hX hs' (s1.toks + vs.length) hm fun ks => ⟨kvs, hd', c2.keeps ks⟩, hx1.trans (.change hr1 hs' (s1.toks + vs.length) hm ⟨od, hod⟩), hQ⟩
theorem r_idict {keys : List (Option Expr)} {values : List Expr} {pos : Pos} {pairs : List (Sem Value × Sem Value)} {Q : D → St → Prop} (hX : FxOk X)
    (h : ∀ a, st.mem a = none → Wp g PairsR X { st with mem := st.mem.set a (.idict []) } (evalPairs pairs) (fun kds st1 => ∃ fs, intPairs kds = some fs ∧ (fs.map (·.1)).Nodup ∧ st1.mem a = some (.idict []) ∧ Q (.ref a) { st1 with mem := st1.mem.set a (.idict fs) }) E)
    (hshape : (evalEachOpt keys X.env).zip ((evalEach values X.env).map fun v => do let x ← v; standAt pos; pure x) = pairs.map fun p => (some p.1, p.2)) (h0 : pairs ≠ []) (hlen : pairs.length ≤ 15) :
    Wp g Val X st (eval (.Dict keys values pos) X.env) Q E := by
  intro s hr
  have k := push_keeps s.heap { cls := .type "dict", data := .dict #[] }
  obtain ⟨hr1, hn⟩ := hr.put (c := .idict []) k s.toks (fresh_none _) ⟨[], Heap.DictOf.new _, trivial⟩
  refine wpAny_Dict_pairs (knd := intKind g.prog g.w) hshape h0 hlen ?_
  refine (h _ hn).then hr1 (Ext.put k s.toks (fresh_none _)) fun vs kds st1 s1 hv1 hr1 hx1 hy1 hq => ?_
  refine hid fun PP9 kk9 => ?_
  obtain ⟨fs, hfs, hnd, hm, hQ⟩ := hq
  obtain ⟨kvs, c1, c2, c3⟩ := carries_int (prog := g.prog) (w := g.w) hfs hv1
  obtain ⟨kvs0, hd0, hk0⟩ := (hr1.cells _ _ hm).1
  refine kk9 ?_
  clear kk9 PP9
  have : kvs0 = [] := by cases kvs0 with | nil => rfl | cons => exact hk0.elim
  subst this
  refine ⟨kvs, c1, hd0, fun h' hd' hs' => ?_⟩
  rw [merged_nodup kvs [] (by rw [c3]; simpa using hnd), List.nil_append] at hd'
  obtain ⟨od, hod⟩ : ∃ o, h'.get? s.heap.objs.size = some o := let ⟨o, _, _, ho, _⟩ := hd'; ⟨o, ho⟩
  exact ⟨.ref s.heap.objs.size, _, rfl, hr1.change (c' := .idict fs) hX hs' (s1.toks + vs.length) hm fun ks => ⟨kvs, hd', c2.keeps ks⟩, hx1.trans (.change hr1 hs' (s1.toks + vs.length) hm ⟨od, hod⟩), hQ⟩

theorem kfind {κ : Type} [DecidableEq κ] {h : Heap} {k : κ} {d : D} : ∀ {kvs : List (κ × Value)} {fs : List (κ × D)}, KPairs h kvs fs → (fs.find? fun x => decide (x.1 = k)).map (·.2) = some d → ∃ v, valueAt kvs k = some v ∧ Val h d v
  | [], [], _, e => by cases e
  | (k', v) :: r, (k'', d') :: fs, hq7, e => by
    obtain ⟨e1, hv, hr⟩ := hq7
    subst e1
    unfold valueAt
    rw [List.find?_cons] at e ⊢
    by_cases q : k' = k
    · simp only [q, decide_true] at e ⊢
      cases e; exact ⟨v, rfl, hv⟩
    · simp only [q, decide_false] at e ⊢
      exact kfind hr e
theorem s_sdict {value slice : Expr} {a : Addr} {fs : List (Str × D)} {k : Str} {d : D} {Q : D → St → Prop} (hm : st.mem a = some (.sdict fs)) (hd : (fs.find? fun x => decide (x.1 = k)).map (·.2) = some d) (h : Q d st) (hs : autoParam (notSlice slice = true) autoR._auto_1) :
    W2 g Val X st (subscriptTail value slice) (.ref a) (.str k) Q E := by
  rintro _ _ s rfl ⟨t, rfl⟩ hr
  refine hid fun PP9 kk9 => ?_
  obtain ⟨kvs, hD, hK⟩ := (hr.cells _ _ hm).1
  obtain ⟨v, hv, hvv⟩ := kfind hK hd
  refine kk9 ?_
  clear kk9 PP9
  refine tail_any hD.mapOf.typeIs slot_dict_getitem.lookup (wpAny_getItem_of (knd := strKind g.prog g.w) (k := k) (str_key _ _) hD.mapOf hv ?_) (subscripted_plain hs _ _)
  exact Po.now hr hvv h _
theorem s_idict {value slice : Expr} {a : Addr} {fs : List (Int × D)} {k : Int} {d : D} {Q : D → St → Prop} (hm : st.mem a = some (.idict fs)) (hd : (fs.find? fun x => decide (x.1 = k)).map (·.2) = some d) (h : Q d st) (hs : autoParam (notSlice slice = true) autoR._auto_1) :
    W2 g Val X st (subscriptTail value slice) (.ref a) (.int k) Q E := by
  rintro _ _ s rfl ⟨t, rfl⟩ hr
  refine hid fun PP9 kk9 => ?_
  obtain ⟨kvs, hD, hK⟩ := (hr.cells _ _ hm).1
  obtain ⟨v, hv, hvv⟩ := kfind hK hd
  refine kk9 ?_
  clear kk9 PP9
  refine tail_any hD.mapOf.typeIs slot_dict_getitem.lookup (wpAny_getItem_of (knd := intKind g.prog g.w) (k := k) (int_key _ _) hD.mapOf hv ?_) (subscripted_plain hs _ _)
  exact Po.now hr hvv h _
end
end
section
/-! ## plain expressions, computed -/
noncomputable def D.getInt : D → Option Int
  | .int a => some a
  | _ => Option.none
noncomputable def D.getStr : D → Option Str
  | .str a => some a
  | _ => Option.none
noncomputable def D.getBool : D → Option Bool
  | .bool a => some a
  | _ => Option.none
noncomputable def D.getTup : D → Option (List D)
  | .tup a => some a
  | _ => Option.none
noncomputable def D.getNone : D → Option Unit
  | .none => some ()
  | _ => Option.none
noncomputable def both {α β γ : Type} (f : α → β → Option γ) : Option α → Option β → Option γ
  | some a, b => match b with
    | some b => f a b
    | none => none
  | none, _ => none
noncomputable def guardB {α : Type} (b : Bool) (x : Option α) : Option α := match b with
  | true => x
  | false => none
theorem nosome {α : Type} {a : α} {P : Prop} (h : none = some a) : P := Option.noConfusion (heq_of_eq (rfl : Option α = Option α) |> fun _ => rfl) (heq_of_eq h)
theorem both_inv {α β γ : Type} {f : α → β → Option γ} {x : Option α} {y : Option β} {c : γ} (h : both f x y = some c) : ∃ a b, x = some a ∧ y = some b ∧ f a b = some c := by
  cases x with
  | none => exact nosome h
  | some a => cases y with
    | none => exact nosome h
    | some b => exact ⟨a, b, rfl, rfl, h⟩
theorem guard_inv {α : Type} {b : Bool} {x : Option α} {c : α} (h : guardB b x = some c) : b = true ∧ x = some c := by
  cases b with
  | true => exact ⟨rfl, h⟩
  | false => exact nosome h
theorem int_inv {d : D} {a : Int} (h : d.getInt = some a) : d = .int a := by
  cases d <;> first | exact nosome h | exact congrArg D.int (Option.some.inj h)
theorem str_inv {d : D} {a : Str} (h : d.getStr = some a) : d = .str a := by
  cases d <;> first | exact nosome h | exact congrArg D.str (Option.some.inj h)
theorem bool_inv {d : D} {a : Bool} (h : d.getBool = some a) : d = .bool a := by
  cases d <;> first | exact nosome h | exact congrArg D.bool (Option.some.inj h)
theorem tup_inv {d : D} {a : List D} (h : d.getTup = some a) : d = .tup a := by
  cases d <;> first | exact nosome h | exact congrArg D.tup (Option.some.inj h)
theorem none_inv {d : D} {a : Unit} (h : d.getNone = some a) : d = .none := by
  cases d <;> first | exact nosome h | rfl
noncomputable def eqB (y : D) : D → Option Bool
  | .int a => both (fun b (_ : Unit) => some (decide (a = b))) y.getInt (some ())
  | .str a => both (fun b (_ : Unit) => some (a == b)) y.getStr (some ())
  | .bool a => both (fun b (_ : Unit) => some (a == b)) y.getBool (some ())
  | .none => both (fun _ (_ : Unit) => some false) y.getStr (some ())
  | _ => none
noncomputable def neB (y : D) : D → Option Bool
  | .int a => both (fun b (_ : Unit) => some (!decide (a = b))) y.getInt (some ())
  | .str a => both (fun b (_ : Unit) => some (a != b)) y.getStr (some ())
  | _ => none
noncomputable def cmpB (x y : D) : CmpOp → Option Bool
  | .Lt => both (fun a b => some (decide (a < b))) x.getInt y.getInt
  | .Gt => both (fun a b => some (decide (b < a))) x.getInt y.getInt
  | .LtE => both (fun a b => some (decide (a ≤ b))) x.getInt y.getInt
  | .Eq => eqB y x
  | .NotEq => neB y x
  | .Is => both (fun _ (_ : Unit) => some x.isNone) y.getNone (some ())
  | .IsNot => both (fun _ (_ : Unit) => some (!x.isNone)) y.getNone (some ())
  | _ => none
noncomputable def constD : Const → Option D
  | .int i => some (.int i)
  | .none => some .none
  | .bool b => some (.bool b)
  | .str x => some (.str x)
  | .bytes x => some (.bytes x.toArray)
  | _ => none
noncomputable def binD (x y : D) : Operator → Option D
  | .Add => both (fun a b => some (.int (a + b))) x.getInt y.getInt
  | .Sub => both (fun a b => some (.int (a - b))) x.getInt y.getInt
  | .Mult => both (fun x y => guardB (Nat.ble y.natAbs 1000000) (some (.int (x * y)))) x.getInt y.getInt
  | _ => none
noncomputable def atD (ds : List D) : Int → Option D
  | .ofNat j => guardB (Nat.ble j 1000000) ds[j]?
  | .negSucc j => guardB (Nat.ble j 1000000) (guardB (Nat.ble (j + 1) ds.length) ds[ds.length - (j + 1)]?)
noncomputable def pvs (f : Expr → Option D) : List Expr → Option (List D)
  | [] => some []
  | e :: es => both (fun d ds => some (d :: ds)) (f e) (pvs f es)
noncomputable def negD (d : D) : Option D := both (fun a _ => some (.int (-a))) d.getInt (some ())
noncomputable def pvC (f : Expr → Option D) (a : Expr) : List CmpOp → List Expr → Option Bool
  | [], _ => none
  | op :: r, bs => match bs with
    | [] => none
    | b :: r' => match r with
      | _ :: _ => none
      | [] => match r' with
        | _ :: _ => none
        | [] => match behindInMarks op b with
          | true => none
          | false => both (fun x y => cmpB x y op) (f a) (f b)
noncomputable def pv : Nat → Loc → Expr → Option D
  | 0, _, _ => none
  | n + 1, l, e => match e with
    | .Name x _ => guardB (!(x == ("__debug__" : Str))) (l x)
    | .Constant c _ _ => constD c
    | .BinOp a op b _ => both (fun x y => binD x y op) (pv n l a) (pv n l b)
    | .UnaryOp op a _ => match op with
      | .USub => both (fun x _ => negD x) (pv n l a) (some ())
      | _ => none
    | .Compare a ops bs _ => both (fun c _ => some (.bool c)) (pvC (pv n l) a ops bs) (some ())
    | .Tuple es _ _ => guardB (Nat.ble es.length 1000) (both (fun ds _ => some (.tup ds)) (pvs (pv n l) es) (some ()))
    | .Subscript v i _ => guardB (notSlice i) (both (fun x y => both atD x.getTup y.getInt) (pv n l v) (pv n l i))
    | _ => none
noncomputable def pvT : Nat → Loc → Expr → Option Bool
  | 0, _, _ => none
  | n + 1, l, e => match e with
    | .UnaryOp op x _ => match op with
      | .Not => both (fun b _ => some (!b)) (pvT n l x) (some ())
      | _ => none
    | .Compare a ops bs _ => pvC (pv 8 l) a ops bs
    | .Name x p => both (fun x _ => x.getBool) (pv 1 l (.Name x p)) (some ())
    | _ => none

section
variable {g : Gd} {X : Fx} {SC : Scope} {n : Nat} {st : St} {E : EP}
theorem int2_ok {f : Int → Int → Bool} {x y : D} {c : Bool} (h : both (fun a b => some (f a b)) x.getInt y.getInt = some c) {P : D → D → Bool → Prop} (hP : ∀ a b, P (.int a) (.int b) (f a b)) : P x y c := by
  obtain ⟨a, b, h1, h2, h3⟩ := both_inv h
  rw [int_inv h1, int_inv h2, ← Option.some.inj h3]; exact hP a b
theorem one_ok {α : Type} {f : α → Bool} {y : Option α} {c : Bool} (h : both (fun b (_ : Unit) => some (f b)) y (some ()) = some c) : ∃ b, y = some b ∧ c = f b := by
  obtain ⟨b, _, h1, _, h3⟩ := both_inv h
  exact ⟨b, h1, (Option.some.inj h3).symm⟩
theorem cmpB_ok {op : CmpOp} {x y : D} {c : Bool} (h : cmpB x y op = some c) {Q : D → St → Prop} (hq : Q (.bool c) st) : W2 g Val X st (compareOp op) x y Q E := by
  cases op <;> first | exact nosome h | skip
  case Lt => exact int2_ok h (P := fun x y c => Q (.bool c) st → W2 g Val X st (compareOp .Lt) x y Q E) (fun _ _ => c_lt) hq
  case Gt => exact int2_ok h (P := fun x y c => Q (.bool c) st → W2 g Val X st (compareOp .Gt) x y Q E) (fun _ _ => c_gt) hq
  case LtE => exact int2_ok h (P := fun x y c => Q (.bool c) st → W2 g Val X st (compareOp .LtE) x y Q E) (fun _ _ => c_le) hq
  case Eq =>
    have h : eqB y x = some c := h
    cases x <;> first | exact nosome h | skip
    all_goals obtain ⟨b, h1, rfl⟩ := one_ok h
    case int => rw [int_inv h1]; exact c_eq hq
    case str => rw [str_inv h1]; exact c_eqS hq
    case bool => rw [bool_inv h1]; exact c_eqB hq
    case none => rw [str_inv h1]; exact c_eqNS hq
  case NotEq =>
    have h : neB y x = some c := h
    cases x <;> first | exact nosome h | skip
    all_goals obtain ⟨b, h1, rfl⟩ := one_ok h
    case int => rw [int_inv h1]; exact c_ne hq
    case str => rw [str_inv h1]; exact c_neS hq
  case Is => obtain ⟨b, h1, rfl⟩ := one_ok h; rw [none_inv h1]; exact c_isNone hq
  case IsNot => obtain ⟨b, h1, rfl⟩ := one_ok h; rw [none_inv h1]; exact c_isNotNone hq
theorem binD_ok {op : Operator} {x y d : D} (h : binD x y op = some d) {Q : D → St → Prop} (hq : Q d st) : W2 g Val X st (binaryOp op) x y Q E := by
  cases op <;> first | exact nosome h | skip
  all_goals obtain ⟨a, b, h1, h2, h3⟩ := both_inv h; rw [int_inv h1, int_inv h2]
  · cases h3; exact o_add hq
  · cases h3; exact o_sub hq
  · obtain ⟨h4, h5⟩ := guard_inv h3
    cases h5
    have h6 := Nat.le_of_ble_eq_true h4
    exact o_mul hq (IntMulOk.of_right (intBits_le_64 (by omega) (by omega)))
theorem atD_ok {ds : List D} {i : Int} {d : D} (h : atD ds i = some d) {value slice : Expr} {Q : D → St → Prop} (hq : Q d st) (hs : notSlice slice = true) :
    W2 g Val X st (subscriptTail value slice) (.tup ds) (.int i) Q E := by
  cases i with
  | ofNat j =>
    obtain ⟨h1, h⟩ := guard_inv h
    have h1 := Nat.le_of_ble_eq_true h1
    have h2 : j < ds.length := (List.getElem?_eq_some_iff.mp h).1
    refine s_tup (j := j) ?_ h hq (by show -(2 ^ 63) ≤ ((j : Nat) : Int); (first | lia | omega)) (by show ((j : Nat) : Int) < 2 ^ 63; (first | lia | omega)) hs
    unfold seqIndex?
    have h3 : ¬ (Int.ofNat j < 0) := by show ¬ (((j : Nat) : Int) < 0); (first | lia | omega)
    simp only [h3, if_false]
    simp
    exact h2
  | negSucc j =>
    obtain ⟨h1, h⟩ := guard_inv h
    obtain ⟨h2, h⟩ := guard_inv h
    have h1 := Nat.le_of_ble_eq_true h1
    have h2 := Nat.le_of_ble_eq_true h2
    refine s_tup (j := ds.length - (j + 1)) ?_ h hq (by (first | lia | omega)) (by (first | lia | omega)) hs
    unfold seqIndex?
    have h3 : Int.negSucc j < 0 := by (first | lia | omega)
    simp only [h3, if_true]
    have h4 : (0 : Int) ≤ Int.negSucc j + (ds.length : Int) := by (first | lia | omega)
    have h5 : Int.negSucc j + (ds.length : Int) < (ds.length : Int) := by (first | lia | omega)
    simp only [h4, h5, decide_true, Bool.and_self, if_true, Option.some.injEq]
    (first | lia | omega)
noncomputable def noComp : Expr → Bool
  | .ListComp .. => false
  | .SetComp .. => false
  | .DictComp .. => false
  | .Starred .. => false
  | _ => true
theorem pvC_inv {f : Expr → Option D} {a : Expr} {ops : List CmpOp} {bs : List Expr} {c : Bool} (h : pvC f a ops bs = some c) :
    ∃ op b x y, ops = [op] ∧ bs = [b] ∧ behindInMarks op b = false ∧ f a = some x ∧ f b = some y ∧ cmpB x y op = some c := by
  rcases ops with _ | ⟨op, _ | ⟨_, _⟩⟩ <;> rcases bs with _ | ⟨b, _ | ⟨_, _⟩⟩ <;> first | exact nosome h | skip
  cases hb : behindInMarks op b with
  | true => simp only [pvC, hb] at h; exact nosome h
  | false =>
    simp only [pvC, hb] at h
    refine hid fun PP9 kk9 => ?_
    obtain ⟨x, y, h1, h2, h3⟩ := both_inv h
    refine kk9 ?_
    clear kk9 PP9
    exact ⟨op, b, x, y, rfl, rfl, hb, h1, h2, h3⟩
theorem pvs_ok {f : Expr → Option D} (hf : ∀ e d, f e = some d → noComp e = true ∧ ∀ (Q : D → St → Prop), Q d st → Wp g Val X st (eval e X.env) Q E)
    (hs : ∀ (e : Expr) (rest : List Expr) (env : Env), noComp e = true → starEach (e :: rest) env = (false, eval e env) :: starEach rest env) :
    ∀ {es : List Expr} {ds : List D} {pos : Pos}, pvs f es = some ds → ds.length = es.length ∧ ∀ (Q : List D → St → Prop), Q ds st → Wp g Vals X st (Items es pos X.env) Q E
  | [], ds, pos, h => by cases h; exact ⟨rfl, fun Q hq => r_items_nil hq⟩
  | e :: es, ds, pos, h => by
    obtain ⟨d, ds', h1, h2, h3⟩ := both_inv h
    cases h3
    have a := hf e d h1
    have b := pvs_ok hf hs (pos := pos) h2
    exact ⟨congrArg (· + 1) b.1, fun Q hq => r_items_cons (a.2 _ (b.2 _ hq)) (hs _ _ _ a.1)⟩
theorem star_each (e : Expr) (rest : List Expr) (env : Env) (h : noComp e = true) : starEach (e :: rest) env = (false, eval e env) :: starEach rest env := by
  cases e <;> first | rfl | exact Bool.noConfusion h
theorem swaps_no {e : Expr} (h : noComp e = true) (t : Option Expr) (line : Nat) (env : Env) : swapsWith e t line env = pure false := by
  cases e <;> first | rfl | exact Bool.noConfusion h
theorem pv_ok (hA : At g X SC n) : ∀ {k : Nat} {e : Expr} {d : D}, pv k st.loc e = some d → noComp e = true ∧ ∀ (Q : D → St → Prop), Q d st → Wp g Val X st (eval e X.env) Q E
  | 0, e, d, h => nosome h
  | k + 1, e, d, h => by
    cases e <;> first | exact nosome h | refine ⟨rfl, fun Q hq => ?_⟩
    case BinOp a op b _ =>
      refine hid fun PP9 kk9 => ?_
      obtain ⟨x, y, h1, h2, h3⟩ := both_inv h
      refine kk9 ?_
      clear kk9 PP9
      exact r_binop ((pv_ok hA h1).2 _ ((pv_ok hA h2).2 _ (binD_ok h3 hq)))
    case UnaryOp op a _ =>
      cases op <;> first | exact nosome h | skip
      refine hid fun PP9 kk9 => ?_
      obtain ⟨x, y, h1, h2, h3⟩ := both_inv h
      obtain ⟨a, b, h4, h5, h6⟩ := both_inv h3
      refine kk9 ?_
      clear kk9 PP9
      rw [int_inv h4] at h1
      cases h6
      exact r_unop ((pv_ok hA h1).2 _ (o_neg hq))
    case Compare a ops bs _ =>
      obtain ⟨x, y, h1, h2, h3⟩ := both_inv h
      cases h3
      refine hid fun PP9 kk9 => ?_
      obtain ⟨op, b, x', y', rfl, rfl, h4, h5, h6, h7⟩ := pvC_inv h1
      refine kk9 ?_
      clear kk9 PP9
      exact r_cmp ((pv_ok hA h5).2 _ ((pv_ok hA h6).2 _ (cmpB_ok h7 hq))) h4
    case Constant c _ _ =>
      cases c <;> first | exact nosome h | skip
      · cases h; exact r_none hq
      · cases h; exact r_bool hq
      · cases h; exact r_int hq
      · cases h; exact r_str hq
      · cases h; exact r_bytes hq
    case Subscript v i _ =>
      refine hid fun PP9 kk9 => ?_
      obtain ⟨hs, h⟩ := guard_inv h
      obtain ⟨x, y, h1, h2, h3⟩ := both_inv h
      obtain ⟨a, b, h4, h5, h6⟩ := both_inv h3
      refine kk9 ?_
      clear kk9 PP9
      rw [tup_inv h4] at h1
      rw [int_inv h5] at h2
      exact r_sub ((pv_ok hA h1).2 _ ((pv_ok hA h2).2 _ (atD_ok h6 hq hs)))
    case Name x _ =>
      obtain ⟨hs, h⟩ := guard_inv h
      exact r_name hA h hq (by simpa using hs)
    case Tuple es _ _ =>
      obtain ⟨hs, h⟩ := guard_inv h
      obtain ⟨ds, y, h1, h2, h3⟩ := both_inv h
      cases h3
      have w := pvs_ok (g := g) (X := X) (st := st) (E := E) (fun e d he => pv_ok hA he) star_each (pos := by assumption) h1
      exact r_tuple (w.2 _ ⟨by rw [w.1]; exact Nat.le_of_ble_eq_true hs, hq⟩)
theorem pv_items (hA : At g X SC n) {es : List Expr} {ds : List D} {pos : Pos} {Q : List D → St → Prop} (h : pvs (pv 8 st.loc) es = some ds) (hq : Q ds st) : Wp g Vals X st (Items es pos X.env) Q E :=
  (pvs_ok (fun e d he => pv_ok hA he) star_each h).2 _ hq
theorem pv_on (hA : At g X SC n) {e : Expr} {d : D} {Q : D → St → Prop} (h : pv 8 st.loc e = some d) (hq : Q d st) : Wp g Val X st (eval e X.env) Q E := (pv_ok hA h).2 _ hq
theorem pvT_on (hA : At g X SC n) : ∀ {k : Nat} {e : Expr} {b : Bool} {Q : Bool → St → Prop}, pvT k st.loc e = some b → Q b st → Wp g BoolR X st (isTrue e X.env (eval e X.env)) Q E := by
  intro k
  induction k with
  | zero => intro e b Q h hq; exact nosome h
  | succ k ih =>
    intro e b Q h hq
    cases e <;> first | exact nosome h | skip
    case UnaryOp op x p =>
      cases op <;> first | exact nosome h | skip
      obtain ⟨x, y, h1, h2, h3⟩ := both_inv h
      cases h3
      exact r_test_not (ih h1 hq)
    case Compare =>
      refine hid fun PP9 kk9 => ?_
      obtain ⟨op, b, x', y', rfl, rfl, h4, h5, h6, h7⟩ := pvC_inv h
      refine kk9 ?_
      clear kk9 PP9
      exact r_test_cmp ((pv_ok hA h5).2 _ ((pv_ok hA h6).2 _ (cmpB_ok h7 ⟨_, rfl, hq⟩))) h4
    case Name =>
      refine hid fun PP9 kk9 => ?_
      obtain ⟨x, y, h1, h2, h3⟩ := both_inv h
      refine kk9 ?_
      clear kk9 PP9
      rw [bool_inv h3] at h1
      exact r_test_name ((pv_ok hA h1).2 _ ⟨_, rfl, hq⟩)
/-- a plain assignment -/
theorem x_set (hA : At g X SC n) {x : Str} {xp pos : Pos} {e : Expr} {rest : List Stmt} {l : Loc} {m : Mem} {d : D} {Q : AF → St → Prop} (h : pv 8 l e = some d) (hk : SC.names.lookup x = some .local)
    (hq : WS g X ⟨l.set x d, m⟩ rest Q E) : WS g X ⟨l, m⟩ (.Assign [.Name x xp] e pos :: rest) Q E :=
  x_cons (x_assign hA (pv_on (st := ⟨l, m⟩) hA h (then_next hq)) hk (swaps_no (pv_ok (g := g) (X := X) (st := ⟨l, m⟩) (E := E) hA h).1 _ _ _))
/-- a plain return -/
theorem x_back (hA : At g X SC n) {pos : Pos} {e : Expr} {rest : List Stmt} {d : D} {Q : AF → St → Prop} (h : pv 8 st.loc e = some d) (hq : Q (.ret d) st) : WS g X st (.Return (some e) pos :: rest) Q E :=
  x_cons (x_ret (pv_on hA h (then_ret hq)))
/-! ### what comes after, kept small -/
noncomputable abbrev Up (Q K : AF → St → Prop) : Prop := ∀ f st, Q f st → K f st
noncomputable abbrev UpB (Q K : Bool → St → Prop) : Prop := ∀ b st, Q b st → K b st
noncomputable abbrev UpD (Q K : D → St → Prop) : Prop := ∀ d st, Q d st → K d st
noncomputable def Is (K : D → St → Prop) : D → St → Prop := K
theorem Wp.k {t : Sem Value} {Q : D → St → Prop} (h : ∀ K, UpD Q (Is K) → Wp g Val X st t (Is K) E) : Wp g Val X st t Q E := h Q fun _ _ h => h
theorem Wp.up {t : Sem Flow} {Q : AF → St → Prop} (h : ∀ K, Up Q K → Wp g FlowR X st t K E) : Wp g FlowR X st t Q E := h Q fun _ _ h => h
theorem Wp.fit {t : Sem Flow} {Q K : AF → St → Prop} (u : Up Q K) (h : Wp g FlowR X st t Q E) : Wp g FlowR X st t K E := Wp.mono h (fun f st' => u f st') fun _ _ he => he
theorem x_nilU {Q1 : St → Prop} {Q2 K : AF → St → Prop} (u : Up (Then Q1 Q2) K) (h : Q1 st) : WS g X st [] K E := x_nil (u _ _ (then_next h))
/-- a plain test -/
theorem x_fork (hA : At g X SC n) {t : Expr} {pos : Pos} {b1 b2 : List Stmt} {rest : List Stmt} {b : Bool} {Q : AF → St → Prop} (h : pvT 2 st.loc t = some b)
    (hq : ∀ K, Up (Then (fun st1 => WS g X st1 rest Q E) Q) K → (b = true → WS g X st b1 K E) ∧ (b = false → WS g X st b2 K E)) : WS g X st (.If t b1 b2 pos :: rest) Q E :=
  x_cons (x_if (pvT_on hA h (hq _ fun _ _ h => h)))
/-- a test -/
theorem x_when {t : Expr} {pos : Pos} {b1 b2 : List Stmt} {rest : List Stmt} {Q : AF → St → Prop}
    (hq : ∀ K, Up (Then (fun st1 => WS g X st1 rest Q E) Q) K → ∀ T, UpB (fun b st1 => (b = true → WS g X st1 b1 K E) ∧ (b = false → WS g X st1 b2 K E)) T → Wp g BoolR X st (isTrue t X.env (eval t X.env)) T E) :
    WS g X st (.If t b1 b2 pos :: rest) Q E :=
  x_cons (x_if (hq _ (fun _ _ h => h) _ fun _ _ h => h))
end
end
section
noncomputable def Fn (g : Gd) (a : Addr) (SC : Scope) (body : List Stmt) (ps : List Str) : Prop := ∃ fd, FnOk g a fd body ps ∧ fd.scope = SC
structure Def (g : Gd) (x : Str) (a : Addr) (i : Nat) (ps : List Str) : Prop where
  glob : GlobIs g x (.ref a)
  keep : CalleeOk g (.ref a)
  fn : Fn g a (sc i) (bd i) ps
structure Meth (g : Gd) (x : Str) (a : Addr) (i : Nat) (ps : List Str) : Prop where
  meth : MethIs g 198 x a
  fn : Fn g a (msc i) (mbd i) ps

structure Prg (g : Gd) : Prop where
  exc : ExcOk g 29
  excG : GlobIs g "PsError" (.ref g.exc)
  excK : keepIn g.K (.ref g.exc) = true
  divided : Def g "divided" 54 5 ["number", "by"]
  transform : Def g "transform" 61 7 ["m", "x", "y"]
  rows_transformed : Def g "rows_transformed" 68 8 ["rows", "m"]
  path_of : Def g "path_of" 210 13 ["rows", "most"]
  path_more : Def g "path_more" 217 14 ["last", "rows"]
  path_points : Def g "path_points" 222 15 ["row"]
  path_row : Def g "path_row" 229 16 ["word", "points"]
  path_subpaths : Def g "path_subpaths" 243 18 ["rows"]
  path_reversed : Def g "path_reversed" 248 19 ["rows"]
  path_half : Def g "path_half" 255 20 ["one", "other"]
  path_halves : Def g "path_halves" 262 21 ["points"]
  path_is_flat : Def g "path_is_flat" 269 22 ["points", "flatness"]
  path_curve_ends : Def g "path_curve_ends" 276 23 ["points", "flatness"]
  path_flattened : Def g "path_flattened" 284 24 ["rows", "flatness", "most"]
  law_sizes : Def g "_law_sizes" 292 27 []
  law_draw : Def g "_law_draw" 299 29 ["tape", "many"]
  law_row : Def g "_law_row" 304 30 ["tape", "word"]
  law_after : Def g "_law_after" 309 31 ["own", "rows", "most"]
  law_put : Def g "_law_put" 316 32 ["route", "row"]
  law_backwards : Def g "_law_backwards" 321 33 ["own"]
  law_flat : Def g "_law_flat" 328 34 ["own", "flatness"]
  law_stands : Def g "_law_stands" 333 35 ["route", "own"]
  law_some_rows : Def g "_law_some_rows" 340 36 ["tape", "own"]
  Path : GlobIs g "Path" (.ref 198)
  PathK : CalleeOk g (.ref 198)
  PathM : Makable g 198 83
  PathC : ClassOk g.K 198
  kept : findIn g.K (.ref 198) "kept" = some none
  most : findIn g.K (.ref 198) "most" = some none
  begun : findIn g.K (.ref 198) "begun" = some none
  point : findIn g.K (.ref 198) "point" = some none
  init : Fn g 83 (msc 0) (mbd 0) ["self", "most"]
  rows : Meth g "rows" 90 1 ["self"]
  is_empty : Meth g "is_empty" 97 2 ["self"]
  current : Meth g "current" 104 3 ["self"]
  copy : Meth g "copy" 111 4 ["self"]
  clear : Meth g "clear" 118 5 ["self"]
  need_room : Meth g "need_room" 125 6 ["self", "rows"]
  move : Meth g "move" 132 7 ["self", "x", "y"]
  go_on : Meth g "go_on" 139 8 ["self", "row", "point"]
  line : Meth g "line" 146 9 ["self", "x", "y"]
  curve : Meth g "curve" 153 10 ["self", "x1", "y1", "x2", "y2", "x3", "y3"]
  close : Meth g "close" 160 11 ["self"]
  put_rows : Meth g "put_rows" 167 12 ["self", "rows"]
  flattened : Meth g "flattened" 181 14 ["self", "flatness"]
  reversed : Meth g "reversed" 188 15 ["self"]
  transformed : Meth g "transformed" 195 16 ["self", "matrix"]
  grain : GlobIs g "GRAIN" (.int 1000000)
  halvings : GlobIs g "MOST_HALVINGS" (.int 10)
  words : GlobIs g "_law_words" (.tup [.str "m", .str "l", .str "c", .str "z"])
  unit : GlobIs g "_law_unit" (.int 1000)
  len : GlobIs g "len" (.bi "len")
  abs : GlobIs g "abs" (.bi "abs")
  max : GlobIs g "max" (.bi "max")
  all : GlobIs g "all" (.bi "all")
  int : GlobIs g "int" (.ty "int")
  list : GlobIs g "list" (.ty "list")
  tuple : GlobIs g "tuple" (.ty "tuple")
  range : GlobIs g "range" (.ty "range")

section
variable {g : Gd} {X : Fx} {SC : Scope} {n : Nat} {st : St} {E : EP}
theorem Fn.call {a : Addr} {SC' : Scope} {body : List Stmt} {ps : List Str} {ds : List D} {Q : D → St → Prop} (hF : Fn g a SC' body ps) (hA : At g X SC (n + 1)) (hlen : ds.length = ps.length)
    (h : ∀ X', At g X' SC' n → CellsMine X' → (∀ x, (∀ k, ((cellsFrom k SC'.names []).lookup x).isSome = true) → (X'.env.cells.lookup x).isSome = true) →
      ∀ Q', Up (fun f st' => Q (retD f) ⟨st.loc, st'.mem⟩) Q' → ∀ E', UpD (fun told st' => E told ⟨st.loc, st'.mem⟩) E' → WS g X' ⟨bindD ps ds noLoc, st.mem⟩ body Q' E') :
    CCall g X st (.ref a) ds Q E := by
  obtain ⟨fd, hF, rfl⟩ := hF
  refine call_fn hA hF hlen fun X' h1 h2 h3 => ?_
  exact Wp.mono (h X' h1 h2 h3 _ (fun _ _ h => h) _ (fun _ _ h => h)) (fun f st' hq => ⟨st'.mem, Less.refl, hq⟩) fun told st' hq => ⟨st'.mem, Less.refl, hq⟩
end
end
section
theorem mulL {a b : Int} (h : a.natAbs < 2 ^ 60) : IntMulOk a b := IntMulOk.of_left (intBits_le_64 (by omega) (by omega))
theorem mulR {a b : Int} (h : b.natAbs < 2 ^ 60) : IntMulOk a b := IntMulOk.of_right (intBits_le_64 (by (first | lia | omega)) (by (first | lia | omega)))
end
section
/-! ## Rows of a path -/
inductive Row where
  | m (x y : Int)
  | l (x y : Int)
  | c (x1 y1 x2 y2 x3 y3 : Int)
  | z
noncomputable def Row.w : Row → Str
  | .m .. => "m"
  | .l .. => "l"
  | .c .. => "c"
  | .z => "z"
noncomputable def Row.d : Row → D
  | .m x y => .tup [.str "m", .int x, .int y]
  | .l x y => .tup [.str "l", .int x, .int y]
  | .c x1 y1 x2 y2 x3 y3 => .tup [.str "c", .int x1, .int y1, .int x2, .int y2, .int x3, .int y3]
  | .z => .tup [.str "z"]
noncomputable def Row.isM : Row → Bool
  | .m .. => true
  | .l .. => false
  | .c .. => false
  | .z => false
noncomputable def Row.isZ : Row → Bool
  | .m .. => false
  | .l .. => false
  | .c .. => false
  | .z => true
noncomputable def Row.isG : Row → Bool
  | .m .. => false
  | .l .. => true
  | .c .. => true
  | .z => false
noncomputable abbrev rowsD (rows : List Row) : List D := rows.map Row.d

noncomputable def ptT (x y : Int) : D := .tup [.int x, .int y]
/-- the last begun point -/
noncomputable def lastM : List Row → Option (Int × Int)
  | [] => none
  | .m x y :: r => (lastM r).or (some (x, y))
  | _ :: r => lastM r
noncomputable def endOf : Row → Int × Int
  | .m x y => (x, y)
  | .l x y => (x, y)
  | .c _ _ _ _ x y => (x, y)
  | .z => (0, 0)
noncomputable def optD : Option (Int × Int) → D
  | none => .none
  | some (x, y) => ptT x y
noncomputable def pointOf (rows : List Row) : Option (Int × Int) := match rows.getLast? with
  | none => none
  | some .z => lastM rows
  | some r => some (endOf r)

noncomputable def PathAt (μ : Mem) (d k : Addr) (most : Int) (rows : List Row) : Prop :=
  μ d = some (.dict [("most", .int most), ("kept", .ref k), ("begun", optD (lastM rows)), ("point", optD (pointOf rows))]) ∧ μ k = some (.list (rowsD rows))

/-- one row laid behind the others -/
noncomputable def put1 (rows : List Row) : Row → List Row
  | .m x y => (if (rows.getLast?).any Row.isM then rows.dropLast else rows) ++ [.m x y]
  | .z => if rows = [] ∨ (rows.getLast?).any Row.isZ = true then rows else rows ++ [.z]
  | .l x y => rows ++ (if (rows.getLast?).any Row.isZ then [.m ((lastM rows).getD (0, 0)).1 ((lastM rows).getD (0, 0)).2] else []) ++ [.l x y]
  | .c a b c d e f => rows ++ (if (rows.getLast?).any Row.isZ then [.m ((lastM rows).getD (0, 0)).1 ((lastM rows).getD (0, 0)).2] else []) ++ [.c a b c d e f]
noncomputable def lastW (rows : List Row) : Option Str := rows.getLast?.map Row.w
noncomputable def dW : Option Str → D
  | none => .none
  | some x => .str x
noncomputable def costW (last : Option Str) : Row → Nat
  | .m .. => if last = some "m" then 0 else 1
  | .z => if last = some "z" ∨ last = none then 0 else 1
  | _ => if last = some "z" then 2 else 1
noncomputable def nextW (last : Option Str) (r : Row) : Option Str := if r.isZ = true ∧ last = none then none else some r.w
noncomputable def moreW : Option Str → List Row → Nat
  | _, [] => 0
  | last, r :: rest => costW last r + moreW (nextW last r) rest
noncomputable def putAll (rows : List Row) (rs : List Row) : List Row := rs.foldl put1 rows

theorem w_isM (r : Row) : (r.w = "m") ↔ r.isM = true := by cases r <;> simp [Row.w, Row.isM] <;> decide
theorem w_isZ (r : Row) : (r.w = "z") ↔ r.isZ = true := by cases r <;> simp [Row.w, Row.isZ] <;> decide
theorem getLast_snoc {α : Type} (l : List α) (a : α) : (l ++ [a]).getLast? = some a := by simp
theorem lastM_append (a b : List Row) : lastM (a ++ b) = (lastM b).or (lastM a) := by
  induction a with
  | nil => simp [lastM]
  | cons r a ih => cases r <;> simp [lastM, ih, Option.or_assoc]
theorem put1_length (rows : List Row) (r : Row) : (put1 rows r).length = rows.length + costW (lastW rows) r := by
  unfold lastW
  rcases List.eq_nil_or_concat rows with rfl | ⟨l, a, rfl⟩
  · cases r <;> simp [put1, costW] <;> decide
  · rw [List.concat_eq_append]
    cases r <;> cases a <;> simp [put1, costW, Row.isM, Row.isZ, Row.w] <;> (try decide) <;> (try (first | lia | omega))
    all_goals (first | (rw [if_neg (by decide)]; try simp; done) | (rw [if_pos (by decide)]; try simp; done) | skip)
theorem put1_last (rows : List Row) (r : Row) : lastW (put1 rows r) = nextW (lastW rows) r := by
  unfold lastW nextW
  rcases List.eq_nil_or_concat rows with rfl | ⟨l, a, rfl⟩
  · cases r <;> simp [put1, Row.isZ, Row.w]
  · rw [List.concat_eq_append]
    cases r <;> cases a <;> simp [put1, Row.isM, Row.isZ, Row.w]
theorem putAll_length : ∀ (rs rows : List Row), (putAll rows rs).length = rows.length + moreW (lastW rows) rs
  | [], rows => rfl
  | r :: rs, rows => by
    show (putAll (put1 rows r) rs).length = _
    rw [putAll_length rs, put1_length, put1_last]
    show _ = rows.length + (costW (lastW rows) r + moreW (nextW (lastW rows) r) rs)
    (first | lia | omega)
end
section
section
variable {g : Gd} {X : Fx} {SC : Scope} {n : Nat} {st : St} {E : EP}
theorem LLess.nil {l : Loc} : LLess noLoc l := fun _ _ e => by cases e
theorem LLess.cons {l l' : Loc} {x : Str} {d : D} (h : LLess l l') (e : l' x = some d) : LLess (l.set x d) l' := fun y d' hy => by
  unfold Loc.set at hy
  by_cases z : y = x
  · rw [if_pos z] at hy; cases hy; rw [z]; exact e
  · rw [if_neg z] at hy; exact h y d' hy
theorem LLess.cons3 {l l' : Loc} {x y z : Str} {d e f : D} (h : LLess l l') (a : l' x = some d) (b : l' y = some e) (c : l' z = some f) : LLess (((l.set x d).set y e).set z f) l' := ((h.cons a).cons b).cons c
theorem rows_le {rows : List Row} {n : Nat} (h : rows.length ≤ n) : (rowsD rows).length ≤ n := by rw [List.length_map]; exact h
theorem x_done {Q : AF → St → Prop} (loc : Loc) (μ : Mem) (hl : LLess loc st.loc) (hm : Less μ st.mem) (h : Q .next ⟨loc, μ⟩) : WS g X st [] Q E := Wp.less (x_nil ⟨loc, μ, hl, hm, h⟩)

theorem r_subP {value slice : Expr} {pos : Pos} {Q : D → St → Prop} (hs : notSlice slice = true)
    (h : Wp g Val X st (eval value X.env) (fun d1 st1 => Wp g Val X st1 (eval slice X.env) (fun d2 st2 => W2 g Val X st2 (subscriptTail value slice) d1 d2 Q E) E) E) :
    Wp g Val X st (eval (.Subscript value slice pos) X.env) Q E := r_sub h
theorem Wp.mid {t : Sem Flow} {J Q1 : St → Prop} {Q2 : AF → St → Prop} (h : ∀ K, Up (Then J Q2) K → Wp g FlowR X st t K E) (k : ∀ st', J st' → Q1 st') : Wp g FlowR X st t (Then Q1 Q2) E :=
  Wp.mono (h _ fun _ _ h => h) (fun f st' hq => by cases f <;> first | exact k _ hq | exact hq) fun _ _ he => he
theorem wordM (r : Row) : (r.w == "m") = r.isM := by cases r <;> rfl
theorem wordZ (r : Row) : (r.w == "z") = r.isZ := by cases r <;> rfl
theorem wordNZ (r : Row) : (r.w != "z") = !r.isZ := by cases r <;> rfl
theorem wordG (r : Row) : [D.str "l", D.str "c"].any (dStr r.w) = r.isG := by cases r <;> rfl
theorem notM_of_G {r : Row} (h : r.isG = true) : r.isM = false := by cases r <;> first | rfl | exact Bool.noConfusion h
theorem Z_of {r : Row} (h : r.isZ = true) : r = .z := by cases r <;> first | rfl | exact Bool.noConfusion h
theorem cost_m {l : Option Str} {r : Row} (h : r.isM = true) : costW l r = if l = some "m" then 0 else 1 := by cases r <;> first | rfl | exact Bool.noConfusion h
theorem cost_z {l : Option Str} {r : Row} (h : r.isZ = true) : costW l r = if l = some "z" ∨ l = none then 0 else 1 := by cases r <;> first | rfl | exact Bool.noConfusion h
theorem cost_g {l : Option Str} {r : Row} (h : r.isM = false) (h' : r.isZ = false) : costW l r = if l = some "z" then 2 else 1 := by cases r <;> first | rfl | exact Bool.noConfusion h | exact Bool.noConfusion h'
theorem rows_at {rs : List Row} {i : Nat} {d : D} (h : (rowsD rs)[i]? = some d) : ∃ r, rs[i]? = some r ∧ d = r.d := by
  rw [List.getElem?_map] at h
  obtain ⟨r, h1, h2⟩ := Option.map_eq_some_iff.mp h
  exact ⟨r, h1, h2.symm⟩
theorem drop_at {α : Type} {l : List α} {i : Nat} {a : α} (h : l[i]? = some a) : l.drop i = a :: l.drop (i + 1) := by
  obtain ⟨hi, rfl⟩ := List.getElem?_eq_some_iff.mp h
  exact List.drop_eq_getElem_cons hi
end
end
section
noncomputable def limitB : Array UInt8 := [108, 105, 109, 105, 116, 99, 104, 101, 99, 107].toArray
noncomputable def nocurB : Array UInt8 := [110, 111, 99, 117, 114, 114, 101, 110, 116, 112, 111, 105, 110, 116].toArray
theorem optD_plain (o : Option (Int × Int)) : (optD o).plain = true := by rcases o with _ | ⟨x, y⟩ <;> rfl
theorem optD_none (o : Option (Int × Int)) : (optD o).isNone = o.isNone := by rcases o with _ | ⟨x, y⟩ <;> rfl
section
variable {g : Gd} {X : Fx} {SC : Scope} {n : Nat} {st : St} {E : EP} {μ ν ρ : Mem}
theorem s_row0 {r : Row} {value slice : Expr} {Q : D → St → Prop} (h : Q (.str r.w) st) (hs : notSlice slice = true) : W2 g Val X st (subscriptTail value slice) r.d (.int 0) Q E := by
  cases r <;> exact s_tup rfl rfl h (by decide) (by decide) hs
theorem ne_of {a b : Addr} {c : Cell} (h : μ a = some c) (h' : μ b = none) : a ≠ b := fun z => by rw [z, h'] at h; cases h
theorem set_same (a : Addr) (c : Cell) : (μ.set a c) a = some c := by unfold Mem.set; rw [if_pos rfl]
theorem set_ne {a b : Addr} {c : Cell} (h : b ≠ a) : (μ.set a c) b = μ b := by unfold Mem.set; rw [if_neg h]
theorem set_get {a b : Addr} {c c' : Cell} (h : b ≠ a) (h' : μ b = some c') : (μ.set a c) b = some c' := (set_ne h).trans h'
theorem set_new {a b : Addr} {c c' : Cell} (h : μ a = none) (h' : μ b = some c') : (μ.set a c) b = some c' := set_get (ne_of h' h) h'
theorem Mod.refl {T : List Addr} : Mod T μ μ := fun _ _ _ e => e
theorem Mod.new {T : List Addr} {a : Addr} {c : Cell} (h : Mod T μ ν) (ha : ν a = none) : Mod T μ (ν.set a c) := fun b c' hb e => set_new ha (h b c' hb e)
theorem Mod.put {T : List Addr} {a : Addr} {c : Cell} (h : Mod T μ ν) (ha : a ∈ T ∨ μ a = none) : Mod T μ (ν.set a c) := fun b c' hb e => by
  refine set_get (fun z => ?_) (h b c' hb e)
  subst z
  rcases ha with q | q
  · exact hb q
  · rw [q] at e; cases e
theorem Mod.trans {T : List Addr} (h : Mod T μ ν) (h' : Mod T ν ρ) : Mod T μ ρ := fun b c hb e => h' b c hb (h b c hb e)
theorem Mod.mono {T S : List Addr} (h : Mod T μ ν) (hs : ∀ a, a ∈ T → a ∈ S) : Mod S μ ν := fun b c hb e => h b c (fun z => hb (hs b z)) e
theorem Mod.wide {T : List Addr} (h : Mod [] μ ν) : Mod T μ ν := h.mono fun _ z => by cases z
theorem Mod.get {T : List Addr} {a : Addr} {c : Cell} (h : Mod T μ ν) (ha : a ∉ T) (e : μ a = some c) : ν a = some c := h a c ha e
theorem Mod.get0 {a : Addr} {c : Cell} (h : Mod [] μ ν) (e : μ a = some c) : ν a = some c := h a c (by simp) e
theorem Mod.none {T : List Addr} {a : Addr} (h : Mod T μ ν) (ha : a ∉ T) (e : ν a = none) : μ a = none := by
  cases q : μ a with
  | none => rfl
  | some c => rw [h a c ha q] at e; cases e
theorem PathAt.mod {d k : Addr} {most : Int} {rows : List Row} {T : List Addr} (h : PathAt μ d k most rows) (hm : Mod T μ ν) (hd : d ∉ T) (hk : k ∉ T) : PathAt ν d k most rows := ⟨hm d _ hd h.1, hm k _ hk h.2⟩
theorem PathAt.ne {d k : Addr} {most : Int} {rows : List Row} (h : PathAt μ d k most rows) : d ≠ k := fun z => by
  obtain ⟨h1, h2⟩ := h; rw [z, h2] at h1; cases h1
end
end
section
set_option hygiene false in
local macro_rules | `(tactic| w_left) => `(tactic| first
    | (with_reducible first
       | (show Wp _ FlowR _ _ (execs _ _) (ForQ _ _) _; refine Wp.up fun _ _ => ?_)
       | (show Wp _ Vals _ _ (Items _ _ _) _ _; first
           | refine pv_items ‹_› (by with_unfolding_all rfl) ?_
           | refine r_items_cons ?_ (by with_unfolding_all rfl)
           | apply r_items_nil
         )
       | (show Wp _ Val _ _ (eval _ _) _ _; first
           | refine pv_on ‹_› (by with_unfolding_all rfl) ?_
           | ((fail_if_success show Wp _ Val _ _ _ (Is _) _); refine Wp.k fun _ _ => ?_)
           | refine r_subP (by with_unfolding_all rfl) ?_
           | refine r_attr ?_ (by with_unfolding_all rfl)
           | apply r_binop
           | apply r_tuple
           | refine r_list ?_
           | apply r_ifexp
           | refine r_cmp ?_ (by with_unfolding_all rfl)
         )
       | (show W2 _ _ _ _ _ _ _ _ _; first
           | refine s_row0 ?_ (by with_unfolding_all rfl)
           | refine s_tup (by with_unfolding_all rfl) (by with_unfolding_all rfl) ?_ (by with_unfolding_all decide) (by with_unfolding_all decide) (by with_unfolding_all rfl)
           | refine s_list ‹_› (by with_unfolding_all decide) (by with_unfolding_all decide) (by with_unfolding_all rfl) ?_ (by with_unfolding_all rfl)
           | apply o_add
           | apply o_sub
           | refine o_mul ?_ (by with_unfolding_all (first | exact mulL (by decide) | exact mulR (by decide)))
           | apply o_iadd
           | apply c_eqS
           | apply c_lt
           | apply c_gt
           | apply c_le
           | apply c_eq
           | apply c_ne
           | apply c_neS
           | apply c_eqNS
           | apply c_eqB
           | apply c_isNone
           | apply c_isNotNone
           | refine c_inS (word_all (by with_unfolding_all rfl)) ?_
           | refine c_inN (word_all (by with_unfolding_all rfl)) ?_
           | refine c_notInS (word_all (by with_unfolding_all rfl)) ?_
         )
       | (show Wp _ Val _ _ (Part _ _) _ _; first
           | apply r_part_none
           | apply r_part_some
         )
       | (show W1 _ _ _ _ _ _ _ _; first
           | refine a_get ‹_› (Prg.PathC ‹_›) (Prg.kept ‹_›) ‹_› (by with_unfolding_all rfl) (by with_unfolding_all rfl) ?_
           | refine a_get ‹_› (Prg.PathC ‹_›) (Prg.most ‹_›) ‹_› (by with_unfolding_all rfl) (by with_unfolding_all rfl) ?_
           | refine a_get ‹_› (Prg.PathC ‹_›) (Prg.begun ‹_›) ‹_› (by with_unfolding_all rfl) (by first | exact optD_plain _ | with_unfolding_all rfl) ?_
           | refine a_get ‹_› (Prg.PathC ‹_›) (Prg.point ‹_›) ‹_› (by with_unfolding_all rfl) (by first | exact optD_plain _ | with_unfolding_all rfl) ?_
         )
       | (show Wp _ FlowR _ _ (exec _ _) _ _; first
           | refine x_assign ‹_› ?_ (by with_unfolding_all decide) (by with_unfolding_all rfl)
           | apply x_if
           | apply x_ret
           | refine x_expr ‹_› ?_ (by with_unfolding_all rfl)
           | refine x_aug ‹_› ?_ (by with_unfolding_all decide)
           | refine x_setattr ?_ (by with_unfolding_all rfl)
           | refine x_setitem ?_ (by with_unfolding_all rfl)
           | apply x_ret0
         )
       | (show Wp _ FlowR _ _ (execs _ _) _ _; first
           | refine x_set ‹_› (by with_unfolding_all rfl) (by with_unfolding_all rfl) ?_
           | refine x_back ‹_› (by with_unfolding_all rfl) ?_
           | refine x_fork ‹_› (by with_unfolding_all rfl) fun _ _ => ?_
           | refine x_when fun _ _ _ _ => ?_
           | apply x_cons
           | apply x_nilT
           | refine x_nilU (by with_reducible assumption) ?_
         )
       | (show Wp _ BoolR _ _ (isTrue _ _ _) _ _; first
           | refine pvT_on (k := 2) ‹_› (by with_unfolding_all rfl) ?_
           | refine r_test_cmp ?_ (by with_unfolding_all rfl)
           | apply r_test_call
           | apply r_test_not
           | apply r_test_and
           | apply r_test_or
         )
       | (show Wp _ BoolR _ _ (allTrue _ _ _) _ _; first
           | apply r_and_cons
           | apply r_or_cons
           | apply r_and_nil
           | apply r_or_nil
         )
       | (show Wp _ Val _ _ (loadName _ _) _ _; first
           | refine r_loadName ‹_› (by with_unfolding_all rfl) ?_
         )
       | (show Then _ _ _ _; first
           | apply then_next
           | apply then_ret
         )
       | refine ⟨_, _, (rfl : D.tup [_, _] = D.tup _), ?_⟩
       | refine ⟨_, _, _, (rfl : D.tup [_, _, _] = D.tup _), ?_⟩
       | refine ⟨_, (rfl : D.bool _ = D.bool _), ?_⟩
       | refine (by assumption : Up _ _) _ _ ?_
       | refine (by assumption : UpB _ _) _ _ ?_
       | refine (by assumption : UpD _ _) _ _ ?_
      )
    | (with_reducible refine ⟨(?_ : List.length _ ≤ 1000), ?_⟩; · simp)
    )
set_option hygiene false in
local macro_rules | `(tactic| walk_at "k") => `(tactic| (repeat with_reducible first
    | refine (by assumption : UpD _ _) _ _ ?_
    | refine (by assumption : Up _ _) _ _ ?_
    | refine (by assumption : UpB _ _) _ _ ?_))
set_option hygiene false in
local macro_rules | `(tactic| walk_at "mg") => `(tactic| ((repeat w_left); (try dsimp only)))
set_option hygiene false in
local macro_rules | `(tactic| walk_at "go") => `(tactic| (
  (repeat first
    | w_left
    | (with_reducible refine ⟨fun _ => ?_, fun hb => absurd hb ?_⟩; rotate_left; · first | decide | exact fun z => Bool.noConfusion z | simp [D.isNone])
    | (with_reducible refine ⟨fun hb => absurd hb ?_, fun _ => ?_⟩; · first | decide | exact fun z => Bool.noConfusion z | simp [D.isNone])
    )
  (try dsimp only)))
section
section
variable {g : Gd} {X : Fx} {SC : Scope} {n : Nat} {st : St} {E : EP}
theorem c_path_more {a : Addr} {last : Option Str} {rs : List Row} {Q : D → St → Prop} (P : Prg g) (hA : At g X SC (n + 1)) (hm : st.mem a = some (.list (rowsD rs))) (h : Q (.int (moreW last rs : Nat)) st) :
    WCall g X st (.ref 217) [dW last, .ref a] Q E := by
  refine (P.path_more.fn.call hA rfl fun X' hA hC hL Q9 uQ E9 uE => ?_).w
  refine x_cons ?_
  walk_at "mg"
  refine x_for hA ?_
  refine Wp.less ?_
  walk_at "k"
  refine r_name hA rfl ?_
  refine ⟨(noLoc.set "last" (dW last)).set "many" (.int 0), st.mem, (LLess.nil.cons rfl).cons rfl, Less.refl, rowsD rs, _,
    fun i st' => ∃ lst m, st' = ⟨(noLoc.set "last" (dW lst)).set "many" (.int m), st.mem⟩ ∧ m + (moreW lst (rs.drop i) : Nat) = (moreW last rs : Nat), .list hm, ?_, ⟨last, 0, rfl, by simp⟩, ?_, ?_⟩
  · rintro i st' ⟨lst, m, rfl, _⟩; exact hm
  · intro i d st' hd hh9
    refine hid fun PP9 kk9 => ?_
    obtain ⟨lst, m, rfl, hI⟩ := hh9
    refine kk9 ?_
    clear kk9 PP9
    obtain ⟨r, hr, rfl⟩ := rows_at hd
    rw [drop_at hr] at hI
    walk_at "k"
    refine s_name hA ?_ (by decide)
    clear hd hr
    refine Wp.up fun K u => ?_
    have done : ∀ (E1 : EP) (l2 : Option Str) (m2 : Int) (loc : Loc), LLess ((noLoc.set "last" (dW l2)).set "many" (.int m2)) loc → m2 + (moreW l2 (rs.drop (i + 1)) : Nat) = (moreW last rs : Nat) →
        WS g X' ⟨loc, st.mem⟩ [] K E1 :=
      fun E1 l2 m2 loc hl he => Wp.fit u (x_done _ _ hl Less.refl ⟨l2, m2, rfl, he⟩)
    have hwM := wordM r
    have hwZ := wordZ r
    have hI' : m + (costW lst r : Nat) + (moreW (nextW lst r) (rs.drop (i + 1)) : Nat) = (moreW last rs : Nat) := by rw [← hI]; simp only [moreW]; (first | lia | omega)
    refine x_cons (x_assign hA (r_subP rfl (pv_on hA (by with_unfolding_all rfl) (pv_on hA (by with_unfolding_all rfl) (s_row0 ?_ rfl)))) (by with_unfolding_all decide) (by with_unfolding_all rfl))
    refine then_next (x_cons (Wp.mid (J := fun st' => st' = ⟨((((noLoc.set "last" (dW lst)).set "many" (.int m)).set "row" r.d).set "word" (.str r.w)).set "many" (.int (m + (costW lst r : Nat))), st.mem⟩) (fun _ _ => ?_) ?_))
    · have k0 : ∀ v : Int, v = (costW lst r : Nat) → (⟨((((noLoc.set "last" (dW lst)).set "many" (.int m)).set "row" r.d).set "word" (.str r.w)).set "many" (.int (m + v)), st.mem⟩ : St) =
          ⟨((((noLoc.set "last" (dW lst)).set "many" (.int m)).set "row" r.d).set "word" (.str r.w)).set "many" (.int (m + (costW lst r : Nat))), st.mem⟩ := fun v e => by rw [e]
      cases lst with
      | none =>
        dsimp only [dW] at k0 ⊢
        walk_at "mg"
        refine ⟨fun hM => ?_, fun hM => ?_⟩ <;> rw [hwM] at hM <;> walk_at "go"
        · exact k0 1 (by rw [cost_m hM]; rfl)
        refine ⟨fun hZ => ?_, fun hZ => ?_⟩ <;> rw [hwZ] at hZ <;> walk_at "go"
        · exact k0 0 (by rw [cost_z hZ]; rfl)
        · exact k0 1 (by rw [cost_g hM hZ]; rfl)
      | some w =>
        dsimp only [dW] at k0 ⊢
        walk_at "mg"
        refine ⟨fun hM => ?_, fun hM => ?_⟩ <;> rw [hwM] at hM <;> walk_at "go"
        · refine ⟨fun hb => ?_, fun hb => ?_⟩ <;> walk_at "go"
          · exact k0 0 (by rw [cost_m hM]; simp at hb; simp [hb])
          · exact k0 1 (by rw [cost_m hM]; simp at hb; simp [hb])
        refine ⟨fun hZ => ?_, fun hZ => ?_⟩ <;> rw [hwZ] at hZ <;> walk_at "go"
        · refine ⟨fun hb => ?_, fun hb => ?_⟩ <;> walk_at "go"
          · exact k0 0 (by rw [cost_z hZ]; simp [dStr] at hb; simp [hb, eq_comm])
          · exact k0 1 (by rw [cost_z hZ]; simp [dStr] at hb; simp [hb, Ne.symm, eq_comm])
        · refine ⟨fun hb => ?_, fun hb => ?_⟩ <;> walk_at "go"
          · exact k0 2 (by rw [cost_g hM hZ]; simp at hb; simp [hb])
          · exact k0 1 (by rw [cost_g hM hZ]; simp at hb; simp [hb])
    · rintro _ rfl
      generalize m + (costW lst r : Nat) = m2 at hI'
      cases lst with
      | none =>
        dsimp only [dW]
        walk_at "mg"
        refine ⟨fun hZ => ?_, fun hZ => ?_⟩ <;> rw [hwZ] at hZ <;> walk_at "go"
        · exact done _ none _ _ ((LLess.nil.cons rfl).cons rfl) (by simpa [nextW, hZ] using hI')
        · exact done _ (some r.w) _ _ ((LLess.nil.cons rfl).cons rfl) (by simpa [nextW, hZ] using hI')
      | some w =>
        dsimp only [dW]
        walk_at "mg"
        refine ⟨fun hZ => ?_, fun hZ => ?_⟩ <;> walk_at "go"
        all_goals exact done _ (some r.w) _ _ ((LLess.nil.cons rfl).cons rfl) (by simpa [nextW] using hI')
  · intro st' hh9
    refine hid fun PP9 kk9 => ?_
    obtain ⟨lst, m, rfl, hI⟩ := hh9
    refine kk9 ?_
    clear kk9 PP9
    walk_at "go"
    rw [List.drop_of_length_le (by simp)] at hI
    simp only [moreW, Int.natCast_zero, Int.add_zero] at hI
    subst hI
    exact h
end
end
section
section
variable {g : Gd} {X : Fx} {SC : Scope} {n : Nat} {st : St} {E : EP}
theorem c_need_room {d k b : Addr} {most : Int} {rows rs : List Row} {Q : D → St → Prop} (P : Prg g) (hA : At g X SC (n + 3)) (hp : PathAt st.mem d k most rows) (hb : st.mem b = some (.list (rowsD rs))) (hlen : rows.length ≤ 100000)
    (hok : ((rows.length + moreW (lastW rows) rs : Nat) : Int) ≤ most → ∀ μ, Mod [] st.mem μ → Q .none ⟨st.loc, μ⟩)
    (hno : most < ((rows.length + moreW (lastW rows) rs : Nat) : Int) → ∀ μ, Mod [] st.mem μ → E (.bytes limitB) ⟨st.loc, μ⟩) : WCall g X st (.ref 125) [.obj 198 d, .ref b] Q E := by
  obtain ⟨hd, hk⟩ := id hp
  refine (P.need_room.fn.call hA rfl fun X' hA hC hL Q9 uQ E9 uE => ?_).w
  refine x_cons ?_
  walk_at "mg"
  refine r_call hA P.len trivial ?_
  walk_at "mg"
  refine b_lenL hk (by simpa using Nat.le_trans hlen (by decide)) ?_
  walk_at "mg"
  refine r_call hA P.path_more.glob P.path_more.keep ?_
  walk_at "mg"
  intro a ha
  have hk' := set_new (c := .list []) ha hk
  have hd' := set_new (c := .list []) ha hd
  have hb' := set_new (c := .list []) ha hb
  walk_at "k"
  refine c_neNil hA hk' (set_same _ _) ?_
  walk_at "mg"
  rcases List.eq_nil_or_concat rows with rfl | ⟨l, r, rfl⟩
  · refine ⟨fun hx => absurd hx (by simp), fun _ => ?_⟩
    walk_at "mg"
    refine c_path_more (last := none) P hA hb' ?_
    walk_at "mg"
    refine ⟨fun hx => ?_, fun hx => ?_⟩ <;> simp only [decide_eq_true_eq, decide_eq_false_iff_not] at hx <;> simp only [lastW, List.getLast?_nil, Option.map_none, List.length_nil, Nat.zero_add, List.map_nil] at hok hno hx
    · walk_at "mg"
      refine x_raise hA P.exc P.excG P.excK ?_
      walk_at "mg"
      exact ⟨_, rfl, uE _ _ (hno (by simpa using hx) _ (Mod.refl.new ha))⟩
    · walk_at "mg"
      exact x_nil (uQ _ _ (hok (by simp at hx; (first | lia | omega)) _ (Mod.refl.new ha)))
  · rw [List.concat_eq_append] at *
    have hl : (rowsD (l ++ [r])).getLast? = some r.d := by simp [rowsD]
    refine ⟨fun _ => ?_, fun hx => absurd hx (by simp [rowsD])⟩
    walk_at "mg"
    refine s_list_last hk' hl ?_
    walk_at "mg"
    refine c_path_more (last := some r.w) P hA hb' ?_
    walk_at "mg"
    have hw : lastW (l ++ [r]) = some r.w := by simp [lastW]
    rw [hw] at hok hno
    simp only [rowsD, List.length_map] at *
    refine ⟨fun hx => ?_, fun hx => ?_⟩ <;> simp only [decide_eq_true_eq, decide_eq_false_iff_not] at hx
    · walk_at "mg"
      refine x_raise hA P.exc P.excG P.excK ?_
      walk_at "mg"
      exact ⟨_, rfl, uE _ _ (hno (by (first | lia | omega)) _ (Mod.refl.new ha))⟩
    · walk_at "mg"
      exact x_nil (uQ _ _ (hok (by (first | lia | omega)) _ (Mod.refl.new ha)))

noncomputable def Good (rows : List Row) : Prop := rows ≠ [] → (lastM rows).isSome = true
theorem point_none {rows : List Row} (hg : Good rows) : (pointOf rows).isNone = rows.isEmpty := by
  rcases List.eq_nil_or_concat rows with rfl | ⟨l, r, rfl⟩
  · rfl
  · rw [List.concat_eq_append] at *
    have h := hg (by simp)
    unfold pointOf
    rw [getLast_snoc]
    cases r <;> simp
    rw [← Option.not_isSome, h]; simp
theorem c_current {d k : Addr} {most : Int} {rows : List Row} {Q : D → St → Prop} (P : Prg g) (hA : At g X SC (n + 2)) (hp : PathAt st.mem d k most rows) (hg : Good rows)
    (hok : rows ≠ [] → Q (optD (pointOf rows)) st) (hno : rows = [] → E (.bytes nocurB) st) : WCall g X st (.ref 104) [.obj 198 d] Q E := by
  obtain ⟨hd, hk⟩ := id hp
  refine (P.current.fn.call hA rfl fun X' hA hC hL Q9 uQ E9 uE => ?_).w
  refine x_cons ?_
  walk_at "mg"
  rw [optD_none, point_none hg]
  refine ⟨fun hx => ?_, fun hx => ?_⟩
  · walk_at "mg"
    refine x_raise hA P.exc P.excG P.excK ?_
    walk_at "mg"
    exact ⟨_, rfl, uE _ _ (hno (List.isEmpty_iff.mp hx))⟩
  · walk_at "mg"
    exact hok (fun z => by rw [z] at hx; cases hx)
end
end
section
section
variable {g : Gd} {X : Fx} {SC : Scope} {n : Nat} {st : St} {E : EP} {μ ν ρ : Mem}
theorem List.ne_of_snoc {α : Type} (l : List α) (a : α) : l ++ [a] ≠ [] := by simp
theorem getLastW (rows : List Row) : (rowsD rows).getLast? = rows.getLast?.map Row.d := by simp [rowsD]

theorem pathSet {d k : Addr} {most : Int} {rows : List Row} {d' k' : D} {c1 c2 : Cell} (h1 : μ d = some c1) (h2 : μ k = some c2) (e1 : c1 = .dict [("most", .int most), ("kept", .ref k), ("begun", optD (lastM rows)), ("point", optD (pointOf rows))]) (e2 : c2 = .list (rowsD rows)) : PathAt μ d k most rows := ⟨e1 ▸ h1, e2 ▸ h2⟩
theorem PathAt.mod0 {d k : Addr} {most : Int} {rows : List Row} (h : PathAt μ d k most rows) (hm : Mod [] μ ν) : PathAt ν d k most rows := ⟨hm.get0 h.1, hm.get0 h.2⟩
theorem set_set (a : Addr) (c c' : Cell) : (μ.set a c).set a c' = μ.set a c' := by funext x; unfold Mem.set; split <;> rfl

theorem r_append {o : Expr} {args : List Expr} {apos pos : Pos} {pl : Sem Bool} {Q : D → St → Prop} (hA : At g X SC n)
    (h : Wp g Val X st (eval o X.env) (fun d st1 => ∃ a ds0, d = .ref a ∧ st1.mem a = some (.list ds0) ∧ Wp g Vals X st1 (Items args pos X.env) (fun ds st2 => WCall g X st2 (.bi "list.append") (d :: ds) Q E) E) E)
    (he : eval (.Call (.Attribute o "append" apos) args [] pos) X.env = (do
      let ov ← eval o X.env
      standAt apos.atName
      let (f, first) ← holding [ov] (getMethod ov "append" pl)
      callWith pos f first (backTo pos (starEach args X.env)) []) := by rfl) (hplain : (backTo pos (starEach args X.env)).any (·.1) = false := by rfl) :
    Wp g Val X st (eval (.Call (.Attribute o "append" apos) args [] pos) X.env) Q E := r_lmeth hA PySem.F.plainAttrs_list PySem.F.slot_list_append PySem.F.type_list_append h he hplain
theorem r_pop {o : Expr} {args : List Expr} {apos pos : Pos} {pl : Sem Bool} {Q : D → St → Prop} (hA : At g X SC n)
    (h : Wp g Val X st (eval o X.env) (fun d st1 => ∃ a ds0, d = .ref a ∧ st1.mem a = some (.list ds0) ∧ Wp g Vals X st1 (Items args pos X.env) (fun ds st2 => WCall g X st2 (.bi "list.pop") (d :: ds) Q E) E) E)
    (he : eval (.Call (.Attribute o "pop" apos) args [] pos) X.env = (do
      let ov ← eval o X.env
      standAt apos.atName
      let (f, first) ← holding [ov] (getMethod ov "pop" pl)
      callWith pos f first (backTo pos (starEach args X.env)) []) := by rfl) (hplain : (backTo pos (starEach args X.env)).any (·.1) = false := by rfl) :
    Wp g Val X st (eval (.Call (.Attribute o "pop" apos) args [] pos) X.env) Q E := r_lmeth hA PySem.F.plainAttrs_list PySem.F.slot_list_pop PySem.F.type_list_pop h he hplain
theorem r_extend {o : Expr} {args : List Expr} {apos pos : Pos} {pl : Sem Bool} {Q : D → St → Prop} (hA : At g X SC n)
    (h : Wp g Val X st (eval o X.env) (fun d st1 => ∃ a ds0, d = .ref a ∧ st1.mem a = some (.list ds0) ∧ Wp g Vals X st1 (Items args pos X.env) (fun ds st2 => WCall g X st2 (.bi "list.extend") (d :: ds) Q E) E) E)
    (he : eval (.Call (.Attribute o "extend" apos) args [] pos) X.env = (do
      let ov ← eval o X.env
      standAt apos.atName
      let (f, first) ← holding [ov] (getMethod ov "extend" pl)
      callWith pos f first (backTo pos (starEach args X.env)) []) := by rfl) (hplain : (backTo pos (starEach args X.env)).any (·.1) = false := by rfl) :
    Wp g Val X st (eval (.Call (.Attribute o "extend" apos) args [] pos) X.env) Q E := r_lmeth hA PySem.F.plainAttrs_list PySem.F.slot_list_extend PySem.F.type_list_extend h he hplain

theorem takes {g : Gd} (P : Prg g) : takerIn g.K 198 "kept" = some none ∧ takerIn g.K 198 "most" = some none ∧ takerIn g.K 198 "begun" = some none ∧ takerIn g.K 198 "point" = some none := by
  unfold takerIn
  rw [P.kept, P.most, P.begun, P.point]
  exact ⟨rfl, rfl, rfl, rfl⟩
theorem s_kept {d : Addr} {r : D} {fs fs' : List (Str × D)} {Q : Unit → St → Prop} (P : Prg g) (hA : At g X SC n) (hm : st.mem d = some (.dict fs)) (e : putF "kept" r fs = fs') (hz : fs.length ≤ 100) (h : Q () { st with mem := st.mem.set d (.dict fs') }) :
    W2 g UnitR X st (fun o v => setAttr o "kept" v) (.obj 198 d) r Q E := a_set hA P.PathC (takes P).1 hm e hz h
theorem s_most {d : Addr} {r : D} {fs fs' : List (Str × D)} {Q : Unit → St → Prop} (P : Prg g) (hA : At g X SC n) (hm : st.mem d = some (.dict fs)) (e : putF "most" r fs = fs') (hz : fs.length ≤ 100) (h : Q () { st with mem := st.mem.set d (.dict fs') }) :
    W2 g UnitR X st (fun o v => setAttr o "most" v) (.obj 198 d) r Q E := a_set hA P.PathC (takes P).2.1 hm e hz h
theorem s_begun {d : Addr} {r : D} {fs fs' : List (Str × D)} {Q : Unit → St → Prop} (P : Prg g) (hA : At g X SC n) (hm : st.mem d = some (.dict fs)) (e : putF "begun" r fs = fs') (hz : fs.length ≤ 100) (h : Q () { st with mem := st.mem.set d (.dict fs') }) :
    W2 g UnitR X st (fun o v => setAttr o "begun" v) (.obj 198 d) r Q E := a_set hA P.PathC (takes P).2.2.1 hm e hz h
theorem s_point {d : Addr} {r : D} {fs fs' : List (Str × D)} {Q : Unit → St → Prop} (P : Prg g) (hA : At g X SC n) (hm : st.mem d = some (.dict fs)) (e : putF "point" r fs = fs') (hz : fs.length ≤ 100) (h : Q () { st with mem := st.mem.set d (.dict fs') }) :
    W2 g UnitR X st (fun o v => setAttr o "point" v) (.obj 198 d) r Q E := a_set hA P.PathC (takes P).2.2.2 hm e hz h
noncomputable abbrev pathF (most : Int) (k : Addr) (b p : D) : Cell := .dict [("most", .int most), ("kept", .ref k), ("begun", b), ("point", p)]

theorem c_move {d k : Addr} {most x y : Int} {rows : List Row} {Q : D → St → Prop} (P : Prg g) (hA : At g X SC (n + 4)) (hp : PathAt st.mem d k most rows) (hlen : rows.length ≤ 1000)
    (hok : ((put1 rows (.m x y)).length : Int) ≤ most → ∀ μ, PathAt μ d k most (put1 rows (.m x y)) → Mod [d, k] st.mem μ → Q .none ⟨st.loc, μ⟩)
    (hno : most < ((put1 rows (.m x y)).length : Int) → ∀ μ, Mod [] st.mem μ → E (.bytes limitB) ⟨st.loc, μ⟩) : WCall g X st (.ref 132) [.obj 198 d, .int x, .int y] Q E := by
  obtain ⟨hd, hk⟩ := id hp
  have hdk := hp.ne
  refine (P.move.fn.call hA rfl fun X' hA hC hL Q9 uQ E9 uE => ?_).w
  refine x_cons ?_
  walk_at "mg"
  refine r_meth hA ?_
  walk_at "mg"
  refine ⟨198, d, _, 125, rfl, hd, rfl, P.need_room.meth, ?_⟩
  walk_at "mg"
  intro a ha
  have hp1 : PathAt (st.mem.set a (.list [D.tup [D.str "m", D.int x, D.int y]])) d k most rows := hp.mod0 (Mod.refl.new ha)
  have hr : moreW (lastW rows) [.m x y] = costW (lastW rows) (.m x y) := rfl
  walk_at "mg"
  refine c_need_room (rs := [.m x y]) P hA hp1 (set_same _ _) (by (first | lia | omega)) (fun hle μ hμ => ?_) (fun hlt μ hμ => ?_)
  rotate_left
  · exact uE _ _ (hno (by rw [put1_length]; rw [hr] at hlt; exact hlt) _ (Mod.trans (Mod.refl.new ha) hμ))
  rw [hr, ← put1_length] at hle
  have hμ1 : Mod [] st.mem μ := Mod.trans (Mod.refl.new ha) hμ
  have hp2 : PathAt μ d k most rows := hp.mod0 hμ1
  clear hp1 hμ hd hk
  obtain ⟨hd, hk⟩ := id hp2
  walk_at "k"
  refine then_next ?_
  refine x_cons (Wp.mid (J := fun st' => ∃ base μ', st' = ⟨(bindD ["self", "x", "y"] [.obj 198 d, .int x, .int y] noLoc).set "row" (.tup [.str "m", .int x, .int y]), μ'⟩ ∧ base ++ [.m x y] = put1 rows (.m x y) ∧ base.length ≤ 1000 ∧
    μ' d = some (pathF most k (optD (lastM rows)) (optD (pointOf rows))) ∧ μ' k = some (.list (rowsD base)) ∧ Mod [d, k] st.mem μ') (fun _ _ => ?_) ?_)
  · walk_at "mg"
    intro b hb
    have hk1 := set_new (c := .list []) hb hk
    have hd1 := set_new (c := .list []) hb hd
    have hm1 : Mod [] st.mem (μ.set b (.list [])) := hμ1.new hb
    walk_at "k"
    refine c_neNil hA hk1 (set_same _ _) ?_
    walk_at "mg"
    rcases List.eq_nil_or_concat rows with rfl | ⟨l, r, rfl⟩
    · refine ⟨fun hx => absurd hx (by simp), fun _ => ?_⟩
      refine ⟨fun hx => absurd hx (by simp), fun _ => ?_⟩
      walk_at "mg"
      exact ⟨[], _, rfl, rfl, by simp, hd1, hk1, hm1.wide⟩
    · rw [List.concat_eq_append] at *
      refine ⟨fun _ => ?_, fun hx => absurd hx (by simp)⟩
      walk_at "mg"
      refine s_list_last hk1 (by rw [getLastW, getLast_snoc]; rfl) ?_
      walk_at "mg"
      have hk2 : (μ.set b (.list [])) k = some (.list (rowsD l ++ [r.d])) := by rw [hk1]; simp [rowsD]
      have hwm : ∀ b : Bool, (r.w == "m") = b → r.isM = b := fun b hb => (wordM r).symm.trans hb
      refine ⟨fun hx => ?_, fun hx => ?_⟩
      · walk_at "go"
        refine r_pop hA ?_
        walk_at "mg"
        refine ⟨k, _, rfl, hk2, ?_⟩
        walk_at "mg"
        refine b_pop hA hk2 (by simp at hlen ⊢; (first | lia | omega)) ?_
        walk_at "mg"
        exact ⟨l, _, rfl, by simp [put1, hwm _ hx], by simp at hlen; (first | lia | omega), set_get hdk hd1, set_same _ _, hm1.wide.put (.inl (by simp))⟩
      · walk_at "go"
        exact ⟨l ++ [r], _, rfl, by simp [put1, hwm _ hx], hlen, hd1, hk1, hm1.wide⟩
  · intro st' hh9
    refine hid fun PP9 kk9 => ?_
    obtain ⟨base, μ', rfl, hbase, hbl, hd3, hk3, hm3⟩ := hh9
    refine kk9 ?_
    clear kk9 PP9
    walk_at "mg"
    refine r_append hA ?_
    walk_at "mg"
    refine ⟨k, _, rfl, hk3, ?_⟩
    walk_at "mg"
    refine b_append hA hk3 (by first | exact rows_le (by first | lia | omega) | (simp [rowsD]; first | lia | omega)) ?_
    walk_at "mg"
    have hd4 : (μ'.set k (.list (rowsD base ++ [D.tup [D.str "m", D.int x, D.int y]]))) d = some (pathF most k (optD (lastM rows)) (optD (pointOf rows))) := set_get hdk hd3
    walk_at "k"
    refine s_begun P hA hd4 rfl (show (4 : Nat) ≤ 100 by decide) ?_
    walk_at "mg"
    refine s_point P hA (set_same _ _) rfl (show (4 : Nat) ≤ 100 by decide) ?_
    walk_at "mg"
    have hl : lastM (base ++ [.m x y]) = some (x, y) := by rw [lastM_append]; rfl
    have hpt : pointOf (base ++ [.m x y]) = some (x, y) := by simp [pointOf, endOf]
    refine x_nil (uQ _ _ (hok hle _ ?_ ?_))
    · rw [← hbase]
      refine ⟨?_, ?_⟩
      · rw [hl, hpt]; exact set_same _ _
      · refine (set_ne (Ne.symm hdk)).trans ((set_ne (Ne.symm hdk)).trans ((set_same _ _).trans ?_))
        simp [rowsD, Row.d]
    · exact ((hm3.put (.inl (by simp))).put (.inl (by simp))).put (.inl (by simp))
end
end
section
section
variable {g : Gd} {X : Fx} {SC : Scope} {n : Nat} {st : St} {E : EP} {μ ν ρ : Mem}
theorem ptD {r : Row} (hg : r.isG = true) : ∃ x y, endOf r = (x, y) := ⟨_, _, rfl⟩
theorem put1_G {rows : List Row} {r : Row} (hg : r.isG = true) : put1 rows r = rows ++ (if (rows.getLast?).any Row.isZ then [.m ((lastM rows).getD (0, 0)).1 ((lastM rows).getD (0, 0)).2] else []) ++ [r] := by
  cases r <;> first | rfl | cases hg
theorem lastM_G {r : Row} (hg : r.isG = true) : lastM [r] = none := by cases r <;> first | rfl | cases hg
theorem point_G {rows : List Row} {r : Row} (hg : r.isG = true) : pointOf (rows ++ [r]) = some (endOf r) := by
  unfold pointOf; rw [getLast_snoc]; cases r <;> first | rfl | cases hg
theorem wzb {r : Row} : ∀ b : Bool, (r.w == "z") = b → r.isZ = b := fun b hb => by
  cases b
  · cases hq : r.isZ with
    | false => rfl
    | true => rw [(w_isZ r).mpr hq] at hb; cases hb
  · exact (w_isZ r).mp (beq_iff_eq.mp hb)

theorem c_go_on {d k : Addr} {most : Int} {rows : List Row} {r : Row} {Q : D → St → Prop} (P : Prg g) (hA : At g X SC (n + 4)) (hp : PathAt st.mem d k most rows) (hlen : rows.length ≤ 1000) (hg : Good rows) (hr : r.isG = true)
    (hok : rows ≠ [] → ((put1 rows r).length : Int) ≤ most → ∀ μ, PathAt μ d k most (put1 rows r) → Mod [d, k] st.mem μ → Q .none ⟨st.loc, μ⟩)
    (hno : rows ≠ [] → most < ((put1 rows r).length : Int) → ∀ μ, Mod [] st.mem μ → E (.bytes limitB) ⟨st.loc, μ⟩) (hcur : rows = [] → ∀ μ, Mod [] st.mem μ → E (.bytes nocurB) ⟨st.loc, μ⟩) :
    WCall g X st (.ref 139) [.obj 198 d, r.d, optD (some (endOf r))] Q E := by
  obtain ⟨hd, hk⟩ := id hp
  have hdk := hp.ne
  refine (P.go_on.fn.call hA rfl fun X' hA hC hL Q9 uQ E9 uE => ?_).w
  refine x_cons ?_
  walk_at "mg"
  refine r_meth hA ?_
  walk_at "mg"
  refine ⟨198, d, _, 104, rfl, hd, rfl, P.current.meth, ?_⟩
  walk_at "mg"
  refine c_current P hA hp hg (fun hne => ?_) (fun h0 => uE _ _ (hcur h0 _ Mod.refl))
  walk_at "mg"
  refine r_meth hA ?_
  walk_at "mg"
  refine ⟨198, d, _, 125, rfl, hd, rfl, P.need_room.meth, ?_⟩
  walk_at "mg"
  intro a ha
  walk_at "mg"
  have hp1 : PathAt (st.mem.set a (.list [r.d])) d k most rows := hp.mod0 (Mod.refl.new ha)
  have hmr : moreW (lastW rows) [r] = costW (lastW rows) r := rfl
  walk_at "k"
  refine c_need_room (rs := [r]) P hA hp1 (set_same _ _) (by (first | lia | omega)) (fun hle μ hμ => ?_) (fun hlt μ hμ => ?_)
  rotate_left
  · exact uE _ _ (hno hne (by rw [put1_length]; rw [hmr] at hlt; exact hlt) _ (Mod.trans (Mod.refl.new ha) hμ))
  rw [hmr, ← put1_length] at hle
  have hμ1 : Mod [] st.mem μ := Mod.trans (Mod.refl.new ha) hμ
  have hp2 : PathAt μ d k most rows := hp.mod0 hμ1
  clear hp1 hμ hd hk
  refine hid fun PP9 kk9 => ?_
  obtain ⟨hd, hk⟩ := id hp2
  obtain ⟨⟨bx, by'⟩, hlm⟩ := Option.isSome_iff_exists.mp (hg hne)
  refine kk9 ?_
  clear kk9 PP9
  have hbe : optD (lastM rows) = .tup [.int bx, .int by'] := by rw [hlm]; rfl
  have back : ∀ {ν : Mem} {k' : Addr} {p : D}, ν d = some (pathF most k' (.tup [.int bx, .int by']) p) → ν d = some (pathF most k' (optD (lastM rows)) p) := fun e => by rw [hbe]; exact e
  replace hd : μ d = some (pathF most k (.tup [.int bx, .int by']) (optD (pointOf rows))) := by rw [← hbe]; exact hd
  walk_at "k"
  refine then_next ?_
  refine x_cons (Wp.mid (J := fun st' => ∃ base μ', st' = ⟨bindD ["self", "row", "point"] [.obj 198 d, r.d, optD (some (endOf r))] noLoc, μ'⟩ ∧ base ++ [r] = put1 rows r ∧ lastM base = lastM rows ∧ base.length ≤ 1001 ∧
    μ' d = some (pathF most k (optD (lastM rows)) (optD (pointOf rows))) ∧ μ' k = some (.list (rowsD base)) ∧ Mod [d, k] st.mem μ') (fun _ _ => ?_) ?_)
  · walk_at "mg"
    rcases List.eq_nil_or_concat rows with rfl | ⟨l, q, rfl⟩
    · exact absurd rfl hne
    · rw [List.concat_eq_append] at *
      walk_at "k"
      refine s_list_last hk (by rw [getLastW, getLast_snoc]; rfl) ?_
      walk_at "mg"
      refine ⟨fun hx => ?_, fun hx => ?_⟩
      · walk_at "mg"
        refine r_append hA ?_
        walk_at "mg"
        refine ⟨k, _, rfl, hk, ?_⟩
        walk_at "mg"
        refine b_append hA (by exact hk) (by simp [rowsD] at hlen ⊢; (first | lia | omega)) ?_
        walk_at "mg"
        refine ⟨l ++ [q] ++ [.m bx by'], _, rfl, ?_, ?_, by simp at hlen ⊢; (first | lia | omega), back (set_get hdk hd), ?_, hμ1.wide.put (.inl (by simp))⟩
        · rw [put1_G hr, hlm]; simp [wzb _ hx]
        · rw [lastM_append, hlm]; rfl
        · rw [set_same]; simp [rowsD, Row.d]
      · walk_at "mg"
        refine ⟨l ++ [q], _, rfl, ?_, rfl, by (first | lia | omega), back hd, hk, hμ1.wide⟩
        rw [put1_G hr]; simp [wzb _ hx]
  · intro st' hh9
    refine hid fun PP9 kk9 => ?_
    obtain ⟨base, μ', rfl, hbase, hlb, hbl, hd3, hk3, hm3⟩ := hh9
    refine kk9 ?_
    clear kk9 PP9
    walk_at "mg"
    refine r_append hA ?_
    walk_at "mg"
    refine ⟨k, _, rfl, hk3, ?_⟩
    walk_at "mg"
    refine b_append hA hk3 (by first | exact rows_le (by first | lia | omega) | (simp [rowsD]; first | lia | omega)) ?_
    walk_at "mg"
    have hd4 : (μ'.set k (.list (rowsD base ++ [r.d]))) d = some (pathF most k (optD (lastM rows)) (optD (pointOf rows))) := set_get hdk hd3
    walk_at "k"
    refine s_point P hA hd4 rfl (show (4 : Nat) ≤ 100 by decide) ?_
    walk_at "mg"
    refine x_nil (uQ _ _ (hok hne hle _ ?_ ?_))
    · rw [← hbase]
      refine ⟨?_, ?_⟩
      · rw [lastM_append, lastM_G hr, hlb, point_G hr]; exact set_same _ _
      · refine (set_ne (Ne.symm hdk)).trans ((set_same _ _).trans ?_)
        simp [rowsD]
    · exact (hm3.put (.inl (by simp))).put (.inl (by simp))
end
end
section
section
variable {g : Gd} {X : Fx} {SC : Scope} {n : Nat} {st : St} {E : EP} {μ ν ρ : Mem}
/-- what a call that lays one row behind the others answers -/
structure Puts (st : St) (d k : Addr) (most : Int) (rows : List Row) (r : Row) (Q : D → St → Prop) (E : EP) : Prop where
  ok : (rows = [] → r.isG = false) → ((put1 rows r).length : Int) ≤ most → ∀ μ, PathAt μ d k most (put1 rows r) → Mod [d, k] st.mem μ → Q .none ⟨st.loc, μ⟩
  no : (rows = [] → r.isG = false) → most < ((put1 rows r).length : Int) → ∀ μ, Mod [] st.mem μ → E (.bytes limitB) ⟨st.loc, μ⟩
  cur : rows = [] → r.isG = true → ∀ μ, Mod [] st.mem μ → E (.bytes nocurB) ⟨st.loc, μ⟩

theorem c_line {d k : Addr} {most x y : Int} {rows : List Row} {Q : D → St → Prop} (P : Prg g) (hA : At g X SC (n + 5)) (hp : PathAt st.mem d k most rows) (hlen : rows.length ≤ 1000) (hg : Good rows)
    (h : Puts st d k most rows (.l x y) Q E) : WCall g X st (.ref 146) [.obj 198 d, .int x, .int y] Q E := by
  obtain ⟨hd, hk⟩ := id hp
  refine (P.line.fn.call hA rfl fun X' hA hC hL Q9 uQ E9 uE => ?_).w
  refine x_cons ?_
  walk_at "mg"
  refine r_meth hA ?_
  walk_at "mg"
  refine ⟨198, d, _, 139, rfl, hd, rfl, P.go_on.meth, ?_⟩
  walk_at "mg"
  refine c_go_on (r := .l x y) P hA hp hlen hg rfl (fun hne hle μ h1 h2 => ?_) (fun hne hlt μ h1 => uE _ _ (h.no (fun z => absurd z hne) hlt μ h1)) fun h0 μ h1 => uE _ _ (h.cur h0 rfl μ h1)
  walk_at "k"
  refine then_next (x_nil ?_)
  exact uQ _ _ (h.ok (fun z => absurd z hne) hle μ h1 h2)
theorem c_curve {d k : Addr} {most x1 y1 x2 y2 x3 y3 : Int} {rows : List Row} {Q : D → St → Prop} (P : Prg g) (hA : At g X SC (n + 5)) (hp : PathAt st.mem d k most rows) (hlen : rows.length ≤ 1000) (hg : Good rows)
    (h : Puts st d k most rows (.c x1 y1 x2 y2 x3 y3) Q E) : WCall g X st (.ref 153) [.obj 198 d, .int x1, .int y1, .int x2, .int y2, .int x3, .int y3] Q E := by
  obtain ⟨hd, hk⟩ := id hp
  refine (P.curve.fn.call hA rfl fun X' hA hC hL Q9 uQ E9 uE => ?_).w
  refine x_cons ?_
  walk_at "mg"
  refine r_meth hA ?_
  walk_at "mg"
  refine ⟨198, d, _, 139, rfl, hd, rfl, P.go_on.meth, ?_⟩
  walk_at "mg"
  refine c_go_on (r := .c x1 y1 x2 y2 x3 y3) P hA hp hlen hg rfl (fun hne hle μ h1 h2 => ?_) (fun hne hlt μ h1 => uE _ _ (h.no (fun z => absurd z hne) hlt μ h1)) fun h0 μ h1 => uE _ _ (h.cur h0 rfl μ h1)
  walk_at "k"
  refine then_next (x_nil ?_)
  exact uQ _ _ (h.ok (fun z => absurd z hne) hle μ h1 h2)

theorem point_Z {rows : List Row} : pointOf (rows ++ [.z]) = lastM (rows ++ [.z]) := by unfold pointOf; rw [getLast_snoc]
theorem c_close {d k : Addr} {most : Int} {rows : List Row} {Q : D → St → Prop} (P : Prg g) (hA : At g X SC (n + 4)) (hp : PathAt st.mem d k most rows) (hlen : rows.length ≤ 1000) (hmost : (rows.length : Int) ≤ most) (hg : Good rows)
    (h : Puts st d k most rows .z Q E) : WCall g X st (.ref 160) [.obj 198 d] Q E := by
  obtain ⟨hd, hk⟩ := id hp
  have hdk := hp.ne
  refine (P.close.fn.call hA rfl fun X' hA hC hL Q9 uQ E9 uE => ?_).w
  refine x_cons ?_
  walk_at "mg"
  rw [optD_none, point_none hg]
  refine ⟨fun hx => ?_, fun hx => ?_⟩
  · have h0 : rows = [] := List.isEmpty_iff.mp hx
    subst h0
    walk_at "go"
    exact h.ok (fun _ => rfl) (by simpa [put1] using hmost) _ hp Mod.refl
  · have hne : rows ≠ [] := fun z => by rw [z] at hx; cases hx
    walk_at "mg"
    rcases List.eq_nil_or_concat rows with rfl | ⟨l, q, rfl⟩
    · exact absurd rfl hne
    · rw [List.concat_eq_append] at *
      walk_at "k"
      refine s_list_last hk (by rw [getLastW, getLast_snoc]; rfl) ?_
      walk_at "mg"
      refine ⟨fun hx => ?_, fun hx => ?_⟩
      · walk_at "go"
        have hp1 : put1 (l ++ [q]) .z = l ++ [q] := by simp [put1, wzb _ hx]
        have := h.ok (fun z => by simp at z) (by rw [hp1]; exact hmost) st.mem (by rw [hp1]; exact hp) Mod.refl
        exact this
      · walk_at "go"
        have hp1 : put1 (l ++ [q]) .z = l ++ [q] ++ [.z] := by simp [put1, wzb _ hx]
        walk_at "k"
        refine r_meth hA ?_
        walk_at "mg"
        refine ⟨198, d, _, 125, rfl, hd, rfl, P.need_room.meth, ?_⟩
        walk_at "mg"
        intro a ha
        walk_at "mg"
        have hpa : PathAt (st.mem.set a (.list [D.tup [D.str "z"]])) d k most (l ++ [q]) := hp.mod0 (Mod.refl.new ha)
        have hmr : moreW (lastW (l ++ [q])) [.z] = costW (lastW (l ++ [q])) .z := rfl
        walk_at "k"
        refine c_need_room (rs := [.z]) P hA hpa (set_same _ _) (by (first | lia | omega)) (fun hle μ hμ => ?_) (fun hlt μ hμ => ?_)
        rotate_left
        · exact uE _ _ (h.no (fun z => by simp at z) (by rw [put1_length]; rw [hmr] at hlt; exact hlt) _ (Mod.trans (Mod.refl.new ha) hμ))
        rw [hmr, ← put1_length] at hle
        have hμ1 : Mod [] st.mem μ := Mod.trans (Mod.refl.new ha) hμ
        have hp2 : PathAt μ d k most (l ++ [q]) := hp.mod0 hμ1
        clear hpa hμ hd hk
        obtain ⟨hd, hk⟩ := id hp2
        walk_at "mg"
        refine r_append hA ?_
        walk_at "mg"
        refine ⟨k, _, rfl, hk, ?_⟩
        walk_at "mg"
        refine b_append hA (by exact hk) (by simp [rowsD] at hlen ⊢; (first | lia | omega)) ?_
        walk_at "mg"
        have hd4 : (μ.set k (.list (rowsD (l ++ [q]) ++ [D.tup [D.str "z"]]))) d = some (pathF most k (optD (lastM (l ++ [q]))) (optD (pointOf (l ++ [q])))) := set_get hdk hd
        walk_at "mg"
        refine s_point P hA hd4 rfl (show (4 : Nat) ≤ 100 by decide) ?_
        walk_at "mg"
        refine x_nil (uQ _ _ (h.ok (fun z => by simp at z) hle _ ?_ ((hμ1.wide.put (.inl (by simp))).put (.inl (by simp)))))
        rw [hp1]
        have hz : lastM (l ++ [q] ++ [.z]) = lastM (l ++ [q]) := by rw [lastM_append]; rfl
        refine ⟨?_, ?_⟩
        · rw [point_Z, hz]; exact set_same _ _
        · refine (set_ne (Ne.symm hdk)).trans ((set_same _ _).trans ?_)
          simp [rowsD, Row.d]
end
end
section
section
variable {g : Gd} {X : Fx} {SC : Scope} {n : Nat} {st : St} {E : EP} {μ ν ρ : Mem}
theorem put1_nil {rows : List Row} {r : Row} (h : put1 rows r = []) : rows = [] ∧ r = .z := by
  cases r with
  | z =>
    have h' : (if rows = [] ∨ (rows.getLast?).any Row.isZ = true then rows else rows ++ [.z]) = [] := h
    split at h'
    · exact ⟨h', rfl⟩
    · simp at h'
  | _ => simp [put1] at h
theorem putAll_ne : ∀ (rs rows : List Row), rows ≠ [] → putAll rows rs ≠ []
  | [], _, h => h
  | r :: rs, rows, h => putAll_ne rs _ fun z => h (put1_nil z).1
theorem putAll_append (a b rows : List Row) : putAll rows (a ++ b) = putAll (putAll rows a) b := by unfold putAll; rw [List.foldl_append]
theorem putAll_le (rs rows : List Row) (i : Nat) : (putAll rows (rs.take i)).length ≤ (putAll rows rs).length := by
  have e : putAll rows rs = putAll (putAll rows (rs.take i)) (rs.drop i) := by rw [← putAll_append, List.take_append_drop]
  have := putAll_length (rs.drop i) (putAll rows (rs.take i))
  rw [← e] at this
  (first | lia | omega)
theorem putAll_succ {rs rows : List Row} {i : Nat} {r : Row} (h : rs[i]? = some r) : putAll rows (rs.take (i + 1)) = put1 (putAll rows (rs.take i)) r := by
  rw [List.take_add_one, h, putAll_append]; rfl
theorem good_put1 {rows : List Row} {r : Row} (hg : Good rows) (h : rows = [] → r.isG = false) : Good (put1 rows r) := by
  intro hne
  by_cases h0 : rows = []
  · subst h0
    cases r <;> simp [put1, lastM, Row.isG] at h hne ⊢
  · have := hg h0
    cases r with
    | m x y => simp [put1, lastM_append, lastM]
    | l x y => rw [put1_G rfl, lastM_append, lastM_append]; simp [lastM, this]
    | c x1 y1 x2 y2 x3 y3 => rw [put1_G rfl, lastM_append, lastM_append]; simp [lastM, this]
    | z =>
      simp only [put1]
      split
      · exact this
      · rw [lastM_append]; simp [lastM, this]
/-- rows may be laid: the first is no line or curve on an empty path -/
noncomputable def Fit (rows rs : List Row) : Prop := rows = [] → ∀ r, rs.head? = some r → r.isG = false ∧ r ≠ .z
theorem fit_at {rows rs : List Row} (hf : Fit rows rs) {i : Nat} {r : Row} (h : rs[i]? = some r) (h0 : putAll rows (rs.take i) = []) : r.isG = false := by
  cases rs with
  | nil => simp at h
  | cons r0 rest =>
    cases i with
    | zero =>
      have : r0 = r := by simpa using h
      subst this
      exact (hf h0 r0 rfl).1
    | succ i =>
      by_cases hr : rows = []
      · have := hf hr r0 rfl
        have hn : put1 rows r0 ≠ [] := fun z => this.2 (put1_nil z).2
        exact absurd h0 (show putAll (put1 rows r0) (rest.take i) ≠ [] from putAll_ne _ _ hn)
      · exact absurd h0 (putAll_ne _ _ hr)
theorem good_putAll {rows rs : List Row} (hg : Good rows) (hf : Fit rows rs) : ∀ i, i ≤ rs.length → Good (putAll rows (rs.take i))
  | 0, _ => by simpa [putAll] using hg
  | i + 1, hi => by
    have hr : rs[i]? = some rs[i] := List.getElem?_eq_getElem hi
    rw [putAll_succ hr]
    exact good_put1 (good_putAll hg hf i (by (first | lia | omega))) (fit_at hf hr)

theorem c_put_rows {d k b : Addr} {most : Int} {rows rs : List Row} {Q : D → St → Prop} (P : Prg g) (hA : At g X SC (n + 6)) (hp : PathAt st.mem d k most rows) (hb : st.mem b = some (.list (rowsD rs))) (hbk : b ≠ k)
    (hmost : (rows.length : Int) ≤ most) (hsm : most ≤ 1000) (hrs : rs.length ≤ 1000) (hg : Good rows) (hz : rows = [] → rs.head? ≠ some .z)
    (hok : Fit rows rs → ((putAll rows rs).length : Int) ≤ most → ∀ μ, PathAt μ d k most (putAll rows rs) → Mod [d, k] st.mem μ → Q .none ⟨st.loc, μ⟩)
    (hno : Fit rows rs → most < ((putAll rows rs).length : Int) → ∀ μ, Mod [] st.mem μ → E (.bytes limitB) ⟨st.loc, μ⟩)
    (hcur : rows = [] → rs.head?.any Row.isG = true → ∀ μ, Mod [] st.mem μ → E (.bytes nocurB) ⟨st.loc, μ⟩) :
    WCall g X st (.ref 167) [.obj 198 d, .ref b] Q E := by
  obtain ⟨hd, hk⟩ := id hp
  have hdk := hp.ne
  have hdb : b ≠ d := fun z => by rw [z, hd] at hb; cases hb
  have hlen : rows.length ≤ 1000 := by (first | lia | omega)
  refine (P.put_rows.fn.call hA rfl fun X' hA hC hL Q9 uQ E9 uE => ?_).w
  refine x_cons (Wp.mid (J := fun st' => st' = ⟨bindD ["self", "rows"] [.obj 198 d, .ref b] noLoc, st.mem⟩ ∧ Fit rows rs) (fun _ _ => ?_) ?_)
  · walk_at "mg"
    refine r_call hA P.len trivial ?_
    walk_at "mg"
    refine b_lenL hb (by first | exact rows_le (by first | lia | omega) | (simp [rowsD]; first | lia | omega)) ?_
    walk_at "mg"
    cases rs with
    | nil =>
      refine ⟨fun hx => absurd hx (by simp), fun _ => ?_⟩
      walk_at "go"
      exact ⟨rfl, fun _ r hr => by cases hr⟩
    | cons r rest =>
      refine ⟨fun _ => ?_, fun hx => absurd hx (by simp)⟩
      walk_at "mg"
      have hin := wordG r
      refine ⟨fun hx => ?_, fun hx => ?_⟩ <;> rw [hin] at hx
      · walk_at "go"
        refine r_meth hA ?_
        walk_at "mg"
        refine ⟨198, d, _, 104, rfl, hd, rfl, P.current.meth, ?_⟩
        walk_at "mg"
        refine c_current P hA hp hg (fun hne => ?_) fun h0 => uE _ _ (hcur h0 (by simpa using hx) _ Mod.refl)
        walk_at "mg"
        exact ⟨rfl, fun h0 => absurd h0 hne⟩
      · walk_at "go"
        refine ⟨rfl, fun h0 r' hr' => ?_⟩
        cases hr'
        exact ⟨hx, fun z => hz h0 (by rw [z]; rfl)⟩
  · rintro st' ⟨rfl, hf⟩
    walk_at "mg"
    refine r_meth hA ?_
    walk_at "mg"
    refine ⟨198, d, _, 125, rfl, hd, rfl, P.need_room.meth, ?_⟩
    walk_at "mg"
    refine c_need_room (rs := rs) P hA hp hb (by (first | lia | omega)) (fun hle μ hμ => ?_) (fun hlt μ hμ => uE _ _ (hno hf (by rw [putAll_length]; exact hlt) μ hμ))
    rw [← putAll_length] at hle
    walk_at "k"
    refine then_next (x_cons (x_for hA (Wp.less ?_)))
    walk_at "k"
    refine r_name hA rfl ?_
    refine ⟨bindD ["self", "rows"] [.obj 198 d, .ref b] noLoc, μ, LLess.refl, Less.refl, rowsD rs, _,
      fun i st' => ∃ μ', st' = ⟨bindD ["self", "rows"] [.obj 198 d, .ref b] noLoc, μ'⟩ ∧ PathAt μ' d k most (putAll rows (rs.take i)) ∧ Mod [d, k] st.mem μ', .list (hμ.get0 hb), ?_, ⟨μ, rfl, by simpa [putAll] using hp.mod0 hμ, hμ.wide⟩, ?_, ?_⟩
    · rintro i st' ⟨μ', rfl, _, hm⟩; exact hm.get (by simp [hdb, hbk]) hb
    · intro i dd st' hd' hh9
      refine hid fun PP9 kk9 => ?_
      obtain ⟨μ', rfl, hp', hm'⟩ := hh9
      refine kk9 ?_
      clear kk9 PP9
      obtain ⟨r, hr, rfl⟩ := rows_at hd'
      walk_at "k"
      refine s_name hA ?_ (by decide)
      have hi : i < rs.length := (List.getElem?_eq_some_iff.mp hr).1
      have hle' : ((putAll rows (rs.take i)).length : Int) ≤ most := by have := putAll_le rs rows i; (first | lia | omega)
      have hg' := good_putAll hg hf i (by (first | lia | omega))
      have hfit := fit_at hf hr
      have hsucc := putAll_succ (rows := rows) hr
      have hle2 : ((put1 (putAll rows (rs.take i)) r).length : Int) ≤ most := by rw [← hsucc]; have := putAll_le rs rows (i + 1); (first | lia | omega)
      obtain ⟨hd1, hk1⟩ := id hp'
      refine Wp.up fun KK uK => ?_
      have fin : ∀ (μ2 : Mem), PathAt μ2 d k most (put1 (putAll rows (rs.take i)) r) → Mod [d, k] μ' μ2 →
          WS g X' ⟨(bindD ["self", "rows"] [.obj 198 d, .ref b] noLoc).set "row" r.d, μ2⟩ [] KK E9 :=
        fun μ2 h1 h2 => Wp.fit uK (x_done _ μ2 (LLess.set LLess.refl rfl) Less.refl ⟨μ2, rfl, by rw [hsucc]; exact h1, hm'.trans h2⟩)
      cases r with
      | m x y =>
        dsimp only [Row.d]
        walk_at "go"
        refine r_meth hA ?_
        walk_at "mg"
        refine ⟨198, d, _, 132, rfl, hd1, rfl, P.move.meth, ?_⟩
        walk_at "mg"
        refine c_move P hA hp' (by (first | lia | omega)) (fun _ μ2 h1 h2 => ?_) (fun hlt μ2 h1 => absurd hle2 (by (first | lia | omega)))
        walk_at "mg"
        exact fin μ2 h1 h2
      | l x y =>
        dsimp only [Row.d]
        walk_at "go"
        refine r_meth hA ?_
        walk_at "mg"
        refine ⟨198, d, _, 146, rfl, hd1, rfl, P.line.meth, ?_⟩
        walk_at "mg"
        refine c_line P hA hp' (by (first | lia | omega)) hg' ⟨fun _ _ μ2 h1 h2 => ?_, fun _ hlt μ2 h1 => absurd hle2 (by (first | lia | omega)), fun h0 hh => absurd (hfit h0) (by simp [Row.isG])⟩
        walk_at "mg"
        exact fin μ2 h1 h2
      | c x1 y1 x2 y2 x3 y3 =>
        dsimp only [Row.d]
        walk_at "go"
        refine r_meth hA ?_
        walk_at "mg"
        refine ⟨198, d, _, 153, rfl, hd1, rfl, P.curve.meth, ?_⟩
        walk_at "mg"
        refine c_curve P hA hp' (by (first | lia | omega)) hg' ⟨fun _ _ μ2 h1 h2 => ?_, fun _ hlt μ2 h1 => absurd hle2 (by (first | lia | omega)), fun h0 hh => absurd (hfit h0) (by simp [Row.isG])⟩
        walk_at "mg"
        exact fin μ2 h1 h2
      | z =>
        dsimp only [Row.d]
        walk_at "go"
        refine r_meth hA ?_
        walk_at "mg"
        refine ⟨198, d, _, 160, rfl, hd1, rfl, P.close.meth, ?_⟩
        walk_at "mg"
        refine c_close P hA hp' (by (first | lia | omega)) hle' hg' ⟨fun _ _ μ2 h1 h2 => ?_, fun _ hlt μ2 h1 => absurd hle2 (by (first | lia | omega)), fun h0 hh => by cases hh⟩
        walk_at "mg"
        exact fin μ2 h1 h2
    · intro st' hh9
      refine hid fun PP9 kk9 => ?_
      obtain ⟨μ', rfl, hp', hm'⟩ := hh9
      refine kk9 ?_
      clear kk9 PP9
      rw [List.length_map, List.take_length] at hp'
      walk_at "k"
      refine then_next (x_nil ?_)
      exact uQ _ _ (hok hf hle μ' hp' hm')
end
end
section
section
variable {g : Gd} {X : Fx} {SC : Scope} {n : Nat} {st : St} {E : EP} {μ ν ρ : Mem}
theorem c_new {most : Int} {Q : D → St → Prop} (P : Prg g) (hA : At g X SC (n + 2)) (h : ∀ d k μ, PathAt μ d k most [] → st.mem d = none → st.mem k = none → Mod [] st.mem μ → Q (.obj 198 d) ⟨st.loc, μ⟩) :
    WCall g X st (.ref 198) [.int most] Q E := by
  refine call_class hA P.PathM fun A' hA' d hd => ?_
  refine P.init.call hA' rfl fun X' hA hC hL Q9 uQ E9 uE => ?_
  refine x_cons ?_
  walk_at "mg"
  refine s_most P hA (set_same _ _) rfl (show (0 : Nat) ≤ 100 by decide) ?_
  walk_at "mg"
  intro k hk
  walk_at "mg"
  have hkd : k ≠ d := fun z => by subst z; rw [set_same] at hk; cases hk
  have hk0 : st.mem k = none := by rw [set_ne hkd, set_ne hkd] at hk; exact hk
  have h1 := set_new (c := .list []) hk (set_same (μ := st.mem.set d (.dict [])) d (.dict (putF "most" (.int most) [])))
  walk_at "k"
  refine s_kept P hA h1 rfl (show (1 : Nat) ≤ 100 by decide) ?_
  walk_at "mg"
  refine s_begun P hA (set_same _ _) rfl (show (2 : Nat) ≤ 100 by decide) ?_
  walk_at "mg"
  refine s_point P hA (set_same _ _) rfl (show (3 : Nat) ≤ 100 by decide) ?_
  walk_at "mg"
  refine x_nil (uQ _ _ ⟨rfl, h d k _ ⟨set_same _ _, ?_⟩ hd hk0 ?_⟩)
  · exact (set_ne hkd).trans ((set_ne hkd).trans ((set_ne hkd).trans (set_same _ _)))
  · exact (((((Mod.refl.new hd).put (.inr hd)).new hk).put (.inr hd)).put (.inr hd)).put (.inr hd)
theorem c_rows {d k : Addr} {most : Int} {rows : List Row} {Q : D → St → Prop} (P : Prg g) (hA : At g X SC (n + 1)) (hp : PathAt st.mem d k most rows) (hlen : rows.length ≤ 1000)
    (h : ∀ b, st.mem b = none → Q (.ref b) ⟨st.loc, st.mem.set b (.list (rowsD rows))⟩) : WCall g X st (.ref 90) [.obj 198 d] Q E := by
  obtain ⟨hd, hk⟩ := id hp
  refine (P.rows.fn.call hA rfl fun X' hA hC hL Q9 uQ E9 uE => ?_).w
  refine x_cons ?_
  walk_at "mg"
  refine r_call hA P.list trivial ?_
  walk_at "mg"
  refine b_list hk (by first | exact rows_le (by first | lia | omega) | (simp [rowsD]; first | lia | omega)) fun b hb => ?_
  walk_at "mg"
  exact h b hb
theorem c_is_empty {d k : Addr} {most : Int} {rows : List Row} {Q : D → St → Prop} (P : Prg g) (hA : At g X SC (n + 1)) (hp : PathAt st.mem d k most rows)
    (h : ∀ μ, Mod [] st.mem μ → Q (.bool rows.isEmpty) ⟨st.loc, μ⟩) : WCall g X st (.ref 97) [.obj 198 d] Q E := by
  obtain ⟨hd, hk⟩ := id hp
  refine (P.is_empty.fn.call hA rfl fun X' hA hC hL Q9 uQ E9 uE => ?_).w
  refine x_cons ?_
  walk_at "mg"
  intro a ha
  walk_at "k"
  refine c_eqNil hA (set_new ha hk) (set_same _ _) ?_
  walk_at "mg"
  have e : (rowsD rows).isEmpty = rows.isEmpty := by cases rows <;> rfl
  rw [e]
  exact h _ (Mod.refl.new ha)
theorem c_clear {d k : Addr} {most : Int} {rows : List Row} {Q : D → St → Prop} (P : Prg g) (hA : At g X SC (n + 1)) (hp : PathAt st.mem d k most rows)
    (h : ∀ k' μ, PathAt μ d k' most [] → st.mem k' = none → Mod [d] st.mem μ → Q .none ⟨st.loc, μ⟩) : WCall g X st (.ref 118) [.obj 198 d] Q E := by
  obtain ⟨hd, hk⟩ := id hp
  refine (P.clear.fn.call hA rfl fun X' hA hC hL Q9 uQ E9 uE => ?_).w
  refine x_cons ?_
  walk_at "mg"
  intro a ha
  walk_at "mg"
  have hda : a ≠ d := fun z => by rw [z, hd] at ha; cases ha
  walk_at "k"
  refine s_kept P hA (set_new ha hd) rfl (show (4 : Nat) ≤ 100 by decide) ?_
  walk_at "mg"
  refine s_begun P hA (set_same _ _) rfl (show (4 : Nat) ≤ 100 by decide) ?_
  walk_at "mg"
  refine s_point P hA (set_same _ _) rfl (show (4 : Nat) ≤ 100 by decide) ?_
  walk_at "mg"
  refine x_nil (uQ _ _ (h a _ ⟨set_same _ _, ?_⟩ ha ?_))
  · exact (set_ne hda).trans ((set_ne hda).trans ((set_ne hda).trans (set_same _ _)))
  · exact (((Mod.refl.new ha).put (.inl (by simp))).put (.inl (by simp))).put (.inl (by simp))
theorem c_copy {d k : Addr} {most : Int} {rows : List Row} {Q : D → St → Prop} (P : Prg g) (hA : At g X SC (n + 3)) (hp : PathAt st.mem d k most rows) (hlen : rows.length ≤ 1000)
    (h : ∀ d' k' μ, PathAt μ d' k' most rows → st.mem d' = none → st.mem k' = none → Mod [] st.mem μ → Q (.obj 198 d') ⟨st.loc, μ⟩) : WCall g X st (.ref 111) [.obj 198 d] Q E := by
  obtain ⟨hd, hk⟩ := id hp
  refine (P.copy.fn.call hA rfl fun X' hA hC hL Q9 uQ E9 uE => ?_).w
  refine x_cons ?_
  walk_at "mg"
  refine r_call hA P.Path P.PathK ?_
  walk_at "mg"
  refine c_new P hA fun d1 k1 μ hp1 hd1 hk1 hm => ?_
  obtain ⟨hd2, hk2⟩ := id (hp.mod0 hm)
  walk_at "mg"
  refine r_call hA P.list trivial ?_
  walk_at "mg"
  refine b_list hk2 (by first | exact rows_le (by first | lia | omega) | (simp [rowsD]; first | lia | omega)) fun b hb => ?_
  walk_at "mg"
  have hbd : b ≠ d1 := Ne.symm (ne_of hp1.1 hb)
  walk_at "k"
  refine s_kept P hA (set_new hb hp1.1) rfl (show (4 : Nat) ≤ 100 by decide) ?_
  walk_at "mg"
  have hdd : d ≠ d1 := fun z => by rw [← z, hd] at hd1; cases hd1
  have hd3 : ∀ {c : Cell}, ((μ.set b (.list (rowsD rows))).set d1 c) d = _ := fun {c} => (set_ne (c := c) hdd).trans (set_new hb hd2)
  have hd4 := hd3 (c := .dict (putF "kept" (.ref b) [("most", .int most), ("kept", .ref k1), ("begun", optD (lastM [])), ("point", optD (pointOf []))]))
  walk_at "mg"
  refine s_begun P hA (set_same _ _) rfl (show (4 : Nat) ≤ 100 by decide) ?_
  walk_at "mg"
  have hd5 : ∀ {c c' : Cell}, (((μ.set b (.list (rowsD rows))).set d1 c).set d1 c') d = _ := fun {c c'} => (set_ne (c := c') hdd).trans (hd3 (c := c))
  have hd6 := hd5 (c := .dict (putF "kept" (.ref b) [("most", .int most), ("kept", .ref k1), ("begun", optD (lastM [])), ("point", optD (pointOf []))])) (c' := .dict (putF "begun" (optD (lastM rows)) (putF "kept" (.ref b) [("most", .int most), ("kept", .ref k1), ("begun", optD (lastM [])), ("point", optD (pointOf []))])))
  walk_at "mg"
  refine s_point P hA (set_same _ _) rfl (show (4 : Nat) ≤ 100 by decide) ?_
  walk_at "mg"
  refine h d1 b _ ⟨set_same _ _, ?_⟩ hd1 (hm.none (by simp) hb) ?_
  · exact (set_ne hbd).trans ((set_ne hbd).trans ((set_ne hbd).trans (set_same _ _)))
  · exact (((hm.new hb).put (.inr hd1)).put (.inr hd1)).put (.inr hd1)

theorem fit_nil {rs : List Row} (h : rs.head?.all Row.isM = true) : Fit [] rs ∧ rs.head? ≠ some .z ∧ rs.head?.any Row.isG = false := by
  cases rs with
  | nil => exact ⟨fun _ r hr => (by cases hr), (by simp), rfl⟩
  | cons r rest =>
    cases r <;> simp [Row.isM] at h
    exact ⟨fun _ r hr => (by cases hr; exact ⟨rfl, by simp⟩), (by simp), rfl⟩
theorem c_path_of {b : Addr} {most : Int} {rs : List Row} {Q : D → St → Prop} (P : Prg g) (hA : At g X SC (n + 7)) (hb : st.mem b = some (.list (rowsD rs))) (hmost : 0 ≤ most) (hsm : most ≤ 1000) (hrs : rs.length ≤ 1000) (hh : rs.head?.all Row.isM = true)
    (hok : ((putAll [] rs).length : Int) ≤ most → ∀ d k μ, PathAt μ d k most (putAll [] rs) → st.mem d = none → st.mem k = none → Mod [] st.mem μ → Q (.obj 198 d) ⟨st.loc, μ⟩)
    (hno : most < ((putAll [] rs).length : Int) → ∀ μ, Mod [] st.mem μ → E (.bytes limitB) ⟨st.loc, μ⟩) : WCall g X st (.ref 210) [.ref b, .int most] Q E := by
  obtain ⟨f1, f2, f3⟩ := fit_nil hh
  refine (P.path_of.fn.call hA rfl fun X' hA hC hL Q9 uQ E9 uE => ?_).w
  refine x_cons ?_
  walk_at "mg"
  refine r_call hA P.Path P.PathK ?_
  walk_at "mg"
  refine c_new P hA fun d k μ hp hd hk hm => ?_
  walk_at "mg"
  refine r_meth hA ?_
  walk_at "mg"
  refine ⟨198, d, _, 167, rfl, hp.1, rfl, P.put_rows.meth, ?_⟩
  walk_at "mg"
  refine c_put_rows P hA hp (hm.get0 hb) (fun z => by rw [z, hk] at hb; cases hb) hmost hsm hrs (fun z => absurd rfl z) (fun _ => f2) (fun _ hle μ2 h1 h2 => ?_) (fun _ hlt μ2 h2 => uE _ _ (hno hlt _ (hm.trans h2))) (fun _ z => by rw [f3] at z; cases z)
  walk_at "mg"
  refine hok hle d k μ2 h1 hd hk fun a c ha e => ?_
  have hne : a ∉ [d, k] := fun z => by
    rcases List.mem_cons.mp z with z | z
    · rw [z, hd] at e; cases e
    · rcases List.mem_cons.mp z with z | z
      · rw [z, hk] at e; cases e
      · cases z
  exact h2 a c hne (hm.get0 e)
end
end
section
section
variable {g : Gd} {X : Fx} {SC : Scope} {n : Nat} {st : St} {E : EP} {μ ν ρ : Mem}
structure TapeIs (μ : Mem) (t c : Addr) : Prop where
  there : ∃ (k : Int) (ds : List Int), μ t = some (.list [.ref c, .int k]) ∧ μ c = some (.list (ds.map D.int)) ∧ ds.length ≤ 100
theorem cut_one (l : List D) (h : l ≠ []) : cutD l (some 1) none = l.drop 1 := by
  unfold cutD
  have h1 : clipAt l.length 1 = 1 := by
    cases l with
    | nil => exact absurd rfl h
    | cons a r => simp [clipAt]; (first | lia | omega)
  show (l.drop (clipAt l.length 1)).take (l.length - clipAt l.length 1) = _
  rw [h1, List.take_of_length_le (by simp)]

theorem c_draw {t c : Addr} {many : Int} {Q : D → St → Prop} (P : Prg g) (hA : At g X SC (n + 1)) (ht : TapeIs st.mem t c) (h0 : 0 < many) (h1 : many < 1000)
    (h : ∀ v c' μ, 0 ≤ v → v < many → TapeIs μ t c' → (c' = c ∨ st.mem c' = none) → Mod [t] st.mem μ → Q (.int v) ⟨st.loc, μ⟩) : WCall g X st (.ref 299) [.ref t, .int many] Q E := by
  refine hid fun PP9 kk9 => ?_
  obtain ⟨k, ds, hm, hc, hlen⟩ := ht.there
  refine kk9 ?_
  clear kk9 PP9
  have htc : t ≠ c := fun z => by
    rw [z, hc] at hm
    injection hm with hm; injection hm with hm
    have := congrArg List.head? hm
    cases ds <;> simp at this
  refine (P.law_draw.fn.call hA rfl fun X' hA hC hL Q9 uQ E9 uE => ?_).w
  refine x_cons ?_
  walk_at "mg"
  intro a ha
  walk_at "k"
  refine c_eqNil hA (set_new ha hc) (set_same _ _) ?_
  walk_at "mg"
  have hm1 := set_new (c := .list []) ha hm
  have hc1 := set_new (c := .list []) ha hc
  cases ds with
  | nil =>
    refine ⟨fun _ => ?_, fun hx => absurd hx (by simp)⟩
    walk_at "mg"
    refine i_list_set hA.fx hm1 (by decide) (by decide) rfl ?_
    walk_at "mg"
    have hm2 : ((st.mem.set a (.list [])).set t (.list [.ref c, .int (k + 1)])) t = some (.list [.ref c, .int (k + 1)]) := set_same _ _
    walk_at "k"
    refine s_list (by exact hm2) (by decide) (by decide) rfl ?_
    walk_at "mg"
    refine s_list (by exact hm2) (by decide) (by decide) rfl ?_
    walk_at "mg"
    refine o_div (by decide) (by decide) ?_
    walk_at "mg"
    refine o_mod (by (first | lia | omega)) ?_
    walk_at "mg"
    refine h _ c _ (Int.fmod_nonneg_of_pos _ h0) (Int.fmod_lt_of_pos _ h0) ⟨k + 1, [], hm2, ?_, by simp⟩ (.inl rfl) ((Mod.refl.new ha).put (.inl (by simp)))
    exact set_get (Ne.symm htc) hc1
  | cons x r =>
    refine ⟨fun hx => absurd hx (by simp), fun _ => ?_⟩
    walk_at "mg"
    refine x_swap2 (x := "digit") (y := "rest") hA ?_
    walk_at "mg"
    refine o_mod (by (first | lia | omega)) ?_
    walk_at "mg"
    refine o_div (by (first | lia | omega)) (by (first | lia | omega)) ?_
    walk_at "mg"
    have fin : ∀ (b : Addr) (R : List Int), st.mem b = none → b ≠ a → R.length ≤ 1 → ∀ c1, (((st.mem.set a (.list [])).set b (.list (R.map D.int))) c1 = none) →
        ∀ c2, ((((st.mem.set a (.list [])).set b (.list (R.map D.int))).set c1 (.list (r.map D.int))) c2 = none) →
        TapeIs (((((st.mem.set a (.list [])).set b (.list (R.map D.int))).set c1 (.list (r.map D.int))).set c2 (.list (R.map D.int ++ r.map D.int))).set t (.list [.ref c2, .int k])) t c2 ∧ st.mem c2 = none ∧
          Mod [t] st.mem (((((st.mem.set a (.list [])).set b (.list (R.map D.int))).set c1 (.list (r.map D.int))).set c2 (.list (R.map D.int ++ r.map D.int))).set t (.list [.ref c2, .int k])) := by
      intro b R hb hba hR c1 hc1 c2 hc2
      have m1 : Mod [] st.mem (st.mem.set a (.list [])) := Mod.refl.new ha
      have m2 := m1.new (c := .list (R.map D.int)) (a := b) (by rw [set_ne hba]; exact hb)
      have m3 := m2.new (c := .list (r.map D.int)) hc1
      have hc20 := m3.none (by simp) hc2
      have htc2 : c2 ≠ t := fun z => by rw [z, hm] at hc20; cases hc20
      refine ⟨⟨k, R ++ r, set_same _ _, ?_, by simp at hlen ⊢; (first | lia | omega)⟩, hc20, (m3.new hc2).wide.put (.inl (by simp))⟩
      rw [set_ne htc2, set_same, List.map_append]
    have hcut : cutD (List.map D.int (x :: r)) (some 1) none = r.map D.int := by rw [cut_one _ (by simp)]; rfl
    have hsl : ∀ (b : Addr) (R : List Int) (ν : Mem), ν = (st.mem.set a (.list [])).set b (.list (R.map D.int)) → (st.mem.set a (.list [])) b = none → R.length ≤ 1 → ν t = some (.list [.ref c, .int k]) ∧ ν c = some (.list (List.map D.int (x :: r))) ∧ ν b = some (.list (R.map D.int)) ∧ st.mem b = none ∧ b ≠ a := by
      rintro b R ν rfl hb hR
      have hba : b ≠ a := fun z => by rw [z, set_same] at hb; cases hb
      exact ⟨set_new hb hm1, set_new hb hc1, set_same _ _, by rw [set_ne hba] at hb; exact hb, hba⟩
    refine ⟨fun hx => ?_, fun hx => ?_⟩
    · walk_at "mg"
      intro b hb
      refine hid fun PP9 kk9 => ?_
      obtain ⟨q1, q2, q3, q4, q5⟩ := hsl b [x.fdiv many] _ rfl hb (by simp)
      refine kk9 ?_
      clear kk9 PP9
      walk_at "k"
      refine r_slice_list ?_
      walk_at "mg"
      refine s_list (by exact q1) (by decide) (by decide) rfl ?_
      walk_at "mg"
      refine ⟨c, _, some 1, none, rfl, q2, by simp at hlen ⊢; (first | lia | omega), rfl, rfl, fun c1 hc1' => ?_⟩
      rw [hcut]
      walk_at "k"
      refine o_addL (set_new hc1' q3) (set_same _ _) (by simp at hlen ⊢; (first | lia | omega)) fun c2 hc2' => ?_
      walk_at "mg"
      refine i_list_set hA.fx (set_new hc2' (set_new hc1' q1)) (by decide) (by decide) rfl ?_
      walk_at "mg"
      obtain ⟨w1, w2, w3⟩ := fin b [x.fdiv many] q4 q5 (by simp) c1 hc1' c2 hc2'
      exact h _ c2 _ (Int.fmod_nonneg_of_pos _ h0) (Int.fmod_lt_of_pos _ h0) w1 (.inr w2) w3
    · walk_at "mg"
      intro b hb
      refine hid fun PP9 kk9 => ?_
      obtain ⟨q1, q2, q3, q4, q5⟩ := hsl b [] _ rfl hb (by simp)
      refine kk9 ?_
      clear kk9 PP9
      walk_at "k"
      refine r_slice_list ?_
      walk_at "mg"
      refine s_list (by exact q1) (by decide) (by decide) rfl ?_
      walk_at "mg"
      refine ⟨c, _, some 1, none, rfl, q2, by simp at hlen ⊢; (first | lia | omega), rfl, rfl, fun c1 hc1' => ?_⟩
      rw [hcut]
      walk_at "k"
      refine o_addL (set_new hc1' q3) (set_same _ _) (by simp at hlen ⊢; (first | lia | omega)) fun c2 hc2' => ?_
      walk_at "mg"
      refine i_list_set hA.fx (set_new hc2' (set_new hc1' q1)) (by decide) (by decide) rfl ?_
      walk_at "mg"
      obtain ⟨w1, w2, w3⟩ := fin b [] q4 q5 (by simp) c1 hc1' c2 hc2'
      exact h _ c2 _ (Int.fmod_nonneg_of_pos _ h0) (Int.fmod_lt_of_pos _ h0) w1 (.inr w2) w3
end
end
section
section
variable {g : Gd} {X : Fx} {SC : Scope} {n : Nat} {st : St} {E : EP} {μ ν ρ : Mem}
noncomputable def pairsOf (env : Env) (pos : Pos) : List (Option Expr) → List Expr → List (Sem Value × Sem Value)
  | some k :: ks, v :: vs => (eval k env, do let x ← eval v env; standAt pos; pure x) :: pairsOf env pos ks vs
  | _, _ => []
theorem pairs_shape {env : Env} {pos : Pos} : ∀ (ks : List (Option Expr)) (vs : List Expr), ks.length = vs.length → ks.all Option.isSome = true →
    (evalEachOpt ks env).zip ((evalEach vs env).map fun v => do let x ← v; standAt pos; pure x) = (pairsOf env pos ks vs).map fun p => (some p.1, p.2)
  | [], [], _, _ => rfl
  | some k :: ks, v :: vs, h, h' => by
    have := pairs_shape (env := env) (pos := pos) ks vs (by simpa using h) (by simpa using h')
    show (some (eval k env) :: evalEachOpt ks env).zip ((do let x ← eval v env; standAt pos; pure x) :: (evalEach vs env).map fun v => do let x ← v; standAt pos; pure x) = _
    rw [List.zip_cons_cons, this]
    rfl
  | none :: ks, _, _, h' => by simp at h'
theorem pairs_length {env : Env} {pos : Pos} : ∀ (ks : List (Option Expr)) (vs : List Expr), ks.length = vs.length → ks.all Option.isSome = true → (pairsOf env pos ks vs).length = ks.length
  | [], [], _, _ => rfl
  | some k :: ks, v :: vs, h, h' => by
    have := pairs_length (env := env) (pos := pos) ks vs (by simpa using h) (by simpa using h')
    exact congrArg (· + 1) this
  | none :: ks, _, _, h' => by simp at h'
theorem r_sdictP {keys : List (Option Expr)} {values : List Expr} {pos : Pos} {Q : D → St → Prop} (hX : FxOk X) (hl : keys.length = values.length) (hs : keys.all Option.isSome = true) (h0 : keys.length ≠ 0) (hlen : keys.length ≤ 15)
    (h : ∀ a, st.mem a = none → Wp g PairsR X { st with mem := st.mem.set a (.sdict []) } (evalPairs (pairsOf X.env pos keys values)) (fun kds st1 => ∃ fs, strPairs kds = some fs ∧ (fs.map (·.1)).Nodup ∧ st1.mem a = some (.sdict []) ∧ Q (.ref a) { st1 with mem := st1.mem.set a (.sdict fs) }) E) :
    Wp g Val X st (eval (.Dict keys values pos) X.env) Q E := by
  have := pairs_length (env := X.env) (pos := pos) keys values hl hs
  exact r_sdict hX h (pairs_shape keys values hl hs) (fun z => by rw [z] at this; exact h0 this.symm) (by (first | lia | omega))
theorem r_idictP {keys : List (Option Expr)} {values : List Expr} {pos : Pos} {Q : D → St → Prop} (hX : FxOk X) (hl : keys.length = values.length) (hs : keys.all Option.isSome = true) (h0 : keys.length ≠ 0) (hlen : keys.length ≤ 15)
    (h : ∀ a, st.mem a = none → Wp g PairsR X { st with mem := st.mem.set a (.idict []) } (evalPairs (pairsOf X.env pos keys values)) (fun kds st1 => ∃ fs, intPairs kds = some fs ∧ (fs.map (·.1)).Nodup ∧ st1.mem a = some (.idict []) ∧ Q (.ref a) { st1 with mem := st1.mem.set a (.idict fs) }) E) :
    Wp g Val X st (eval (.Dict keys values pos) X.env) Q E := by
  have := pairs_length (env := X.env) (pos := pos) keys values hl hs
  exact r_idict hX h (pairs_shape keys values hl hs) (fun z => by rw [z] at this; exact h0 this.symm) (by (first | lia | omega))

theorem c_law_put {d k : Addr} {most : Int} {rows : List Row} {r : Row} {Q : D → St → Prop} (P : Prg g) (hA : At g X SC (n + 6)) (hp : PathAt st.mem d k most rows) (hlen : rows.length ≤ 1000) (hmost : (rows.length : Int) ≤ most) (hg : Good rows)
    (h : Puts st d k most rows r Q E) : WCall g X st (.ref 316) [.obj 198 d, r.d] Q E := by
  obtain ⟨hd, hk⟩ := id hp
  refine (P.law_put.fn.call hA rfl fun X' hA hC hL Q9 uQ E9 uE => ?_).w
  refine x_cons ?_
  cases r with
  | m x y =>
    dsimp only [Row.d]
    walk_at "go"
    refine r_meth hA ?_
    walk_at "mg"
    refine ⟨198, d, _, 132, rfl, hd, rfl, P.move.meth, ?_⟩
    walk_at "mg"
    refine c_move P hA hp hlen (fun hle μ h1 h2 => ?_) (fun hlt μ h1 => uE _ _ (h.no (fun _ => rfl) hlt μ h1))
    walk_at "mg"
    exact x_nil (uQ _ _ (h.ok (fun _ => rfl) hle μ h1 h2))
  | l x y =>
    dsimp only [Row.d]
    walk_at "go"
    refine r_meth hA ?_
    walk_at "mg"
    refine ⟨198, d, _, 146, rfl, hd, rfl, P.line.meth, ?_⟩
    walk_at "mg"
    refine c_line P hA hp hlen hg ⟨fun h0 hle μ h1 h2 => ?_, fun h0 hlt μ h1 => uE _ _ (h.no h0 hlt μ h1), fun h0 hh μ h1 => uE _ _ (h.cur h0 hh μ h1)⟩
    walk_at "mg"
    exact x_nil (uQ _ _ (h.ok h0 hle μ h1 h2))
  | c x1 y1 x2 y2 x3 y3 =>
    dsimp only [Row.d]
    walk_at "go"
    refine r_meth hA ?_
    walk_at "mg"
    refine ⟨198, d, _, 153, rfl, hd, rfl, P.curve.meth, ?_⟩
    walk_at "mg"
    refine c_curve P hA hp hlen hg ⟨fun h0 hle μ h1 h2 => ?_, fun h0 hlt μ h1 => uE _ _ (h.no h0 hlt μ h1), fun h0 hh μ h1 => uE _ _ (h.cur h0 hh μ h1)⟩
    walk_at "mg"
    exact x_nil (uQ _ _ (h.ok h0 hle μ h1 h2))
  | z =>
    dsimp only [Row.d]
    walk_at "go"
    refine r_meth hA ?_
    walk_at "mg"
    refine ⟨198, d, _, 160, rfl, hd, rfl, P.close.meth, ?_⟩
    walk_at "mg"
    refine c_close P hA hp hlen hmost hg ⟨fun h0 hle μ h1 h2 => ?_, fun h0 hlt μ h1 => uE _ _ (h.no h0 hlt μ h1), fun h0 hh μ h1 => uE _ _ (h.cur h0 hh μ h1)⟩
    walk_at "mg"
    exact x_nil (uQ _ _ (h.ok h0 hle μ h1 h2))

noncomputable def sizesC : Cell := .sdict [("m", .int 2), ("l", .int 2), ("c", .int 6), ("z", .int 0)]
theorem c_law_sizes {Q : D → St → Prop} (P : Prg g) (hA : At g X SC (n + 1)) (h : ∀ a, st.mem a = none → Q (.ref a) ⟨st.loc, st.mem.set a sizesC⟩) : WCall g X st (.ref 292) [] Q E := by
  refine (P.law_sizes.fn.call hA rfl fun X' hA hC hL Q9 uQ E9 uE => ?_).w
  refine x_cons ?_
  walk_at "mg"
  refine r_sdictP hA.fx rfl rfl (by decide) (by decide) fun a ha => ?_
  refine p_cons ?_
  walk_at "mg"
  refine p_back ?_
  walk_at "mg"
  refine p_cons ?_
  walk_at "mg"
  refine p_back ?_
  walk_at "mg"
  refine p_cons ?_
  walk_at "mg"
  refine p_back ?_
  walk_at "mg"
  refine p_cons ?_
  walk_at "mg"
  refine p_back ?_
  walk_at "mg"
  refine p_nil ?_
  refine ⟨_, rfl, by decide, set_same _ _, ?_⟩
  dsimp only
  rw [set_set]
  walk_at "mg"
  exact h a ha
end
end
section
section
variable {g : Gd} {X : Fx} {SC : Scope} {n : Nat} {st : St} {E : EP} {μ ν ρ : Mem}
noncomputable def freeOf : List (Str × NameKind) → List Str
  | [] => []
  | (x, k) :: r => if k = .free then x :: freeOf r else freeOf r
theorem mem_freeOf {x : Str} : ∀ {l : List (Str × NameKind)}, (x, NameKind.free) ∈ l → x ∈ freeOf l
  | (y, k) :: r, h => by
    unfold freeOf
    rcases List.mem_cons.mp h with q | q
    · cases q; rw [if_pos rfl]; exact List.mem_cons_self
    · split
      · exact List.mem_cons_of_mem _ (mem_freeOf q)
      · exact mem_freeOf q
theorem cellsHere {scope : Scope} (l : List Str) (e : freeOf scope.names = l) (h : ∀ x ∈ l, (X.env.cells.lookup x).isSome = true) : CellsHere X scope := fun y hy hf => by
  obtain ⟨x, k⟩ := y
  dsimp only at hf ⊢
  subst hf
  exact h x (e ▸ mem_freeOf hy)
noncomputable def Mem.del (μ : Mem) (a : Addr) : Mem := fun b => if b = a then none else μ b
theorem CFin.of {cap loc : Loc} {a : Addr} {out : List Mine.D} {I : Mem → Prop} (hl : LLess cap loc) (hm : μ a = some (.list out)) (h : I (μ.del a)) : CFin cap a out I ⟨loc, μ⟩ :=
  ⟨hl, μ.del a, by unfold Mem.del; rw [if_pos rfl], fun b c e => by
    unfold Mem.set Mem.del at e
    by_cases z : b = a
    · rw [if_pos z] at e; cases e; rw [z]; exact hm
    · rw [if_neg z, if_neg z] at e; exact e, h⟩
theorem del_get {a b : Addr} {c : Cell} (h : μ b = some c) (hb : b ≠ a) : (μ.del a) b = some c := by unfold Mem.del; rw [if_neg hb]; exact h

noncomputable def Row.coords : Row → List Int
  | .m x y => [x, y]
  | .l x y => [x, y]
  | .c x1 y1 x2 y2 x3 y3 => [x1, y1, x2, y2, x3, y3]
  | .z => []
noncomputable def Bd (B : Int) (r : Row) : Prop := ∀ v ∈ r.coords, -B ≤ v ∧ v ≤ 3000 + B

noncomputable def wsize : Str → Nat := fun w => if w = "c" then 6 else if w = "z" then 0 else 2
theorem row_of {w : Str} (hw : w = "m" ∨ w = "l" ∨ w = "c" ∨ w = "z") {out : List D} (hl : out.length = wsize w) (hv : ∀ o ∈ out, ∃ v, o = .int v ∧ 0 ≤ v ∧ v ≤ 3000) : ∃ r : Row, r.w = w ∧ Bd 0 r ∧ r.d = .tup (.str w :: out) := by
  rcases hw with rfl | rfl | rfl | rfl
  · match out, hl with
    | [a, b], _ =>
      obtain ⟨x, rfl, h1⟩ := hv a (by simp); obtain ⟨y, rfl, h2⟩ := hv b (by simp)
      exact ⟨.m x y, rfl, by intro v hv; simp [Row.coords] at hv; rcases hv with rfl | rfl <;> (first | lia | omega), rfl⟩
  · match out, hl with
    | [a, b], _ =>
      obtain ⟨x, rfl, h1⟩ := hv a (by simp); obtain ⟨y, rfl, h2⟩ := hv b (by simp)
      exact ⟨.l x y, rfl, by intro v hv; simp [Row.coords] at hv; rcases hv with rfl | rfl <;> (first | lia | omega), rfl⟩
  · match out, hl with
    | [a, b, c, d, e, f], _ =>
      obtain ⟨x1, rfl, h1⟩ := hv a (by simp); obtain ⟨y1, rfl, h2⟩ := hv b (by simp); obtain ⟨x2, rfl, h3⟩ := hv c (by simp); obtain ⟨y2, rfl, h4⟩ := hv d (by simp); obtain ⟨x3, rfl, h5⟩ := hv e (by simp); obtain ⟨y3, rfl, h6⟩ := hv f (by simp)
      exact ⟨.c x1 y1 x2 y2 x3 y3, rfl, by intro v hv; simp [Row.coords] at hv; rcases hv with rfl | rfl | rfl | rfl | rfl | rfl <;> (first | lia | omega), rfl⟩
  · match out, hl with
    | [], _ => exact ⟨.z, rfl, by intro v hv; simp [Row.coords] at hv, rfl⟩

theorem c_law_row {t c : Addr} {w : Str} {Q : D → St → Prop} (P : Prg g) (hA : At g X SC (n + 3)) (ht : TapeIs st.mem t c) (hw : w = "m" ∨ w = "l" ∨ w = "c" ∨ w = "z")
    (h : ∀ r c' μ, r.w = w → Bd 0 r → TapeIs μ t c' → (c' = c ∨ st.mem c' = none) → Mod [t] st.mem μ → Q r.d ⟨st.loc, μ⟩) : WCall g X st (.ref 304) [.ref t, .str w] Q E := by
  refine (P.law_row.fn.call hA rfl fun X' hA hC hL Q9 uQ E9 uE => ?_).w
  have hcell := hL "tape" fun k => rfl
  refine x_cons ?_
  walk_at "mg"
  refine r_call hA P.tuple trivial ?_
  walk_at "mg"
  refine r_comp hA ⟨rfl, rfl, by decide, by decide, by decide⟩ (cellsHere ["tape"] rfl (by intro x hx; cases List.mem_singleton.mp hx; exact hcell)) ?_
  walk_at "k"
  refine r_call hA P.range trivial ?_
  walk_at "mg"
  refine r_call hA P.law_sizes.glob P.law_sizes.keep ?_
  walk_at "mg"
  refine c_law_sizes P hA fun a ha => ?_
  walk_at "mg"
  refine s_sdict (d := .int (wsize w)) (set_same _ _) (by rcases hw with rfl | rfl | rfl | rfl <;> rfl) ?_
  walk_at "mg"
  refine b_range1 ?_
  have hrs : Builtin.Range.rangeSize 0 (wsize w : Int) 1 = ((wsize w : Nat) : Int) ∧ Builtin.Range.small 0 (wsize w : Int) 1 = true ∧ wsize w ≤ 6 := by rcases hw with rfl | rfl | rfl | rfl <;> exact ⟨by decide, by decide, by decide⟩
  refine ⟨rngD 0 1 (wsize w), _, fun i out μ => (∃ c', TapeIs μ t c' ∧ (c' = c ∨ st.mem c' = none)) ∧ Mod [t] st.mem μ ∧ out.length = i ∧ ∀ o ∈ out, ∃ v, o = D.int v ∧ 0 ≤ v ∧ v ≤ 3000,
    ⟨.rng hrs.2.1 hrs.1, by simp [rngD]; (first | lia | omega), fun _ _ _ _ _ _ _ _ => trivial, ?_, ?_⟩, ?_⟩
  · refine hid fun PP9 kk9 => ?_
    obtain ⟨k, ds, h1, h2, h3⟩ := ht.there
    refine kk9 ?_
    clear kk9 PP9
    exact ⟨⟨c, ⟨k, ds, set_new ha h1, set_new ha h2, h3⟩, .inl rfl⟩, Mod.refl.new ha, rfl, fun o ho => by cases ho⟩
  · intro XC hAC i out μ b d hd hI hb
    refine hid fun PP9 kk9 => ?_
    obtain ⟨⟨c', ht', hc'⟩, hm, hol, hov⟩ := hI
    obtain ⟨k, ds, h1, h2, h3⟩ := ht'.there
    refine kk9 ?_
    clear kk9 PP9
    walk_at "k"
    refine s_name hAC ?_ (by decide)
    refine t_nil ⟨fun _ => ?_, fun z => by cases z⟩
    walk_at "k"
    refine r_binop ?_
    walk_at "k"
    refine r_call hAC P.law_draw.glob P.law_draw.keep ?_
    walk_at "k"
    refine r_items_cons ?_
    walk_at "k"
    refine r_name (d := .ref t) hAC rfl ?_
    walk_at "mg"
    refine c_draw (c := c') P hAC ⟨k, ds, set_new hb h1, set_new hb h2, h3⟩ (by decide) (by decide) fun v c2 μ2 hv0 hv1 ht2 hc2 hm2 => ?_
    walk_at "k"
    refine r_glob hAC P.unit ?_ (by decide) (by decide)
    walk_at "k"
    refine o_mul ?_ (mulR (by decide))
    have hbt : b ≠ t := Ne.symm (ne_of h1 hb)
    have hm2b : μ2 b = some (.list out) := hm2.get (by simp [hbt]) (set_same _ _)
    refine hid fun PP9 kk9 => ?_
    obtain ⟨k2, ds2, e1, e2, e3⟩ := ht2.there
    refine kk9 ?_
    clear kk9 PP9
    have hc2b : c2 ≠ b := by
      rcases hc2 with rfl | hc2
      · exact ne_of h2 hb
      · exact fun z => by rw [z] at hc2; dsimp only at hc2; rw [set_same] at hc2; cases hc2
    walk_at "k"
    refine CFin.of (LLess.cap (by decide)) hm2b ⟨⟨c2, ⟨k2, ds2, del_get e1 (Ne.symm hbt), del_get e2 hc2b, e3⟩, ?_⟩, ?_, by simp [hol], ?_⟩
    · rcases hc2 with rfl | hc2
      · exact hc'
      · right
        cases q : st.mem c2 with
        | none => rfl
        | some cc =>
          by_cases z : c2 = t
          · rw [z] at hc2; dsimp only at hc2; rw [set_new hb h1] at hc2; cases hc2
          · have := set_new (c := .list out) hb (hm.get (by simp [z]) q); dsimp only at hc2; rw [this] at hc2; cases hc2
    · intro a' cc ha' e
      have q1 := hm.get ha' e
      exact del_get (hm2.get ha' (set_new hb q1)) (ne_of q1 hb)
    · intro o ho
      rcases List.mem_append.mp ho with ho | ho
      · exact hov o ho
      · cases List.mem_singleton.mp ho
        exact ⟨_, rfl, by (first | lia | omega), by (first | lia | omega)⟩
  · rintro out μ b ⟨⟨c', ht', hc'⟩, hm, hol, hov⟩ hb
    walk_at "mg"
    refine hid fun PP9 kk9 => ?_
    obtain ⟨k, ds, h1, h2, h3⟩ := ht'.there
    refine kk9 ?_
    clear kk9 PP9
    have hol' : out.length = wsize w := by rw [hol]; simp [rngD]
    walk_at "k"
    refine b_tuple (set_same _ _) (by (first | lia | omega)) ?_
    walk_at "k"
    refine o_addT (by simp; (first | lia | omega)) ?_
    walk_at "mg"
    refine hid fun PP9 kk9 => ?_
    obtain ⟨r, r1, r2, r3⟩ := row_of hw hol' hov
    refine kk9 ?_
    clear kk9 PP9
    have hfin := h r c' (μ.set b (.list out)) r1 r2 ⟨k, ds, set_new hb h1, set_new hb h2, h3⟩ hc' (hm.new hb)
    rw [r3] at hfin
    exact hfin
end
end
section
section
variable {g : Gd} {X : Fx} {SC : Scope} {n : Nat} {st : St} {E : EP} {μ ν ρ : Mem}
theorem s_words {v : Int} {value slice : Expr} {Q : D → St → Prop} (h0 : 0 ≤ v) (h1 : v < 4) (h : ∀ w : Str, (w = "m" ∨ w = "l" ∨ w = "c" ∨ w = "z") → Q (.str w) st) (hs : autoParam (notSlice slice = true) autoR._auto_1) :
    W2 g Val X st (subscriptTail value slice) (.tup [.str "m", .str "l", .str "c", .str "z"]) (.int v) Q E := by
  have hv : v = 0 ∨ v = 1 ∨ v = 2 ∨ v = 3 := by (first | lia | omega)
  rcases hv with rfl | rfl | rfl | rfl
  · exact s_tup (j := 0) rfl rfl (h _ (.inl rfl)) (by decide) (by decide) hs
  · exact s_tup (j := 1) rfl rfl (h _ (.inr (.inl rfl))) (by decide) (by decide) hs
  · exact s_tup (j := 2) rfl rfl (h _ (.inr (.inr (.inl rfl)))) (by decide) (by decide) hs
  · exact s_tup (j := 3) rfl rfl (h _ (.inr (.inr (.inr rfl)))) (by decide) (by decide) hs
noncomputable def TapeOk (μ0 μ : Mem) (t c : Addr) : Prop := ∃ c', TapeIs μ t c' ∧ (c' = c ∨ μ0 c' = none)
theorem TapeIs.mod {t c : Addr} {T : List Addr} (h : TapeIs μ t c) (hm : Mod T μ ν) (h1 : t ∉ T) (h2 : c ∉ T) : TapeIs ν t c := let ⟨k, ds, e1, e2, e3⟩ := h.there; ⟨k, ds, hm.get h1 e1, hm.get h2 e2, e3⟩
theorem TapeIs.mod0 {t c : Addr} (h : TapeIs μ t c) (hm : Mod [] μ ν) : TapeIs ν t c := h.mod hm (by simp) (by simp)
theorem TapeIs.new {t c a : Addr} {cc : Cell} (h : TapeIs μ t c) (ha : μ a = none) : TapeIs (μ.set a cc) t c := h.mod0 (Mod.refl.new ha)
theorem tape_chain {c c' c2 : Addr} {T : List Addr} (h1 : c' = c ∨ μ c' = none) (h2 : c2 = c' ∨ ν c2 = none) (hm : Mod T μ ν) (hT : c2 ∉ T) : c2 = c ∨ μ c2 = none := by
  rcases h2 with rfl | h2
  · exact h1
  · exact .inr (hm.none hT h2)
theorem TapeIs.ne {t c : Addr} (h : TapeIs μ t c) : c ≠ t := by
  refine hid fun PP9 kk9 => ?_
  obtain ⟨k, ds, e1, e2, _⟩ := h.there
  refine kk9 ?_
  clear kk9 PP9
  intro z
  rw [z, e1] at e2
  injection e2 with e2; injection e2 with e2
  have := congrArg List.head? e2
  cases ds <;> simp at this

theorem c_some_rows {t c o : Addr} {own : List Row} {Q : D → St → Prop} (P : Prg g) (hA : At g X SC (n + 4)) (ht : TapeIs st.mem t c) (ho : st.mem o = some (.list (rowsD own))) (hot : o ≠ t)
    (h : ∀ rs f c' μ, rs.length ≤ 4 → (∀ r ∈ rs, Bd 0 r) → (own = [] → rs.head? ≠ some .z) → μ f = some (.list (rowsD rs)) → st.mem f = none → TapeIs μ t c' → (c' = c ∨ st.mem c' = none) → f ≠ t → f ≠ c' → Mod [t] st.mem μ → Q (.ref f) ⟨st.loc, μ⟩) :
    WCall g X st (.ref 340) [.ref t, .ref o] Q E := by
  refine (P.law_some_rows.fn.call hA rfl fun X' hA hC hL Q9 uQ E9 uE => ?_).w
  refine x_cons ?_
  walk_at "mg"
  intro f hf
  walk_at "mg"
  have hft : f ≠ t := fun z => by obtain ⟨k, ds, e1, _⟩ := ht.there; rw [z, e1] at hf; cases hf
  refine x_for hA (Wp.less ?_)
  walk_at "k"
  refine r_call hA P.range trivial ?_
  walk_at "mg"
  refine r_call hA P.law_draw.glob P.law_draw.keep ?_
  walk_at "mg"
  refine c_draw P hA (ht.new hf) (by decide) (by decide) fun m c1 μ1 hm0 hm1 ht1 hc1 hmod1 => ?_
  walk_at "mg"
  refine b_range1 ?_
  have hrs : Builtin.Range.rangeSize 0 m 1 = ((m.toNat : Nat) : Int) ∧ Builtin.Range.small 0 m 1 = true := by
    have : m = 0 ∨ m = 1 ∨ m = 2 ∨ m = 3 ∨ m = 4 := by (first | lia | omega)
    rcases this with rfl | rfl | rfl | rfl | rfl <;> exact ⟨by decide, by decide⟩
  have hf1 : μ1 f = some (.list []) := hmod1.get (by simp [hft]) (set_same _ _)
  have hmod1' : Mod [t] st.mem μ1 := Mod.trans (Mod.refl.new hf) hmod1
  have hc1' : c1 = c ∨ st.mem c1 = none := by
    rcases hc1 with q | q
    · exact .inl q
    · exact .inr ((Mod.refl.new hf : Mod [] st.mem _).none (by simp) q)
  have hfc1 : f ≠ c1 := by
    rcases hc1 with q | q
    · rw [q]; exact fun z => by obtain ⟨k, ds, _, e2, _⟩ := ht.there; rw [← z, hf] at e2; cases e2
    · exact fun z => by rw [← z] at q; dsimp only at q; rw [set_same] at q; cases q
  refine ⟨(bindD ["tape", "own"] [.ref t, .ref o] noLoc).set "found" (.ref f), μ1, LLess.refl, Less.refl, rngD 0 1 m.toNat, _,
    fun i st' => ∃ (rs : List Row) (c' : Addr) (μ' : Mem), st' = ⟨(bindD ["tape", "own"] [.ref t, .ref o] noLoc).set "found" (.ref f), μ'⟩ ∧ rs.length = i ∧ i ≤ 4 ∧ (∀ r ∈ rs, Bd 0 r) ∧ (own = [] → rs.head? ≠ some .z) ∧ μ' f = some (.list (rowsD rs)) ∧ TapeIs μ' t c' ∧ (c' = c ∨ st.mem c' = none) ∧ f ≠ c' ∧ Mod [t] st.mem μ',
    .rng hrs.2 hrs.1, fun _ _ _ => trivial, ⟨[], c1, μ1, rfl, rfl, by (first | lia | omega), (fun r hr => by cases hr), (fun _ => by simp), hf1, ht1, hc1', hfc1, hmod1'⟩, ?_, ?_⟩
  · intro i d st' hd hh9
    refine hid fun PP9 kk9 => ?_
    obtain ⟨rs, c', μ', rfl, hlen, hi4, hbd, hz, hfr, htp, hcp, hfc, hmp⟩ := hh9
    refine kk9 ?_
    clear kk9 PP9
    obtain ⟨hi, rfl⟩ : i < m.toNat ∧ d = .int (0 + (i : Nat) * 1) := by
      unfold rngD at hd
      rw [List.getElem?_map] at hd
      refine hid fun PP9 kk9 => ?_
      obtain ⟨j, hj, rfl⟩ := Option.map_eq_some_iff.mp hd
      obtain ⟨hlt, rfl⟩ := List.getElem?_eq_some_iff.mp hj
      refine kk9 ?_
      clear kk9 PP9
      simp only [List.length_range] at hlt
      exact ⟨hlt, by simp⟩
    walk_at "k"
    refine s_name hA ?_ (by decide)
    walk_at "mg"
    refine r_glob hA P.words ?_ (by decide) (by decide)
    walk_at "k"
    refine r_call hA P.law_draw.glob P.law_draw.keep ?_
    walk_at "mg"
    refine c_draw P hA htp (by decide) (by decide) fun v c2 μ2 hv0 hv1 ht2 hc2 hm2 => ?_
    walk_at "k"
    refine s_words hv0 hv1 fun w hw => ?_
    have hfr2 : μ2 f = some (.list (rowsD rs)) := hm2.get (by simp [hft]) hfr
    have hmod2 : Mod [t] st.mem μ2 := hmp.trans hm2
    have hc2' : c2 = c ∨ st.mem c2 = none := tape_chain hcp hc2 hmp (by simp [ht2.ne])
    have hfc2 : f ≠ c2 := by
      rcases hc2 with q | q
      · rw [q]; exact hfc
      · exact fun z => by rw [← z] at q; dsimp only at q; rw [hfr] at q; cases q
    walk_at "mg"
    refine r_append hA ?_
    walk_at "mg"
    refine ⟨f, _, rfl, hfr2, ?_⟩
    walk_at "k"
    refine r_items_cons ?_
    walk_at "k"
    refine r_call hA P.law_row.glob P.law_row.keep ?_
    walk_at "k"
    refine r_items_cons ?_
    walk_at "k"
    refine r_name hA rfl ?_
    walk_at "k"
    refine r_items_cons ?_
    refine Wp.mono (Q := fun d st1 => ∃ (w' : Str) (μ3 : Mem), d = .str w' ∧ st1 = ⟨(((bindD ["tape", "own"] [.ref t, .ref o] noLoc).set "found" (.ref f)).set "at" (.int (0 + (i : Nat) * 1))).set "word" (.str w), μ3⟩ ∧ Mod [] μ2 μ3 ∧ (w' = "m" ∨ w' = "l" ∨ w' = "c" ∨ w' = "z") ∧ (own = [] → i = 0 → w' ≠ "z")) ?_ ?_ (fun _ _ x => x)
    · walk_at "k"
      refine r_ifexp ?_
      walk_at "mg"
      have ho2 : μ2 o = some (.list (rowsD own)) := hmod2.get (by simp [hot]) ho
      refine ⟨fun hb => ?_, fun hb => ?_⟩
      · have hwz : w = "z" := beq_iff_eq.mp hb
        walk_at "mg"
        refine ⟨fun hb2 => ?_, fun hb2 => ?_⟩
        · walk_at "mg"
          intro a ha
          walk_at "k"
          refine c_eqNil hA (set_new ha ho2) (set_same _ _) ?_
          walk_at "mg"
          refine ⟨fun hb3 => ?_, fun hb3 => ?_⟩
          · walk_at "go"
            exact ⟨"m", _, rfl, rfl, Mod.refl.new ha, .inl rfl, fun _ _ => by decide⟩
          · walk_at "go"
            refine ⟨w, _, rfl, rfl, Mod.refl.new ha, hw, fun h0 => ?_⟩
            rw [h0] at hb3; cases hb3
        · walk_at "go"
          refine ⟨w, _, rfl, rfl, Mod.refl, hw, fun _ hi0 => ?_⟩
          rw [hi0] at hb2; simp at hb2
      · walk_at "go"
        refine ⟨w, _, rfl, rfl, Mod.refl, hw, fun _ _ z => ?_⟩
        rw [z] at hb; cases hb
    · intro d st1 hh9
      refine hid fun PP9 kk9 => ?_
      obtain ⟨w', μ3, rfl, rfl, hm3, hw', hz'⟩ := hh9
      refine kk9 ?_
      clear kk9 PP9
      walk_at "mg"
      refine c_law_row P hA (ht2.mod0 hm3) hw' fun r c3 μ4 hr hbr ht4 hc4 hm4 => ?_
      walk_at "mg"
      have hfr4 : μ4 f = some (.list (rowsD rs)) := hm4.get (by simp [hft]) (hm3.get0 hfr2)
      walk_at "k"
      refine b_append hA hfr4 (by first | exact rows_le (by first | lia | omega) | (simp [rowsD]; first | lia | omega)) ?_
      walk_at "mg"
      have hmod4 : Mod [t] st.mem μ4 := (hmod2.trans hm3.wide).trans hm4
      have hc4b : c3 = c2 ∨ μ2 c3 = none := by
        rcases hc4 with q | q
        · exact .inl q
        · exact .inr (hm3.none (by simp) q)
      have hc4' : c3 = c ∨ st.mem c3 = none := tape_chain hc2' hc4b hmod2 (by simp [ht4.ne])
      have hfc4 : f ≠ c3 := by
        rcases hc4b with q | q
        · rw [q]; exact hfc2
        · exact fun z => by rw [← z, hfr2] at q; cases q
      refine Wp.fit (by with_reducible assumption) ?_
      refine x_done _ _ ((LLess.set (LLess.set LLess.refl rfl) rfl)) Less.refl ⟨rs ++ [r], c3, _, rfl, by simp [hlen], by (first | lia | omega), ?_, ?_, ?_, ?_, hc4', hfc4, hmod4.put (.inr hf)⟩
      · intro r' hr'
        rcases List.mem_append.mp hr' with q | q
        · exact hbd r' q
        · cases List.mem_singleton.mp q; exact hbr
      · intro h0
        cases rs with
        | nil =>
          have hi0 : i = 0 := by simpa using hlen.symm
          intro z
          have : r = .z := by simpa using z
          rw [this] at hr
          exact hz' h0 hi0 hr.symm
        | cons q rest => simpa using hz h0
      · refine (set_same _ _).trans ?_
        simp [rowsD]
      · refine hid fun PP9 kk9 => ?_
        obtain ⟨k, ds, e1, e2, e3⟩ := ht4.there
        refine kk9 ?_
        clear kk9 PP9
        exact ⟨k, ds, set_get (Ne.symm hft) e1, set_get (Ne.symm hfc4) e2, e3⟩
  · intro st' hh9
    refine hid fun PP9 kk9 => ?_
    obtain ⟨rs, c', μ', rfl, hlen, hi4, hbd, hz, hfr, htp, hcp, hfc, hmp⟩ := hh9
    refine kk9 ?_
    clear kk9 PP9
    walk_at "mg"
    exact h rs f c' μ' (by simp [rngD] at hlen; (first | lia | omega)) hbd hz hfr hf htp hcp hft hfc hmp
end
end
section
section
variable {g : Gd} {X : Fx} {SC : Scope} {n : Nat} {st : St} {E : EP} {μ ν ρ : Mem}
theorem r_boolop {op : BoolOp} {xs : List Expr} {pos : Pos} {Q : D → St → Prop} (h : Wp g Val X st (boolOp pos op (evalEach xs X.env)) Q E) : Wp g Val X st (eval (.BoolOp op xs pos) X.env) Q E := by
  intro s hr
  first
    | exact h s hr
    | (rw [arm_eval_BoolOp]; exact h s hr)
    | (rw [arm_eval_BoolOp]; exact wpAny_bind (wpAny_standAt (h s hr)))
theorem r_band {pos : Pos} {x y : Sem Value} {rest : List (Sem Value)} {Q : D → St → Prop}
    (h : Wp g Val X st x (IsB (fun b st1 => (b = true → Wp g Val X st1 (boolOp pos .And (y :: rest)) Q E) ∧ (b = false → Q (.bool false) st1))) E) : Wp g Val X st (boolOp pos .And (x :: y :: rest)) Q E := by
  intro s hr
  show wpAny _ _ (x >>= _) _ _ s
  refine wpAny_bind (h.then hr .refl fun v d st1 s1 hv hr1 hx1 hy1 hq => ?_)
  obtain ⟨b, rfl, hq⟩ := hq
  cases hv
  refine wpAny_bind (wpAny_standAt (wpAny_bind (wpAny_holding (wpAny_truthy_bool ?_))))
  cases b with
  | true => exact (hq.1 rfl).at hr1 hx1
  | false => exact wpAny_pure ⟨.bool false, st1, rfl, hr1, hx1, hq.2 rfl⟩
theorem r_bone {pos : Pos} {op : BoolOp} {x : Sem Value} {Q : D → St → Prop} (h : Wp g Val X st x Q E) : Wp g Val X st (boolOp pos op [x]) Q E := fun s hr => h s hr

theorem lastM_filter : ∀ {rows : List Row} {x y : Int}, lastM rows = some (x, y) → (rows.filter Row.isM).getLast? = some (.m x y)
  | r :: rest, x, y, h => by
    cases r with
    | m a b =>
      simp only [lastM] at h
      cases q : lastM rest with
      | none =>
        rw [q] at h
        have hf : rest.filter Row.isM = [] := by
          rw [List.filter_eq_nil_iff]
          intro r' hr' hm
          cases r' <;> simp [Row.isM] at hm
          rename_i a' b'
          obtain ⟨l1, l2, rfl⟩ := List.append_of_mem hr'
          rw [lastM_append] at q
          have : lastM (.m a' b' :: l2) ≠ none := by simp [lastM]
          cases q2 : lastM (.m a' b' :: l2) with
          | none => exact this q2
          | some v => rw [q2] at q; simp at q
        simp at h
        rw [List.filter_cons_of_pos rfl, hf]
        simp [h.1, h.2]
      | some v =>
        rw [q] at h
        have := lastM_filter (q.trans (by simpa using h))
        rw [List.filter_cons_of_pos rfl, List.getLast?_cons_of_ne_nil (by intro z; rw [z] at this; cases this)]
        exact this
    | l a b => rw [List.filter_cons_of_neg (by simp [Row.isM])]; exact lastM_filter h
    | c a b c d e f => rw [List.filter_cons_of_neg (by simp [Row.isM])]; exact lastM_filter h
    | z => rw [List.filter_cons_of_neg (by simp [Row.isM])]; exact lastM_filter h
theorem flat_rows {rows : List Row} : ∀ d ∈ rowsD rows, Flat d := by
  intro d hd
  obtain ⟨r, _, rfl⟩ := List.mem_map.mp hd
  cases r <;> simp [Row.d, Flat, Atom]

theorem c_law_stands {d k o : Addr} {most : Int} {rows : List Row} {Q : D → St → Prop} (P : Prg g) (hA : At g X SC (n + 4)) (hp : PathAt st.mem d k most rows) (ho : st.mem o = some (.list (rowsD rows))) (hlen : rows.length ≤ 1000) (hg : Good rows)
    (h : ∀ μ, Mod [] st.mem μ → Q (.bool true) ⟨st.loc, μ⟩) : WCall g X st (.ref 333) [.obj 198 d, .ref o] Q E := by
  obtain ⟨hd, hk⟩ := id hp
  refine (P.law_stands.fn.call hA rfl fun X' hA hC hL Q9 uQ E9 uE => ?_).w
  refine x_cons ?_
  walk_at "mg"
  -- told
  refine Wp.mid (J := fun st' => st' = ⟨(bindD ["route", "own"] [.obj 198 d, .ref o] noLoc).set "told" (if rows = [] then .bytes nocurB else optD (pointOf rows)), st.mem⟩) (fun K1 u1 => ?_) ?_
  · refine Wp.less (x_try hA P.exc P.excG ?_)
    refine x_cons ?_
    walk_at "mg"
    refine r_meth hA ?_
    walk_at "mg"
    refine ⟨198, d, _, 104, rfl, hd, rfl, P.current.meth, ?_⟩
    walk_at "mg"
    refine c_current P hA hp hg (fun hne => ?_) fun h0 => ?_
    · walk_at "mg"
      refine x_nil ?_
      refine ⟨_, st.mem, ?_, Less.refl, u1 .next _ rfl⟩
      rw [if_neg hne]
      exact (LLess.nil.cons3 rfl rfl rfl)
    · refine ⟨rfl, _, st.mem, ?_, Less.refl, u1 .next _ rfl⟩
      rw [if_pos h0]
      exact (LLess.nil.cons3 rfl rfl rfl)
  · rintro st' rfl
    have hT0 : rows = [] → (if rows = [] then D.bytes nocurB else optD (pointOf rows)) = .bytes nocurB := fun h0 => if_pos h0
    have hT1 : rows ≠ [] → (if rows = [] then D.bytes nocurB else optD (pointOf rows)) = optD (pointOf rows) := fun h0 => if_neg h0
    generalize (if rows = [] then D.bytes nocurB else optD (pointOf rows)) = T at hT0 hT1 ⊢
    refine x_cons (Wp.mid (J := fun st' => ∃ μ', st' = ⟨((bindD ["route", "own"] [.obj 198 d, .ref o] noLoc).set "told" T).set "due" T, μ'⟩ ∧ Mod [] st.mem μ') (fun _ _ => ?_) ?_)
    · walk_at "mg"
      intro a ha
      have ho1 := set_new (c := .list []) ha ho
      have hm1 : Mod [] st.mem (st.mem.set a (.list [])) := Mod.refl.new ha
      walk_at "k"
      refine c_eqNil hA ho1 (set_same _ _) ?_
      walk_at "mg"
      rcases List.eq_nil_or_concat rows with rfl | ⟨l, r, rfl⟩
      · walk_at "go"
        have e0 := hT0 rfl
        subst e0
        exact ⟨_, rfl, hm1⟩
      · rw [List.concat_eq_append] at *
        have hne : l ++ [r] ≠ [] := by simp
        refine ⟨fun hx => absurd hx (by simp), fun _ => ?_⟩
        walk_at "mg"
        refine s_list_last ho1 (by rw [getLastW, getLast_snoc]; rfl) ?_
        walk_at "mg"
        refine ⟨fun hx => ?_, fun hx => ?_⟩
        · have hz := wzb _ hx
          have hrz : r = .z := Z_of hz
          subst hrz
          obtain ⟨⟨bx, by'⟩, hlm⟩ := Option.isSome_iff_exists.mp (hg hne)
          have e0 := hT1 hne
          rw [show pointOf (l ++ [Row.z]) = some (bx, by') by rw [point_Z, hlm]] at e0
          subst e0
          walk_at "mg"
          refine r_slice_tup ?_
          walk_at "k"
          refine r_subP rfl ?_
          walk_at "k"
          refine r_comp hA ⟨rfl, rfl, by decide, by decide, by decide⟩ (cellsHere [] rfl (by intro x hx; cases hx)) ?_
          walk_at "mg"
          refine ⟨rowsD (l ++ [.z]), _, fun i out μ => out = rowsD (((l ++ [Row.z]).take i).filter Row.isM) ∧ Mod [] st.mem μ, ⟨.list ho1, by simp [rowsD] at hlen ⊢; (first | lia | omega), ?_, ⟨rfl, hm1⟩, ?_⟩, ?_⟩
          · rintro i out μ ⟨_, hm⟩ loc b c hb
            exact set_new hb (hm.get0 ho)
          · rintro XC hAC i out μ b dd hdd ⟨rfl, hm⟩ hb
            obtain ⟨q, hq, rfl⟩ := rows_at hdd
            walk_at "k"
            refine s_name hAC ?_ (by decide)
            refine t_one ?_
            walk_at "mg"
            have htk : (l ++ [Row.z]).take (i + 1) = (l ++ [Row.z]).take i ++ [q] := by rw [List.take_add_one, hq]; rfl
            have hdel : Mod [] st.mem ((μ.set b (.list (rowsD (((l ++ [Row.z]).take i).filter Row.isM)))).del b) := fun a' cc ha' e => del_get (set_new hb (hm.get0 e)) (ne_of (hm.get0 e) hb)
            refine ⟨fun hb1 => ?_, fun hb1 => ?_⟩
            · have hqm : q.isM = true := (wordM q).symm.trans hb1
              walk_at "mg"
              refine CFin.of (LLess.cap (by decide)) (set_same _ _) ⟨?_, hdel⟩
              rw [htk, List.filter_append]
              simp [rowsD, hqm]
            · have hqm : q.isM = false := (wordM q).symm.trans hb1
              walk_at "k"
              refine CFin.of (LLess.cap (by decide)) (set_same _ _) ⟨?_, hdel⟩
              rw [htk, List.filter_append]
              simp [hqm]
          · rintro out μ b ⟨rfl, hm⟩ hb
            walk_at "mg"
            rw [List.length_map, List.take_length]
            have hlf := lastM_filter hlm
            walk_at "k"
            refine s_list_last (set_same _ _) (by rw [getLastW, hlf]; rfl) ?_
            walk_at "mg"
            refine ⟨_, _, rfl, rfl, Nat.le_of_ble_eq_true rfl, Nat.le_of_ble_eq_true rfl, ?_⟩
            walk_at "mg"; exact ⟨_, rfl, hm.new hb⟩
        · have hz := wzb _ hx
          walk_at "mg"
          refine r_slice_tup ?_
          walk_at "mg"
          refine s_list_last ho1 (by rw [getLastW, getLast_snoc]; rfl) ?_
          walk_at "mg"
          cases r with
          | m x y => have e0 := hT1 hne; rw [show pointOf (l ++ [Row.m x y]) = some (x, y) by simp [pointOf, endOf]] at e0; subst e0; exact ⟨_, _, rfl, rfl, Nat.le_of_ble_eq_true rfl, Nat.le_of_ble_eq_true rfl, by walk_at "mg"; exact ⟨_, rfl, hm1⟩⟩
          | l x y => have e0 := hT1 hne; rw [show pointOf (l ++ [Row.l x y]) = some (x, y) by simp [pointOf, endOf]] at e0; subst e0; exact ⟨_, _, rfl, rfl, Nat.le_of_ble_eq_true rfl, Nat.le_of_ble_eq_true rfl, by walk_at "mg"; exact ⟨_, rfl, hm1⟩⟩
          | c x1 y1 x2 y2 x3 y3 => have e0 := hT1 hne; rw [show pointOf (l ++ [Row.c x1 y1 x2 y2 x3 y3]) = some (x3, y3) by simp [pointOf, endOf]] at e0; subst e0; exact ⟨_, _, rfl, rfl, Nat.le_of_ble_eq_true rfl, Nat.le_of_ble_eq_true rfl, by walk_at "mg"; exact ⟨_, rfl, hm1⟩⟩
          | z => cases hz
    · rintro st' ⟨μ', rfl, hm'⟩
      walk_at "mg"
      refine r_boolop (r_band ?_)
      have ho' := hm'.get0 ho
      have hp' := hp.mod0 hm'
      refine Wp.mono (Q := IsB fun b st2 => b = true ∧ st2 = ⟨((bindD ["route", "own"] [.obj 198 d, .ref o] noLoc).set "told" T).set "due" T, μ'⟩) ?_ ?_ (fun _ _ x => x)
      · walk_at "k"
        refine r_cmp ?_
        walk_at "k"
        refine r_name hA rfl ?_
        walk_at "k"
        refine r_name hA rfl ?_
        by_cases h0 : rows = []
        · rw [hT0 h0]
          exact c_eqBytes ⟨_, rfl, by simp, rfl⟩
        · rw [hT1 h0]
          have hpn := point_none hg
          cases hq : pointOf rows with
          | none => rw [hq] at hpn; cases rows with | nil => exact absurd rfl h0 | cons => simp at hpn
          | some v =>
            obtain ⟨x, y⟩ := v
            exact c_eqTup hA (by intro dd hdd; simp at hdd; rcases hdd with rfl | rfl <;> trivial) ⟨_, rfl, rfl, rfl⟩
      intro d2 st2 hh9
      refine hid fun PP9 kk9 => ?_
      obtain ⟨b, rfl, rfl, rfl⟩ := hh9
      refine kk9 ?_
      clear kk9 PP9
      refine ⟨true, rfl, fun _ => ?_, fun z => by cases z⟩
      walk_at "k"
      refine r_band ?_
      walk_at "k"
      refine r_cmp ?_
      walk_at "k"
      refine r_meth hA ?_
      walk_at "k"
      refine r_name hA rfl ?_
      refine ⟨198, d, _, 90, rfl, hp'.1, rfl, P.rows.meth, ?_⟩
      walk_at "k"
      refine r_items_nil ?_
      walk_at "k"
      refine c_rows P hA hp' hlen fun b hb => ?_
      walk_at "k"
      refine r_name hA rfl ?_
      walk_at "k"
      refine c_eqRows hA (set_same _ _) (set_new hb ho') flat_rows ?_
      refine ⟨true, rfl, fun _ => ?_, fun z => by cases z⟩
      walk_at "k"
      refine r_bone ?_
      have hm2 : Mod [] st.mem (μ'.set b (.list (rowsD rows))) := hm'.new hb
      walk_at "k"
      refine r_cmp ?_
      walk_at "k"
      refine r_meth hA ?_
      walk_at "k"
      refine r_name hA rfl ?_
      refine ⟨198, d, _, 97, rfl, (hp.mod0 hm2).1, rfl, P.is_empty.meth, ?_⟩
      walk_at "k"
      refine r_items_nil ?_
      walk_at "k"
      refine c_is_empty P hA (hp.mod0 hm2) fun μ3 hm3 => ?_
      walk_at "k"
      refine r_cmp ?_
      walk_at "k"
      refine r_name hA rfl ?_
      walk_at "k"
      refine r_list (r_items_nil ⟨by simp, fun b2 hb2 => ?_⟩)
      have hm4 := hm2.trans hm3
      walk_at "k"
      refine c_eqNil hA (set_new hb2 (hm4.get0 ho)) (set_same _ _) ?_
      have e : (rowsD rows).isEmpty = rows.isEmpty := by cases rows <;> rfl
      rw [e]
      walk_at "k"
      refine c_eqB ?_
      rw [beq_self_eq_true]
      walk_at "mg"
      exact h _ (hm4.new hb2)
end
end
section
section
variable {g : Gd} {X : Fx} {SC : Scope} {n : Nat} {st : St} {E : EP} {μ ν ρ : Mem}
theorem start_at {rows rs : List Row} (hz : rows = [] → rs.head? ≠ some .z) {i : Nat} {r : Row} (h : rs[i]? = some r) (h0 : putAll rows (rs.take i) = []) : rows = [] ∧ i = 0 ∧ rs.head? = some r := by
  cases rs with
  | nil => simp at h
  | cons r0 rest =>
    cases i with
    | zero => exact ⟨h0, rfl, by simpa using h⟩
    | succ i =>
      have hp : put1 rows r0 = [] := by
        by_cases q : put1 rows r0 = []
        · exact q
        · exact absurd h0 (show putAll (put1 rows r0) (rest.take i) ≠ [] from putAll_ne _ _ q)
      obtain ⟨h1, h2⟩ := put1_nil hp
      exact absurd (by rw [h2]; rfl) (hz h1)
theorem moreW_le : ∀ (l : List Row) (ls : Option Str), moreW ls l ≤ 2 * l.length
  | [], _ => by simp [moreW]
  | q :: l, ls => by
    have := moreW_le l (nextW ls q)
    have hc : costW ls q ≤ 2 := by cases q <;> simp only [costW] <;> split <;> (first | lia | omega)
    simp only [moreW, List.length_cons]; (first | lia | omega)
theorem putAll_small {own rs : List Row} (h1 : own.length ≤ 1000) (h2 : rs.length ≤ 1000) (i : Nat) : (putAll own (rs.take i)).length ≤ 100000 := by
  have a1 := putAll_length (rs.take i) own
  have a2 := moreW_le (rs.take i) (lastW own)
  have : (rs.take i).length ≤ rs.length := by simp; (first | lia | omega)
  (first | lia | omega)
noncomputable def zRow (base : List Row) (r : Row) : List Row := if (r.isG && base.getLast?.any Row.isZ) = true then [.m ((lastM base).getD (0, 0)).1 ((lastM base).getD (0, 0)).2] else []
theorem last_cases {P : List Row → Prop} (h0 : P []) (h1 : ∀ l q, P (l ++ [q])) (base : List Row) : P base := by
  rcases List.eq_nil_or_concat base with rfl | ⟨l, q, rfl⟩
  · exact h0
  · rw [List.concat_eq_append]; exact h1 l q
theorem lastE (base : List Row) : ((lastW base).getD "" == "") = base.isEmpty := last_cases (P := fun base => ((lastW base).getD "" == "") = base.isEmpty) rfl (fun l q => by
  have : (lastW (l ++ [q])).getD "" = q.w := by simp [lastW]
  rw [this, show (l ++ [q]).isEmpty = false by simp]; cases q <;> rfl) base
theorem lastMb (base : List Row) : ((lastW base).getD "" == "m") = base.getLast?.any Row.isM := last_cases (P := fun base => ((lastW base).getD "" == "m") = base.getLast?.any Row.isM) rfl (fun l q => by
  have : (lastW (l ++ [q])).getD "" = q.w := by simp [lastW]
  rw [this, getLast_snoc]; cases q <;> rfl) base
theorem lastZb (base : List Row) : ((lastW base).getD "" == "z") = base.getLast?.any Row.isZ := last_cases (P := fun base => ((lastW base).getD "" == "z") = base.getLast?.any Row.isZ) rfl (fun l q => by
  have : (lastW (l ++ [q])).getD "" = q.w := by simp [lastW]
  rw [this, getLast_snoc]; cases q <;> rfl) base
noncomputable def zed (base : List Row) : Bool := base.isEmpty || base.getLast?.any Row.isZ
theorem lastN (base : List Row) : (![D.str "", D.str "z"].any (dStr ((lastW base).getD ""))) = !zed base := last_cases (P := fun base => (![D.str "", D.str "z"].any (dStr ((lastW base).getD ""))) = !zed base) rfl (fun l q => by
  have : (lastW (l ++ [q])).getD "" = q.w := by simp [lastW]
  rw [this, zed, getLast_snoc, show (l ++ [q]).isEmpty = false by simp]; cases q <;> rfl) base
theorem put1_by (base : List Row) (r : Row) : put1 base r = if (!r.isZ || !zed base) = true then ((if (r.isM && base.getLast?.any Row.isM) = true then base.dropLast else base) ++ zRow base r) ++ [r]
    else (if (r.isM && base.getLast?.any Row.isM) = true then base.dropLast else base) ++ zRow base r := by
  cases r <;> simp [put1, Row.isM, Row.isG, Row.isZ, zRow, zed]
  by_cases h : base = [] <;> simp [h]
  cases Option.any Row.isZ base.getLast? <;> simp
theorem step_len (base : List Row) (r : Row) : ((if (r.isM && base.getLast?.any Row.isM) = true then base.dropLast else base) ++ zRow base r).length ≤ base.length + 1 := by
  rw [List.length_append, zRow]
  split <;> split <;> simp <;> (first | lia | omega)
theorem c_law_after {o b : Addr} {most : Int} {own rs : List Row} {Q : D → St → Prop} (P : Prg g) (hA : At g X SC (n + 2)) (ho : st.mem o = some (.list (rowsD own))) (hb : st.mem b = some (.list (rowsD rs))) (hown : own.length ≤ 1000) (hrs : rs.length ≤ 1000)
    (hg : Good own) (hz : own = [] → rs.head? ≠ some .z)
    (h1 : Fit own rs → ((putAll own rs).length : Int) ≤ most → ∀ w μ, μ w = some (.list (rowsD (putAll own rs))) → st.mem w = none → Mod [] st.mem μ → Q (.tup [.ref w, .none]) ⟨st.loc, μ⟩)
    (h2 : Fit own rs → most < ((putAll own rs).length : Int) → ∀ μ, Mod [] st.mem μ → Q (.tup [.ref o, .bytes limitB]) ⟨st.loc, μ⟩)
    (h3 : own = [] → rs.head?.any Row.isG = true → ∀ μ, Mod [] st.mem μ → Q (.tup [.ref o, .bytes nocurB]) ⟨st.loc, μ⟩) :
    WCall g X st (.ref 309) [.ref o, .ref b, .int most] Q E := by
  refine (P.law_after.fn.call hA rfl fun X' hA hC hL Q9 uQ E9 uE => ?_).w
  refine x_cons ?_
  walk_at "mg"
  refine r_call hA P.list trivial ?_
  walk_at "mg"
  refine b_list ho (by first | exact rows_le (by first | lia | omega) | (simp [rowsD]; first | lia | omega)) fun w hw => ?_
  walk_at "mg"
  refine x_for hA (Wp.less ?_)
  walk_at "k"
  refine r_name hA rfl ?_
  have hbw : b ≠ w := ne_of hb hw
  refine ⟨(bindD ["own", "rows", "most"] [.ref o, .ref b, .int most] noLoc).set "now" (.ref w), _, LLess.refl, Less.refl, rowsD rs, _,
    fun i st' => ∃ μ' : Mem, st' = ⟨(bindD ["own", "rows", "most"] [.ref o, .ref b, .int most] noLoc).set "now" (.ref w), μ'⟩ ∧ μ' w = some (.list (rowsD (putAll own (rs.take i)))) ∧ Mod [] st.mem μ' ∧ (0 < i → Fit own rs),
    .list (set_new hw hb), ?_, ⟨_, rfl, by simpa [putAll] using set_same _ _, Mod.refl.new hw, fun z => absurd z (by (first | lia | omega))⟩, ?_, ?_⟩
  · rintro i st' ⟨μ', rfl, _, hm, _⟩; exact hm.get0 hb
  · intro i dd st' hd' hh9
    refine hid fun PP9 kk9 => ?_
    obtain ⟨μ', rfl, hk', hm', hf'⟩ := hh9
    refine kk9 ?_
    clear kk9 PP9
    obtain ⟨r, hr, rfl⟩ := rows_at hd'
    have hi : i < rs.length := (List.getElem?_eq_some_iff.mp hr).1
    have hst := start_at hz hr
    have hsucc := putAll_succ (rows := own) hr
    have hlenp : (putAll own (rs.take i)).length ≤ 100000 := by exact putAll_small hown hrs i
    walk_at "k"
    refine s_name hA ?_ (by decide)
    refine Wp.up fun KK uK => ?_
    have fin : ∀ (loc : Loc) (μ2 : Mem), LLess ((bindD ["own", "rows", "most"] [.ref o, .ref b, .int most] noLoc).set "now" (.ref w)) loc → μ2 w = some (.list (rowsD (put1 (putAll own (rs.take i)) r))) → Mod [] st.mem μ2 → (putAll own (rs.take i) = [] → r.isG = false) →
        WS g X' ⟨loc, μ2⟩ [] KK E9 := fun loc μ2 q1 q2 q3 q4 =>
      Wp.fit uK <| x_done _ μ2 q1 Less.refl ⟨μ2, rfl, by rw [hsucc]; exact q2, q3, fun _ => by
        by_cases h0 : 0 < i
        · exact hf' h0
        · have hi0 : i = 0 := by (first | lia | omega)
          subst hi0
          intro hown0 r' hr'
          have : r' = r := by
            cases rs with
            | nil => cases hr'
            | cons a l => simp at hr hr'; rw [← hr, ← hr']
          subst this
          exact ⟨q4 (by simpa [putAll] using hown0), fun z => hz hown0 (by rw [hr', z])⟩⟩
    have hgood : Good (putAll own (rs.take i)) := by
      by_cases h0 : 0 < i
      · exact good_putAll hg (hf' h0) i (by (first | lia | omega))
      · have hi0 : i = 0 := by (first | lia | omega)
        subst hi0; simpa [putAll] using hg
    generalize putAll own (rs.take i) = base at *
    refine x_cons (Wp.mid (J := fun st2 => ∃ μ2 : Mem, st2 = ⟨(((bindD ["own", "rows", "most"] [.ref o, .ref b, .int most] noLoc).set "now" (.ref w)).set "row" r.d).set "last" (.str ((lastW base).getD "")), μ2⟩ ∧ Mod [] μ' μ2) (fun _ _ => ?_) ?_)
    · walk_at "mg"
      intro a ha
      have hk1 := set_new (c := .list []) ha hk'
      walk_at "k"
      refine c_neNil hA hk1 (set_same _ _) ?_
      walk_at "mg"
      rcases List.eq_nil_or_concat base with rfl | ⟨l, q, rfl⟩
      · walk_at "go"
        exact ⟨_, rfl, Mod.refl.new ha⟩
      · rw [List.concat_eq_append] at *
        refine ⟨fun _ => ?_, fun hx => absurd hx (by simp)⟩
        walk_at "mg"
        refine s_list_last hk1 (by rw [getLastW, getLast_snoc]; rfl) ?_
        walk_at "mg"
        have hlw : (lastW (l ++ [q])).getD "" = q.w := by simp [lastW]
        rw [hlw]
        exact ⟨_, rfl, Mod.refl.new ha⟩
    · rintro st2 ⟨μ2, rfl, hm2⟩
      have hk2 := hm2.get0 hk'
      have hmm := hm'.trans hm2
      have hin := wordG r
      have hwM := wordM r
      have hwZ := wordNZ r
      have hlE := lastE base
      have hlM := lastMb base
      have hlZ := lastZb base
      have hlN := lastN base
      have hcl := put1_by base r
      generalize (lastW base).getD "" = ls at hlE hlM hlZ hlN ⊢
      refine x_cons (Wp.mid (J := fun st3 => st3 = ⟨(((bindD ["own", "rows", "most"] [.ref o, .ref b, .int most] noLoc).set "now" (.ref w)).set "row" r.d).set "last" (.str ls), μ2⟩ ∧ (base = [] → r.isG = false)) (fun K3 u3 => ?_) ?_)
      · walk_at "mg"
        refine ⟨fun hG => ?_, fun hG => ?_⟩ <;> rw [hin] at hG
        · walk_at "mg"
          refine ⟨fun h0 => ?_, fun h0 => ?_⟩ <;> rw [hlE] at h0
          · obtain ⟨e1, _, e3⟩ := hst (List.isEmpty_iff.mp h0)
            walk_at "go"
            exact uQ _ _ (h3 e1 (by rw [e3]; exact hG) _ hmm)
          · walk_at "go"
            exact ⟨rfl, fun z => by rw [z] at h0; cases h0⟩
        · walk_at "go"
          exact ⟨rfl, fun _ => hG⟩
      · rintro _ ⟨rfl, hbG⟩
        refine x_cons (Wp.mid (J := fun st3 => ∃ μ3 : Mem, st3 = ⟨(((bindD ["own", "rows", "most"] [.ref o, .ref b, .int most] noLoc).set "now" (.ref w)).set "row" r.d).set "last" (.str ls), μ3⟩ ∧
          μ3 w = some (.list (rowsD (if (r.isM && base.getLast?.any Row.isM) = true then base.dropLast else base))) ∧ Mod [] st.mem μ3) (fun K3 u3 => ?_) ?_)
        · walk_at "mg"
          refine ⟨fun hG => ?_, fun hG => ?_⟩ <;> rw [hwM] at hG
          · walk_at "mg"
            refine ⟨fun h0 => ?_, fun h0 => ?_⟩ <;> rw [hlM] at h0
            · obtain ⟨l, q, rfl⟩ : ∃ l q, base = l ++ [q] := by
                rcases List.eq_nil_or_concat base with rfl | ⟨l, q, h⟩
                · cases h0
                · exact ⟨l, q, by rw [h, List.concat_eq_append]⟩
              walk_at "go"
              refine r_pop hA ?_
              walk_at "mg"
              refine ⟨w, _, rfl, hk2, ?_⟩
              walk_at "mg"
              have hk3 : μ2 w = some (.list (rowsD l ++ [q.d])) := by rw [hk2]; simp [rowsD]
              walk_at "k"
              refine b_pop hA (by exact hk3) (by simp [rowsD] at hlenp ⊢; (first | lia | omega)) ?_
              walk_at "go"
              exact ⟨_, rfl, by rw [hG, h0]; simp only [Bool.and_self, if_true, List.dropLast_concat]; exact set_same _ _, hmm.put (.inr hw)⟩
            · walk_at "go"
              exact ⟨_, rfl, by rw [h0, Bool.and_false]; exact hk2, hmm⟩
          · walk_at "go"
            exact ⟨_, rfl, by rw [hG]; exact hk2, hmm⟩
        · intro _ hh9
          refine hid fun PP9 kk9 => ?_
          obtain ⟨μ3, rfl, hk3, hm3⟩ := hh9
          refine kk9 ?_
          clear kk9 PP9
          refine x_cons (Wp.mid (J := fun st3 => ∃ μ4 : Mem, st3 = ⟨(((bindD ["own", "rows", "most"] [.ref o, .ref b, .int most] noLoc).set "now" (.ref w)).set "row" r.d).set "last" (.str ls), μ4⟩ ∧
            μ4 w = some (.list (rowsD ((if (r.isM && base.getLast?.any Row.isM) = true then base.dropLast else base) ++ zRow base r))) ∧ Mod [] st.mem μ4) (fun K3 u3 => ?_) ?_)
          · walk_at "mg"
            refine ⟨fun hG => ?_, fun hG => ?_⟩ <;> rw [hin] at hG
            · have hnM := notM_of_G hG
              rw [hnM, Bool.false_and, if_neg Bool.false_ne_true] at hk3
              walk_at "mg"
              refine ⟨fun h0 => ?_, fun h0 => ?_⟩ <;> rw [hlZ] at h0
              · have hne : base ≠ [] := fun z => by rw [z] at h0; cases h0
                obtain ⟨⟨bx, by'⟩, hlm⟩ := Option.isSome_iff_exists.mp (hgood hne)
                walk_at "go"
                refine r_append hA ?_
                walk_at "mg"
                refine ⟨w, _, rfl, hk3, ?_⟩
                walk_at "k"
                refine r_items_cons ?_
                walk_at "k"
                refine r_subP rfl ?_
                walk_at "k"
                refine r_comp hA ⟨rfl, rfl, by decide, by decide, by decide⟩ (cellsHere [] rfl (by intro x hx; cases hx)) ?_
                walk_at "mg"
                refine ⟨rowsD base, _, fun i out μ => out = rowsD ((base.take i).filter Row.isM) ∧ Mod [] μ3 μ, ⟨.list hk3, by simp [rowsD] at hlenp ⊢; (first | lia | omega), ?_, ⟨rfl, Mod.refl⟩, ?_⟩, ?_⟩
                · rintro i out μ ⟨_, hm⟩ loc b c hb
                  exact set_new hb (hm.get0 hk3)
                · rintro XC hAC i out μ b dd hdd ⟨rfl, hm⟩ hb
                  obtain ⟨q, hq, rfl⟩ := rows_at hdd
                  walk_at "k"
                  refine s_name hAC ?_ (by decide)
                  refine t_one ?_
                  walk_at "mg"
                  have htk : base.take (i + 1) = base.take i ++ [q] := by rw [List.take_add_one, hq]; rfl
                  have hwq := wordM q
                  have hdel : Mod [] μ3 ((μ.set b (.list (rowsD ((base.take i).filter Row.isM)))).del b) := fun a' cc ha' e => del_get (set_new hb (hm.get0 e)) (ne_of (hm.get0 e) hb)
                  refine ⟨fun hqm => ?_, fun hqm => ?_⟩ <;> rw [hwq] at hqm
                  · walk_at "mg"
                    refine CFin.of (LLess.cap (by decide)) (set_same _ _) ⟨?_, hdel⟩
                    rw [htk, List.filter_append]
                    simp [rowsD, hqm]
                  · walk_at "k"
                    refine CFin.of (LLess.cap (by decide)) (set_same _ _) ⟨?_, hdel⟩
                    rw [htk, List.filter_append]
                    simp [hqm]
                rintro out μ5 b5 ⟨rfl, hm5⟩ hb5
                walk_at "mg"
                rw [List.length_map, List.take_length]
                walk_at "k"
                refine s_list_last (set_same _ _) (by rw [getLastW, lastM_filter hlm]; rfl) ?_
                walk_at "mg"
                have hk5 : (μ5.set b5 (.list (rowsD (base.filter Row.isM)))) w = some (.list (rowsD base)) := set_new hb5 (hm5.get0 hk3)
                walk_at "k"
                refine b_append hA (by exact hk5) (by simp [rowsD] at hlenp ⊢; (first | lia | omega)) ?_
                walk_at "go"
                exact ⟨_, rfl, by rw [zRow, hG, h0, hnM, hlm]; exact (set_same _ _).trans (by simp [rowsD, Row.d]), ((hm3.trans hm5).new hb5).put (.inr hw)⟩
              · walk_at "go"
                exact ⟨_, rfl, by rw [zRow, h0, Bool.and_false, if_neg Bool.false_ne_true, List.append_nil, hnM]; exact hk3, hm3⟩
            · walk_at "go"
              exact ⟨_, rfl, by rw [zRow, hG, Bool.false_and, if_neg Bool.false_ne_true, List.append_nil]; exact hk3, hm3⟩
          · intro _ hh9
            refine hid fun PP9 kk9 => ?_
            obtain ⟨μ4, rfl, hk4, hm4⟩ := hh9
            refine kk9 ?_
            clear kk9 PP9
            have hl3 := step_len base r
            generalize (if (r.isM && base.getLast?.any Row.isM) = true then base.dropLast else base) ++ zRow base r = bs at hk4 hl3 hcl
            walk_at "mg"
            refine ⟨fun hZ => ?_, fun hZ => ?_⟩ <;> rw [hwZ] at hZ
            · walk_at "go"
              refine r_append hA ?_
              walk_at "mg"
              refine ⟨w, _, rfl, hk4, ?_⟩
              walk_at "mg"
              refine b_append hA (by exact hk4) (by first | exact rows_le (by first | lia | omega) | (simp [rowsD]; first | lia | omega)) ?_
              walk_at "mg"
              exact fin _ _ (LLess.set (LLess.set LLess.refl rfl) rfl) ((set_same _ _).trans (by rw [hcl, hZ]; simp [rowsD])) (hm4.put (.inr hw)) hbG
            · walk_at "mg"
              refine ⟨fun hN => ?_, fun hN => ?_⟩ <;> rw [hlN] at hN
              · walk_at "go"
                refine r_append hA ?_
                walk_at "mg"
                refine ⟨w, _, rfl, hk4, ?_⟩
                walk_at "mg"
                refine b_append hA (by exact hk4) (by first | exact rows_le (by first | lia | omega) | (simp [rowsD]; first | lia | omega)) ?_
                walk_at "mg"
                exact fin _ _ (LLess.set (LLess.set LLess.refl rfl) rfl) ((set_same _ _).trans (by rw [hcl, hN, Bool.or_true]; simp [rowsD])) (hm4.put (.inr hw)) hbG
              · walk_at "go"
                exact fin _ _ (LLess.set (LLess.set LLess.refl rfl) rfl) (by rw [hcl, hZ, hN]; exact hk4) hm4 hbG
  · intro st' hh9
    refine hid fun PP9 kk9 => ?_
    obtain ⟨μ', rfl, hk', hm', hf'⟩ := hh9
    refine kk9 ?_
    clear kk9 PP9
    have hfit : Fit own rs := by
      by_cases h0 : 0 < rs.length
      · exact hf' (by simpa using h0)
      · have : rs = [] := by cases rs with | nil => rfl | cons => simp at h0
        subst this
        intro _ r hr; cases hr
    rw [List.length_map, List.take_length] at hk'
    walk_at "mg"
    refine r_call hA P.len trivial ?_
    walk_at "mg"
    have hlp : (putAll own rs).length ≤ 100000 := by have := putAll_small hown hrs rs.length; rwa [List.take_length] at this
    walk_at "k"
    refine b_lenL hk' (by first | exact rows_le (by first | lia | omega) | (simp [rowsD]; first | lia | omega)) ?_
    walk_at "mg"
    refine ⟨fun hx => ?_, fun hx => ?_⟩ <;> simp only [decide_eq_true_eq, decide_eq_false_iff_not, List.length_map] at hx <;> walk_at "mg"
    · exact h2 hfit hx _ hm'
    · exact h1 hfit (by (first | lia | omega)) w _ hk' hw hm'
end
end
section
section
variable {g : Gd} {X : Fx} {SC : Scope} {n : Nat} {st : St} {E : EP} {μ ν ρ : Mem}
noncomputable def divP (x y : Int) : Int :=
  if (decide (x < 0) == decide (y < 0)) = true then ((2 * if x < 0 then -x else x) + if y < 0 then -y else y).fdiv (2 * if y < 0 then -y else y)
  else -((2 * if x < 0 then -x else x) + if y < 0 then -y else y).fdiv (2 * if y < 0 then -y else y)
theorem c_divided {x : Int} {Q : D → St → Prop} (P : Prg g) (hA : At g X SC (n + 1)) (h : Q (.int (divP x 1000000)) st) : WCall g X st (.ref 54) [.int x, .int 1000000] Q E := by
  refine (P.divided.fn.call hA rfl fun X' hA hC hL Q9 uQ E9 uE => ?_).w
  refine x_cons ?_
  refine x_swap2 (x := "size") (y := "parts") hA ?_
  walk_at "mg"
  refine r_call hA P.abs trivial ?_
  walk_at "mg"
  refine b_abs ?_
  walk_at "mg"
  refine r_call hA P.abs trivial ?_
  walk_at "mg"
  refine b_abs ?_
  walk_at "mg"
  refine o_div (by decide) (by decide) ?_
  walk_at "mg"
  refine ⟨fun hb => ?_, fun hb => ?_⟩ <;> walk_at "mg" <;> unfold divP at h
  · rw [if_pos hb] at h; exact h
  · rw [if_neg (by rw [hb]; decide)] at h; exact h
theorem divP_grain (x : Int) : divP (1000000 * x) 1000000 = x := by
  unfold divP
  have e1 : (if (1000000 : Int) < 0 then -1000000 else 1000000) = (1000000 : Int) := by decide
  have e2 : decide ((1000000 : Int) < 0) = false := by decide
  rw [e1, e2, Int.fdiv_eq_ediv_of_nonneg _ (by decide)]
  by_cases h : 1000000 * x < 0
  · simp only [h, decide_true, if_true]
    rw [if_neg (by decide)]
    (first | lia | omega)
  · simp only [h, decide_false, if_false]
    rw [if_pos (by decide)]
    (first | lia | omega)
noncomputable abbrev matD (ac up : Int) : Cell := .list [.int 1000000, .int 0, .int 0, .int 1000000, .int ac, .int up]
theorem c_transform {a : Addr} {x y ac up : Int} {Q : D → St → Prop} (P : Prg g) (hA : At g X SC (n + 2)) (hm : st.mem a = some (matD ac up)) (h : Q (.tup [.int (x + ac), .int (y + up)]) st) :
    WCall g X st (.ref 61) [.ref a, .int x, .int y] Q E := by
  refine (P.transform.fn.call hA rfl fun X' hA hC hL Q9 uQ E9 uE => ?_).w
  refine x_cons ?_
  walk_at "mg"
  refine r_call hA P.divided.glob P.divided.keep ?_
  walk_at "mg"
  refine r_glob hA P.grain ?_ (by decide) (by decide)
  walk_at "mg"
  refine c_divided P hA ?_
  walk_at "mg"
  refine r_call hA P.divided.glob P.divided.keep ?_
  walk_at "mg"
  refine r_glob hA P.grain ?_ (by decide) (by decide)
  walk_at "mg"
  refine c_divided P hA ?_
  walk_at "mg"
  rw [show 1000000 * x + 0 * y = 1000000 * x by (first | lia | omega), show 0 * x + 1000000 * y = 1000000 * y by (first | lia | omega), divP_grain, divP_grain]
  exact h
end
end
section
section
variable {g : Gd} {X : Fx} {SC : Scope} {n : Nat} {st : St} {E : EP} {μ ν ρ : Mem}
noncomputable def Row.pts : Row → List (Int × Int)
  | .m x y => [(x, y)]
  | .l x y => [(x, y)]
  | .c x1 y1 x2 y2 x3 y3 => [(x1, y1), (x2, y2), (x3, y3)]
  | .z => []
noncomputable abbrev ptsD (l : List (Int × Int)) : List D := l.map fun p => ptT p.1 p.2
noncomputable def Row.len : Row → Nat := fun r => 1 + 2 * r.pts.length
theorem row_tup (r : Row) : ∃ L, r.d = .tup L ∧ L.length = r.len ∧ ∀ (i : Nat) x y, r.pts[i]? = some (x, y) → L[1 + i * 2]? = some (.int x) ∧ L[1 + i * 2 + 1]? = some (.int y) := by
  cases r with
  | m x y => exact ⟨_, rfl, rfl, fun i a b h => by match i, h with | 0, h => cases h; exact ⟨rfl, rfl⟩⟩
  | l x y => exact ⟨_, rfl, rfl, fun i a b h => by match i, h with | 0, h => cases h; exact ⟨rfl, rfl⟩⟩
  | c x1 y1 x2 y2 x3 y3 => exact ⟨_, rfl, rfl, fun i a b h => by
      match i, h with
      | 0, h => cases h; exact ⟨rfl, rfl⟩
      | 1, h => cases h; exact ⟨rfl, rfl⟩
      | 2, h => cases h; exact ⟨rfl, rfl⟩⟩
  | z => exact ⟨_, rfl, rfl, fun i a b h => by cases h⟩
theorem seq_nat' {j n : Nat} (h : j < n) : seqIndex? (j : Int) n = some j := by
  unfold seqIndex?
  have h1 : ¬ ((j : Int) < 0) := by omega
  simp only [h1, if_false]
  rw [if_pos (by simp; omega)]
  simp
theorem s_nat {value slice : Expr} {ds : List D} {i : Int} {j : Nat} {d : D} {Q : D → St → Prop} (hi : i = (j : Int)) (hd : ds[j]? = some d) (hsz : ds.length ≤ 1000) (h : Q d st) (hs : autoParam (notSlice slice = true) autoR._auto_1) : W2 g Val X st (subscriptTail value slice) (.tup ds) (.int i) Q E := by
  have hlt := (List.getElem?_eq_some_iff.mp hd).1
  walk_at "k"
  refine s_tup (by rw [hi]; exact seq_nat' hlt) hd h (by (first | lia | omega)) (by (first | lia | omega)) hs
theorem pts_len (r : Row) : r.pts.length ≤ 3 := by cases r <;> simp [Row.pts]
theorem rng_pts (r : Row) : Builtin.Range.rangeSize 1 (r.len : Nat) 2 = ((r.pts.length : Nat) : Int) ∧ Builtin.Range.small 1 (r.len : Nat) 2 = true := by
  cases r
  · show Builtin.Range.rangeSize 1 ((3 : Nat) : Int) 2 = ((1 : Nat) : Int) ∧ Builtin.Range.small 1 ((3 : Nat) : Int) 2 = true; exact ⟨by decide, by decide⟩
  · show Builtin.Range.rangeSize 1 ((3 : Nat) : Int) 2 = ((1 : Nat) : Int) ∧ Builtin.Range.small 1 ((3 : Nat) : Int) 2 = true; exact ⟨by decide, by decide⟩
  · show Builtin.Range.rangeSize 1 ((7 : Nat) : Int) 2 = ((3 : Nat) : Int) ∧ Builtin.Range.small 1 ((7 : Nat) : Int) 2 = true; exact ⟨by decide, by decide⟩
  · show Builtin.Range.rangeSize 1 ((1 : Nat) : Int) 2 = ((0 : Nat) : Int) ∧ Builtin.Range.small 1 ((1 : Nat) : Int) 2 = true; exact ⟨by decide, by decide⟩
theorem s_ptx {value slice : Expr} {r : Row} {i : Nat} {x y : Int} {Q : D → St → Prop} (hp : r.pts[i]? = some (x, y)) (h : Q (.int x) st) (hs : autoParam (notSlice slice = true) autoR._auto_1) : W2 g Val X st (subscriptTail value slice) r.d (.int (1 + (i : Nat) * 2)) Q E := by
  refine hid fun PP9 kk9 => ?_
  obtain ⟨L, e, hl, hx⟩ := row_tup r
  refine kk9 ?_
  clear kk9 PP9
  rw [e]
  exact s_nat (j := 1 + i * 2) (by (first | lia | omega)) (hx i x y hp).1 (by rw [hl]; have := pts_len r; unfold Row.len; (first | lia | omega)) h hs
theorem s_pty {value slice : Expr} {r : Row} {i : Nat} {x y : Int} {Q : D → St → Prop} (hp : r.pts[i]? = some (x, y)) (h : Q (.int y) st) (hs : autoParam (notSlice slice = true) autoR._auto_1) : W2 g Val X st (subscriptTail value slice) r.d (.int (1 + (i : Nat) * 2 + 1)) Q E := by
  refine hid fun PP9 kk9 => ?_
  obtain ⟨L, e, hl, hx⟩ := row_tup r
  refine kk9 ?_
  clear kk9 PP9
  rw [e]
  exact s_nat (j := 1 + i * 2 + 1) (by (first | lia | omega)) (hx i x y hp).2 (by rw [hl]; have := pts_len r; unfold Row.len; (first | lia | omega)) h hs
theorem b_lenRow {r : Row} {Q : D → St → Prop} (h : Q (.int (r.len : Nat)) st) : WCall g X st (.bi "len") [r.d] Q E := by
  refine hid fun PP9 kk9 => ?_
  obtain ⟨L, e, hl, _⟩ := row_tup r
  refine kk9 ?_
  clear kk9 PP9
  rw [e]
  walk_at "k"
  refine b_lenT (by rw [hl]; have := pts_len r; unfold Row.len; (first | lia | omega)) ?_
  rw [hl]; exact h
theorem rngD_at {a c : Int} {n i : Nat} {d : D} (h : (rngD a c n)[i]? = some d) : i < n ∧ d = .int (a + (i : Nat) * c) := by
  unfold rngD at h
  rw [List.getElem?_map] at h
  refine hid fun PP9 kk9 => ?_
  obtain ⟨j, hj, rfl⟩ := Option.map_eq_some_iff.mp h
  obtain ⟨hlt, rfl⟩ := List.getElem?_eq_some_iff.mp hj
  refine kk9 ?_
  clear kk9 PP9
  simp only [List.length_range] at hlt
  exact ⟨hlt, by simp⟩

theorem c_path_points {r : Row} {Q : D → St → Prop} (P : Prg g) (hA : At g X SC (n + 1)) (h : ∀ b μ, μ b = some (.list (ptsD r.pts)) → st.mem b = none → Mod [] st.mem μ → Q (.ref b) ⟨st.loc, μ⟩) : WCall g X st (.ref 222) [r.d] Q E := by
  refine (P.path_points.fn.call hA rfl fun X' hA hC hL Q9 uQ E9 uE => ?_).w
  have hcell := hL "row" fun k => rfl
  refine x_cons ?_
  refine x_ret ?_
  walk_at "k"
  refine r_comp hA ⟨rfl, rfl, by decide, by decide, by decide⟩ (cellsHere ["row"] rfl (by intro x hx; cases List.mem_singleton.mp hx; exact hcell)) ?_
  walk_at "k"
  refine r_call hA P.range trivial ?_
  walk_at "mg"
  refine r_call hA P.len trivial ?_
  walk_at "mg"
  refine b_lenRow ?_
  walk_at "mg"
  refine b_range3 (by decide) (by decide) ?_
  obtain ⟨hr1, hr2⟩ := rng_pts r
  refine ⟨rngD 1 2 r.pts.length, _, fun i out μ => out = (ptsD r.pts).take i ∧ Mod [] st.mem μ, ⟨.rng hr2 hr1, by simp [rngD]; have := pts_len r; (first | lia | omega), fun _ _ _ _ _ _ _ _ => trivial, ⟨rfl, Mod.refl⟩, ?_⟩, ?_⟩
  · rintro XC hAC i out μ b d hd ⟨rfl, hm⟩ hb
    obtain ⟨hi, rfl⟩ := rngD_at hd
    obtain ⟨p, hp⟩ : ∃ p, r.pts[i]? = some p := ⟨_, List.getElem?_eq_getElem hi⟩
    obtain ⟨x, y⟩ := p
    walk_at "k"
    refine s_name hAC ?_ (by decide)
    refine t_nil ⟨fun _ => ?_, fun z => by cases z⟩
    walk_at "mg"
    refine s_ptx hp ?_
    walk_at "mg"
    refine s_pty hp ?_
    walk_at "mg"
    refine CFin.of (LLess.cap (by decide)) (set_same _ _) ⟨?_, fun a c ha e => del_get (set_new hb (hm.get0 e)) (ne_of (hm.get0 e) hb)⟩
    rw [List.take_add_one, List.getElem?_map, hp]
    rfl
  · rintro out μ b ⟨rfl, hm⟩ hb
    have : (ptsD r.pts).take (rngD 1 2 r.pts.length).length = ptsD r.pts := List.take_of_length_le (by simp [rngD])
    rw [this]
    walk_at "mg"
    exact h b _ (set_same _ _) (hm.none (by simp) hb) (hm.new hb)
end
end
section
section
variable {g : Gd} {X : Fx} {SC : Scope} {n : Nat} {st : St} {E : EP} {μ ν ρ : Mem}
noncomputable abbrev Pt := Int × Int
noncomputable abbrev Pt.d (p : Pt) : D := ptT p.1 p.2
noncomputable def half (a b : Pt) : Pt := ((a.1 + b.1).fdiv 2, (a.2 + b.2).fdiv 2)
structure Cv where
  a : Pt
  b : Pt
  c : Pt
  d : Pt
noncomputable def Cv.t (k : Cv) : D := .tup [Pt.d k.a, Pt.d k.b, Pt.d k.c, Pt.d k.d]
noncomputable def Cv.ahead (k : Cv) : Cv := ⟨k.a, half k.a k.b, half (half k.a k.b) (half k.b k.c), half (half (half k.a k.b) (half k.b k.c)) (half (half k.b k.c) (half k.c k.d))⟩
noncomputable def Cv.behind (k : Cv) : Cv := ⟨half (half (half k.a k.b) (half k.b k.c)) (half (half k.b k.c) (half k.c k.d)), half (half k.b k.c) (half k.c k.d), half k.c k.d, k.d⟩
theorem c_path_half {a b : Pt} {Q : D → St → Prop} (P : Prg g) (hA : At g X SC (n + 1)) (h : Q (Pt.d (half a b)) st) : WCall g X st (.ref 255) [Pt.d a, Pt.d b] Q E := by
  obtain ⟨a1, a2⟩ := a
  obtain ⟨b1, b2⟩ := b
  refine (P.path_half.fn.call hA rfl fun X' hA hC hL Q9 uQ E9 uE => ?_).w
  refine x_cons ?_
  simp only [Pt.d, ptT]
  walk_at "mg"
  refine o_div (by decide) (by decide) ?_
  walk_at "mg"
  refine o_div (by decide) (by decide) ?_
  walk_at "mg"
  exact h
theorem c_path_halves {k : Cv} {Q : D → St → Prop} (P : Prg g) (hA : At g X SC (n + 2)) (h : Q (.tup [k.ahead.t, k.behind.t]) st) : WCall g X st (.ref 262) [k.t] Q E := by
  refine hid fun PP9 kk9 => ?_
  obtain ⟨a, b, c, d⟩ := k
  refine kk9 ?_
  clear kk9 PP9
  refine (P.path_halves.fn.call hA rfl fun X' hA hC hL Q9 uQ E9 uE => ?_).w
  refine x_cons ?_
  refine x_unpack hA ?_
  walk_at "mg"
  refine s_unpack (ds := [Pt.d a, Pt.d b, Pt.d c, Pt.d d]) hA rfl (ts := [_, _, _, _]) rfl ?_
  refine in_cons (s_name hA (in_cons (s_name hA (in_cons (s_name hA (in_cons (s_name hA (in_nil ?_))))))))
  walk_at "mg"
  refine x_swap3 (x := "ab") (y := "bc") (z := "cd") hA ?_
  walk_at "mg"
  refine r_call hA P.path_half.glob P.path_half.keep ?_
  walk_at "mg"
  refine c_path_half P hA ?_
  walk_at "mg"
  refine r_call hA P.path_half.glob P.path_half.keep ?_
  walk_at "mg"
  refine c_path_half P hA ?_
  walk_at "mg"
  refine r_call hA P.path_half.glob P.path_half.keep ?_
  walk_at "mg"
  refine c_path_half P hA ?_
  walk_at "mg"
  refine x_swap2 (x := "abc") (y := "bcd") hA ?_
  walk_at "mg"
  refine r_call hA P.path_half.glob P.path_half.keep ?_
  walk_at "mg"
  refine c_path_half P hA ?_
  walk_at "mg"
  refine r_call hA P.path_half.glob P.path_half.keep ?_
  walk_at "mg"
  refine c_path_half P hA ?_
  walk_at "mg"
  refine r_call hA P.path_half.glob P.path_half.keep ?_
  walk_at "mg"
  refine c_path_half P hA ?_
  walk_at "mg"
  exact h
end
end
section
section
variable {g : Gd} {X : Fx} {SC : Scope} {n : Nat} {st : St} {E : EP} {μ ν ρ : Mem}
noncomputable def absI (x : Int) : Int := if x < 0 then -x else x
noncomputable def maxI (i j : Int) : Int := if j > i then j else i
noncomputable def dev (a b c d : Int) : Int := maxI (absI (3 * b - 2 * a - d)) (absI (3 * c - 2 * d - a))
noncomputable def Cv.far (k : Cv) : Nat → Int
  | 0 => 0
  | 1 => 0 + dev k.a.1 k.b.1 k.c.1 k.d.1 ^ (2 : Int).toNat
  | _ => 0 + dev k.a.1 k.b.1 k.c.1 k.d.1 ^ (2 : Int).toNat + dev k.a.2 k.b.2 k.c.2 k.d.2 ^ (2 : Int).toNat
noncomputable def Cv.flat (k : Cv) (fl : Int) : Bool := decide (k.far 2 ≤ 16 * fl ^ (2 : Int).toNat)
noncomputable def InP (p : Pt) : Prop := -10000 ≤ p.1 ∧ p.1 ≤ 10000 ∧ -10000 ≤ p.2 ∧ p.2 ≤ 10000
noncomputable def Cv.In (k : Cv) : Prop := InP k.a ∧ InP k.b ∧ InP k.c ∧ InP k.d
theorem sq_ok {x : Int} (h : -1000000 ≤ x) (h' : x ≤ 1000000) : (Builtin.Int.intBits x : Int) * 2 ≤ 2 ^ 27 := by
  have := PySem.intBits_le_64 (k := x) (by (first | lia | omega)) (by (first | lia | omega))
  (first | lia | omega)
theorem dev_ok {a b c d : Int} (h : -10000 ≤ a ∧ a ≤ 10000) (h2 : -10000 ≤ b ∧ b ≤ 10000) (h3 : -10000 ≤ c ∧ c ≤ 10000) (h4 : -10000 ≤ d ∧ d ≤ 10000) : -1000000 ≤ dev a b c d ∧ dev a b c d ≤ 1000000 := by
  unfold dev maxI absI
  constructor <;> repeat' split
  all_goals (first | lia | omega)

theorem c_path_is_flat {k : Cv} {fl : Int} {Q : D → St → Prop} (P : Prg g) (hA : At g X SC (n + 1)) (hk : k.In) (hf : 0 ≤ fl) (hf' : fl ≤ 10000) (h : Q (.bool (k.flat fl)) st) : WCall g X st (.ref 269) [k.t, .int fl] Q E := by
  refine hid fun PP9 kk9 => ?_
  obtain ⟨a, b, c, d⟩ := k
  obtain ⟨h1, h2, h3, h4⟩ := hk
  refine kk9 ?_
  clear kk9 PP9
  refine (P.path_is_flat.fn.call hA rfl fun X' hA hC hL Q9 uQ E9 uE => ?_).w
  refine x_cons ?_
  refine x_unpack hA ?_
  walk_at "mg"
  refine s_unpack (ds := [Pt.d a, Pt.d b, Pt.d c, Pt.d d]) hA rfl (ts := [_, _, _, _]) rfl ?_
  refine in_cons (s_name hA (in_cons (s_name hA (in_cons (s_name hA (in_cons (s_name hA (in_nil ?_))))))))
  walk_at "mg"
  refine hid fun PP9 kk9 => ?_
  obtain ⟨a1, a2⟩ := a
  obtain ⟨b1, b2⟩ := b
  obtain ⟨c1, c2⟩ := c
  obtain ⟨d1, d2⟩ := d
  obtain ⟨p1, p2, p3, p4⟩ := h1
  obtain ⟨q1, q2, q3, q4⟩ := h2
  obtain ⟨r1, r2, r3, r4⟩ := h3
  obtain ⟨s1, s2, s3, s4⟩ := h4
  refine kk9 ?_
  clear kk9 PP9
  dsimp only at p1 p2 p3 p4 q1 q2 q3 q4 r1 r2 r3 r4 s1 s2 s3 s4
  simp only [Pt.d, ptT]
  refine x_for hA (Wp.less ?_)
  walk_at "mg"
  refine ⟨(((((noLoc.set "flatness" (.int fl)).set "a" (.tup [.int a1, .int a2])).set "b" (.tup [.int b1, .int b2])).set "c" (.tup [.int c1, .int c2])).set "d" (.tup [.int d1, .int d2])).set "far" (.int 0), st.mem,
    ((((LLess.nil.cons rfl).cons3 rfl rfl rfl).cons rfl).cons rfl), Less.refl, [.int 0, .int 1], _,
    fun i st' => st' = ⟨(((((noLoc.set "flatness" (.int fl)).set "a" (.tup [.int a1, .int a2])).set "b" (.tup [.int b1, .int b2])).set "c" (.tup [.int c1, .int c2])).set "d" (.tup [.int d1, .int d2])).set "far" (.int (Cv.far ⟨(a1, a2), (b1, b2), (c1, c2), (d1, d2)⟩ i)), st.mem⟩,
    .tup, fun _ _ _ => trivial, rfl, ?_, ?_⟩
  · rintro i dd st' hd rfl
    obtain ⟨w1, w2⟩ := dev_ok ⟨p1, p2⟩ ⟨q1, q2⟩ ⟨r1, r2⟩ ⟨s1, s2⟩
    obtain ⟨w3, w4⟩ := dev_ok ⟨p3, p4⟩ ⟨q3, q4⟩ ⟨r3, r4⟩ ⟨s3, s4⟩
    match i, hd with
    | 0, hd =>
      cases hd
      walk_at "k"
      refine s_name hA ?_ (by decide)
      walk_at "mg"
      refine r_call hA P.abs trivial ?_
      walk_at "mg"
      refine b_abs ?_
      walk_at "mg"
      refine r_call hA P.abs trivial ?_
      walk_at "mg"
      refine b_abs ?_
      walk_at "mg"
      refine r_call hA P.max trivial ?_
      walk_at "mg"
      refine b_max hA ?_
      walk_at "mg"
      refine o_pow (by decide) (sq_ok w1 w2) ?_
      walk_at "mg"
      refine Wp.fit (by with_reducible assumption) ?_
      refine x_done _ st.mem ((((LLess.nil.cons rfl).cons3 rfl rfl rfl).cons rfl).cons rfl) Less.refl rfl
    | 1, hd =>
      cases hd
      walk_at "k"
      refine s_name hA ?_ (by decide)
      walk_at "mg"
      refine r_call hA P.abs trivial ?_
      walk_at "mg"
      refine b_abs ?_
      walk_at "mg"
      refine r_call hA P.abs trivial ?_
      walk_at "mg"
      refine b_abs ?_
      walk_at "mg"
      refine r_call hA P.max trivial ?_
      walk_at "mg"
      refine b_max hA ?_
      walk_at "mg"
      refine o_pow (by decide) (sq_ok w3 w4) ?_
      walk_at "mg"
      refine Wp.fit (by with_reducible assumption) ?_
      refine x_done _ st.mem ((((LLess.nil.cons rfl).cons3 rfl rfl rfl).cons rfl).cons rfl) Less.refl rfl
  · rintro st' rfl
    walk_at "mg"
    refine o_pow (by decide) (sq_ok (by (first | lia | omega)) (by (first | lia | omega))) ?_
    walk_at "mg"
    exact h
end
end
section
section
variable {g : Gd} {X : Fx} {SC : Scope} {n : Nat} {st : St} {E : EP} {μ ν ρ : Mem}
theorem Wp.pre {α β : Type} {R : Heap → β → α → Prop} {t : Sem α} {Q : β → St → Prop} {loc : Loc} {ρ : Mem} (hl : LLess loc st.loc) (hm : Less ρ st.mem) (h : Wp g R X ⟨loc, ρ⟩ t Q E) : Wp g R X st t Q E := by
  intro s hr
  have up : ∀ {σ' : Mem} {s' : Shared}, Ext X ρ s σ' s' → Ext X st.mem s σ' s' := fun x => ⟨fun b o e hb ht => x.same b o e (hm.none hb) ht, x.slots, fun b o e hb ht => x.new b o e (hm.none hb) ht, x.gens, x.os, x.drawn, x.more⟩
  exact wpAny_mono (h s (hr.less hl hm)) (fun a s' ⟨b, st', h1, h2, h3, h4⟩ => ⟨b, st', h1, h2, up h3, h4⟩) fun e s' ⟨d, st', h1, h2, h3⟩ => ⟨d, st', h1, up h2, h3⟩
noncomputable def ends (fl : Int) : Nat → Cv → List Pt
  | 0, k => [k.d]
  | f + 1, k => if k.flat fl = true then [k.d] else ends fl f k.ahead ++ ends fl f k.behind
theorem half_in {a b : Pt} (ha : InP a) (hb : InP b) : InP (half a b) := by
  refine hid fun PP9 kk9 => ?_
  obtain ⟨h1, h2, h3, h4⟩ := ha
  obtain ⟨q1, q2, q3, q4⟩ := hb
  refine kk9 ?_
  clear kk9 PP9
  unfold half InP
  rw [Int.fdiv_eq_ediv_of_nonneg _ (by decide), Int.fdiv_eq_ediv_of_nonneg _ (by decide)]
  dsimp only
  refine ⟨?_, ?_, ?_, ?_⟩ <;> (first | lia | omega)
theorem Cv.In.ahead {k : Cv} (h : k.In) : k.ahead.In := by
  refine hid fun PP9 kk9 => ?_
  obtain ⟨h1, h2, h3, h4⟩ := h
  refine kk9 ?_
  clear kk9 PP9
  exact ⟨h1, half_in h1 h2, half_in (half_in h1 h2) (half_in h2 h3), half_in (half_in (half_in h1 h2) (half_in h2 h3)) (half_in (half_in h2 h3) (half_in h3 h4))⟩
theorem Cv.In.behind {k : Cv} (h : k.In) : k.behind.In := by
  refine hid fun PP9 kk9 => ?_
  obtain ⟨h1, h2, h3, h4⟩ := h
  refine kk9 ?_
  clear kk9 PP9
  exact ⟨half_in (half_in (half_in h1 h2) (half_in h2 h3)) (half_in (half_in h2 h3) (half_in h3 h4)), half_in (half_in h2 h3) (half_in h3 h4), half_in h3 h4, h4⟩
theorem ends_len (fl : Int) : ∀ (f : Nat) (k : Cv), (ends fl f k).length ≤ 2 ^ f
  | 0, k => by simp [ends]
  | f + 1, k => by
    unfold ends
    have h1 := ends_len fl f k.ahead
    have h2 := ends_len fl f k.behind
    split
    · have := Nat.one_le_two_pow (n := f + 1); simpa using this
    · rw [List.length_append, Nat.pow_succ]; (first | lia | omega)
noncomputable def elD (p : Cv × Nat) : D := .tup [p.1.t, .int (10 - (p.2 : Nat))]
noncomputable def weight : List (Cv × Nat) → Nat
  | [] => 0
  | p :: S => (2 ^ (p.2 + 1) - 1) + weight S
theorem weight_len : ∀ S : List (Cv × Nat), S.length ≤ weight S
  | [] => Nat.le_refl _
  | p :: S => by
    have := weight_len S
    have h2 : 2 ≤ 2 ^ (p.2 + 1) := by have := Nat.one_le_two_pow (n := p.2); rw [Nat.pow_succ]; omega
    simp only [weight, List.length_cons]; omega
noncomputable def drain (fl : Int) (S : List (Cv × Nat)) : List Pt := S.flatMap fun p => ends fl p.2 p.1
theorem s_t3 {k : Cv} {value slice : Expr} {Q : D → St → Prop} (h : Q (Pt.d k.d) st) (hs : autoParam (notSlice slice = true) autoR._auto_1) : W2 g Val X st (subscriptTail value slice) k.t (.int 3) Q E :=
  s_tup (ds := [Pt.d k.a, Pt.d k.b, Pt.d k.c, Pt.d k.d]) (j := 3) rfl rfl h (by decide) (by decide) hs

theorem c_curve_ends {k : Cv} {fl : Int} {Q : D → St → Prop} (P : Prg g) (hA : At g X SC (n + 3)) (hk : k.In) (hf : 0 ≤ fl) (hf' : fl ≤ 10000)
    (h : ∀ b μ, μ b = some (.list ((ends fl 10 k).map Pt.d)) → st.mem b = none → Mod [] st.mem μ → Q (.ref b) ⟨st.loc, μ⟩) : WCall g X st (.ref 276) [k.t, .int fl] Q E := by
  refine (P.path_curve_ends.fn.call hA rfl fun X' hA hC hL Q9 uQ E9 uE => ?_).w
  refine x_cons ?_
  refine x_swap2 (x := "found") (y := "waiting") hA ?_
  walk_at "mg"
  intro f hf0
  walk_at "mg"
  intro w hw0
  walk_at "mg"
  have hwf : w ≠ f := fun z => by rw [z, set_same] at hw0; cases hw0
  have hw1 : st.mem w = none := by rw [set_ne hwf] at hw0; exact hw0
  have htot := ends_len fl 10 k
  refine Wp.pre (loc := (((noLoc.set "points" k.t).set "flatness" (.int fl)).set "found" (.ref f)).set "waiting" (.ref w)) ((LLess.nil.cons rfl).cons3 rfl rfl rfl) Less.refl ?_
  refine x_while hA (fun m st' => ∃ (fs : List Pt) (S : List (Cv × Nat)) (μ' : Mem), st' = ⟨(((noLoc.set "points" k.t).set "flatness" (.int fl)).set "found" (.ref f)).set "waiting" (.ref w), μ'⟩ ∧ μ' f = some (.list (fs.map Pt.d)) ∧
    μ' w = some (.list (S.map elD).reverse) ∧ fs ++ drain fl S = ends fl 10 k ∧ (∀ p ∈ S, p.1.In ∧ p.2 ≤ 10) ∧ m = weight S ∧ weight S ≤ 10000 ∧ Mod [] st.mem μ') (k := weight [(k, 10)]) ?_ ?_
  · refine ⟨[], [(k, 10)], _, rfl, ?_, ?_, by simp [drain], by intro p hp; cases List.mem_singleton.mp hp; exact ⟨hk, Nat.le_refl _⟩, rfl, (show (2047 : Nat) ≤ 10000 by decide), ?_⟩
    · exact set_new hw0 (set_same _ _)
    · exact set_same _ _
    · exact (Mod.refl.new hf0).new hw0
  · intro m st' hh9
    refine hid fun PP9 kk9 => ?_
    obtain ⟨fs, S, μ', rfl, e1, e2, e3, e4, rfl, e5, e6⟩ := hh9
    refine kk9 ?_
    clear kk9 PP9
    have hwl := weight_len S
    walk_at "mg"
    intro a ha
    walk_at "k"
    refine c_neNil hA (set_new ha e2) (set_same _ _) ?_
    walk_at "mg"
    have m1 : Mod [] st.mem (μ'.set a (.list [])) := e6.new ha
    cases S with
    | nil =>
      refine ⟨fun hx => absurd hx (by simp), fun _ => ?_⟩
      walk_at "mg"
      refine h f _ ?_ hf0 m1
      have : fs = ends fl 10 k := by simpa [drain] using e3
      rw [← this]; exact set_new ha e1
    | cons p S =>
      obtain ⟨c, u⟩ := p
      obtain ⟨hc, hu⟩ := e4 (c, u) List.mem_cons_self
      refine ⟨fun _ => ?_, fun hx => absurd hx (by simp)⟩
      refine x_cons (x_unpack hA ?_)
      walk_at "k"
      refine r_pop hA ?_
      walk_at "mg"
      have e2' : (μ'.set a (.list [])) w = some (.list ((S.map elD).reverse ++ [elD (c, u)])) := by rw [set_new ha e2]; simp
      refine ⟨w, _, rfl, e2', ?_⟩
      walk_at "mg"
      refine b_pop hA (by exact e2') (by simp at hwl ⊢; (first | lia | omega)) ?_
      walk_at "k"
      refine s_unpack (ds := [c.t, .int (10 - (u : Nat))]) hA rfl (ts := [_, _]) rfl ?_
      refine in_cons (s_name hA (in_cons (s_name hA (in_nil ?_))))
      walk_at "mg"
      have e7 : ((μ'.set a (.list [])).set w (.list (S.map elD).reverse)) f = some (.list (fs.map Pt.d)) := set_get (Ne.symm hwf) (set_new ha e1)
      have e8 : Mod [] st.mem ((μ'.set a (.list [])).set w (.list (S.map elD).reverse)) := m1.put (.inr hw1)
      have hdr : drain fl ((c, u) :: S) = ends fl u c ++ drain fl S := rfl
      rw [hdr] at e3
      have hfs : fs.length ≤ 1024 := by
                                        have := congrArg List.length e3
                                        simp only [List.length_append] at this
                                        have h10 : (2 : Nat) ^ 10 = 1024 := (by decide)
                                        (first | lia | omega)
      have hw2 : weight ((c, u) :: S) = (2 ^ (u + 1) - 1) + weight S := rfl
      have h2u : 2 ≤ 2 ^ (u + 1) := by have := Nat.one_le_two_pow (n := u); rw [Nat.pow_succ]; (first | lia | omega)
      walk_at "k"
      refine r_glob hA P.halvings ?_ (by decide) (by decide)
      walk_at "mg"
      have leaf : ∀ (Q1 : AF → St → Prop) (E1 : EP) (loc : Loc), LLess ((((noLoc.set "points" k.t).set "flatness" (.int fl)).set "found" (.ref f)).set "waiting" (.ref w)) loc → ends fl u c = [c.d] →
          WS g X' ⟨loc, (((μ'.set a (.list [])).set w (.list (S.map elD).reverse)).set f (.list (fs.map Pt.d ++ [Pt.d c.d])))⟩ [] (ForQ (fun st3 => ∃ m, m < weight ((c, u) :: S) ∧ ∃ (fs : List Pt) (S : List (Cv × Nat)) (μ' : Mem), st3 = ⟨(((noLoc.set "points" k.t).set "flatness" (.int fl)).set "found" (.ref f)).set "waiting" (.ref w), μ'⟩ ∧ μ' f = some (.list (fs.map Pt.d)) ∧
            μ' w = some (.list (S.map elD).reverse) ∧ fs ++ drain fl S = ends fl 10 k ∧ (∀ p ∈ S, p.1.In ∧ p.2 ≤ 10) ∧ m = weight S ∧ weight S ≤ 10000 ∧ Mod [] st.mem μ') Q1) E1 := fun Q1 E1 loc hl he =>
        x_done _ _ hl Less.refl ⟨weight S, by rw [hw2]; (first | lia | omega), fs ++ [c.d], S, _, rfl, (set_same _ _).trans (by simp), set_get hwf (set_same _ _), by rw [← e3, he]; simp, fun p hp => e4 p (List.mem_cons_of_mem _ hp), rfl, by rw [hw2] at e5; (first | lia | omega), e8.put (.inr hf0)⟩
      refine ⟨fun hx => ?_, fun hx => ?_⟩
      · have hu0 : u = 0 := by simp at hx; (first | lia | omega)
        subst hu0
        walk_at "go"
        refine r_append hA ?_
        walk_at "mg"
        refine ⟨f, _, rfl, e7, ?_⟩
        walk_at "mg"
        try (refine s_t3 ?_; walk_at "mg")
        refine b_append hA (by exact e7) (by simp; (first | lia | omega)) ?_
        walk_at "mg"
        refine Wp.fit (by with_reducible assumption) ?_
        exact leaf _ _ _ ((LLess.nil.cons rfl).cons3 rfl rfl rfl) rfl
      · have hu1 : 0 < u := by simp at hx; (first | lia | omega)
        obtain ⟨v, rfl⟩ : ∃ v, u = v + 1 := ⟨u - 1, by (first | lia | omega)⟩
        walk_at "go"
        refine r_call hA P.path_is_flat.glob P.path_is_flat.keep ?_
        walk_at "mg"
        refine c_path_is_flat P hA hc hf hf' ?_
        walk_at "mg"
        refine ⟨fun hx => ?_, fun hx => ?_⟩
        · walk_at "go"
          refine r_append hA ?_
          walk_at "mg"
          refine ⟨f, _, rfl, e7, ?_⟩
          walk_at "mg"
          try (refine s_t3 ?_; walk_at "mg")
          refine b_append hA (by exact e7) (by simp; (first | lia | omega)) ?_
          walk_at "mg"
          refine Wp.fit (by with_reducible assumption) ?_
          exact leaf _ _ _ ((LLess.nil.cons rfl).cons3 rfl rfl rfl) (by unfold ends; rw [if_pos hx])
        · have hen : ends fl (v + 1) c = ends fl v c.ahead ++ ends fl v c.behind := by
            rw [ends, if_neg (by simpa using hx)]
          walk_at "go"
          refine x_unpack hA ?_
          walk_at "k"
          refine r_call hA P.path_halves.glob P.path_halves.keep ?_
          walk_at "mg"
          refine c_path_halves P hA ?_
          walk_at "k"
          refine s_unpack (ds := [c.ahead.t, c.behind.t]) hA rfl (ts := [_, _]) rfl ?_
          refine in_cons (s_name hA (in_cons (s_name hA (in_nil ?_))))
          walk_at "mg"
          have e9 : ((μ'.set a (.list [])).set w (.list (S.map elD).reverse)) w = some (.list (S.map elD).reverse) := set_same _ _
          have hdp : (10 - ((v + 1 : Nat) : Int)) + 1 = 10 - (v : Nat) := by (first | lia | omega)
          walk_at "k"
          refine r_append hA ?_
          walk_at "mg"
          refine ⟨w, _, rfl, e9, ?_⟩
          walk_at "mg"
          rw [hdp]
          walk_at "k"
          refine b_append hA (by exact e9) (by simp at hwl ⊢; (first | lia | omega)) ?_
          walk_at "mg"
          have e10 : (((μ'.set a (.list [])).set w (.list (S.map elD).reverse)).set w (.list ((S.map elD).reverse ++ [elD (c.behind, v)]))) w = some (.list ((S.map elD).reverse ++ [elD (c.behind, v)])) := set_same _ _
          walk_at "k"
          refine r_append hA ?_
          walk_at "mg"
          refine ⟨w, _, rfl, e10, ?_⟩
          walk_at "mg"
          rw [hdp]
          walk_at "k"
          refine b_append hA (by exact e10) (by simp at hwl ⊢; (first | lia | omega)) ?_
          walk_at "mg"
          have hp2 : 1 ≤ 2 ^ (v + 1) := Nat.one_le_two_pow
          have hpp : 2 ^ (v + 1 + 1) = 2 ^ (v + 1) * 2 := Nat.pow_succ ..
          have hw3 : weight ((c.ahead, v) :: (c.behind, v) :: S) = (2 ^ (v + 1) - 1) + ((2 ^ (v + 1) - 1) + weight S) := rfl
          have hlt : weight ((c.ahead, v) :: (c.behind, v) :: S) < weight ((c, v + 1) :: S) := by rw [hw2, hw3]; (first | lia | omega)
          refine Wp.fit (by with_reducible assumption) ?_
          refine x_done _ _ ((LLess.nil.cons rfl).cons3 rfl rfl rfl) Less.refl ⟨weight ((c.ahead, v) :: (c.behind, v) :: S), hlt, fs, (c.ahead, v) :: (c.behind, v) :: S, _, rfl,
            set_get (Ne.symm hwf) (set_get (Ne.symm hwf) e7), (set_same _ _).trans (by simp [elD]), ?_, ?_, rfl, by (first | lia | omega), (e8.put (.inr hw1)).put (.inr hw1)⟩
          · rw [← e3, hen]; simp [drain]
          · intro p hp
            rcases List.mem_cons.mp hp with rfl | hp
            · exact ⟨hc.ahead, by dsimp only at hu ⊢; (first | lia | omega)⟩
            rcases List.mem_cons.mp hp with rfl | hp
            · exact ⟨hc.behind, by dsimp only at hu ⊢; (first | lia | omega)⟩
            exact e4 p (List.mem_cons_of_mem _ hp)
end
end
section
/-! ## Rows with lines in the place of curves -/
noncomputable def flatRow (fl : Int) (h : Option Pt) (r : Row) : List Row := match r, h with
  | .c x1 y1 x2 y2 x3 y3, some p => (ends fl 10 ⟨p, (x1, y1), (x2, y2), (x3, y3)⟩).map fun q => .l q.1 q.2
  | .c .., none => []
  | .m x y, _ => [.m x y]
  | .l x y, _ => [.l x y]
  | .z, _ => [.z]
noncomputable def hereN (h : Option Pt) (r : Row) : Option Pt := r.pts.getLast?.or h
noncomputable def flatAll (fl : Int) : Option Pt → List Row → List Row
  | _, [] => []
  | h, r :: rs => flatRow fl h r ++ flatAll fl (hereN h r) rs
noncomputable def Ready : Option Pt → List Row → Prop
  | _, [] => True
  | h, r :: rs => (r.w = "c" → h ≠ none) ∧ Ready (hereN h r) rs
theorem flatRow_other {fl : Int} {h : Option Pt} {r : Row} (hr : r.w ≠ "c") : flatRow fl h r = [r] := by
  cases r with
  | c => exact absurd rfl hr
  | m => rfl
  | l => rfl
  | z => rfl
end
section
section
variable {g : Gd} {X : Fx} {SC : Scope} {n : Nat} {st : St} {E : EP} {μ ν ρ : Mem}
theorem c_path_flattened {o : Addr} {rows : List Row} {fl most : Int} {Q : D → St → Prop} (P : Prg g) (hA : At g X SC (n + 4)) (ho : st.mem o = some (.list (rowsD rows))) (hlen : rows.length ≤ 900) (hf : 0 ≤ fl) (hf' : fl ≤ 10000)
    (hbd : ∀ r ∈ rows, Bd 100 r) (hr : Ready none rows)
    (hok : ∀ f μ, μ f = some (.list (rowsD (flatAll fl none rows))) → st.mem f = none → Mod [] st.mem μ → Q (.ref f) ⟨st.loc, μ⟩)
    (hno : most < ((flatAll fl none rows).length : Nat) → ∀ μ, Mod [] st.mem μ → E (.bytes limitB) ⟨st.loc, μ⟩) : WCall g X st (.ref 284) [.ref o, .int fl, .int most] Q E := by
  refine (P.path_flattened.fn.call hA rfl fun X' hA hC hL Q9 uQ E9 uE => ?_).w
  refine x_cons ?_
  refine x_swap2 (x := "found") (y := "here") hA ?_
  walk_at "mg"
  intro f hf0
  walk_at "mg"
  have hof : o ≠ f := fun z => by rw [z, hf0] at ho; cases ho
  refine x_for hA (Wp.less ?_)
  walk_at "k"
  refine r_name hA rfl ?_
  refine ⟨((bindD ["rows", "flatness", "most"] [.ref o, .int fl, .int most] noLoc).set "here" .none).set "found" (.ref f), st.mem.set f (.list []), LLess.refl, Less.refl, rowsD rows, _,
    fun i st' => ∃ (fs : List Row) (h : Option Pt) (μ' : Mem), st' = ⟨((bindD ["rows", "flatness", "most"] [.ref o, .int fl, .int most] noLoc).set "here" (optD h)).set "found" (.ref f), μ'⟩ ∧ μ' f = some (.list (rowsD fs)) ∧
      fs ++ flatAll fl h (rows.drop i) = flatAll fl none rows ∧ Ready h (rows.drop i) ∧ (∀ p, h = some p → InP p) ∧ fs.length ≤ 1024 * i ∧ Mod [] st.mem μ',
    .list (set_new hf0 ho), ?_, ⟨[], none, _, rfl, set_same _ _, rfl, hr, by simp, by simp, Mod.refl.new hf0⟩, ?_, ?_⟩
  · rintro i st' ⟨fs, h, μ', rfl, _, _, _, _, _, hm⟩; exact hm.get (by simp) ho
  · intro i d st' hd hh9
    refine hid fun PP9 kk9 => ?_
    obtain ⟨fs, h, μ', rfl, hfs, heq, hrd, hin, hle, hm⟩ := hh9
    refine kk9 ?_
    clear kk9 PP9
    obtain ⟨r, hr', rfl⟩ := rows_at hd
    have hi : i < rows.length := (List.getElem?_eq_some_iff.mp hr').1
    rw [drop_at hr'] at heq hrd
    walk_at "k"
    refine s_name hA ?_ (by decide)
    cases r with
    | z =>
      dsimp only [Row.d]
      walk_at "go"
      refine r_append hA ?_
      walk_at "mg"
      refine ⟨f, _, rfl, hfs, ?_⟩
      walk_at "mg"
      refine b_append hA (by exact hfs) (by first | exact rows_le (by first | lia | omega) | (simp [rowsD]; first | lia | omega)) ?_
      walk_at "go"
      refine Wp.fit (by with_reducible assumption) ?_
      refine x_done _ _ ((((LLess.nil.cons rfl).cons3 rfl rfl rfl).cons rfl)) Less.refl ⟨fs ++ [.z], h, _, rfl, (set_same _ _).trans (by simp [rowsD, Row.d]), by rw [← heq]; simp [flatAll, flatRow, hereN, Row.pts], hrd.2, hin, by simp; (first | lia | omega), hm.put (.inr hf0)⟩
    | m x y =>
      have hxy : InP (x, y) := by have h1 := hbd _ (List.mem_of_getElem? hr') x (by simp [Row.coords]); have h2 := hbd _ (List.mem_of_getElem? hr') y (by simp [Row.coords]); unfold InP; dsimp only; (first | lia | omega)
      dsimp only [Row.d]
      walk_at "go"
      refine r_append hA ?_
      walk_at "mg"
      refine ⟨f, _, rfl, hfs, ?_⟩
      walk_at "mg"
      refine b_append hA (by exact hfs) (by first | exact rows_le (by first | lia | omega) | (simp [rowsD]; first | lia | omega)) ?_
      walk_at "go"
      refine r_call hA P.path_points.glob P.path_points.keep ?_
      walk_at "mg"
      refine c_path_points (r := .m x y) P hA fun b μ2 hb2 hn2 hm2 => ?_
      walk_at "mg"
      refine s_list_last hb2 (d := ptT x y) rfl ?_
      walk_at "go"
      refine Wp.fit (by with_reducible assumption) ?_
      refine x_done _ _ ((((LLess.nil.cons rfl).cons3 rfl rfl rfl).cons rfl)) Less.refl ⟨fs ++ [.m x y], some (x, y), _, rfl, hm2.get0 ((set_same _ _).trans (by simp [rowsD, Row.d])), by rw [← heq]; simp [flatAll, flatRow, hereN, Row.pts], hrd.2, by rintro p hp; cases hp; exact hxy, by simp; (first | lia | omega), (hm.put (.inr hf0)).trans hm2⟩
    | l x y =>
      have hxy : InP (x, y) := by have h1 := hbd _ (List.mem_of_getElem? hr') x (by simp [Row.coords]); have h2 := hbd _ (List.mem_of_getElem? hr') y (by simp [Row.coords]); unfold InP; dsimp only; (first | lia | omega)
      dsimp only [Row.d]
      walk_at "go"
      refine r_append hA ?_
      walk_at "mg"
      refine ⟨f, _, rfl, hfs, ?_⟩
      walk_at "mg"
      refine b_append hA (by exact hfs) (by first | exact rows_le (by first | lia | omega) | (simp [rowsD]; first | lia | omega)) ?_
      walk_at "go"
      refine r_call hA P.path_points.glob P.path_points.keep ?_
      walk_at "mg"
      refine c_path_points (r := .l x y) P hA fun b μ2 hb2 hn2 hm2 => ?_
      walk_at "mg"
      refine s_list_last hb2 (d := ptT x y) rfl ?_
      walk_at "go"
      refine Wp.fit (by with_reducible assumption) ?_
      refine x_done _ _ ((((LLess.nil.cons rfl).cons3 rfl rfl rfl).cons rfl)) Less.refl ⟨fs ++ [.l x y], some (x, y), _, rfl, hm2.get0 ((set_same _ _).trans (by simp [rowsD, Row.d])), by rw [← heq]; simp [flatAll, flatRow, hereN, Row.pts], hrd.2, by rintro p hp; cases hp; exact hxy, by simp; (first | lia | omega), (hm.put (.inr hf0)).trans hm2⟩
    | c x1 y1 x2 y2 x3 y3 =>
      have hb := hbd _ (List.mem_of_getElem? hr')
      have hI : ∀ v, v ∈ Row.coords (.c x1 y1 x2 y2 x3 y3) → -100 ≤ v ∧ v ≤ 3100 := fun v hv => by have := hb v hv; (first | lia | omega)
      have h1 := hI x1 (by simp [Row.coords]); have h2 := hI y1 (by simp [Row.coords]); have h3 := hI x2 (by simp [Row.coords]); have h4 := hI y2 (by simp [Row.coords]); have h5 := hI x3 (by simp [Row.coords]); have h6 := hI y3 (by simp [Row.coords])
      obtain ⟨p, rfl⟩ : ∃ p, h = some p := Option.ne_none_iff_exists'.mp (hrd.1 rfl)
      have hk : (Cv.mk p (x1, y1) (x2, y2) (x3, y3)).In := ⟨hin p rfl, by unfold InP; dsimp only; (first | lia | omega), by unfold InP; dsimp only; (first | lia | omega), by unfold InP; dsimp only; (first | lia | omega)⟩
      dsimp only [Row.d]
      walk_at "go"
      intro a ha0
      have hfa : f ≠ a := ne_of hfs ha0
      have hma : Mod [] st.mem (μ'.set a (.list [optD (some p)])) := hm.new ha0
      have hfs1 : (μ'.set a (.list [optD (some p)])) f = some (.list (rowsD fs)) := set_new ha0 hfs
      walk_at "k"
      refine r_call hA P.path_points.glob P.path_points.keep ?_
      walk_at "mg"
      refine c_path_points (r := .c x1 y1 x2 y2 x3 y3) P hA fun b μ2 hb2 hn2 hm2 => ?_
      walk_at "mg"
      refine o_addL (hm2.get0 (set_same _ _)) hb2 (by simp [ptsD, Row.pts]) fun q hq0 => ?_
      walk_at "mg"
      have hq1 : (μ2.set q (.list (Pt.d p :: [ptT x1 y1, ptT x2 y2, ptT x3 y3]))) q = some (.list (Pt.d p :: [ptT x1 y1, ptT x2 y2, ptT x3 y3])) := set_same _ _
      have hfs2 : (μ2.set q (.list (Pt.d p :: [ptT x1 y1, ptT x2 y2, ptT x3 y3]))) f = some (.list (rowsD fs)) := set_new hq0 (hm2.get0 hfs1)
      have hmq : Mod [] st.mem (μ2.set q (.list (Pt.d p :: [ptT x1 y1, ptT x2 y2, ptT x3 y3]))) := (hma.trans hm2).new hq0
      generalize hL0 : ((((bindD ["rows", "flatness", "most"] [.ref o, .int fl, .int most] noLoc).set "here" (optD (some p))).set "found" (.ref f)).set "row" (Row.d (.c x1 y1 x2 y2 x3 y3))) = L0
      generalize hμ3 : (μ2.set q (.list (Pt.d p :: [ptT x1 y1, ptT x2 y2, ptT x3 y3]))) = μ3 at hq1 hfs2 hmq
      refine Wp.mid (J := fun st' => ∃ (μ' : Mem), st' = ⟨L0, μ'⟩ ∧ μ' f = some (.list (rowsD (fs ++ flatRow fl (some p) (.c x1 y1 x2 y2 x3 y3)))) ∧ Mod [] st.mem μ') (fun K1 u1 => ?_) ?_
      · subst hL0
        refine x_for hA (Wp.less ?_)
        walk_at "k"
        refine r_call hA P.path_curve_ends.glob P.path_curve_ends.keep ?_
        walk_at "k"
        refine r_items_cons ?_
        walk_at "k"
        refine r_call hA P.tuple trivial ?_
        walk_at "mg"
        refine b_tuple (ds := Pt.d p :: [ptT x1 y1, ptT x2 y2, ptT x3 y3]) (by subst hμ3; exact set_same _ _) (by simp) ?_
        walk_at "mg"
        refine c_curve_ends (k := ⟨p, (x1, y1), (x2, y2), (x3, y3)⟩) P hA hk hf hf' fun e μ4 he he0 hm4 => ?_
        have hm4' : Mod [] st.mem μ4 := hmq.trans (by subst hμ3; exact hm4)
        have hel := ends_len fl 10 ⟨p, (x1, y1), (x2, y2), (x3, y3)⟩
        have hfe : e ≠ f := fun z => by
          have : μ3 f = none := by rw [← z]; subst hμ3; exact he0
          rw [hfs2] at this; cases this
        have hfs4 : μ4 f = some (.list (rowsD fs)) := by subst hμ3; exact hm4.get0 hfs2
        have hfr : flatRow fl (some p) (.c x1 y1 x2 y2 x3 y3) = (ends fl 10 ⟨p, (x1, y1), (x2, y2), (x3, y3)⟩).map fun q => Row.l q.1 q.2 := rfl
        rw [hfr] at u1
        generalize ends fl 10 ⟨p, (x1, y1), (x2, y2), (x3, y3)⟩ = en at he hel u1
        have hfl : fs.length ≤ 1024 * 900 := by have : 1024 * i ≤ 1024 * 900 := Nat.mul_le_mul_left _ (by (first | lia | omega))
                                                (first | lia | omega)
        refine ⟨((((bindD ["rows", "flatness", "most"] [.ref o, .int fl, .int most] noLoc).set "here" (optD (some p))).set "found" (.ref f)).set "row" (Row.d (.c x1 y1 x2 y2 x3 y3))), μ4, ((((LLess.nil.cons rfl).cons3 rfl rfl rfl).cons rfl).cons rfl), Less.refl, en.map Pt.d, _,
          fun j st' => ∃ (μ' : Mem), st' = ⟨((((bindD ["rows", "flatness", "most"] [.ref o, .int fl, .int most] noLoc).set "here" (optD (some p))).set "found" (.ref f)).set "row" (Row.d (.c x1 y1 x2 y2 x3 y3))), μ'⟩ ∧ μ' f = some (.list (rowsD (fs ++ (en.take j).map fun q => Row.l q.1 q.2))) ∧ μ' e = some (.list (en.map Pt.d)) ∧ Mod [] st.mem μ',
          .list he, ?_, ⟨μ4, rfl, by simpa using hfs4, he, hm4'⟩, ?_, ?_⟩
        · rintro j st' ⟨μ', rfl, _, he', _⟩; exact he'
        · intro j d st' hd' hh9
          refine hid fun PP9 kk9 => ?_
          obtain ⟨μ', rfl, hf', he', hm'⟩ := hh9
          refine kk9 ?_
          clear kk9 PP9
          rw [List.getElem?_map] at hd'
          obtain ⟨v, hv, rfl⟩ := Option.map_eq_some_iff.mp hd'
          have hj : j < en.length := (List.getElem?_eq_some_iff.mp hv).1
          walk_at "k"
          refine s_unpack (ds := [.int v.1, .int v.2]) hA rfl (ts := [_, _]) rfl ?_
          refine in_cons (s_name hA (in_cons (s_name hA (in_nil ?_))))
          walk_at "mg"
          refine r_append hA ?_
          walk_at "mg"
          refine ⟨f, _, rfl, hf', ?_⟩
          walk_at "mg"
          refine b_append hA (by exact hf') (by first | exact rows_le (by first | lia | omega) | (simp [rowsD]; first | lia | omega)) ?_
          walk_at "mg"
          refine Wp.fit (by with_reducible assumption) ?_
          refine x_done _ _ ((((LLess.nil.cons rfl).cons3 rfl rfl rfl).cons rfl).cons rfl) Less.refl ⟨_, rfl, (set_same _ _).trans ?_, set_get hfe he', hm'.put (.inr hf0)⟩
          rw [List.take_add_one, hv]
          simp [rowsD, Row.d]
        · intro st' hh9
          refine hid fun PP9 kk9 => ?_
          obtain ⟨μ', rfl, hf', he', hm'⟩ := hh9
          refine kk9 ?_
          clear kk9 PP9
          walk_at "mg"
          refine ⟨μ', rfl, ?_, hm'⟩
          rw [List.length_map, List.take_length] at hf'
          exact hf'
      · intro st' hh9
        refine hid fun PP9 kk9 => ?_
        obtain ⟨μ5, rfl, hf5, hm5⟩ := hh9
        refine kk9 ?_
        clear kk9 PP9
        subst hL0
        have hel : (flatRow fl (some p) (.c x1 y1 x2 y2 x3 y3)).length ≤ 1024 := by
          have := ends_len fl 10 ⟨p, (x1, y1), (x2, y2), (x3, y3)⟩
          show (List.map _ _).length ≤ _
          rw [List.length_map]; exact this
        have heq' : (fs ++ flatRow fl (some p) (.c x1 y1 x2 y2 x3 y3)) ++ flatAll fl (some (x3, y3)) (rows.drop (i + 1)) = flatAll fl none rows := by rw [← heq]; simp [flatAll, hereN, Row.pts]
        have hle' : (fs ++ flatRow fl (some p) (.c x1 y1 x2 y2 x3 y3)).length ≤ 1024 * (i + 1) := by rw [List.length_append]; (first | lia | omega)
        have hll := congrArg List.length heq'
        rw [List.length_append] at hll
        generalize fs ++ flatRow fl (some p) (.c x1 y1 x2 y2 x3 y3) = gs at hf5 heq' hle' hll ⊢
        walk_at "mg"
        refine ⟨fun _ => ?_, fun hb => absurd hb (by simp [D.isNone])⟩
        walk_at "mg"
        refine r_call hA P.len trivial ?_
        walk_at "mg"
        refine b_lenL hf5 (by first | exact rows_le (by first | lia | omega) | (simp [rowsD]; first | lia | omega)) ?_
        walk_at "mg"
        refine ⟨fun hx => ?_, fun hx => ?_⟩ <;> simp only [decide_eq_true_eq, decide_eq_false_iff_not, List.length_map, rowsD] at hx
        · walk_at "go"
          refine x_raise hA P.exc P.excG P.excK ?_
          walk_at "mg"
          exact ⟨_, rfl, uE _ _ (hno (by (first | lia | omega)) _ hm5)⟩
        · walk_at "mg"
          dsimp only [Row.d]
          walk_at "go"
          refine r_call hA P.path_points.glob P.path_points.keep ?_
          walk_at "mg"
          refine c_path_points (r := .c x1 y1 x2 y2 x3 y3) P hA fun b9 μ9 hb9 hn9 hm9 => ?_
          walk_at "mg"
          refine s_list_last hb9 (d := ptT x3 y3) rfl ?_
          walk_at "go"
          refine Wp.fit (by with_reducible assumption) ?_
          refine x_done _ _ ((((LLess.nil.cons rfl).cons3 rfl rfl rfl).cons rfl)) Less.refl ⟨gs, some (x3, y3), _, rfl, hm9.get0 hf5, heq', hrd.2, by rintro q hq; cases hq; (unfold InP; dsimp only; (first | lia | omega)), hle', hm5.trans hm9⟩
  · intro st' hh9
    refine hid fun PP9 kk9 => ?_
    obtain ⟨fs, h, μ', rfl, hfs, heq, hrd, hin, hle, hm⟩ := hh9
    refine kk9 ?_
    clear kk9 PP9
    walk_at "go"
    rw [List.drop_of_length_le (by simp)] at heq
    refine hok f μ' (by rw [← heq]; simpa [flatAll] using hfs) hf0 hm
end
end
section
/-! ## Rows in normal form -/
noncomputable def nx : Option Row → Row → Bool
  | none, r => r.isM
  | some (.m ..), r => !r.isM
  | some .z, r => r.isM
  | some (.l ..), _ => true
  | some (.c ..), _ => true
noncomputable def Nf : Option Row → List Row → Prop
  | _, [] => True
  | h, r :: rs => nx h r = true ∧ Nf (some r) rs
theorem nf_append : ∀ (a b : List Row) (h : Option Row), Nf h (a ++ b) ↔ Nf h a ∧ Nf (a.getLast?.or h) b
  | [], b, h => by simp [Nf]
  | r :: a, b, h => by
    rw [List.cons_append]
    show (_ ∧ Nf (some r) (a ++ b)) ↔ ((_ ∧ _) ∧ _)
    rw [nf_append a b (some r), and_assoc]
    have : (r :: a).getLast?.or h = a.getLast?.or (some r) := by
      rw [List.getLast?_cons]; cases a.getLast? <;> rfl
    rw [this]
theorem nf_snoc {rows : List Row} {r : Row} : Nf none (rows ++ [r]) ↔ Nf none rows ∧ nx rows.getLast? r = true := by
  rw [nf_append]
  simp [Nf]
theorem put1_nf {rows : List Row} {r : Row} (h : nx rows.getLast? r = true) : put1 rows r = rows ++ [r] := by
  rcases List.eq_nil_or_concat rows with rfl | ⟨l, a, rfl⟩
  · cases r <;> simp [nx, Row.isM, put1] at h ⊢
  · rw [List.concat_eq_append] at *
    rw [getLast_snoc] at h
    cases a <;> cases r <;> simp_all [nx, Row.isM, Row.isZ, put1]
theorem putAll_nf : ∀ (rs rows : List Row), Nf rows.getLast? rs → putAll rows rs = rows ++ rs
  | [], rows, _ => by simp [putAll]
  | r :: rs, rows, h => by
    show putAll (put1 rows r) rs = _
    rw [put1_nf h.1, putAll_nf rs (rows ++ [r]) (by rw [getLast_snoc]; exact h.2)]
    simp
theorem putAll_nil {rs : List Row} (h : Nf none rs) : putAll [] rs = rs := by rw [putAll_nf rs [] h]; rfl
theorem nx_m (h : Option Row) (x y a b : Int) : nx h (.m x y) = nx h (.m a b) := by cases h with | none => rfl | some r => cases r <;> rfl
theorem nf_put1 {rows : List Row} {r : Row} (h : Nf none rows) (hr : rows = [] → r.isG = false) : Nf none (put1 rows r) := by
  rcases List.eq_nil_or_concat rows with rfl | ⟨l, a, rfl⟩
  · have := hr rfl
    cases r <;> simp_all [Row.isG, put1, Nf, nx, Row.isM]
  · rw [List.concat_eq_append] at *
    have h' := nf_snoc.mp h
    cases r with
    | m x y =>
      cases a with
      | m a b =>
        simp only [put1, getLast_snoc, Row.isM, Option.any_some, if_true, List.dropLast_concat]
        exact nf_snoc.mpr ⟨h'.1, (nx_m _ x y a b).trans h'.2⟩
      | l a b => simpa [put1, Row.isM] using nf_snoc.mpr ⟨h, by rw [getLast_snoc]; rfl⟩
      | c => simpa [put1, Row.isM] using nf_snoc.mpr ⟨h, by rw [getLast_snoc]; rfl⟩
      | z => simpa [put1, Row.isM] using nf_snoc.mpr ⟨h, by rw [getLast_snoc]; rfl⟩
    | z =>
      cases a with
      | z => simpa [put1, Row.isZ] using h
      | m => simpa [put1, Row.isZ] using nf_snoc.mpr ⟨h, by rw [getLast_snoc]; rfl⟩
      | l => simpa [put1, Row.isZ] using nf_snoc.mpr ⟨h, by rw [getLast_snoc]; rfl⟩
      | c => simpa [put1, Row.isZ] using nf_snoc.mpr ⟨h, by rw [getLast_snoc]; rfl⟩
    | l x y =>
      cases a with
      | z =>
        have h2 := nf_snoc.mpr ⟨h, (by rw [getLast_snoc]; rfl : nx (l ++ [Row.z]).getLast? (.m ((lastM (l ++ [Row.z])).getD (0, 0)).1 ((lastM (l ++ [Row.z])).getD (0, 0)).2) = true)⟩
        have h3 := nf_snoc.mpr ⟨h2, (by rw [getLast_snoc]; rfl : nx _ (.l x y) = true)⟩
        simpa [put1, Row.isZ] using h3
      | m => simpa [put1, Row.isZ] using nf_snoc.mpr ⟨h, by rw [getLast_snoc]; rfl⟩
      | l => simpa [put1, Row.isZ] using nf_snoc.mpr ⟨h, by rw [getLast_snoc]; rfl⟩
      | c => simpa [put1, Row.isZ] using nf_snoc.mpr ⟨h, by rw [getLast_snoc]; rfl⟩
    | c x1 y1 x2 y2 x3 y3 =>
      cases a with
      | z =>
        have h2 := nf_snoc.mpr ⟨h, (by rw [getLast_snoc]; rfl : nx (l ++ [Row.z]).getLast? (.m ((lastM (l ++ [Row.z])).getD (0, 0)).1 ((lastM (l ++ [Row.z])).getD (0, 0)).2) = true)⟩
        have h3 := nf_snoc.mpr ⟨h2, (by rw [getLast_snoc]; rfl : nx _ (.c x1 y1 x2 y2 x3 y3) = true)⟩
        simpa [put1, Row.isZ] using h3
      | m => simpa [put1, Row.isZ] using nf_snoc.mpr ⟨h, by rw [getLast_snoc]; rfl⟩
      | l => simpa [put1, Row.isZ] using nf_snoc.mpr ⟨h, by rw [getLast_snoc]; rfl⟩
      | c => simpa [put1, Row.isZ] using nf_snoc.mpr ⟨h, by rw [getLast_snoc]; rfl⟩
theorem nf_head {rows : List Row} (h : Nf none rows) : rows.head?.all Row.isM = true := by
  cases rows with
  | nil => rfl
  | cons r rs => exact h.1
theorem nf_good {rows : List Row} (h : Nf none rows) : Good rows := fun hne => by
  cases rows with
  | nil => exact absurd rfl hne
  | cons r rs =>
    have h1 := h.1
    cases r <;> simp [nx, Row.isM] at h1
    show ((lastM rs).or _).isSome = true
    cases lastM rs <;> rfl
theorem nf_putAll : ∀ (rs rows : List Row), Nf none rows → Fit rows rs → Nf none (putAll rows rs)
  | [], rows, h, _ => h
  | r :: rs, rows, h, hf => nf_putAll rs (put1 rows r) (nf_put1 h fun z => (hf z r rfl).1) fun z => by
      obtain ⟨z1, z2⟩ := put1_nil z
      exact absurd z2 (hf z1 r rfl).2
theorem nf_ready : ∀ (rows : List Row) (h : Option Pt) (h0 : Option Row), Nf h0 rows → (h0 = none ∨ h ≠ none) → Ready h rows
  | [], _, _, _, _ => trivial
  | r :: rs, h, h0, hn, hh => by
    have hne : h0 = none → ∃ x y, r = .m x y := fun z => by
      subst z
      have h1 := hn.1
      cases r <;> simp [nx, Row.isM] at h1
      exact ⟨_, _, rfl⟩
    refine ⟨fun hw z => ?_, nf_ready rs _ _ hn.2 (.inr ?_)⟩
    · rcases hh with q | q
      · obtain ⟨x, y, rfl⟩ := hne q; exact absurd hw (by simp [Row.w]; decide)
      · exact q z
    · unfold hereN
      rcases hh with q | q
      · obtain ⟨x, y, rfl⟩ := hne q; simp [Row.pts]
      · intro z
        exact q (Option.or_eq_none_iff.mp z).2
theorem ends_ne (fl : Int) : ∀ (f : Nat) (k : Cv), ends fl f k ≠ []
  | 0, k => by simp [ends]
  | f + 1, k => by
    unfold ends
    split
    · simp
    · exact fun z => ends_ne fl f _ (List.append_eq_nil_iff.mp z).1
theorem nf_lines : ∀ (l : List Pt) (h : Option Row), l ≠ [] → nx h (.l 0 0) = true → Nf h (l.map fun q => Row.l q.1 q.2) ∧ ∃ x y, (l.map fun q => Row.l q.1 q.2).getLast? = some (.l x y)
  | [], _, hl, _ => absurd rfl hl
  | [q], h, _, hx => ⟨⟨by revert hx; cases h with | none => exact id | some r => cases r <;> exact id, trivial⟩, _, _, rfl⟩
  | q :: q2 :: l, h, _, hx => by
    refine hid fun PP9 kk9 => ?_
    obtain ⟨h1, x, y, h2⟩ := nf_lines (q2 :: l) (some (.l q.1 q.2)) (by simp) rfl
    refine kk9 ?_
    clear kk9 PP9
    exact ⟨⟨by revert hx; cases h with | none => exact id | some r => cases r <;> exact id, h1⟩, x, y, by rw [List.map_cons, List.map_cons, List.getLast?_cons_cons]; simpa using h2⟩
noncomputable def Kin (a b : Option Row) : Prop := ∀ r, nx a r = nx b r
theorem Kin.rfl' {a : Option Row} : Kin a a := fun _ => rfl
theorem nf_flat (fl : Int) : ∀ (rows : List Row) (h : Option Pt) (h0 h1 : Option Row), Nf h0 rows → Kin h0 h1 → Ready h rows → Nf h1 (flatAll fl h rows)
  | [], _, _, _, _, _, _ => trivial
  | r :: rs, h, h0, h1, hn, hk, hr => by
    by_cases hc : r.w = "c"
    · obtain ⟨p, rfl⟩ := Option.ne_none_iff_exists'.mp (hr.1 hc)
      cases r with
      | m => exact absurd hc (by simp [Row.w]; decide)
      | l => exact absurd hc (by simp [Row.w]; decide)
      | z => exact absurd hc (by simp [Row.w]; decide)
      | c x1 y1 x2 y2 x3 y3 =>
        obtain ⟨q1, x, y, q2⟩ := nf_lines (ends fl 10 ⟨p, (x1, y1), (x2, y2), (x3, y3)⟩) h1 (ends_ne _ _ _) (by
          rw [← hk]
          have := hn.1
          revert this
          cases h0 with | none => exact id | some r => cases r <;> exact id)
        refine (nf_append _ _ _).mpr ⟨q1, ?_⟩
        have q2' : (flatRow fl (some p) (Row.c x1 y1 x2 y2 x3 y3)).getLast? = some (.l x y) := q2
        rw [q2']
        exact nf_flat fl rs _ (some (.c x1 y1 x2 y2 x3 y3)) _ hn.2 (fun _ => rfl) hr.2
    · show Nf h1 (flatRow fl h r ++ _)
      rw [flatRow_other hc]
      exact ⟨(hk r).symm.trans hn.1, nf_flat fl rs _ (some r) _ hn.2 Kin.rfl' hr.2⟩

/-! ## Curves here end in four lines at most -/
noncomputable def Sm (a b c d B : Int) : Prop := -B ≤ a - 2 * b + c ∧ a - 2 * b + c ≤ B ∧ -B ≤ b - 2 * c + d ∧ b - 2 * c + d ≤ B
noncomputable def Cv.Sm (k : Cv) (B : Int) : Prop := Mine.Sm k.a.1 k.b.1 k.c.1 k.d.1 B ∧ Mine.Sm k.a.2 k.b.2 k.c.2 k.d.2 B
theorem sm_ahead {a b c d B C : Int} (h : Sm a b c d B) (hC : B + 12 ≤ 4 * C) : Sm a ((a + b) / 2) (((a + b) / 2 + (b + c) / 2) / 2) ((((a + b) / 2 + (b + c) / 2) / 2 + ((b + c) / 2 + (c + d) / 2) / 2) / 2) C := by
  unfold Sm at *
  refine ⟨?_, ?_, ?_, ?_⟩ <;> (first | lia | omega)
theorem sm_behind {a b c d B C : Int} (h : Sm a b c d B) (hC : B + 12 ≤ 4 * C) : Sm ((((a + b) / 2 + (b + c) / 2) / 2 + ((b + c) / 2 + (c + d) / 2) / 2) / 2) (((b + c) / 2 + (c + d) / 2) / 2) ((c + d) / 2) d C := by
  unfold Sm at *
  refine ⟨?_, ?_, ?_, ?_⟩ <;> (first | lia | omega)
theorem half_eq (a b : Pt) : half a b = ((a.1 + b.1) / 2, (a.2 + b.2) / 2) := by
  unfold half
  rw [Int.fdiv_eq_ediv_of_nonneg _ (by decide), Int.fdiv_eq_ediv_of_nonneg _ (by decide)]
theorem Cv.Sm.ahead {k : Cv} {B C : Int} (h : k.Sm B) (hC : B + 12 ≤ 4 * C) : k.ahead.Sm C := by
  obtain ⟨h1, h2⟩ := h
  unfold Cv.ahead Cv.Sm
  simp only [half_eq]
  exact ⟨sm_ahead h1 hC, sm_ahead h2 hC⟩
theorem Cv.Sm.behind {k : Cv} {B C : Int} (h : k.Sm B) (hC : B + 12 ≤ 4 * C) : k.behind.Sm C := by
  obtain ⟨h1, h2⟩ := h
  unfold Cv.behind Cv.Sm
  simp only [half_eq]
  exact ⟨sm_behind h1 hC, sm_behind h2 hC⟩
theorem dev_sm {a b c d B : Int} (h : Sm a b c d B) : 0 ≤ dev a b c d ∧ dev a b c d ≤ 3 * B := by
  unfold Sm at h
  unfold dev maxI absI
  split <;> split <;> split <;> omega
theorem sq_le {x m : Int} (h0 : 0 ≤ x) (h : x ≤ m) : x ^ (2 : Int).toNat ≤ m * m := by
  show x ^ 2 ≤ _
  rw [Int.pow_succ, Int.pow_succ, Int.pow_zero, Int.one_mul]
  exact Int.mul_le_mul h h h0 (by (first | lia | omega))
theorem flat_sm {k : Cv} {fl B : Int} (h : k.Sm B) (hB : 3 * B ≤ 2800) (hf : 1000 ≤ fl) : k.flat fl = true := by
  refine hid fun PP9 kk9 => ?_
  obtain ⟨h1, h2⟩ := h
  obtain ⟨a1, a2⟩ := dev_sm h1
  obtain ⟨b1, b2⟩ := dev_sm h2
  refine kk9 ?_
  clear kk9 PP9
  have q1 := sq_le a1 (Int.le_trans a2 hB)
  have q2 := sq_le b1 (Int.le_trans b2 hB)
  have q3 : 1000 * 1000 ≤ fl ^ (2 : Int).toNat := by
    show _ ≤ fl ^ 2
    rw [Int.pow_succ, Int.pow_succ, Int.pow_zero, Int.one_mul]
    exact Int.mul_le_mul hf hf (by decide) (by (first | lia | omega))
  unfold Cv.flat
  rw [decide_eq_true_eq]
  show 0 + dev k.a.1 k.b.1 k.c.1 k.d.1 ^ (2 : Int).toNat + dev k.a.2 k.b.2 k.c.2 k.d.2 ^ (2 : Int).toNat ≤ _
  (first | lia | omega)
theorem ends_flat {k : Cv} {fl : Int} (h : k.flat fl = true) : ∀ f, (ends fl f k).length = 1
  | 0 => rfl
  | f + 1 => by unfold ends; rw [if_pos h]; rfl
theorem ends_two {k : Cv} {fl : Int} {f : Nat} (h : k.Sm 1700) (hf : 1000 ≤ fl) : (ends fl (f + 1) k).length ≤ 2 := by
  unfold ends
  split
  · simp
  · rw [List.length_append, ends_flat (flat_sm (h.ahead (C := 430) (by decide)) (by decide) hf), ends_flat (flat_sm (h.behind (C := 430) (by decide)) (by decide) hf)]
    exact Nat.le_refl _
theorem ends_four {k : Cv} {fl : Int} {f : Nat} (h : k.Sm 6500) (hf : 1000 ≤ fl) : (ends fl (f + 2) k).length ≤ 4 := by
  unfold ends
  split
  · simp
  · have h1 := ends_two (f := f) (h.ahead (C := 1700) (by decide)) hf
    have h2 := ends_two (f := f) (h.behind (C := 1700) (by decide)) hf
    rw [List.length_append]
    (first | lia | omega)
theorem flat_len {fl : Int} (hf : 1000 ≤ fl) : ∀ (rows : List Row) (h : Option Pt), (∀ r ∈ rows, Bd 100 r) → (∀ p, h = some p → -100 ≤ p.1 ∧ p.1 ≤ 3100 ∧ -100 ≤ p.2 ∧ p.2 ≤ 3100) → (flatAll fl h rows).length ≤ 4 * rows.length
  | [], _, _, _ => by simp [flatAll]
  | r :: rs, h, hb, hh => by
    have hr := hb r List.mem_cons_self
    have hI : ∀ v, v ∈ r.coords → -100 ≤ v ∧ v ≤ 3100 := fun v hv => by have := hr v hv; (first | lia | omega)
    have ih := flat_len hf rs (hereN h r) (fun r' h' => hb r' (List.mem_cons_of_mem _ h')) (fun p hp => by
      cases r with
      | m x y => cases hp; exact ⟨(hI x (by simp [Row.coords])).1, (hI x (by simp [Row.coords])).2, (hI y (by simp [Row.coords])).1, (hI y (by simp [Row.coords])).2⟩
      | l x y => cases hp; exact ⟨(hI x (by simp [Row.coords])).1, (hI x (by simp [Row.coords])).2, (hI y (by simp [Row.coords])).1, (hI y (by simp [Row.coords])).2⟩
      | c _ _ _ _ x y => cases hp; exact ⟨(hI x (by simp [Row.coords])).1, (hI x (by simp [Row.coords])).2, (hI y (by simp [Row.coords])).1, (hI y (by simp [Row.coords])).2⟩
      | z => exact hh p hp)
    have h1 : (flatRow fl h r).length ≤ 4 := by
      cases r with
      | m => simp [flatRow]
      | l => simp [flatRow]
      | z => simp [flatRow]
      | c x1 y1 x2 y2 x3 y3 =>
        cases h with
        | none => simp [flatRow]
        | some p =>
          show (List.map _ _).length ≤ _
          rw [List.length_map]
          have e1 := hI x1 (by simp [Row.coords]); have e2 := hI y1 (by simp [Row.coords]); have e3 := hI x2 (by simp [Row.coords]); have e4 := hI y2 (by simp [Row.coords]); have e5 := hI x3 (by simp [Row.coords]); have e6 := hI y3 (by simp [Row.coords])
          have e0 := hh p rfl
          exact ends_four (f := 8) ⟨by unfold Sm; dsimp only; (first | lia | omega), by unfold Sm; dsimp only; (first | lia | omega)⟩ hf
    show (flatRow fl h r ++ flatAll fl (hereN h r) rs).length ≤ _
    rw [List.length_append, List.length_cons]
    (first | lia | omega)
end
section
section
variable {g : Gd} {X : Fx} {SC : Scope} {n : Nat} {st : St} {E : EP} {μ ν ρ : Mem}
theorem c_flattened {d k : Addr} {rows : List Row} {fl most : Int} {Q : D → St → Prop} (P : Prg g) (hA : At g X SC (n + 8)) (hp : PathAt st.mem d k most rows) (hlen : rows.length ≤ 100) (hf : 1000 ≤ fl) (hf' : fl ≤ 10000)
    (h0 : 0 ≤ most) (hm : most ≤ 1000) (hbd : ∀ r ∈ rows, Bd 100 r) (hn : Nf none rows)
    (hok : ((flatAll fl none rows).length : Int) ≤ most → ∀ d' k' μ, PathAt μ d' k' most (flatAll fl none rows) → st.mem d' = none → st.mem k' = none → Mod [] st.mem μ → Q (.obj 198 d') ⟨st.loc, μ⟩)
    (hno : most < ((flatAll fl none rows).length : Nat) → ∀ μ, Mod [] st.mem μ → E (.bytes limitB) ⟨st.loc, μ⟩) : WCall g X st (.ref 181) [.obj 198 d, .int fl] Q E := by
  obtain ⟨hd, hk⟩ := id hp
  have hfl := flat_len hf rows none hbd (by intro p hp; cases hp)
  have hnf : Nf none (flatAll fl none rows) := nf_flat fl rows none none none hn Kin.rfl' (nf_ready rows none none hn (.inl rfl))
  refine (P.flattened.fn.call hA rfl fun X' hA hC hL Q9 uQ E9 uE => ?_).w
  refine x_cons ?_
  refine x_ret ?_
  walk_at "k"
  refine r_call hA P.path_of.glob P.path_of.keep ?_
  walk_at "k"
  refine r_items_cons ?_
  walk_at "k"
  refine r_call hA P.path_flattened.glob P.path_flattened.keep ?_
  walk_at "mg"
  refine c_path_flattened P hA hk (by (first | lia | omega)) (by (first | lia | omega)) hf' hbd (nf_ready rows none none hn (.inl rfl)) (fun f μ hfm hf0 hmm => ?_) fun hlt μ hmm => uE _ _ (hno hlt _ hmm)
  obtain ⟨hd2, hk2⟩ := id (hp.mod0 hmm)
  walk_at "mg"
  refine c_path_of P hA hfm h0 hm (by (first | lia | omega)) (nf_head hnf) (fun hle d' k' μ2 hp2 hd' hk' hm2 => ?_) fun hlt μ2 hm2 => ?_
  · rw [putAll_nil hnf] at hle hp2
    walk_at "mg"
    exact hok hle d' k' μ2 hp2 (hmm.none (by simp) hd') (hmm.none (by simp) hk') (hmm.trans hm2)
  · rw [putAll_nil hnf] at hlt
    exact uE _ _ (hno hlt μ2 (hmm.trans hm2))
theorem c_law_flat {o : Addr} {rows : List Row} {fl : Int} {Q : D → St → Prop} (P : Prg g) (hA : At g X SC (n + 9)) (ho : st.mem o = some (.list (rowsD rows))) (hlen : rows.length ≤ 100) (hf : 1000 ≤ fl) (hf' : fl ≤ 10000)
    (hbd : ∀ r ∈ rows, Bd 100 r) (hn : Nf none rows)
    (hok : ∀ b μ, μ b = some (.list (rowsD (flatAll fl none rows))) → st.mem b = none → Mod [] st.mem μ → Q (.ref b) ⟨st.loc, μ⟩) : WCall g X st (.ref 328) [.ref o, .int fl] Q E := by
  have hfl := flat_len hf rows none hbd (by intro p hp; cases hp)
  have hpn := putAll_nil hn
  refine (P.law_flat.fn.call hA rfl fun X' hA hC hL Q9 uQ E9 uE => ?_).w
  refine x_cons ?_
  walk_at "mg"
  refine r_call hA P.Path P.PathK ?_
  walk_at "mg"
  refine c_new P hA fun d k μ hp hd hk hm => ?_
  walk_at "mg"
  refine r_meth hA ?_
  walk_at "mg"
  refine ⟨198, d, _, 167, rfl, hp.1, rfl, P.put_rows.meth, ?_⟩
  walk_at "mg"
  obtain ⟨f1, f2, f3⟩ := fit_nil (nf_head hn)
  walk_at "k"
  refine c_put_rows P hA hp (hm.get0 ho) (fun z => by rw [z, hk] at ho; cases ho) (by decide) (by decide) (by (first | lia | omega)) (fun z => absurd rfl z) (fun _ => f2) (fun _ hle μ2 h1 h2 => ?_) (fun _ hlt μ2 h2 => absurd hlt (by rw [hpn]; (first | lia | omega))) (fun _ z => by rw [f3] at z; cases z)
  rw [hpn] at h1
  have hm2 : Mod [] st.mem μ2 := fun a c ha e => h2 a c (fun z => by
    rcases List.mem_cons.mp z with z | z
    · rw [z, hd] at e; cases e
    · rcases List.mem_cons.mp z with z | z
      · rw [z, hk] at e; cases e
      · cases z) (hm.get0 e)
  walk_at "mg"
  refine r_meth hA ?_
  walk_at "k"
  refine r_meth hA ?_
  walk_at "mg"
  refine ⟨198, d, _, 181, rfl, h1.1, rfl, P.flattened.meth, ?_⟩
  walk_at "mg"
  refine c_flattened P hA h1 hlen hf hf' (by decide) (by decide) hbd hn (fun hle d' k' μ3 hp3 hd3 hk3 hm3 => ?_) fun hlt => absurd hlt (by (first | lia | omega))
  refine ⟨198, d', _, 90, rfl, hp3.1, rfl, P.rows.meth, ?_⟩
  walk_at "mg"
  refine c_rows P hA hp3 (by (first | lia | omega)) fun b hb => ?_
  have hb0 : st.mem b = none := (hm2.trans hm3).none (by simp) hb
  walk_at "mg"
  exact hok b _ (set_same _ _) hb0 ((hm2.trans hm3).new hb)
end
end
section
section
variable {g : Gd} {X : Fx} {SC : Scope} {n : Nat} {st : St} {E : EP} {μ ν ρ : Mem}
noncomputable def Row.mv (ac up : Int) : Row → Row
  | .m x y => .m (x + ac) (y + up)
  | .l x y => .l (x + ac) (y + up)
  | .c x1 y1 x2 y2 x3 y3 => .c (x1 + ac) (y1 + up) (x2 + ac) (y2 + up) (x3 + ac) (y3 + up)
  | .z => .z
noncomputable def mvD (ac up : Int) (l : List Pt) : List D := l.flatMap fun p => [.int (p.1 + ac), .int (p.2 + up)]
theorem mv_d (ac up : Int) (r : Row) : (r.mv ac up).d = .tup (.str r.w :: mvD ac up r.pts) := by cases r <;> rfl
theorem mv_len (ac up : Int) : ∀ (l : List Pt), (mvD ac up l).length = 2 * l.length
  | [] => rfl
  | p :: l => by
    have := mv_len ac up l
    show (_ :: _ :: mvD ac up l).length = _
    simp only [List.length_cons, this]
    (first | lia | omega)
theorem mvD_snoc (ac up : Int) (l : List Pt) (p : Pt) : mvD ac up (l ++ [p]) = mvD ac up l ++ [.int (p.1 + ac), .int (p.2 + up)] := by simp [mvD]
theorem nx_mv (ac up : Int) : ∀ (rows : List Row) (h0 h1 : Option Row), Nf h0 rows → Kin h0 h1 → Nf h1 (rows.map (Row.mv ac up))
  | [], _, _, _, _ => trivial
  | r :: rs, h0, h1, hn, hk => by
    refine ⟨?_, nx_mv ac up rs (some r) _ hn.2 ?_⟩
    · rw [← hk]
      have := hn.1
      revert this
      cases h0 with
      | none => cases r <;> exact id
      | some q => cases q <;> cases r <;> exact id
    · cases r <;> exact fun _ => rfl
theorem c_rows_transformed {o a : Addr} {ac up : Int} {rows : List Row} {Q : D → St → Prop} (P : Prg g) (hA : At g X SC (n + 3)) (ho : st.mem o = some (.list (rowsD rows))) (ha : st.mem a = some (matD ac up)) (hlen : rows.length ≤ 1000)
    (h : ∀ b μ, μ b = some (.list (rowsD (rows.map (Row.mv ac up)))) → st.mem b = none → Mod [] st.mem μ → Q (.ref b) ⟨st.loc, μ⟩) : WCall g X st (.ref 68) [.ref o, .ref a] Q E := by
  refine (P.rows_transformed.fn.call hA rfl fun X' hA hC hL Q9 uQ E9 uE => ?_).w
  refine x_cons ?_
  walk_at "mg"
  intro f hf0
  walk_at "mg"
  refine x_for hA (Wp.less ?_)
  walk_at "k"
  refine r_name hA rfl ?_
  refine ⟨(bindD ["rows", "m"] [.ref o, .ref a] noLoc).set "found" (.ref f), st.mem.set f (.list []), LLess.refl, Less.refl, rowsD rows, _,
    fun i st' => ∃ (μ' : Mem), st' = ⟨(bindD ["rows", "m"] [.ref o, .ref a] noLoc).set "found" (.ref f), μ'⟩ ∧ μ' f = some (.list (rowsD ((rows.take i).map (Row.mv ac up)))) ∧ Mod [] st.mem μ',
    .list (set_new hf0 ho), ?_, ⟨_, rfl, set_same _ _, Mod.refl.new hf0⟩, ?_, ?_⟩
  · rintro i st' ⟨μ', rfl, _, hm⟩; exact hm.get0 ho
  · intro i d st' hd hh9
    refine hid fun PP9 kk9 => ?_
    obtain ⟨μ', rfl, hf, hm⟩ := hh9
    refine kk9 ?_
    clear kk9 PP9
    obtain ⟨r, hr', rfl⟩ := rows_at hd
    have hi : i < rows.length := (List.getElem?_eq_some_iff.mp hr').1
    walk_at "k"
    refine s_name hA ?_ (by decide)
    walk_at "mg"
    intro v hv0
    walk_at "mg"
    have hvf : f ≠ v := ne_of hf hv0
    have hfv := set_new (c := .list [.str r.w]) hv0 hf
    have hm1 : Mod [] st.mem (μ'.set v (.list [.str r.w])) := hm.new hv0
    refine Wp.mid (J := fun st' => ∃ (μ' : Mem), st' = ⟨(((bindD ["rows", "m"] [.ref o, .ref a] noLoc).set "found" (.ref f)).set "row" r.d).set "moved" (.ref v), μ'⟩ ∧ μ' f = some (.list (rowsD ((rows.take i).map (Row.mv ac up)))) ∧ μ' v = some (.list (.str r.w :: mvD ac up r.pts)) ∧ Mod [] st.mem μ') (fun _ _ => ?_) ?_
    · refine x_for hA (Wp.less ?_)
      walk_at "k"
      refine r_call hA P.range trivial ?_
      walk_at "mg"
      refine r_call hA P.len trivial ?_
      walk_at "mg"
      refine b_lenRow ?_
      walk_at "mg"
      refine b_range3 (by decide) (by decide) ?_
      obtain ⟨hr1, hr2⟩ := rng_pts r
      refine ⟨(((bindD ["rows", "m"] [.ref o, .ref a] noLoc).set "found" (.ref f)).set "row" r.d).set "moved" (.ref v), _, (((LLess.nil.cons rfl).cons3 rfl rfl rfl).cons rfl), Less.refl, rngD 1 2 r.pts.length, _,
        fun j st' => ∃ (μ' : Mem), st' = ⟨(((bindD ["rows", "m"] [.ref o, .ref a] noLoc).set "found" (.ref f)).set "row" r.d).set "moved" (.ref v), μ'⟩ ∧ μ' f = some (.list (rowsD ((rows.take i).map (Row.mv ac up)))) ∧ μ' v = some (.list (.str r.w :: mvD ac up (r.pts.take j))) ∧ Mod [] st.mem μ',
        .rng hr2 hr1, fun _ _ _ => trivial, ⟨_, rfl, hfv, set_same _ _, hm1⟩, ?_, ?_⟩
      · intro j d st' hd' hh9
        refine hid fun PP9 kk9 => ?_
        obtain ⟨μ2, rfl, hf2, hv2, hm2⟩ := hh9
        refine kk9 ?_
        clear kk9 PP9
        obtain ⟨hj, rfl⟩ := rngD_at hd'
        obtain ⟨p, hp⟩ : ∃ p, r.pts[j]? = some p := ⟨_, List.getElem?_eq_getElem hj⟩
        obtain ⟨x, y⟩ := p
        have hpl := pts_len r
        walk_at "k"
        refine s_name hA ?_ (by decide)
        walk_at "mg"
        refine r_extend hA ?_
        walk_at "mg"
        refine ⟨v, _, rfl, hv2, ?_⟩
        walk_at "mg"
        refine r_call hA P.transform.glob P.transform.keep ?_
        walk_at "mg"
        refine s_ptx hp ?_
        walk_at "mg"
        refine s_pty hp ?_
        walk_at "mg"
        refine c_transform P hA (hm2.get0 ha) ?_
        walk_at "mg"
        refine b_extendT hA (by exact hv2) (by simp [mv_len]; (first | lia | omega)) ?_
        walk_at "mg"
        refine Wp.fit (by with_reducible assumption) ?_
        refine x_done _ _ (((LLess.nil.cons rfl).cons3 rfl rfl rfl).cons rfl) Less.refl ⟨_, rfl, set_get hvf hf2, (set_same _ _).trans ?_, hm2.put (.inr (hm.none (by simp) hv0))⟩
        rw [List.take_add_one, hp]
        show _ = some (Cell.list (_ :: mvD ac up (_ ++ [(x, y)])))
        rw [mvD_snoc]
        rfl
      · intro st' hh9
        refine hid fun PP9 kk9 => ?_
        obtain ⟨μ2, rfl, hf2, hv2, hm2⟩ := hh9
        refine kk9 ?_
        clear kk9 PP9
        walk_at "mg"
        refine ⟨μ2, rfl, hf2, ?_, hm2⟩
        have : (rngD 1 2 r.pts.length).length = r.pts.length := by simp [rngD]
        rw [this, List.take_length] at hv2
        exact hv2
    · intro st' hh9
      refine hid fun PP9 kk9 => ?_
      obtain ⟨μ2, rfl, hf2, hv2, hm2⟩ := hh9
      refine kk9 ?_
      clear kk9 PP9
      have hpl := pts_len r
      walk_at "mg"
      refine r_append hA ?_
      walk_at "mg"
      refine ⟨f, _, rfl, hf2, ?_⟩
      walk_at "mg"
      refine r_call hA P.tuple trivial ?_
      walk_at "mg"
      refine b_tuple hv2 (by simp [mv_len]; (first | lia | omega)) ?_
      walk_at "mg"
      refine b_append hA (by exact hf2) (by first | exact rows_le (by first | lia | omega) | (simp [rowsD]; first | lia | omega)) ?_
      walk_at "mg"
      refine Wp.fit (by with_reducible assumption) ?_
      refine x_done _ _ (LLess.nil.cons3 rfl rfl rfl) Less.refl ⟨_, rfl, (set_same _ _).trans ?_, hm2.put (.inr hf0)⟩
      rw [List.take_add_one, hr', ← mv_d]
      simp [rowsD]
  · intro st' hh9
    refine hid fun PP9 kk9 => ?_
    obtain ⟨μ', rfl, hf, hm⟩ := hh9
    refine kk9 ?_
    clear kk9 PP9
    walk_at "mg"
    rw [List.length_map, List.take_length] at hf
    exact h f μ' hf hf0 hm
theorem c_transformed {d k a : Addr} {rows : List Row} {ac up most : Int} {Q : D → St → Prop} (P : Prg g) (hA : At g X SC (n + 8)) (hp : PathAt st.mem d k most rows) (ha : st.mem a = some (matD ac up)) (hlen : (rows.length : Int) ≤ most)
    (hm : most ≤ 1000) (hn : Nf none rows)
    (hok : ∀ d' k' μ, PathAt μ d' k' most (rows.map (Row.mv ac up)) → st.mem d' = none → st.mem k' = none → Mod [] st.mem μ → Q (.obj 198 d') ⟨st.loc, μ⟩) : WCall g X st (.ref 195) [.obj 198 d, .ref a] Q E := by
  obtain ⟨hd, hk⟩ := id hp
  have hnf : Nf none (rows.map (Row.mv ac up)) := nx_mv ac up rows none none hn Kin.rfl'
  refine (P.transformed.fn.call hA rfl fun X' hA hC hL Q9 uQ E9 uE => ?_).w
  refine x_cons ?_
  refine x_ret ?_
  walk_at "k"
  refine r_call hA P.path_of.glob P.path_of.keep ?_
  walk_at "k"
  refine r_items_cons ?_
  walk_at "k"
  refine r_call hA P.rows_transformed.glob P.rows_transformed.keep ?_
  walk_at "mg"
  refine c_rows_transformed P hA hk ha (by (first | lia | omega)) fun f μ hfm hf0 hmm => ?_
  obtain ⟨hd2, hk2⟩ := id (hp.mod0 hmm)
  walk_at "mg"
  refine c_path_of P hA hfm (by (first | lia | omega)) hm (by simp; (first | lia | omega)) (nf_head hnf) (fun hle d' k' μ2 hp2 hd' hk' hm2 => ?_) fun hlt μ2 hm2 => ?_
  · rw [putAll_nil hnf] at hle hp2
    walk_at "mg"
    exact hok d' k' μ2 hp2 (hmm.none (by simp) hd') (hmm.none (by simp) hk') (hmm.trans hm2)
  · rw [putAll_nil hnf] at hlt
    simp at hlt
    (first | lia | omega)
end
end
section
/-! ## Subpaths, and rows gone along the other way -/
structure Blk where
  s : Pt
  mid : List Row
  z : Bool
noncomputable def Blk.part (b : Blk) : List Row := .m b.s.1 b.s.2 :: b.mid
noncomputable def Blk.rows (b : Blk) : List Row := b.part ++ (if b.z then [.z] else [])
noncomputable def addRow (cs : List Blk) : Row → List Blk
  | .m x y => cs ++ [⟨(x, y), [], false⟩]
  | .z => cs.dropLast ++ (cs.getLast?.map fun b => { b with z := true }).toList
  | .l x y => cs.dropLast ++ (cs.getLast?.map fun b => { b with mid := b.mid ++ [.l x y] }).toList
  | .c p q r s t u => cs.dropLast ++ (cs.getLast?.map fun b => { b with mid := b.mid ++ [.c p q r s t u] }).toList
noncomputable def blocks (rows : List Row) : List Blk := rows.foldl addRow []
theorem blocks_snoc (rows : List Row) (r : Row) : blocks (rows ++ [r]) = addRow (blocks rows) r := by unfold blocks; rw [List.foldl_append]; rfl
structure Bk (bs : List Blk) (rows : List Row) : Prop where
  flat : bs.flatMap Blk.rows = rows
  mid : ∀ b ∈ bs, ∀ r ∈ b.mid, r.isG = true
  ahead : ∀ b ∈ bs.dropLast, b.mid ≠ [] ∨ b.z = true
theorem Blk.rows_ne (b : Blk) : b.rows ≠ [] := by simp [Blk.rows, Blk.part]
theorem Bk.ne {bs : List Blk} {rows : List Row} (h : Bk bs rows) (hn : rows ≠ []) : ∃ pre b, bs = pre ++ [b] ∧ rows = pre.flatMap Blk.rows ++ b.rows ∧ rows.getLast? = b.rows.getLast? := by
  rcases List.eq_nil_or_concat bs with rfl | ⟨pre, b, rfl⟩
  · exact absurd h.flat.symm hn
  · rw [List.concat_eq_append] at *
    have := h.flat
    rw [List.flatMap_append] at this
    have e : pre.flatMap Blk.rows ++ b.rows = rows := by simpa using this
    refine ⟨pre, b, rfl, e.symm, ?_⟩
    rw [← e, List.getLast?_append]
    have := b.rows_ne
    cases q : b.rows.getLast? with
    | none => exact absurd (List.getLast?_eq_none_iff.mp q) this
    | some _ => rfl
theorem last_z {b : Blk} (h : b.z = true) : b.rows.getLast? = some .z := by simp [Blk.rows, h]
theorem bk_step {bs : List Blk} {rows : List Row} {r : Row} (h : Bk bs rows) (hx : nx rows.getLast? r = true) : Bk (addRow bs r) (rows ++ [r]) := by
  by_cases hm : r.isM = true
  · cases r with
    | l => cases hm
    | c => cases hm
    | z => cases hm
    | m x y =>
      refine ⟨?_, ?_, ?_⟩
      · show (bs ++ [_]).flatMap _ = _
        rw [List.flatMap_append, h.flat]
        simp [Blk.rows, Blk.part]
      · intro b hb r hr
        rcases List.mem_append.mp hb with q | q
        · exact h.mid b q r hr
        · rw [List.mem_singleton.mp q] at hr; cases hr
      · intro b hb
        have hb : b ∈ bs := by simpa [addRow] using hb
        by_cases hne : rows = []
        · subst hne
          have := h.flat
          cases bs with
          | nil => cases hb
          | cons b0 bs => rw [List.flatMap_cons] at this; exact absurd (List.append_eq_nil_iff.mp this).1 b0.rows_ne
        · refine hid fun PP9 kk9 => ?_
          obtain ⟨pre, b1, rfl, _, hl⟩ := h.ne hne
          refine kk9 ?_
          clear kk9 PP9
          rcases List.mem_append.mp hb with q | q
          · exact h.ahead b (by simpa using q)
          · rw [List.mem_singleton.mp q]
            by_cases h1 : b1.mid = []
            · right
              cases h2 : b1.z with
              | true => rfl
              | false =>
                rw [hl] at hx
                simp [Blk.rows, Blk.part, h1, h2, nx, Row.isM] at hx
            · exact .inl h1
  · have hne : rows ≠ [] := fun z => by
      subst z
      exact hm hx
    refine hid fun PP9 kk9 => ?_
    obtain ⟨pre, b, rfl, he, hl⟩ := h.ne hne
    refine kk9 ?_
    clear kk9 PP9
    have hz : b.z = false := by
      cases q : b.z with
      | false => rfl
      | true =>
        rw [hl, last_z q] at hx
        exact absurd hx hm
    have hbz : b.rows = b.part := by simp [Blk.rows, hz]
    have hmid := h.mid b (by simp)
    have hpre : ∀ q ∈ pre, ∀ r ∈ q.mid, r.isG = true := fun q hq => h.mid q (by simp [hq])
    have hah : ∀ q ∈ pre, q.mid ≠ [] ∨ q.z = true := fun q hq => h.ahead q (by simpa using hq)
    have core : ∀ b' : Blk, b'.rows = b.rows ++ [r] → (∀ q ∈ b'.mid, q.isG = true) → Bk (pre ++ [b']) (rows ++ [r]) := fun b' e1 e2 => by
      refine ⟨?_, ?_, ?_⟩
      · rw [List.flatMap_append, he]; simp [e1]
      · intro q hq
        rcases List.mem_append.mp hq with w | w
        · exact hpre q w
        · rw [List.mem_singleton.mp w]; exact e2
      · intro q hq
        exact hah q (by simpa using hq)
    cases r with
    | m => exact absurd rfl hm
    | z =>
      show Bk (((pre ++ [b]).dropLast) ++ ((pre ++ [b]).getLast?.map _).toList) _
      rw [List.dropLast_concat, getLast_snoc]
      exact core _ (by rw [hbz]; rfl) hmid
    | l x y =>
      show Bk (((pre ++ [b]).dropLast) ++ ((pre ++ [b]).getLast?.map _).toList) _
      rw [List.dropLast_concat, getLast_snoc]
      exact core _ (by simp [Blk.rows, Blk.part, hz]) (fun q hq => by
        rcases List.mem_append.mp hq with w | w
        · exact hmid q w
        · rw [List.mem_singleton.mp w]; rfl)
    | c x1 y1 x2 y2 x3 y3 =>
      show Bk (((pre ++ [b]).dropLast) ++ ((pre ++ [b]).getLast?.map _).toList) _
      rw [List.dropLast_concat, getLast_snoc]
      exact core _ (by simp [Blk.rows, Blk.part, hz]) (fun q hq => by
        rcases List.mem_append.mp hq with w | w
        · exact hmid q w
        · rw [List.mem_singleton.mp w]; rfl)
theorem bk_nil : Bk (blocks []) [] := ⟨rfl, fun b hb => (by cases hb), fun b hb => (by cases hb)⟩
theorem nf_take {rows : List Row} (h : Nf none rows) {i : Nat} {r : Row} (hr : rows[i]? = some r) : nx (rows.take i).getLast? r = true := by
  have e : rows = rows.take i ++ r :: rows.drop (i + 1) := by rw [← drop_at hr, List.take_append_drop]
  rw [e] at h
  have := ((nf_append _ _ _).mp h).2.1
  simpa using this
theorem take_snoc {rows : List Row} {i : Nat} {r : Row} (hr : rows[i]? = some r) : rows.take (i + 1) = rows.take i ++ [r] := by rw [List.take_add_one, hr]; rfl
theorem bk_take {rows : List Row} (h : Nf none rows) : ∀ i, i ≤ rows.length → Bk (blocks (rows.take i)) (rows.take i)
  | 0, _ => by simpa using bk_nil
  | i + 1, hi => by
    have hr : rows[i]? = some rows[i] := List.getElem?_eq_getElem hi
    rw [take_snoc hr, blocks_snoc]
    exact bk_step (bk_take h i (by (first | lia | omega))) (nf_take h hr)
theorem bk_all {rows : List Row} (h : Nf none rows) : Bk (blocks rows) rows := by
  have := bk_take h rows.length (Nat.le_refl _)
  rwa [List.take_length] at this
theorem blocks_take {rows : List Row} {i : Nat} {r : Row} (hr : rows[i]? = some r) : blocks (rows.take (i + 1)) = addRow (blocks (rows.take i)) r := by rw [take_snoc hr, blocks_snoc]

/-- a row gone along the other way, to a point -/
noncomputable def back : Row → Pt → Row
  | .c x1 y1 x2 y2 _ _, p => .c x2 y2 x1 y1 p.1 p.2
  | .m .., p => .l p.1 p.2
  | .l .., p => .l p.1 p.2
  | .z, p => .l p.1 p.2
noncomputable def Blk.zw (b : Blk) : List Row := List.zipWith back b.mid (b.part.map endOf)
noncomputable def Blk.fin (b : Blk) : Pt := (b.part.getLast?.map endOf).getD (0, 0)
noncomputable def Blk.rev (b : Blk) : List Row := .m b.fin.1 b.fin.2 :: (b.zw.reverse ++ if b.z then [.z] else [])
noncomputable def revAll (rows : List Row) : List Row := (blocks rows).flatMap Blk.rev
theorem zw_len (b : Blk) : b.zw.length = b.mid.length := by simp [Blk.zw, Blk.part]
theorem rev_len (b : Blk) : b.rev.length = b.rows.length := by
  unfold Blk.rev Blk.rows
  rw [List.length_cons, List.length_append, List.length_append, List.length_reverse, zw_len]
  simp [Blk.part]; (first | lia | omega)
theorem flat_len2 {α β : Type} {f h : α → List β} (e : ∀ a, (f a).length = (h a).length) : ∀ l : List α, (l.flatMap f).length = (l.flatMap h).length
  | [] => rfl
  | a :: l => by rw [List.flatMap_cons, List.flatMap_cons, List.length_append, List.length_append, e, flat_len2 e l]
theorem revAll_len {rows : List Row} (h : Nf none rows) : (revAll rows).length = rows.length := by
  unfold revAll
  rw [flat_len2 rev_len, (bk_all h).flat]
theorem back_G (r : Row) (p : Pt) : (back r p).isG = true := by cases r <;> rfl
theorem zw_G {b : Blk} : ∀ r ∈ b.zw, r.isG = true := fun r hr => by
  unfold Blk.zw at hr
  rw [List.mem_iff_getElem?] at hr
  obtain ⟨i, hi⟩ := hr
  rw [List.getElem?_zipWith] at hi
  split at hi
  · cases hi; exact back_G _ _
  · cases hi
theorem nf_G : ∀ (l : List Row) (h : Option Row), (∀ r ∈ l, r.isG = true) → h ≠ none → h ≠ some .z → Nf h l ∧ ∃ r, (l.getLast?.or h) = some r ∧ (r.isG = true ∨ h = some r)
  | [], some r, _, _, _ => ⟨trivial, r, rfl, .inr rfl⟩
  | [], none, _, h, _ => absurd rfl h
  | r :: l, h, hl, h1, h2 => by
    have hr := hl r List.mem_cons_self
    have h3 : (some r : Option Row) ≠ some .z := fun z => by injection z with z; rw [z] at hr; cases hr
    refine hid fun PP9 kk9 => ?_
    obtain ⟨q1, q, q2, q3⟩ := nf_G l (some r) (fun a ha => hl a (List.mem_cons_of_mem _ ha)) (by simp) h3
    refine kk9 ?_
    clear kk9 PP9
    refine ⟨⟨?_, q1⟩, q, ?_, .inl ?_⟩
    · cases h with
      | none => exact absurd rfl h1
      | some a => cases a <;> cases r <;> simp_all [nx, Row.isM, Row.isG]
    · rw [← q2, List.getLast?_cons]; cases l.getLast? <;> rfl
    · rcases q3 with w | w
      · exact w
      · injection w with w; rw [← w]; exact hr
theorem nf_rev1 {b : Blk} {h : Option Row} (hx : nx h (.m 0 0) = true) : Nf h b.rev := by
  have h0 : nx h (.m b.fin.1 b.fin.2) = true := (nx_m h _ _ _ _).trans hx
  refine hid fun PP9 kk9 => ?_
  obtain ⟨q1, q, q2, q3⟩ := nf_G b.zw.reverse (some (.m b.fin.1 b.fin.2)) (fun r hr => zw_G r (List.mem_reverse.mp hr)) (by simp) (by simp)
  refine kk9 ?_
  clear kk9 PP9
  refine ⟨h0, (nf_append _ _ _).mpr ⟨q1, ?_⟩⟩
  rw [q2]
  cases b.z with
  | false => trivial
  | true =>
    refine ⟨?_, trivial⟩
    rcases q3 with w | w
    · cases q <;> first | rfl | cases w
    · injection w with w; rw [← w]; rfl
theorem rev_last {b : Blk} (h : b.mid ≠ [] ∨ b.z = true) : ∃ r, b.rev.getLast? = some r ∧ nx (some r) (.m 0 0) = true := by
  cases hz : b.z with
  | true => exact ⟨.z, by simp [Blk.rev, hz, List.getLast?_cons], rfl⟩
  | false =>
    have hm : b.mid ≠ [] := by simpa [hz] using h
    have hl : b.zw ≠ [] := fun z => hm (by have := zw_len b; rw [z] at this; exact List.eq_nil_of_length_eq_zero this.symm)
    rcases List.eq_nil_or_concat b.zw.reverse with q | ⟨l, a, q⟩
    · exact absurd (List.reverse_eq_nil_iff.mp q) hl
    · have ha : a.isG = true := zw_G a (List.mem_reverse.mp (by rw [q]; simp))
      refine ⟨a, ?_, ?_⟩
      · unfold Blk.rev
        rw [hz, q]
        simp [List.getLast?_cons]
      · cases a <;> first | rfl | cases ha
theorem nf_revs : ∀ (bs : List Blk) (h : Option Row), (∀ b ∈ bs.dropLast, b.mid ≠ [] ∨ b.z = true) → nx h (.m 0 0) = true → Nf h (bs.flatMap Blk.rev)
  | [], _, _, _ => trivial
  | [b], h, _, hx => by rw [List.flatMap_cons, List.flatMap_nil, List.append_nil]; exact nf_rev1 hx
  | b :: b2 :: bs, h, ha, hx => by
    rw [List.flatMap_cons]
    obtain ⟨r, e1, e2⟩ := rev_last (ha b (by simp))
    refine (nf_append _ _ _).mpr ⟨nf_rev1 hx, ?_⟩
    rw [e1]
    exact nf_revs (b2 :: bs) (some r) (fun q hq => ha q (by rw [List.dropLast_cons_of_ne_nil (by simp)]; exact List.mem_cons_of_mem _ hq)) e2
theorem nf_revAll {rows : List Row} (h : Nf none rows) : Nf none (revAll rows) := nf_revs _ none (bk_all h).ahead rfl
noncomputable def PB (B : Int) (p : Pt) : Prop := -B ≤ p.1 ∧ p.1 ≤ 3000 + B ∧ -B ≤ p.2 ∧ p.2 ≤ 3000 + B
theorem bd_pts {B : Int} {r : Row} : Bd B r ↔ ∀ p ∈ r.pts, PB B p := by
  cases r <;> simp [Bd, Row.coords, Row.pts, PB] <;> (first | lia | omega)
theorem bd_end {B : Int} {r : Row} (h : Bd B r) (hz : r.isZ = false) : PB B (endOf r) := by
  cases r with
  | z => cases hz
  | m x y => exact bd_pts.mp h _ (by simp [Row.pts, endOf])
  | l x y => exact bd_pts.mp h _ (by simp [Row.pts, endOf])
  | c _ _ _ _ x y => exact bd_pts.mp h _ (by simp [Row.pts, endOf])
theorem bd_back {B : Int} {r : Row} {p : Pt} (h : Bd B r) (hp : PB B p) : Bd B (back r p) := by
  rw [bd_pts] at *
  cases r <;> simp [back, Row.pts] at h ⊢ <;> first | exact hp | exact ⟨h.2.1, h.1, hp⟩
theorem bd_rev {B : Int} {b : Blk} (h : ∀ r ∈ b.part, Bd B r) (hG : ∀ r ∈ b.mid, r.isG = true) : ∀ r ∈ b.rev, Bd B r := by
  have hz : ∀ r ∈ b.part, r.isZ = false := fun r hr => by
    rcases List.mem_cons.mp hr with rfl | hr
    · rfl
    · have := hG r hr; cases r <;> first | rfl | cases this
  have hfin : PB B b.fin := by
    unfold Blk.fin
    have hne : b.part ≠ [] := by simp [Blk.part]
    rw [List.getLast?_eq_some_getLast hne]
    exact bd_end (h _ (List.getLast_mem hne)) (hz _ (List.getLast_mem hne))
  intro r hr
  rcases List.mem_cons.mp hr with rfl | hr
  · exact bd_pts.mpr (by simpa [Row.pts] using hfin)
  · rcases List.mem_append.mp hr with hr | hr
    · have hr := List.mem_reverse.mp hr
      unfold Blk.zw at hr
      rw [List.mem_iff_getElem?] at hr
      obtain ⟨i, hi⟩ := hr
      rw [List.getElem?_zipWith] at hi
      split at hi
      · rename_i a p ha hp
        cases hi
        rw [List.getElem?_map] at hp
        obtain ⟨q, hq, rfl⟩ := Option.map_eq_some_iff.mp hp
        exact bd_back (h _ (List.mem_cons_of_mem _ (List.mem_of_getElem? ha))) (bd_end (h _ (List.mem_of_getElem? hq)) (hz _ (List.mem_of_getElem? hq)))
      · cases hi
    · split at hr
      · rw [List.mem_singleton.mp hr]; exact bd_pts.mpr (by simp [Row.pts])
      · cases hr
theorem bd_revAll {B : Int} {rows : List Row} (h : Nf none rows) (hb : ∀ r ∈ rows, Bd B r) : ∀ r ∈ revAll rows, Bd B r := fun r hr => by
  obtain ⟨b, hb1, hr⟩ := List.mem_flatMap.mp hr
  refine bd_rev (fun q hq => hb q ?_) ((bk_all h).mid b hb1) r hr
  rw [← (bk_all h).flat]
  exact List.mem_flatMap.mpr ⟨b, hb1, List.mem_append_left _ hq⟩
end
section
section
variable {g : Gd} {X : Fx} {SC : Scope} {n : Nat} {st : St} {E : EP} {μ ν ρ : Mem}
noncomputable def numsD (l : List Pt) : List D := l.flatMap fun p => [.int p.1, .int p.2]
theorem nums_len : ∀ (l : List Pt), (numsD l).length = 2 * l.length
  | [] => rfl
  | p :: l => by
    have := nums_len l
    show (_ :: _ :: numsD l).length = _
    simp only [List.length_cons, this]
    (first | lia | omega)
theorem nums_snoc (l : List Pt) (p : Pt) : numsD (l ++ [p]) = numsD l ++ [.int p.1, .int p.2] := by simp [numsD]
theorem row_nums (r : Row) : r.d = .tup (.str r.w :: numsD r.pts) := by cases r <;> rfl
theorem c_path_row {b : Addr} {w : Str} {ps : List Pt} {Q : D → St → Prop} (P : Prg g) (hA : At g X SC (n + 1)) (hb : st.mem b = some (.list (ptsD ps))) (hlen : ps.length ≤ 100)
    (h : ∀ μ, Mod [] st.mem μ → Q (.tup (.str w :: numsD ps)) ⟨st.loc, μ⟩) : WCall g X st (.ref 229) [.str w, .ref b] Q E := by
  refine (P.path_row.fn.call hA rfl fun X' hA hC hL Q9 uQ E9 uE => ?_).w
  refine x_cons ?_
  walk_at "mg"
  intro f hf0
  walk_at "mg"
  have hbf : b ≠ f := ne_of hb hf0
  refine x_for hA (Wp.less ?_)
  walk_at "k"
  refine r_name hA rfl ?_
  refine ⟨(bindD ["word", "points"] [.str w, .ref b] noLoc).set "found" (.ref f), _, LLess.refl, Less.refl, ptsD ps, _,
    fun i st' => ∃ (μ' : Mem), st' = ⟨(bindD ["word", "points"] [.str w, .ref b] noLoc).set "found" (.ref f), μ'⟩ ∧ μ' f = some (.list (.str w :: numsD (ps.take i))) ∧ Mod [] st.mem μ',
    .list (set_new hf0 hb), ?_, ⟨_, rfl, set_same _ _, Mod.refl.new hf0⟩, ?_, ?_⟩
  · rintro i st' ⟨μ', rfl, _, hm⟩; exact hm.get0 hb
  · intro i d st' hd hh9
    refine hid fun PP9 kk9 => ?_
    obtain ⟨μ', rfl, hf, hm⟩ := hh9
    refine kk9 ?_
    clear kk9 PP9
    rw [List.getElem?_map] at hd
    obtain ⟨p, hp, rfl⟩ := Option.map_eq_some_iff.mp hd
    have hi : i < ps.length := (List.getElem?_eq_some_iff.mp hp).1
    walk_at "k"
    refine s_unpack (ds := [.int p.1, .int p.2]) hA rfl (ts := [_, _]) rfl ?_
    refine in_cons (s_name hA (in_cons (s_name hA (in_nil ?_))))
    walk_at "mg"
    refine r_extend hA ?_
    walk_at "mg"
    refine ⟨f, _, rfl, hf, ?_⟩
    walk_at "mg"
    intro e he0
    have hfe := set_new (c := .list [.int p.1, .int p.2]) he0 hf
    walk_at "mg"
    refine b_extendL hA (by exact hfe) (by exact set_same _ _) (by simp [nums_len]; (first | lia | omega)) ?_
    walk_at "mg"
    refine Wp.fit (by with_reducible assumption) ?_
    refine x_done _ _ (LLess.nil.cons3 rfl rfl rfl) Less.refl ⟨_, rfl, (set_same _ _).trans ?_, (hm.new he0).put (.inr hf0)⟩
    rw [List.take_add_one, hp]
    show _ = some (Cell.list (_ :: numsD (_ ++ [p])))
    rw [nums_snoc]
    rfl
  · intro st' hh9
    refine hid fun PP9 kk9 => ?_
    obtain ⟨μ', rfl, hf, hm⟩ := hh9
    refine kk9 ?_
    clear kk9 PP9
    rw [List.length_map, List.take_length] at hf
    walk_at "mg"
    refine r_call hA P.tuple trivial ?_
    walk_at "mg"
    refine b_tuple hf (by simp [nums_len]; (first | lia | omega)) ?_
    walk_at "mg"
    exact h μ' hm

noncomputable def blkD (p : Addr × Blk) : D := .tup [.ref p.1, .bool p.2.z]
structure Subs (μ0 μ : Mem) (f : Addr) (bs : List (Addr × Blk)) : Prop where
  list : μ f = some (.list (bs.map blkD))
  each : ∀ p ∈ bs, μ p.1 = some (.list (rowsD p.2.part)) ∧ μ0 p.1 = none ∧ p.1 ≠ f
  nodup : (bs.map (·.1)).Nodup
theorem blk_len {b : Blk} : b.part.length ≤ b.rows.length := by unfold Blk.rows; rw [List.length_append]; (first | lia | omega)
theorem blks_len : ∀ l : List Blk, l.length ≤ (l.flatMap Blk.rows).length
  | [] => Nat.le_refl _
  | b :: l => by
    have h1 := blks_len l
    have h2 : 1 ≤ b.rows.length := by unfold Blk.rows Blk.part; rw [List.length_append, List.length_cons]; (first | lia | omega)
    rw [List.flatMap_cons, List.length_append, List.length_cons]
    (first | lia | omega)
theorem seq_last {n : Nat} : seqIndex? (-1) (n + 1) = some n := by
  unfold seqIndex?
  have h1 : (-1 : Int) < 0 := by decide
  simp only [h1, if_true]
  rw [if_pos (by simp; (first | lia | omega))]
  simp; (first | lia | omega)
theorem c_path_subpaths {o : Addr} {rows : List Row} {Q : D → St → Prop} (P : Prg g) (hA : At g X SC (n + 1)) (ho : st.mem o = some (.list (rowsD rows))) (hlen : rows.length ≤ 1000) (hn : Nf none rows)
    (h : ∀ f bs μ, Subs st.mem μ f bs → bs.map (·.2) = blocks rows → st.mem f = none → Mod [] st.mem μ → Q (.ref f) ⟨st.loc, μ⟩) : WCall g X st (.ref 243) [.ref o] Q E := by
  refine (P.path_subpaths.fn.call hA rfl fun X' hA hC hL Q9 uQ E9 uE => ?_).w
  refine x_cons ?_
  walk_at "mg"
  intro f hf0
  walk_at "mg"
  have hof : o ≠ f := ne_of ho hf0
  refine x_for hA (Wp.less ?_)
  walk_at "k"
  refine r_name hA rfl ?_
  refine ⟨(bindD ["rows"] [.ref o] noLoc).set "found" (.ref f), _, LLess.refl, Less.refl, rowsD rows, _,
    fun i st' => ∃ (bs : List (Addr × Blk)) (μ' : Mem), st' = ⟨(bindD ["rows"] [.ref o] noLoc).set "found" (.ref f), μ'⟩ ∧ Subs st.mem μ' f bs ∧ bs.map (·.2) = blocks (rows.take i) ∧ Mod [] st.mem μ',
    .list (set_new hf0 ho), ?_, ⟨[], _, rfl, ⟨set_same _ _, fun p hp => (by cases hp), List.nodup_nil⟩, rfl, Mod.refl.new hf0⟩, ?_, ?_⟩
  · rintro i st' ⟨bs, μ', rfl, _, _, hm⟩; exact hm.get0 ho
  · intro i d st' hd hh9
    refine hid fun PP9 kk9 => ?_
    obtain ⟨bs, μ', rfl, hS, hbs, hm⟩ := hh9
    refine kk9 ?_
    clear kk9 PP9
    obtain ⟨r, hr', rfl⟩ := rows_at hd
    have hi : i < rows.length := (List.getElem?_eq_some_iff.mp hr').1
    have hK := bk_take hn i (by (first | lia | omega))
    have hnx := nf_take hn hr'
    have hstep := blocks_take hr'
    rw [← hbs] at hK hstep
    have hbl : bs.length ≤ i := by
      have h2 := blks_len (bs.map (·.2))
      rw [hK.flat, List.length_map, List.length_take] at h2
      (first | lia | omega)
    have hlast : r.isM = false → ∃ pre a b, bs = pre ++ [(a, b)] ∧ b.part.length ≤ i := fun hm0 => by
      have hne : rows.take i ≠ [] := fun z => by
        rw [z] at hnx
        have : nx none r = true := hnx
        rw [show nx none r = r.isM from rfl, hm0] at this
        cases this
      refine hid fun PP9 kk9 => ?_
      obtain ⟨pre, b, e1, e2, _⟩ := hK.ne hne
      refine kk9 ?_
      clear kk9 PP9
      rcases List.eq_nil_or_concat bs with rfl | ⟨pre', p, rfl⟩
      · simp at e1
      · refine ⟨pre', p.1, p.2, by simp, ?_⟩
        have : p.2 = b := by simp at e1; exact e1.2
        rw [this]
        have h3 := congrArg List.length e2
        rw [List.length_take, List.length_append] at h3
        have := blk_len (b := b)
        (first | lia | omega)
    have hput : ∀ {pre : List (Addr × Blk)} {a : Addr} {b : Blk} (b' : Blk) (ds : List D) (u : Unit), bs = pre ++ [(a, b)] → b'.z = b.z → ds = rowsD b'.part → Subs st.mem (μ'.set a (.list ds)) f (pre ++ [(a, b')]) := by
      rintro pre a b b' ds _ rfl hz rfl
      have ha := hS.each (a, b) (by simp)
      have hnd := hS.nodup
      refine ⟨(set_get (Ne.symm ha.2.2) hS.list).trans (by simp [blkD, hz]), ?_, by simpa using hnd⟩
      intro p hp
      rcases List.mem_append.mp hp with q | q
      · obtain ⟨w1, w2, w3⟩ := hS.each p (by simp [q])
        refine ⟨set_get (fun z => ?_) w1, w2, w3⟩
        rw [List.map_append, List.nodup_append] at hnd
        exact hnd.2.2 p.1 (List.mem_map_of_mem q) a (by simp) z
      · rw [List.mem_singleton.mp q]
        exact ⟨set_same _ _, ha.2⟩
    walk_at "k"
    refine s_name hA ?_ (by decide)
    cases r with
    | m x y =>
      dsimp only [Row.d]
      walk_at "go"
      refine r_append hA ?_
      walk_at "mg"
      refine ⟨f, _, rfl, hS.list, ?_⟩
      walk_at "mg"
      intro a ha0
      walk_at "mg"
      have hfa : f ≠ a := ne_of hS.list ha0
      walk_at "k"
      refine b_append hA (by exact set_new ha0 hS.list) (by simp; (first | lia | omega)) ?_
      walk_at "go"
      refine Wp.fit (by with_reducible assumption) ?_
      refine x_done _ _ ((LLess.nil.cons rfl).cons rfl) Less.refl ⟨bs ++ [(a, ⟨(x, y), [], false⟩)], _, rfl, ⟨(set_same _ _).trans (by simp [blkD]), ?_, ?_⟩, ?_, (hm.new ha0).put (.inr hf0)⟩
      · intro p hp
        rcases List.mem_append.mp hp with q | q
        · obtain ⟨w1, w2, w3⟩ := hS.each p q
          exact ⟨set_get w3 (set_new ha0 w1), w2, w3⟩
        · rw [List.mem_singleton.mp q]
          exact ⟨set_get (Ne.symm hfa) (set_same _ _), hm.none (by simp) ha0, Ne.symm hfa⟩
      · rw [List.map_append, List.nodup_append]
        refine ⟨hS.nodup, by simp, ?_⟩
        intro q hq q' hq' z
        refine hid fun PP9 kk9 => ?_
        obtain ⟨p, hp, rfl⟩ := List.mem_map.mp hq
        obtain ⟨p', hp', rfl⟩ := List.mem_map.mp hq'
        refine kk9 ?_
        clear kk9 PP9
        rw [List.mem_singleton.mp hp'] at z
        have := (hS.each p hp).1
        rw [z, ha0] at this
        cases this
      · rw [hstep]; simp [addRow]
    | z =>
      refine hid fun PP9 kk9 => ?_
      obtain ⟨pre, a, b, rfl, hbi⟩ := hlast rfl
      refine kk9 ?_
      clear kk9 PP9
      have ha := hS.each (a, b) (by simp)
      dsimp only [Row.d]
      walk_at "go"
      refine s_list_last hS.list (d := .tup [.ref a, .bool b.z]) (by simp [blkD]) ?_
      walk_at "mg"
      refine i_list_set hA.fx (by exact hS.list) (by decide) (by decide) (j := pre.length) (by rw [List.length_map, List.length_append]; exact seq_last) ?_
      walk_at "go"
      refine Wp.fit (by with_reducible assumption) ?_
      refine x_done _ _ ((LLess.nil.cons rfl).cons rfl) Less.refl ⟨pre ++ [(a, { b with z := true })], _, rfl, ⟨(set_same _ _).trans (by simp [blkD]), ?_, by simpa using hS.nodup⟩, ?_, hm.put (.inr hf0)⟩
      · intro p hp
        have hq : ∀ q ∈ pre ++ [(a, b)], (μ'.set f (.list (((pre ++ [(a, b)]).map blkD).set pre.length (.tup [.ref a, .bool true])))) q.1 = some (.list (rowsD q.2.part)) ∧ st.mem q.1 = none ∧ q.1 ≠ f := fun q hq => by
          obtain ⟨w1, w2, w3⟩ := hS.each q hq
          exact ⟨set_get w3 w1, w2, w3⟩
        rcases List.mem_append.mp hp with q | q
        · exact hq p (by simp [q])
        · rw [List.mem_singleton.mp q]; exact hq (a, b) (by simp)
      · rw [hstep]; simp [addRow]
    | l x y =>
      refine hid fun PP9 kk9 => ?_
      obtain ⟨pre, a, b, rfl, hbi⟩ := hlast rfl
      refine kk9 ?_
      clear kk9 PP9
      have ha := hS.each (a, b) (by simp)
      dsimp only [Row.d]
      walk_at "go"
      refine r_append hA ?_
      walk_at "mg"
      refine s_list_last hS.list (d := .tup [.ref a, .bool b.z]) (by simp [blkD]) ?_
      walk_at "mg"
      refine ⟨a, _, rfl, ha.1, ?_⟩
      walk_at "mg"
      refine b_append hA (by exact ha.1) (by first | exact rows_le (by first | lia | omega) | (simp [rowsD]; first | lia | omega)) ?_
      walk_at "go"
      refine Wp.fit (by with_reducible assumption) ?_
      refine x_done _ _ ((LLess.nil.cons rfl).cons rfl) Less.refl ⟨pre ++ [(a, { b with mid := b.mid ++ [.l x y] })], _, rfl, hput _ _ () rfl rfl (by simp [Blk.part, rowsD, Row.d]), ?_, hm.put (.inr ha.2.1)⟩
      rw [hstep]; simp [addRow]
    | c x1 y1 x2 y2 x3 y3 =>
      refine hid fun PP9 kk9 => ?_
      obtain ⟨pre, a, b, rfl, hbi⟩ := hlast rfl
      refine kk9 ?_
      clear kk9 PP9
      have ha := hS.each (a, b) (by simp)
      dsimp only [Row.d]
      walk_at "go"
      refine r_append hA ?_
      walk_at "mg"
      refine s_list_last hS.list (d := .tup [.ref a, .bool b.z]) (by simp [blkD]) ?_
      walk_at "mg"
      refine ⟨a, _, rfl, ha.1, ?_⟩
      walk_at "mg"
      refine b_append hA (by exact ha.1) (by first | exact rows_le (by first | lia | omega) | (simp [rowsD]; first | lia | omega)) ?_
      walk_at "go"
      refine Wp.fit (by with_reducible assumption) ?_
      refine x_done _ _ ((LLess.nil.cons rfl).cons rfl) Less.refl ⟨pre ++ [(a, { b with mid := b.mid ++ [.c x1 y1 x2 y2 x3 y3] })], _, rfl, hput _ _ () rfl rfl (by simp [Blk.part, rowsD, Row.d]), ?_, hm.put (.inr ha.2.1)⟩
      rw [hstep]; simp [addRow]
  · intro st' hh9
    refine hid fun PP9 kk9 => ?_
    obtain ⟨bs, μ', rfl, hS, hbs, hm⟩ := hh9
    refine kk9 ?_
    clear kk9 PP9
    rw [List.length_map, List.take_length] at hbs
    walk_at "mg"
    exact h f bs μ' hS hbs hf0 hm
end
end
section
section
variable {g : Gd} {X : Fx} {SC : Scope} {n : Nat} {st : St} {E : EP} {μ ν ρ : Mem}
theorem rng_down (m : Nat) (h : m ≤ 1000) : Builtin.Range.rangeSize (m : Int) 0 (-1) = ((m : Nat) : Int) ∧ Builtin.Range.small (m : Int) 0 (-1) = true := by
  have e : Builtin.Range.rangeSize (m : Int) 0 (-1) = ((m : Nat) : Int) := by
    unfold Builtin.Range.rangeSize
    rw [if_neg (by decide), show (- -1 : Int) = 1 from rfl, Int.ediv_one]
    split <;> (first | lia | omega)
  refine ⟨e, ?_⟩
  unfold Builtin.Range.small
  rw [e]
  simp [Builtin.Range.rangeFitsLong]
  (first | lia | omega)
theorem cut_last (l : List D) : cutD l none (some (-1)) = l.dropLast := by
  unfold cutD
  show (l.drop 0).take (clipAt l.length (-1) - 0) = _
  rw [List.drop_zero, List.dropLast_eq_take]
  congr 1
  unfold clipAt
  simp
  omega
theorem pts_last {r : Row} (hz : r.isZ = false) : r.pts.getLast? = some (endOf r) := by cases r <;> first | rfl | cases hz
theorem ptsD_last {r : Row} (hz : r.isZ = false) : (ptsD r.pts).getLast? = some (Pt.d (endOf r)) := by rw [List.getLast?_map, pts_last hz]; rfl
theorem back_pts {r : Row} (hG : r.isG = true) (p : Pt) : (back r p).pts = r.pts.dropLast.reverse ++ [p] := by cases r <;> first | rfl | cases hG
theorem back_w {r : Row} (hG : r.isG = true) (p : Pt) : (back r p).w = r.w := by cases r <;> first | rfl | cases hG
theorem back_d {r : Row} (hG : r.isG = true) (p : Pt) : (back r p).d = .tup (.str r.w :: numsD (r.pts.dropLast.reverse ++ [p])) := by rw [row_nums, back_w hG, back_pts hG]
theorem part_z {b : Blk} (hG : ∀ r ∈ b.mid, r.isG = true) : ∀ r ∈ b.part, r.isZ = false := fun r hr => by
  rcases List.mem_cons.mp hr with rfl | hr
  · rfl
  · have := hG r hr; cases r <;> first | rfl | cases this
theorem zw_at {b : Blk} {j : Nat} (hj : j < b.mid.length) : ∃ r e, b.part[b.mid.length - j]? = some r ∧ b.part[b.mid.length - 1 - j]? = some e ∧ r ∈ b.mid ∧ e ∈ b.part ∧ b.zw.reverse[j]? = some (back r (endOf e)) := by
  have h1 : b.mid.length - j = (b.mid.length - 1 - j) + 1 := by (first | lia | omega)
  have h2 : b.mid.length - 1 - j < b.mid.length := by (first | lia | omega)
  have h3 : b.mid.length - 1 - j < b.part.length := by unfold Blk.part; rw [List.length_cons]; (first | lia | omega)
  refine ⟨b.mid[b.mid.length - 1 - j], b.part[b.mid.length - 1 - j], ?_, List.getElem?_eq_getElem h3, List.getElem_mem h2, List.getElem_mem h3, ?_⟩
  · rw [h1]; unfold Blk.part; rw [List.getElem?_cons_succ]; exact List.getElem?_eq_getElem h2
  · rw [List.getElem?_reverse (by rw [zw_len]; exact hj), zw_len]
    unfold Blk.zw
    rw [List.getElem?_zipWith, List.getElem?_eq_getElem h2, List.getElem?_map, List.getElem?_eq_getElem h3]
    rfl
theorem c_path_reversed {o : Addr} {rows : List Row} {Q : D → St → Prop} (P : Prg g) (hA : At g X SC (n + 2)) (ho : st.mem o = some (.list (rowsD rows))) (hlen : rows.length ≤ 1000) (hn : Nf none rows)
    (h : ∀ f μ, μ f = some (.list (rowsD (revAll rows))) → st.mem f = none → Mod [] st.mem μ → Q (.ref f) ⟨st.loc, μ⟩) : WCall g X st (.ref 248) [.ref o] Q E := by
  refine (P.path_reversed.fn.call hA rfl fun X' hA hC hL Q9 uQ E9 uE => ?_).w
  refine x_cons ?_
  walk_at "mg"
  intro w hw0
  walk_at "mg"
  have how : o ≠ w := ne_of ho hw0
  have hRl := revAll_len hn
  refine x_for hA (Wp.less ?_)
  walk_at "k"
  refine r_call hA P.path_subpaths.glob P.path_subpaths.keep ?_
  walk_at "mg"
  refine c_path_subpaths P hA (set_new hw0 ho) hlen hn fun f bs μ1 hS hbs hf0 hm1 => ?_
  have hm1' : Mod [] st.mem μ1 := (Mod.refl.new hw0).trans hm1
  have hwf : w ≠ f := fun z => by dsimp only at hf0; rw [← z, set_same] at hf0; cases hf0
  have hK := bk_all hn
  rw [← hbs] at hK
  refine ⟨(bindD ["rows"] [.ref o] noLoc).set "found" (.ref w), μ1, LLess.refl, Less.refl, bs.map blkD, _,
    fun i st' => ∃ (μ' : Mem), st' = ⟨(bindD ["rows"] [.ref o] noLoc).set "found" (.ref w), μ'⟩ ∧ μ' w = some (.list (rowsD (((bs.take i).map (·.2)).flatMap Blk.rev))) ∧ Mod [w] μ1 μ' ∧ Mod [] st.mem μ',
    .list hS.list, ?_, ⟨μ1, rfl, hm1.get0 (set_same _ _), Mod.refl, hm1'⟩, ?_, ?_⟩
  · rintro i st' ⟨μ', rfl, _, hm, _⟩; exact hm.get (by simp [Ne.symm hwf]) hS.list
  · intro i d st' hd hh9
    refine hid fun PP9 kk9 => ?_
    obtain ⟨μ', rfl, hw, hm, hm0⟩ := hh9
    refine kk9 ?_
    clear kk9 PP9
    rw [List.getElem?_map] at hd
    refine hid fun PP9 kk9 => ?_
    obtain ⟨⟨a, b⟩, hab, rfl⟩ := Option.map_eq_some_iff.mp hd
    refine kk9 ?_
    clear kk9 PP9
    have hmem : (a, b) ∈ bs := List.mem_of_getElem? hab
    obtain ⟨ha1, ha2, ha3⟩ := hS.each (a, b) hmem
    have haw : a ≠ w := fun z => by dsimp only at ha2; rw [z, set_same] at ha2; cases ha2
    have ha : μ' a = some (.list (rowsD b.part)) := hm.get (by simp [haw]) ha1
    have hG := hK.mid b (List.mem_map_of_mem (f := (·.2)) hmem)
    have hz := part_z hG
    have hsum : (((bs.take i).map (·.2)).flatMap Blk.rev).length + b.rev.length ≤ rows.length := by
      have e : bs.map (·.2) = (bs.take i).map (·.2) ++ b :: (bs.drop (i + 1)).map (·.2) := by
        have := congrArg (List.map (·.2)) (show bs = bs.take i ++ (a, b) :: bs.drop (i + 1) by rw [← drop_at hab, List.take_append_drop])
        simpa using this
      rw [← hRl]
      unfold revAll
      rw [← hbs, e, List.flatMap_append, List.flatMap_cons, List.length_append, List.length_append]
      (first | lia | omega)
    have hrl : b.rev.length = 1 + (b.mid.length + (if b.z then [Row.z] else []).length) := by
      unfold Blk.rev; rw [List.length_cons, List.length_append, List.length_reverse, zw_len]; (first | lia | omega)
    generalize hfs : ((bs.take i).map (·.2)).flatMap Blk.rev = fs at hw hsum
    have hfs1 : ((bs.take (i + 1)).map (·.2)).flatMap Blk.rev = fs ++ b.rev := by
      rw [List.take_add_one, hab, List.map_append, List.flatMap_append, hfs]
      simp
    walk_at "k"
    refine s_unpack (ds := [.ref a, .bool b.z]) hA rfl (ts := [_, _]) rfl ?_
    refine in_cons (s_name hA (in_cons (s_name hA (in_nil ?_))))
    walk_at "mg"
    refine x_comp hA ⟨rfl, rfl, by decide, by decide, by decide⟩ (cellsHere [] rfl (by intro x hx; cases hx)) ?_
    walk_at "mg"
    refine ⟨rowsD b.part, _, fun i out μ => out = (b.part.map fun r => Pt.d (endOf r)).take i ∧ Mod [] μ' μ, ⟨.list ha, by simp [Blk.part]; (first | lia | omega), ?_, ⟨rfl, Mod.refl⟩, ?_⟩, ?_⟩
    · rintro i out μ ⟨_, hm'⟩ loc D l hD
      exact set_new hD (hm'.get0 ha)
    · rintro XC hAC j out μ D d hd' ⟨rfl, hm'⟩ hD
      obtain ⟨q, hq, rfl⟩ := rows_at hd'
      walk_at "k"
      refine s_name hAC ?_ (by decide)
      refine t_nil ⟨fun _ => ?_, fun z => by cases z⟩
      walk_at "mg"
      refine r_call hAC P.path_points.glob P.path_points.keep ?_
      walk_at "mg"
      refine c_path_points P hAC fun c μ2 hc hc0 hm2 => ?_
      walk_at "mg"
      refine s_list_last hc (ptsD_last (hz q (List.mem_of_getElem? hq))) ?_
      walk_at "k"
      refine CFin.of (LLess.cap (by decide)) (hm2.get0 (set_same _ _)) ⟨?_, fun a' c' ha' e => del_get (hm2.get0 (set_new hD (hm'.get0 e))) (ne_of (hm'.get0 e) hD)⟩
      rw [List.take_add_one, List.getElem?_map, hq]
      rfl
    · rintro out μ2 e ⟨rfl, hm2⟩ he0
      have hee : (b.part.map fun r => Pt.d (endOf r)).take (rowsD b.part).length = b.part.map fun r => Pt.d (endOf r) := List.take_of_length_le (by simp)
      rw [hee]
      have hm3 : Mod [] μ' (μ2.set e (.list (b.part.map fun r => Pt.d (endOf r)))) := hm2.new he0
      have he1 : (μ2.set e (.list (b.part.map fun r => Pt.d (endOf r)))) e = some (.list (b.part.map fun r => Pt.d (endOf r))) := set_same _ _
      have hew : e ≠ w := fun z => by rw [z] at he0; rw [hm2.get0 hw] at he0; cases he0
      have hea : e ≠ a := fun z => by rw [z] at he0; rw [hm2.get0 ha] at he0; cases he0
      have hef : e ≠ f := fun z => by rw [z] at he0; rw [hm2.get0 (hm.get (by simp [Ne.symm hwf]) hS.list)] at he0; cases he0
      generalize (μ2.set e (.list (b.part.map fun r => Pt.d (endOf r)))) = μ3 at hm3 he1 ⊢
      walk_at "mg"
      refine r_append hA ?_
      walk_at "mg"
      refine ⟨w, _, rfl, hm3.get0 hw, ?_⟩
      walk_at "mg"
      refine r_call hA P.path_row.glob P.path_row.keep ?_
      walk_at "mg"
      refine s_list_last he1 (d := Pt.d b.fin) (by unfold Blk.fin; rw [List.getLast?_map]; cases q : b.part.getLast? with | none => simp [Blk.part] at q | some v => rfl) ?_
      walk_at "mg"
      intro c hc0
      walk_at "mg"
      refine c_path_row (ps := [b.fin]) P hA (set_same _ _) (by simp) fun μ4 hm4 => ?_
      have hm4' : Mod [] μ' μ4 := (hm3.new hc0).trans hm4
      have he4 := hm4.get0 (set_new (c := .list [Pt.d b.fin]) hc0 he1)
      walk_at "mg"
      refine b_append hA (by exact hm4'.get0 hw) (by first | exact rows_le (by first | lia | omega) | (simp [rowsD]; first | lia | omega)) ?_
      walk_at "mg"
      have hw5 : (μ4.set w (.list (rowsD fs ++ [.tup (.str "m" :: numsD [b.fin])]))) w = some (.list (rowsD (fs ++ [.m b.fin.1 b.fin.2]))) := (set_same _ _).trans (by simp [rowsD, row_nums, Row.w, Row.pts])
      have ha5 : (μ4.set w (.list (rowsD fs ++ [.tup (.str "m" :: numsD [b.fin])]))) a = some (.list (rowsD b.part)) := set_get haw (hm4'.get0 ha)
      have he5 : (μ4.set w (.list (rowsD fs ++ [.tup (.str "m" :: numsD [b.fin])]))) e = some (.list (b.part.map fun r => Pt.d (endOf r))) := set_get hew he4
      have hm5 : Mod [w] μ' (μ4.set w (.list (rowsD fs ++ [.tup (.str "m" :: numsD [b.fin])]))) := hm4'.wide.put (.inl (by simp))
      generalize (μ4.set w (.list (rowsD fs ++ [.tup (.str "m" :: numsD [b.fin])]))) = μ5 at hw5 ha5 he5 hm5 ⊢
      have hb1 : ((rowsD b.part).length : Int) - 1 = (b.mid.length : Nat) := by simp [rowsD, Blk.part]
      have hml : b.mid.length ≤ 1000 := by (first | lia | omega)
      refine Wp.mid (J := fun st' => ∃ (ν : Mem), st' = ⟨((((bindD ["rows"] [.ref o] noLoc).set "found" (.ref w)).set "part" (.ref a)).set "is_closed" (.bool b.z)).set "ends" (.ref e), ν⟩ ∧ ν w = some (.list (rowsD ((fs ++ [.m b.fin.1 b.fin.2]) ++ b.zw.reverse))) ∧ Mod [w] μ5 ν) (fun _ _ => ?_) ?_
      · refine x_for hA (Wp.less ?_)
        walk_at "k"
        refine r_call hA P.range trivial ?_
        walk_at "mg"
        refine r_call hA P.len trivial ?_
        walk_at "mg"
        refine b_lenL ha5 (by simp [rowsD, Blk.part]; (first | lia | omega)) ?_
        walk_at "mg"
        refine b_range3 (by decide) (by decide) ?_
        rw [hb1]
        obtain ⟨hr1, hr2⟩ := rng_down b.mid.length hml
        refine ⟨((((bindD ["rows"] [.ref o] noLoc).set "found" (.ref w)).set "part" (.ref a)).set "is_closed" (.bool b.z)).set "ends" (.ref e), μ5, LLess.refl, Less.refl, rngD b.mid.length (-1) b.mid.length, _,
          fun j st' => ∃ (ν : Mem), st' = ⟨((((bindD ["rows"] [.ref o] noLoc).set "found" (.ref w)).set "part" (.ref a)).set "is_closed" (.bool b.z)).set "ends" (.ref e), ν⟩ ∧ ν w = some (.list (rowsD ((fs ++ [.m b.fin.1 b.fin.2]) ++ b.zw.reverse.take j))) ∧ Mod [w] μ5 ν,
          .rng hr2 hr1, fun _ _ _ => trivial, ⟨μ5, rfl, by simpa using hw5, Mod.refl⟩, ?_, ?_⟩
        · intro j d st' hd' hh9
          refine hid fun PP9 kk9 => ?_
          obtain ⟨ν, rfl, hwν, hmν⟩ := hh9
          refine kk9 ?_
          clear kk9 PP9
          refine hid fun PP9 kk9 => ?_
          obtain ⟨hj, rfl⟩ := rngD_at hd'
          obtain ⟨r, q, hr', hq', hrm, hqm, hzj⟩ := zw_at hj
          refine kk9 ?_
          clear kk9 PP9
          have haν := hmν.get (by simp [haw]) ha5
          have heν := hmν.get (by simp [hew]) he5
          have hGr := hG r hrm
          have hi1 : ((b.mid.length : Nat) : Int) + (j : Nat) * (-1) = ((b.mid.length - j : Nat) : Int) := by (first | lia | omega)
          rw [hi1]
          walk_at "k"
          refine s_name hA ?_ (by decide)
          walk_at "mg"
          refine r_slice_list ?_
          walk_at "k"
          refine r_call hA P.path_points.glob P.path_points.keep ?_
          walk_at "mg"
          refine s_list (by exact haν) (by (first | lia | omega)) (by (first | lia | omega)) (d := r.d) (by simpa [rowsD] using ⟨r, hr', rfl⟩) ?_
          walk_at "mg"
          refine c_path_points P hA fun c2 ν2 hc2 hc20 hn2 => ?_
          walk_at "mg"
          refine ⟨c2, _, none, some (-1), rfl, hc2, by simp; have := pts_len r; (first | lia | omega), rfl, rfl, fun c3 hc3 => ?_⟩
          rw [cut_last]
          have hn3 : Mod [] ν (ν2.set c3 (.list (ptsD r.pts).dropLast)) := Mod.new hn2 hc3
          have hc33 : (ν2.set c3 (.list (ptsD r.pts).dropLast)) c3 = some (.list (ptsD r.pts).dropLast) := set_same _ _
          generalize (ν2.set c3 (.list (ptsD r.pts).dropLast)) = ν3 at hn3 hc33 ⊢
          walk_at "mg"
          refine r_append hA ?_
          walk_at "mg"
          refine ⟨w, _, rfl, hn3.get0 hwν, ?_⟩
          walk_at "mg"
          refine r_call hA P.path_row.glob P.path_row.keep ?_
          walk_at "mg"
          refine s_list (by exact hn3.get0 haν) (by (first | lia | omega)) (by (first | lia | omega)) (d := r.d) (by simpa [rowsD] using ⟨r, hr', rfl⟩) ?_
          walk_at "mg"
          refine r_slice_rev ?_
          walk_at "mg"
          refine ⟨c3, _, rfl, rfl, hc33, by simp; have := pts_len r; (first | lia | omega), fun c4 hc4 => ?_⟩
          have hn4 : Mod [] ν (ν3.set c4 (.list (ptsD r.pts).dropLast.reverse)) := hn3.new hc4
          have hc44 : (ν3.set c4 (.list (ptsD r.pts).dropLast.reverse)) c4 = some (.list (ptsD r.pts).dropLast.reverse) := set_same _ _
          generalize (ν3.set c4 (.list (ptsD r.pts).dropLast.reverse)) = ν4 at hn4 hc44 ⊢
          walk_at "mg"
          refine s_list (by exact hn4.get0 heν) (by (first | lia | omega)) (by (first | lia | omega)) (d := Pt.d (endOf q)) (by
            have hi2 : (((b.mid.length - j : Nat) : Int) - 1).toNat = b.mid.length - 1 - j := by (first | lia | omega)
            rw [hi2, List.getElem?_map, hq']; rfl) ?_
          walk_at "mg"
          intro c5 hc5
          walk_at "mg"
          refine o_addL (set_new hc5 hc44) (set_same _ _) (by simp; have := pts_len r; (first | lia | omega)) fun c6 hc6 => ?_
          have hn6 : Mod [] ν ((ν4.set c5 (.list [Pt.d (endOf q)])).set c6 (.list ((ptsD r.pts).dropLast.reverse ++ [Pt.d (endOf q)]))) := (hn4.new hc5).new hc6
          have hc66 : ((ν4.set c5 (.list [Pt.d (endOf q)])).set c6 (.list ((ptsD r.pts).dropLast.reverse ++ [Pt.d (endOf q)]))) c6 = some (.list (ptsD (r.pts.dropLast.reverse ++ [endOf q]))) := (set_same _ _).trans (by simp [ptsD])
          generalize ((ν4.set c5 (.list [Pt.d (endOf q)])).set c6 (.list ((ptsD r.pts).dropLast.reverse ++ [Pt.d (endOf q)]))) = ν6 at hn6 hc66 ⊢
          walk_at "mg"
          refine c_path_row P hA hc66 (by simp; have := pts_len r; (first | lia | omega)) fun ν7 hm7 => ?_
          walk_at "mg"
          have hn7 := hn6.trans hm7
          walk_at "k"
          refine b_append hA (by exact hn7.get0 hwν) (by simp [rowsD, zw_len]; (first | lia | omega)) ?_
          walk_at "mg"
          refine Wp.fit (by with_reducible assumption) ?_
          refine x_done _ _ ((((LLess.nil.cons rfl).cons3 rfl rfl rfl).cons rfl)) Less.refl ⟨_, rfl, (set_same _ _).trans ?_, hmν.trans (hn7.wide.put (.inl (by simp)))⟩
          rw [← back_d hGr, List.take_add_one, hzj]
          simp [rowsD]
        · intro st' hh9
          refine hid fun PP9 kk9 => ?_
          obtain ⟨ν, rfl, hwν, hmν⟩ := hh9
          refine kk9 ?_
          clear kk9 PP9
          walk_at "mg"
          refine ⟨ν, rfl, ?_, hmν⟩
          have : (rngD b.mid.length (-1) b.mid.length).length = b.zw.reverse.length := by simp [rngD, zw_len]
          rw [this, List.take_length] at hwν
          exact hwν
      · intro st' hh9
        refine hid fun PP9 kk9 => ?_
        obtain ⟨ν, rfl, hwν, hmν⟩ := hh9
        refine kk9 ?_
        clear kk9 PP9
        walk_at "mg"
        have fin : ∀ ν', ν' w = some (.list (rowsD (fs ++ b.rev))) → Mod [w] μ5 ν' → (∃ (μ' : Mem), (⟨(bindD ["rows"] [.ref o] noLoc).set "found" (.ref w), ν'⟩ : St) = ⟨(bindD ["rows"] [.ref o] noLoc).set "found" (.ref w), μ'⟩ ∧ μ' w = some (.list (rowsD (((bs.take (i + 1)).map (·.2)).flatMap Blk.rev))) ∧ Mod [w] μ1 μ' ∧ Mod [] st.mem μ') := fun ν' h1 h2 => by
          have h3 : Mod [w] μ' ν' := hm5.trans h2
          refine ⟨ν', rfl, by rw [hfs1]; exact h1, hm.trans h3, fun a' c' ha' e => ?_⟩
          exact h3 a' c' (by intro z; rw [List.mem_singleton.mp z, hw0] at e; cases e) (hm0.get0 e)
        refine ⟨fun hz1 => ?_, fun hz1 => ?_⟩
        · walk_at "mg"
          refine r_append hA ?_
          walk_at "mg"
          refine ⟨w, _, rfl, hwν, ?_⟩
          walk_at "mg"
          refine b_append hA (by exact hwν) (by simp [rowsD, zw_len]; (first | lia | omega)) ?_
          walk_at "mg"
          refine Wp.fit (by with_reducible assumption) ?_
          refine x_done _ _ ((LLess.nil.cons rfl).cons rfl) Less.refl (fin _ ((set_same _ _).trans ?_) (hmν.put (.inl (by simp))))
          simp [rowsD, Blk.rev, hz1, Row.d]
        · walk_at "mg"
          refine Wp.fit (by with_reducible assumption) ?_
          refine x_done _ _ ((LLess.nil.cons rfl).cons rfl) Less.refl (fin _ (hwν.trans ?_) hmν)
          simp [Blk.rev, hz1]
  · intro st' hh9
    refine hid fun PP9 kk9 => ?_
    obtain ⟨μ', rfl, hw, hm, hm0⟩ := hh9
    refine kk9 ?_
    clear kk9 PP9
    rw [List.length_map, List.take_length, hbs] at hw
    walk_at "mg"
    exact h w μ' hw hw0 hm0
theorem c_reversed {d k : Addr} {rows : List Row} {most : Int} {Q : D → St → Prop} (P : Prg g) (hA : At g X SC (n + 8)) (hp : PathAt st.mem d k most rows) (hlen : (rows.length : Int) ≤ most)
    (hm : most ≤ 1000) (hn : Nf none rows)
    (hok : ∀ d' k' μ, PathAt μ d' k' most (revAll rows) → st.mem d' = none → st.mem k' = none → Mod [] st.mem μ → Q (.obj 198 d') ⟨st.loc, μ⟩) : WCall g X st (.ref 188) [.obj 198 d] Q E := by
  obtain ⟨hd, hk⟩ := id hp
  have hnf := nf_revAll hn
  have hrl := revAll_len hn
  refine (P.reversed.fn.call hA rfl fun X' hA hC hL Q9 uQ E9 uE => ?_).w
  refine x_cons ?_
  refine x_ret ?_
  walk_at "k"
  refine r_call hA P.path_of.glob P.path_of.keep ?_
  walk_at "k"
  refine r_items_cons ?_
  walk_at "k"
  refine r_call hA P.path_reversed.glob P.path_reversed.keep ?_
  walk_at "mg"
  refine c_path_reversed P hA hk (by (first | lia | omega)) hn fun f μ hfm hf0 hmm => ?_
  obtain ⟨hd2, hk2⟩ := id (hp.mod0 hmm)
  walk_at "mg"
  refine c_path_of P hA hfm (by (first | lia | omega)) hm (by (first | lia | omega)) (nf_head hnf) (fun hle d' k' μ2 hp2 hd' hk' hm2 => ?_) fun hlt μ2 hm2 => ?_
  · rw [putAll_nil hnf] at hle hp2
    walk_at "mg"
    exact hok d' k' μ2 hp2 (hmm.none (by simp) hd') (hmm.none (by simp) hk') (hmm.trans hm2)
  · rw [putAll_nil hnf] at hlt
    (first | lia | omega)
end
end
section
/-! ## The law's own way back -/
noncomputable def lastRows (cs : List Blk) : List Row := (cs.getLast?.map Blk.rows).getD []
structure Bw where
  f : List Row
  w : List Str
  p : List Pt
noncomputable def bw (rows : List Row) (i : Nat) : Bw :=
  if i ≤ rows.length then ⟨(blocks (rows.take i)).dropLast.flatMap Blk.rev, (lastRows (blocks (rows.take i))).map Row.w, (lastRows (blocks (rows.take i))).flatMap Row.pts⟩ else ⟨revAll rows, ["m"], []⟩
theorem bw_at {rows : List Row} {i : Nat} (h : i ≤ rows.length) : bw rows i = ⟨(blocks (rows.take i)).dropLast.flatMap Blk.rev, (lastRows (blocks (rows.take i))).map Row.w, (lastRows (blocks (rows.take i))).flatMap Row.pts⟩ := if_pos h
theorem bw_end (rows : List Row) : bw rows (rows.length + 1) = ⟨revAll rows, ["m"], []⟩ := if_neg (by (first | lia | omega))
theorem bw_zero (rows : List Row) : bw rows 0 = ⟨[], [], []⟩ := rfl
theorem bw_m {rows : List Row} {i : Nat} {x y : Int} (h : rows[i]? = some (.m x y)) : bw rows (i + 1) = ⟨(blocks (rows.take i)).flatMap Blk.rev, ["m"], [(x, y)]⟩ := by
  have hi := (List.getElem?_eq_some_iff.mp h).1
  rw [bw_at (by (first | lia | omega)), blocks_take h]
  simp [addRow, lastRows, Blk.rows, Blk.part, Row.w, Row.pts]
theorem bw_other {rows : List Row} {i : Nat} {r : Row} (hn : Nf none rows) (h : rows[i]? = some r) (hm : r.isM = false) : bw rows (i + 1) = ⟨(bw rows i).f, (bw rows i).w ++ [r.w], (bw rows i).p ++ r.pts⟩ := by
  have hi := (List.getElem?_eq_some_iff.mp h).1
  have hK := bk_take hn i (by (first | lia | omega))
  have hnx := nf_take hn h
  rw [bw_at (i := i + 1) (by (first | lia | omega)), bw_at (i := i) (by (first | lia | omega)), blocks_take h]
  have hne : rows.take i ≠ [] := fun z => by
    rw [z] at hnx
    have : r.isM = true := hnx
    rw [hm] at this; cases this
  refine hid fun PP9 kk9 => ?_
  obtain ⟨pre, b, e1, e2, e3⟩ := hK.ne hne
  refine kk9 ?_
  clear kk9 PP9
  rw [e1]
  have hz : b.z = false := by
    cases q : b.z with
    | false => rfl
    | true =>
      rw [e3, last_z q] at hnx
      have : r.isM = true := hnx
      rw [hm] at this; cases this
  cases r with
  | m => cases hm
  | l x y => simp [addRow, lastRows, Blk.rows, Blk.part, hz, Row.w, Row.pts]
  | c => simp [addRow, lastRows, Blk.rows, Blk.part, hz, Row.w, Row.pts]
  | z => simp [addRow, lastRows, Blk.rows, Blk.part, hz, Row.w, Row.pts]

/-! ### one subpath -/
noncomputable def Blk.rem (b : Blk) (j : Nat) : List Pt := if j = 0 then (b.part.flatMap Row.pts).reverse else ((b.part.take (b.part.length - (j - 1))).flatMap Row.pts).reverse.drop 1
noncomputable def manyW (w : Str) : Nat := if w = "c" then 3 else 1
noncomputable def Blk.words (b : Blk) : List Str := "m" :: (b.mid.map Row.w).reverse
theorem rem_cut {b : Blk} (hG : ∀ r ∈ b.mid, r.isG = true) {t : Nat} {e : Row} (he : b.part[t]? = some e) : ((b.part.take (t + 1)).flatMap Row.pts).reverse = endOf e :: (e.pts.dropLast.reverse ++ ((b.part.take t).flatMap Row.pts).reverse) := by
  have hz := part_z hG e (List.mem_of_getElem? he)
  rw [List.take_add_one, he, List.flatMap_append]
  have h2 : e.pts = e.pts.dropLast ++ [endOf e] := by cases e <;> first | rfl | cases hz
  have h3 : (Option.toList (some e)).flatMap Row.pts = e.pts := by simp
  rw [h3, List.reverse_append]
  conv => lhs; rw [h2]
  rw [List.reverse_append]
  rfl
theorem part_len (b : Blk) : b.part.length = b.mid.length + 1 := rfl
/-- each word takes its row's points -/
theorem rem_step {b : Blk} (hG : ∀ r ∈ b.mid, r.isG = true) {j : Nat} {w : Str} (hw : b.words[j]? = some w) : ∃ r : Row, b.rev[j]? = some r ∧ r.w = w ∧ r.pts = (b.rem j).take (manyW w) ∧ b.rem (j + 1) = (b.rem j).drop (manyW w) := by
  have hjl : j < b.words.length := (List.getElem?_eq_some_iff.mp hw).1
  have hwl : b.words.length = b.mid.length + 1 := by simp [Blk.words]
  cases j with
  | zero =>
    have e0 : w = "m" := by simpa [Blk.words] using hw.symm
    subst e0
    obtain ⟨e, hl⟩ : ∃ e, b.part[b.mid.length]? = some e := ⟨_, List.getElem?_eq_getElem (by rw [part_len]; (first | lia | omega))⟩
    have hr := rem_cut hG hl
    have ht : b.part.take (b.mid.length + 1) = b.part := List.take_of_length_le (by rw [part_len]; (first | lia | omega))
    rw [ht] at hr
    have hf : b.fin = endOf e := by
      unfold Blk.fin
      rw [List.getLast?_eq_getElem?, part_len]
      show ((b.part[b.mid.length]?).map endOf).getD _ = _
      rw [hl]; rfl
    refine ⟨_, rfl, rfl, ?_, ?_⟩
    · show _ = (if 0 = 0 then _ else _ : List Pt).take 1
      rw [if_pos rfl, hr, hf]
      rfl
    · show (if 0 + 1 = 0 then _ else _ : List Pt) = (if 0 = 0 then _ else _ : List Pt).drop 1
      rw [if_neg (by (first | lia | omega)), if_pos rfl]
      show ((b.part.take b.part.length).flatMap Row.pts).reverse.drop 1 = _
      rw [List.take_length]
  | succ j =>
    have hj : j < b.mid.length := by (first | lia | omega)
    refine hid fun PP9 kk9 => ?_
    obtain ⟨r, e, h1, h2, h3, h4, h5⟩ := zw_at hj
    refine kk9 ?_
    clear kk9 PP9
    have hrG := hG r h3
    have hcut1 := rem_cut hG h1
    have hcut2 := rem_cut hG h2
    have e1 : b.mid.length - 1 - j + 1 = b.mid.length - j := by (first | lia | omega)
    rw [e1] at hcut2
    have e2 : b.part.length - (j + 1 - 1) = b.mid.length - j + 1 := by rw [part_len]; (first | lia | omega)
    have e3 : b.part.length - (j + 2 - 1) = b.mid.length - j := by rw [part_len]; (first | lia | omega)
    have hww : w = r.w := by
      have : b.words[j + 1]? = (b.mid.map Row.w).reverse[j]? := rfl
      rw [this, List.getElem?_reverse (by simpa using hj), List.getElem?_map] at hw
      have h6 : b.part[b.mid.length - j]? = b.mid[b.mid.length - 1 - j]? := by
        have : b.mid.length - j = (b.mid.length - 1 - j) + 1 := by (first | lia | omega)
        rw [this]; rfl
      rw [h6] at h1
      simp only [List.length_map] at hw
      rw [h1] at hw
      simpa using hw.symm
    subst hww
    have hrem : b.rem (j + 1) = r.pts.dropLast.reverse ++ endOf e :: (e.pts.dropLast.reverse ++ ((b.part.take (b.mid.length - 1 - j)).flatMap Row.pts).reverse) := by
      unfold Blk.rem
      rw [if_neg (by (first | lia | omega)), e2, hcut1, hcut2]
      rfl
    have hk : r.pts.dropLast.reverse.length + 1 = manyW r.w := by cases r <;> first | rfl | cases hrG
    refine ⟨back r (endOf e), ?_, back_w hrG _, ?_, ?_⟩
    · show (b.zw.reverse ++ _)[j]? = _
      rw [List.getElem?_append_left (by rw [List.length_reverse, zw_len]; exact hj)]
      exact h5
    · rw [back_pts hrG, hrem, ← hk, List.take_append, List.take_of_length_le (by (first | lia | omega))]
      congr 1
      rw [Nat.add_sub_cancel_left]
      rfl
    · rw [hrem, ← hk, List.drop_append, List.drop_of_length_le (by (first | lia | omega)), Nat.add_sub_cancel_left]
      show (if j + 1 + 1 = 0 then _ else _ : List Pt) = _
      rw [if_neg (by (first | lia | omega)), e3, hcut2]
      rfl
theorem rev_take {b : Blk} : b.rev = b.rev.take b.words.length ++ (if b.z then [Row.z] else []) := by
  have hwl : b.words.length = b.mid.length + 1 := by simp [Blk.words]
  rw [hwl]
  unfold Blk.rev
  rw [List.take_succ_cons, List.take_append, List.take_of_length_le (by rw [List.length_reverse, zw_len]; exact Nat.le_refl _)]
  have : b.mid.length - b.zw.reverse.length = 0 := by rw [List.length_reverse, zw_len]; (first | lia | omega)
  rw [this]
  simp
noncomputable def isLC (w : Str) : Bool := w == ("l" : Str) || w == ("c" : Str)
theorem words_filter {b : Blk} (hG : ∀ r ∈ b.mid, r.isG = true) : (("m" : Str) :: (b.rows.map Row.w).reverse.filter isLC) = b.words := by
  unfold Blk.words Blk.rows Blk.part
  congr 1
  have h1 : (b.mid.map Row.w).filter isLC = b.mid.map Row.w := by
    rw [List.filter_eq_self]
    intro w hw
    obtain ⟨r, hr, rfl⟩ := List.mem_map.mp hw
    have := hG r hr
    cases r <;> first | rfl | cases this
  rw [List.filter_reverse, List.map_append, List.filter_append, List.map_cons, List.filter_cons]
  have h2 : isLC (Row.m b.s.1 b.s.2).w = false := rfl
  have h3 : ((if b.z = true then [Row.z] else []).map Row.w).filter isLC = [] := by cases b.z <;> rfl
  rw [h2, if_neg Bool.false_ne_true, h1, h3, List.append_nil]
theorem rows_pts (b : Blk) : b.rows.flatMap Row.pts = b.part.flatMap Row.pts := by
  unfold Blk.rows
  rw [List.flatMap_append]
  cases b.z <;> simp [Row.pts]
theorem rows_last_z (b : Blk) (hG : ∀ r ∈ b.mid, r.isG = true) : ∃ w, (b.rows.map Row.w).getLast? = some w ∧ (w = "z" ↔ b.z = true) := by
  cases hz : b.z with
  | true => exact ⟨"z", by rw [List.getLast?_map, last_z hz]; rfl, by simp⟩
  | false =>
    have hne : b.part ≠ [] := by simp [Blk.part]
    have e : b.rows = b.part := by simp [Blk.rows, hz]
    refine ⟨(b.part.getLast hne).w, by rw [e, List.getLast?_map, List.getLast?_eq_some_getLast hne]; rfl, ?_⟩
    have h1 := part_z hG _ (List.getLast_mem hne)
    constructor
    · intro h2
      rw [(w_isZ _).mp h2] at h1; cases h1
    · intro h; cases h
end
section
section
variable {g : Gd} {X : Fx} {SC : Scope} {n : Nat} {st : St} {E : EP} {μ ν ρ : Mem}
theorem nums_at (v : D) : ∀ (ps : List Pt) (i : Nat) (x y : Int), ps[i]? = some (x, y) → (v :: numsD ps)[1 + i * 2]? = some (.int x) ∧ (v :: numsD ps)[1 + i * 2 + 1]? = some (.int y)
  | [], i, x, y, h => by simp at h
  | p :: ps, 0, x, y, h => by
    have : p = (x, y) := by simpa using h
    subst this
    exact ⟨rfl, rfl⟩
  | p :: ps, i + 1, x, y, h => by
    obtain ⟨h1, h2⟩ := nums_at (.int p.2) ps i x y (by simpa using h)
    have e : 1 + (i + 1) * 2 = (1 + i * 2) + 2 := by (first | lia | omega)
    rw [e]
    exact ⟨h1, h2⟩
theorem s_numx {value slice : Expr} {w : Str} {ps : List Pt} {i : Nat} {x y : Int} {Q : D → St → Prop} (hl : ps.length ≤ 100) (hp : ps[i]? = some (x, y)) (h : Q (.int x) st) (hs : autoParam (notSlice slice = true) autoR._auto_1) : W2 g Val X st (subscriptTail value slice) (.tup (.str w :: numsD ps)) (.int (1 + (i : Nat) * 2)) Q E :=
  s_nat (j := 1 + i * 2) (by (first | lia | omega)) (nums_at _ ps i x y hp).1 (by rw [List.length_cons, nums_len]; (first | lia | omega)) h hs
theorem s_numy {value slice : Expr} {w : Str} {ps : List Pt} {i : Nat} {x y : Int} {Q : D → St → Prop} (hl : ps.length ≤ 100) (hp : ps[i]? = some (x, y)) (h : Q (.int y) st) (hs : autoParam (notSlice slice = true) autoR._auto_1) : W2 g Val X st (subscriptTail value slice) (.tup (.str w :: numsD ps)) (.int (1 + (i : Nat) * 2 + 1)) Q E :=
  s_nat (j := 1 + i * 2 + 1) (by (first | lia | omega)) (nums_at _ ps i x y hp).2 (by rw [List.length_cons, nums_len]; (first | lia | omega)) h hs
theorem rng_odd (m : Nat) (h : m ≤ 1000) : Builtin.Range.rangeSize 1 ((1 + 2 * m : Nat) : Int) 2 = ((m : Nat) : Int) ∧ Builtin.Range.small 1 ((1 + 2 * m : Nat) : Int) 2 = true := by
  have e : Builtin.Range.rangeSize 1 ((1 + 2 * m : Nat) : Int) 2 = ((m : Nat) : Int) := by
    unfold Builtin.Range.rangeSize
    rw [if_pos (by decide)]
    split <;> (first | lia | omega)
  refine ⟨e, ?_⟩
  unfold Builtin.Range.small
  rw [e]
  simp [Builtin.Range.rangeFitsLong]
  (first | lia | omega)
theorem pts_flat : ∀ l : List Row, (l.flatMap Row.pts).length ≤ 3 * l.length
  | [] => by simp
  | r :: l => by
    rw [List.flatMap_cons, List.length_append, List.length_cons]
    have := pts_len r
    have := pts_flat l
    (first | lia | omega)
theorem rem_len (b : Blk) (j : Nat) : (b.rem j).length ≤ 3 * b.part.length := by
  unfold Blk.rem
  split
  · rw [List.length_reverse]; exact pts_flat _
  · rw [List.length_drop, List.length_reverse]
    have h1 := pts_flat (b.part.take (b.part.length - (j - 1)))
    have h2 : (b.part.take (b.part.length - (j - 1))).length ≤ b.part.length := by rw [List.length_take]; omega
    omega
noncomputable abbrev strsD (l : List Str) : List D := l.map D.str
theorem Wp.same {t : Sem Value} {d0 : D} {Q : D → St → Prop} (h : Wp g Val X st t (fun d st' => d = d0 ∧ st' = st) E) (k : Q d0 st) : Wp g Val X st t Q E :=
  Wp.mono h (fun _ _ ⟨a, b⟩ => by rw [a, b]; exact k) fun _ _ x => x
theorem cut_take (l : List D) (k : Nat) : cutD l none (some (k : Int)) = l.take k := by
  unfold cutD
  show (l.drop 0).take (clipAt l.length k - 0) = _
  have : clipAt l.length (k : Int) = min k l.length := by unfold clipAt; rw [if_neg (by omega)]; omega
  rw [List.drop_zero, this, Nat.sub_zero]
  by_cases h : k ≤ l.length
  · rw [Nat.min_eq_left h]
  · rw [Nat.min_eq_right (by omega), List.take_length, List.take_of_length_le (by omega)]
theorem cut_drop (l : List D) (k : Nat) : cutD l (some (k : Int)) none = l.drop k := by
  unfold cutD
  show (l.drop (clipAt l.length k)).take (l.length - clipAt l.length k) = _
  have : clipAt l.length (k : Int) = min k l.length := by unfold clipAt; rw [if_neg (by (first | lia | omega))]; (first | lia | omega)
  rw [this, List.take_of_length_le (by simp)]
  by_cases h : k ≤ l.length
  · rw [Nat.min_eq_left h]
  · rw [Nat.min_eq_right (by (first | lia | omega)), List.drop_length, List.drop_of_length_le (by (first | lia | omega))]
structure BwAt (μ0 μ : Mem) (c f l p : Addr) (src : List D) (B : Bw) : Prop where
  sc : μ c = some (.list src)
  fc : μ f = some (.list (rowsD B.f))
  lc : μ l = some (.list (strsD B.w))
  pc : μ p = some (.list (ptsD B.p))
  nf : μ0 f = none
  nl : μ0 l = none
  np : μ0 p = none
  fl : f ≠ l
  fp : f ≠ p
  lp : l ≠ p
  cf : c ≠ f
  cl : c ≠ l
  cp : c ≠ p
  mod : Mod [] μ0 μ
theorem BwAt.keep {μ0 : Mem} {c f l p : Addr} {src : List D} {B : Bw} (h : BwAt μ0 μ c f l p src B) (hm : Mod [] μ ν) : BwAt μ0 ν c f l p src B :=
  ⟨hm.get0 h.sc, hm.get0 h.fc, hm.get0 h.lc, hm.get0 h.pc, h.nf, h.nl, h.np, h.fl, h.fp, h.lp, h.cf, h.cl, h.cp, h.mod.trans hm⟩
theorem BwAt.setF {μ0 : Mem} {c f l p : Addr} {src : List D} {B : Bw} (h : BwAt μ0 μ c f l p src B) {ds : List D} (F : List Row) (e : ds = rowsD F) : BwAt μ0 (μ.set f (.list ds)) c f l p src ⟨F, B.w, B.p⟩ :=
  ⟨set_get h.cf h.sc, by rw [e]; exact set_same _ _, set_get (Ne.symm h.fl) h.lc, set_get (Ne.symm h.fp) h.pc, h.nf, h.nl, h.np, h.fl, h.fp, h.lp, h.cf, h.cl, h.cp, h.mod.put (.inr h.nf)⟩
theorem BwAt.setL {μ0 : Mem} {c f l p : Addr} {src : List D} {B : Bw} (h : BwAt μ0 μ c f l p src B) {ds : List D} (W : List Str) (e : ds = strsD W) : BwAt μ0 (μ.set l (.list ds)) c f l p src ⟨B.f, W, B.p⟩ :=
  ⟨set_get h.cl h.sc, set_get h.fl h.fc, by rw [e]; exact set_same _ _, set_get (Ne.symm h.lp) h.pc, h.nf, h.nl, h.np, h.fl, h.fp, h.lp, h.cf, h.cl, h.cp, h.mod.put (.inr h.nl)⟩
theorem BwAt.setP {μ0 : Mem} {c f l p : Addr} {src : List D} {B : Bw} (h : BwAt μ0 μ c f l p src B) {ds : List D} (W : List Pt) (e : ds = ptsD W) : BwAt μ0 (μ.set p (.list ds)) c f l p src ⟨B.f, B.w, W⟩ :=
  ⟨set_get h.cp h.sc, set_get h.fp h.fc, set_get h.lp h.lc, by rw [e]; exact set_same _ _, h.nf, h.nl, h.np, h.fl, h.fp, h.lp, h.cf, h.cl, h.cp, h.mod.put (.inr h.np)⟩
/-- a new list of points -/
theorem BwAt.newP {μ0 : Mem} {c f l p q : Addr} {src : List D} {B : Bw} (h : BwAt μ0 μ c f l p src B) {ds : List D} (hq : μ q = none) (W : List Pt) (e : ds = ptsD W) : BwAt μ0 (μ.set q (.list ds)) c f l q src ⟨B.f, B.w, W⟩ :=
  ⟨set_new hq h.sc, set_new hq h.fc, set_new hq h.lc, by rw [e]; exact set_same _ _, h.nf, h.nl, h.mod.none (by simp) hq, h.fl, ne_of h.fc hq, ne_of h.lc hq, h.cf, h.cl, ne_of h.sc hq, h.mod.new hq⟩
theorem BwAt.newL {μ0 : Mem} {c f l p q : Addr} {src : List D} {B : Bw} (h : BwAt μ0 μ c f l p src B) {ds : List D} (hq : μ q = none) (W : List Str) (e : ds = strsD W) : BwAt μ0 (μ.set q (.list ds)) c f q p src ⟨B.f, W, B.p⟩ :=
  ⟨set_new hq h.sc, set_new hq h.fc, by rw [e]; exact set_same _ _, set_new hq h.pc, h.nf, h.mod.none (by simp) hq, h.np, ne_of h.fc hq, h.fp, Ne.symm (ne_of h.pc hq), h.cf, ne_of h.sc hq, h.cp, h.mod.new hq⟩
theorem bw_small {rows : List Row} (hn : Nf none rows) {i : Nat} (hi : i ≤ rows.length + 1) : (bw rows i).f.length ≤ rows.length ∧ (bw rows i).w.length ≤ rows.length + 1 ∧ (bw rows i).p.length ≤ 3 * rows.length := by
  by_cases h : i ≤ rows.length
  · rw [bw_at h]
    have hK := bk_take hn i h
    have hl : (rows.take i).length ≤ rows.length := by rw [List.length_take]; (first | lia | omega)
    have h1 : ∀ r : Row, r.pts.length ≤ 3 := pts_len
    have h2 : ∀ l : List Row, (l.flatMap Row.pts).length ≤ 3 * l.length := fun l => by
      induction l with
      | nil => simp
      | cons r l ih => rw [List.flatMap_cons, List.length_append, List.length_cons]; have := h1 r; (first | lia | omega)
    rcases List.eq_nil_or_concat (blocks (rows.take i)) with e | ⟨pre, b, e⟩
    · rw [e]; simp [lastRows]
    · rw [List.concat_eq_append] at e
      rw [e] at hK ⊢
      have := congrArg List.length hK.flat
      rw [List.flatMap_append, List.length_append] at this
      have h3 : ([b].flatMap Blk.rows).length = b.rows.length := by simp
      rw [h3] at this
      have h4 := h2 b.rows
      rw [List.dropLast_concat, flat_len2 rev_len]
      simp only [lastRows, getLast_snoc, Option.map_some, Option.getD_some, List.length_map]
      (first | lia | omega)
  · have : i = rows.length + 1 := by (first | lia | omega)
    subst this
    rw [bw_end]
    have := revAll_len hn
    simp
    (first | lia | omega)
noncomputable abbrev LB (o f l p : Addr) : Loc := (((bindD ["own"] [.ref o] noLoc).set "points" (.ref p)).set "lot" (.ref l)).set "found" (.ref f)
theorem c_law_backwards {o : Addr} {rows : List Row} {Q : D → St → Prop} (P : Prg g) (hA : At g X SC (n + 1)) (ho : st.mem o = some (.list (rowsD rows))) (hlen : rows.length ≤ 1000) (hn : Nf none rows)
    (h : ∀ f μ, μ f = some (.list (rowsD (revAll rows))) → st.mem f = none → Mod [] st.mem μ → Q (.ref f) ⟨st.loc, μ⟩) : WCall g X st (.ref 321) [.ref o] Q E := by
  refine (P.law_backwards.fn.call hA rfl fun X' hA hC hL Q9 uQ E9 uE => ?_).w
  have hcell := hL "row" fun k => rfl
  refine x_cons ?_
  refine x_swap3 (x := "found") (y := "lot") (z := "points") hA ?_
  walk_at "mg"
  intro f hf0
  walk_at "mg"
  intro l hl0
  walk_at "mg"
  intro p hp0
  walk_at "mg"
  have hRl := revAll_len hn
  refine x_for hA (Wp.less ?_)
  walk_at "mg"
  intro a ha0
  have hmA := ((((Mod.refl (T := []) (μ := st.mem)).new hf0).new hl0).new hp0).new (c := .list [.tup [.str "m"]]) ha0
  walk_at "k"
  refine o_addL (hmA.get0 ho) (set_same _ _) (by first | exact rows_le (by first | lia | omega) | (simp [rowsD]; first | lia | omega)) fun c hc0 => ?_
  generalize hsrc : rowsD rows ++ [D.tup [.str "m"]] = src
  have hlen2 : src.length = rows.length + 1 := by rw [← hsrc]; simp [rowsD]
  have hsd : ∀ i d, src[i]? = some d → ∃ (w : Str) (ps : List Pt), d = .tup (.str w :: numsD ps) ∧ ps.length ≤ 3 ∧ i ≤ rows.length ∧
      (w = "m" → bw rows (i + 1) = ⟨(blocks (rows.take i)).flatMap Blk.rev, [w], ps⟩) ∧ (w ≠ "m" → bw rows (i + 1) = ⟨(bw rows i).f, (bw rows i).w ++ [w], (bw rows i).p ++ ps⟩) := fun i d hd => by
    have hi : i < src.length := (List.getElem?_eq_some_iff.mp hd).1
    by_cases hi2 : i < rows.length
    · rw [← hsrc, List.getElem?_append_left (by simpa [rowsD] using hi2)] at hd
      obtain ⟨r, hr, rfl⟩ := rows_at hd
      refine ⟨r.w, r.pts, row_nums r, pts_len r, by (first | lia | omega), fun hw => ?_, fun hw => bw_other hn hr ?_⟩
      · have := (w_isM r).mp hw
        cases r with
        | m x y => exact bw_m hr
        | l => cases this
        | c => cases this
        | z => cases this
      · cases q : r.isM with
        | false => rfl
        | true => exact absurd ((w_isM r).mpr q) hw
    · have e : i = rows.length := by (first | lia | omega)
      subst e
      rw [← hsrc, List.getElem?_append_right (by simp [rowsD])] at hd
      have hd' : d = .tup [.str "m"] := by simpa [rowsD] using hd.symm
      refine ⟨"m", [], hd', by simp, Nat.le_refl _, fun _ => ?_, fun hw => absurd rfl hw⟩
      rw [bw_end, List.take_length]
      exact rfl
  have hB0 : BwAt st.mem (((((st.mem.set f (.list [])).set l (.list [])).set p (.list [])).set a (.list [.tup [.str "m"]])).set c (.list src)) c f l p src (bw rows 0) := by
    rw [bw_zero]
    have hfl : f ≠ l := ne_of (set_same _ _) hl0
    have hf1 := set_new (c := .list []) hl0 (set_same (μ := st.mem) f (.list []))
    have hfp : f ≠ p := ne_of hf1 hp0
    have hlp : l ≠ p := ne_of (set_same _ _) hp0
    have hf2 := set_new (c := .list []) hp0 hf1
    have hl2 := set_new (c := .list []) hp0 (set_same (μ := st.mem.set f (.list [])) l (.list []))
    have hf3 := set_new (c := .list [.tup [.str "m"]]) ha0 hf2
    have hl3 := set_new (c := .list [.tup [.str "m"]]) ha0 hl2
    have hp3 := set_new (c := .list [.tup [.str "m"]]) ha0 (set_same (μ := (st.mem.set f (.list [])).set l (.list [])) p (.list []))
    refine ⟨set_same _ _, set_new hc0 hf3, set_new hc0 hl3, set_new hc0 hp3, hf0, ?_, ?_, hfl, hfp, hlp, Ne.symm (ne_of hf3 hc0), Ne.symm (ne_of hl3 hc0), Ne.symm (ne_of hp3 hc0), hmA.new hc0⟩
    · rw [set_ne (Ne.symm hfl)] at hl0; exact hl0
    · rw [set_ne (Ne.symm hlp), set_ne (Ne.symm hfp)] at hp0; exact hp0
  generalize (((((st.mem.set f (.list [])).set l (.list [])).set p (.list [])).set a (.list [.tup [.str "m"]])).set c (.list src)) = μ0 at hB0 ⊢
  walk_at "k"
  refine ⟨LB o f l p, μ0, LLess.refl, Less.refl, src, _,
    fun i st' => ∃ (l p : Addr) (μ' : Mem), st' = ⟨LB o f l p, μ'⟩ ∧ BwAt st.mem μ' c f l p src (bw rows i),
    .list hB0.sc, ?_, ⟨l, p, μ0, rfl, hB0⟩, ?_, ?_⟩
  · rintro i st' ⟨l, p, μ', rfl, hB⟩; exact hB.sc
  · intro i d st' hd hh9
    refine hid fun PP9 kk9 => ?_
    obtain ⟨l, p, μ', rfl, hB⟩ := hh9
    refine kk9 ?_
    clear kk9 PP9
    refine hid fun PP9 kk9 => ?_
    obtain ⟨w, ps, rfl, hps, hi, hwm, hwo⟩ := hsd i d hd
    obtain ⟨z1, z2, z3⟩ := bw_small hn (i := i) (by (first | lia | omega))
    refine kk9 ?_
    clear kk9 PP9
    walk_at "k"
    refine s_nameC hA hC hcell ?_ (by decide)
    refine x_cons (Wp.mid (J := fun st' => ∃ (l p : Addr), LLess ((LB o f l p).set "row" (.tup (.str w :: numsD ps))) st'.loc ∧ BwAt st.mem st'.mem c f l p src (if w = "m" then ⟨(bw rows (i + 1)).f, [], []⟩ else bw rows i)) (fun K1 u1 => ?_) ?_)
    · walk_at "mg"
      refine ⟨fun hx => ?_, fun hx => ?_⟩
      · have hw : w = "m" := beq_iff_eq.mp hx
        rw [if_pos hw] at u1
        walk_at "mg"
        intro e he0
        have hB1 := hB.keep (Mod.refl.new (c := .list []) he0)
        walk_at "k"
        refine c_neNil hA hB1.lc (set_same _ _) ?_
        generalize (μ'.set e (.list [])) = μ1 at hB1 ⊢
        walk_at "mg"
        rw [hwm hw] at u1
        have hbw := bw_at (rows := rows) (i := i) hi
        have hK := bk_take hn i hi
        rcases List.eq_nil_or_concat (blocks (rows.take i)) with e0 | ⟨pre, b, e0⟩
        · rw [hbw, e0] at hB1
          rw [hbw, e0]
          rw [e0] at u1
          refine ⟨fun hx => absurd hx (by simp [lastRows]), fun _ => ?_⟩
          walk_at "go"
          exact ⟨l, p, LLess.refl, hB1⟩
        · rw [List.concat_eq_append] at e0
          rw [e0] at hK
          have hG := hK.mid b (by simp)
          have hbf : bw rows i = ⟨pre.flatMap Blk.rev, b.rows.map Row.w, b.part.flatMap Row.pts⟩ := by
            rw [hbw, e0]; simp [lastRows, rows_pts]
          rw [hbf] at hB1 z1 z2 z3
          rw [hbf]
          rw [e0] at u1
          have hbne : b.rows.map Row.w ≠ [] := by simp [Blk.rows, Blk.part]
          refine ⟨fun _ => ?_, fun hx => absurd hx (by simp; exact fun z => hbne (by rw [z]; rfl))⟩
          walk_at "go"
          refine r_slice_rev ?_
          walk_at "mg"
          have z3' : (b.part.flatMap Row.pts).length ≤ 3 * rows.length := z3
          refine ⟨p, _, rfl, rfl, hB1.pc, by show (ptsD (b.part.flatMap Row.pts)).length ≤ _; rw [List.length_map]; (first | lia | omega), fun p1 hp1 => ?_⟩
          have hB2 := hB1.newP (ds := (ptsD (b.part.flatMap Row.pts)).reverse) hp1 (b.rem 0) (by simp [Blk.rem, ptsD])
          generalize (μ1.set p1 (.list (ptsD (b.part.flatMap Row.pts)).reverse)) = μ2 at hB2 ⊢
          dsimp only at hB2 z1 z2 z3
          walk_at "mg"
          refine Wp.mid (J := fun st' => ∃ (p' : Addr) (ν : Mem), st' = ⟨(LB o f l p').set "row" (.tup (.str w :: numsD ps)), ν⟩ ∧ BwAt st.mem ν c f l p' src ⟨pre.flatMap Blk.rev ++ b.rev.take b.words.length, b.rows.map Row.w, b.rem b.words.length⟩) (fun _ _ => ?_) ?_
          · refine x_for hA (Wp.less ?_)
            walk_at "mg"
            intro c1 hc1
            have hB3 := hB2.keep (Mod.refl.new (c := .list [.str "m"]) hc1)
            have hc11 : (μ2.set c1 (.list [.str "m"])) c1 = some (.list [.str "m"]) := set_same _ _
            generalize (μ2.set c1 (.list [.str "m"])) = μ3 at hB3 hc11 ⊢
            walk_at "mg"
            refine r_comp hA ⟨rfl, rfl, by decide, by decide, by decide⟩ (cellsHere [] rfl (by intro x hx; cases hx)) ?_
            walk_at "k"
            refine r_slice_rev ?_
            walk_at "mg"
            refine ⟨l, _, rfl, rfl, hB3.lc, by simp at z2 ⊢; (first | lia | omega), fun c2 hc2 => ?_⟩
            have hB4 := hB3.keep (Mod.refl.new (c := .list (strsD (b.rows.map Row.w)).reverse) hc2)
            have hc12 := set_new (c := .list (strsD (b.rows.map Row.w)).reverse) hc2 hc11
            have hc22 : (μ3.set c2 (.list (strsD (b.rows.map Row.w)).reverse)) c2 = some (.list (strsD (b.rows.map Row.w).reverse)) := (set_same _ _).trans (by simp)
            generalize (μ3.set c2 (.list (strsD (b.rows.map Row.w)).reverse)) = μ4 at hB4 hc12 hc22 ⊢
            refine ⟨strsD (b.rows.map Row.w).reverse, _, fun i out μ => out = strsD (((b.rows.map Row.w).reverse.take i).filter isLC) ∧ Mod [] μ4 μ, ⟨.list hc22, by simp at z2 ⊢; (first | lia | omega), ?_, ⟨rfl, Mod.refl⟩, ?_⟩, ?_⟩
            · rintro i out μ ⟨_, hm⟩ loc b1 c' hb1
              exact set_new hb1 (hm.get0 hc22)
            · rintro XC hAC i out μ b1 d hd' ⟨rfl, hm⟩ hb1
              rw [List.getElem?_map] at hd'
              obtain ⟨v, hv, rfl⟩ := Option.map_eq_some_iff.mp hd'
              walk_at "k"
              refine s_name hAC ?_ (by decide)
              refine t_one ?_
              walk_at "mg"
              have htk : (b.rows.map Row.w).reverse.take (i + 1) = (b.rows.map Row.w).reverse.take i ++ [v] := by rw [List.take_add_one, hv]; rfl
              have hany : ([D.str "l", D.str "c"].any (dStr v)) = isLC v := by
                show (("l" : Str) == v || (("c" : Str) == v || false)) = (v == ("l" : Str) || v == ("c" : Str))
                rw [Bool.or_false, BEq.comm (a := v), BEq.comm (a := v) (b := ("c" : Str))]
              rw [hany]
              have hdel : ∀ ds, Mod [] μ4 ((μ.set b1 (.list ds)).del b1) := fun ds a' cc ha' e => del_get (set_new hb1 (hm.get0 e)) (ne_of (hm.get0 e) hb1)
              refine ⟨fun hb2 => ?_, fun hb2 => ?_⟩
              · walk_at "mg"
                refine CFin.of (LLess.cap (by decide)) (set_same _ _) ⟨?_, hdel _⟩
                rw [htk, List.filter_append]
                simp [hb2]
              · walk_at "k"
                refine CFin.of (LLess.cap (by decide)) (set_same _ _) ⟨?_, hdel _⟩
                rw [htk, List.filter_append]
                simp [hb2]
            · rintro out μ5 e5 ⟨rfl, hm5⟩ he5
              rw [List.length_map, List.take_length]
              have hwl : b.words.length = b.mid.length + 1 := by simp [Blk.words]
              have hbl : b.rows.length ≤ rows.length := by
                have := congrArg List.length hK.flat
                rw [List.flatMap_append, List.length_append] at this
                have h3 : ([b].flatMap Blk.rows).length = b.rows.length := by simp
                rw [h3, List.length_take] at this
                (first | lia | omega)
              have hpl : (pre.flatMap Blk.rev).length + b.rev.length ≤ rows.length := by
                have := congrArg List.length hK.flat
                rw [List.flatMap_append, List.length_append] at this
                have h3 : ([b].flatMap Blk.rows).length = b.rows.length := by simp
                rw [h3, List.length_take] at this
                rw [flat_len2 rev_len, rev_len]
                (first | lia | omega)
              have hml : b.mid.length + 1 ≤ b.rows.length := by unfold Blk.rows Blk.part; rw [List.length_append, List.length_cons]; (first | lia | omega)
              have hfl : (strsD ((b.rows.map Row.w).reverse.filter isLC)).length ≤ 1001 := by
                have := List.length_filter_le isLC (b.rows.map Row.w).reverse
                simp only [List.length_map, List.length_reverse] at this ⊢
                (first | lia | omega)
              walk_at "k"
              refine o_addL (set_new he5 (hm5.get0 hc12)) (set_same _ _) (by simp at hfl ⊢; (first | lia | omega)) fun c4 hc4 => ?_
              have hB6 := hB4.keep ((hm5.new (c := .list (strsD ((b.rows.map Row.w).reverse.filter isLC))) he5).new (c := .list ([.str "m"] ++ strsD ((b.rows.map Row.w).reverse.filter isLC))) hc4)
              have hc44 : ((μ5.set e5 (.list (strsD ((b.rows.map Row.w).reverse.filter isLC)))).set c4 (.list ([.str "m"] ++ strsD ((b.rows.map Row.w).reverse.filter isLC)))) c4 = some (.list (strsD b.words)) := (set_same _ _).trans (by rw [← words_filter hG]; rfl)
              have hc4f : c4 ≠ f := fun z => by
                have := hB4.keep (hm5.new (c := .list (strsD ((b.rows.map Row.w).reverse.filter isLC))) he5)
                dsimp only at hc4; rw [z, this.fc] at hc4; cases hc4
              generalize ((μ5.set e5 (.list (strsD ((b.rows.map Row.w).reverse.filter isLC)))).set c4 (.list ([.str "m"] ++ strsD ((b.rows.map Row.w).reverse.filter isLC)))) = μ6 at hB6 hc44 ⊢
              walk_at "k"
              refine ⟨(LB o f l p1).set "row" (.tup (.str w :: numsD ps)), μ6, (((LLess.nil.cons rfl).cons3 rfl rfl rfl).cons rfl), Less.refl, strsD b.words, _,
                fun j st' => ∃ (p' : Addr) (ν : Mem), st' = ⟨(LB o f l p').set "row" (.tup (.str w :: numsD ps)), ν⟩ ∧ BwAt st.mem ν c f l p' src ⟨pre.flatMap Blk.rev ++ b.rev.take j, b.rows.map Row.w, b.rem j⟩ ∧ ν c4 = some (.list (strsD b.words)),
                .list hc44, ?_, ⟨p1, μ6, rfl, by simpa using hB6, hc44⟩, ?_, ?_⟩
              · rintro j st' ⟨p', ν, rfl, _, hc⟩; exact hc
              · intro j d st' hd' hh9
                refine hid fun PP9 kk9 => ?_
                obtain ⟨p', ν, rfl, hBν, hcν⟩ := hh9
                refine kk9 ?_
                clear kk9 PP9
                rw [List.getElem?_map] at hd'
                obtain ⟨v, hv, rfl⟩ := Option.map_eq_some_iff.mp hd'
                have hj : j < b.words.length := (List.getElem?_eq_some_iff.mp hv).1
                refine hid fun PP9 kk9 => ?_
                obtain ⟨r, q1, rfl, q2, q3⟩ := rem_step hG hv
                refine kk9 ?_
                clear kk9 PP9
                have hremj : (b.rem j).length ≤ 3003 := by have := rem_len b j; rw [part_len] at this; (first | lia | omega)
                walk_at "k"
                refine s_name hA ?_ (by decide)
                walk_at "mg"
                refine x_swap2 (x := "many") (y := "numbers") hA ?_
                walk_at "k"
                refine r_tuple ?_
                walk_at "k"
                refine r_items_cons ?_ (by with_unfolding_all rfl)
                refine Wp.same (d0 := .int (manyW r.w : Nat)) ?_ ?_
                · walk_at "mg"
                  refine ⟨fun hx => ?_, fun hx => ?_⟩
                  · walk_at "mg"
                    refine ⟨?_, rfl⟩
                    rw [show manyW r.w = 3 from if_pos (beq_iff_eq.mp hx)]; rfl
                  · walk_at "mg"
                    refine ⟨?_, rfl⟩
                    rw [show manyW r.w = 1 from if_neg (fun z => by rw [z] at hx; cases hx)]; rfl
                walk_at "mg"
                have hmw : manyW r.w ≤ 3 := by unfold manyW; split <;> (first | lia | omega)
                have hpsr : r.pts.length ≤ 3 := pts_len r
                refine Wp.mid (J := fun st' => ∃ (ν2 : Mem), st' = ⟨((((LB o f l p').set "row" (.tup (.str w :: numsD ps))).set "word" (.str r.w)).set "numbers" (.tup (numsD r.pts))).set "many" (.int (manyW r.w : Nat)), ν2⟩ ∧ Mod [] ν ν2) (fun _ _ => ?_) ?_
                · refine x_for hA (Wp.less ?_)
                  walk_at "k"
                  refine r_slice_list ?_
                  walk_at "mg"
                  refine ⟨p', _, none, some (manyW r.w : Nat), rfl, hBν.pc, by rw [List.length_map]; exact Nat.le_trans hremj (by decide), rfl, rfl, fun c5 hc5 => ?_⟩
                  have hct : cutD (ptsD (b.rem j)) none (some ((manyW r.w : Nat) : Int)) = ptsD r.pts := by rw [cut_take, ← List.map_take, ← q2]
                  dsimp only at hct ⊢
                  rw [hct]
                  refine ⟨((((LB o f l p').set "row" (.tup (.str w :: numsD ps))).set "word" (.str r.w)).set "numbers" (.tup [])).set "many" (.int (manyW r.w : Nat)), _, LLess.refl, Less.refl, ptsD r.pts, _,
                    fun t st' => st' = ⟨((((LB o f l p').set "row" (.tup (.str w :: numsD ps))).set "word" (.str r.w)).set "numbers" (.tup (numsD (r.pts.take t)))).set "many" (.int (manyW r.w : Nat)), ν.set c5 (.list (ptsD r.pts))⟩,
                    .list (set_same _ _), ?_, rfl, ?_, ?_⟩
                  · rintro t st' rfl; exact set_same _ _
                  · rintro t d st' hd' rfl
                    rw [List.getElem?_map] at hd'
                    obtain ⟨q, hq, rfl⟩ := Option.map_eq_some_iff.mp hd'
                    have ht : t < r.pts.length := (List.getElem?_eq_some_iff.mp hq).1
                    walk_at "k"
                    refine s_name hA ?_ (by decide)
                    walk_at "mg"
                    refine o_addT (by rw [nums_len, List.length_take]; simp; (first | lia | omega)) ?_
                    walk_at "mg"
                    have e : numsD (r.pts.take t) ++ [D.int q.1, D.int q.2] = numsD (r.pts.take (t + 1)) := by rw [List.take_add_one, hq]; exact (nums_snoc _ _).symm
                    rw [e]
                    refine Wp.fit (by with_reducible assumption) ?_
                    exact x_done (((((LB o f l p').set "row" (.tup (.str w :: numsD ps))).set "word" (.str r.w)).set "numbers" (.tup (numsD (r.pts.take (t + 1))))).set "many" (.int (manyW r.w : Nat))) _ ((((((LLess.nil.cons rfl).cons3 rfl rfl rfl).cons rfl).cons rfl).cons rfl).cons rfl) Less.refl rfl
                  · rintro st' rfl
                    walk_at "mg"
                    rw [List.length_map, List.take_length]
                    exact ⟨_, rfl, Mod.refl.new hc5⟩
                · rintro st' ⟨ν2, rfl, hm2⟩
                  have hBν2 := hBν.keep hm2
                  have hcν2 := hm2.get0 hcν
                  walk_at "mg"
                  refine r_append hA ?_
                  walk_at "mg"
                  refine ⟨f, _, rfl, hBν2.fc, ?_⟩
                  walk_at "mg"
                  refine o_addT (by rw [nums_len]; simp; (first | lia | omega)) ?_
                  walk_at "mg"
                  have hfsz : (pre.flatMap Blk.rev ++ b.rev.take j).length ≤ 1000 := by rw [List.length_append, List.length_take]; (first | lia | omega)
                  walk_at "k"
                  refine b_append hA (by exact hBν2.fc) (by rw [List.length_map]; exact Nat.le_trans hfsz (by decide)) ?_
                  have hB7 := hBν2.setF (ds := rowsD (pre.flatMap Blk.rev ++ b.rev.take j) ++ [.tup ([.str r.w] ++ numsD r.pts)]) (pre.flatMap Blk.rev ++ b.rev.take (j + 1)) (by
                    rw [List.take_add_one, q1]; simp [rowsD, row_nums])
                  have hc7 := set_get (c := .list (rowsD (pre.flatMap Blk.rev ++ b.rev.take j) ++ [.tup ([.str r.w] ++ numsD r.pts)])) hc4f hcν2
                  dsimp only at hB7 hc7 ⊢
                  generalize (ν2.set f (.list (rowsD (pre.flatMap Blk.rev ++ b.rev.take j) ++ [.tup ([.str r.w] ++ numsD r.pts)]))) = ν3 at hB7 hc7 ⊢
                  walk_at "mg"
                  refine r_slice_list ?_
                  walk_at "mg"
                  refine ⟨p', _, some (manyW r.w : Nat), none, rfl, hB7.pc, by rw [List.length_map]; exact Nat.le_trans hremj (by decide), rfl, rfl, fun c6 hc6 => ?_⟩
                  have hct : cutD (ptsD (b.rem j)) (some ((manyW r.w : Nat) : Int)) none = ptsD (b.rem (j + 1)) := by rw [cut_drop, ← List.map_drop, ← q3]
                  have hB8 := hB7.newP (ds := cutD (ptsD (b.rem j)) (some ((manyW r.w : Nat) : Int)) none) hc6 (b.rem (j + 1)) hct
                  have hc8 := set_new (c := .list (cutD (ptsD (b.rem j)) (some ((manyW r.w : Nat) : Int)) none)) hc6 hc7
                  walk_at "mg"
                  refine Wp.fit (by with_reducible assumption) ?_
                  exact x_done _ _ (((LLess.nil.cons rfl).cons3 rfl rfl rfl).cons rfl) Less.refl ⟨c6, _, rfl, hB8, hc8⟩
              · intro st' hh9
                refine hid fun PP9 kk9 => ?_
                obtain ⟨p', ν, rfl, hBν, hcν⟩ := hh9
                refine kk9 ?_
                clear kk9 PP9
                rw [List.length_map] at hBν
                walk_at "mg"
                exact ⟨p', ν, rfl, hBν⟩
          · intro st' hh9
            refine hid fun PP9 kk9 => ?_
            obtain ⟨p', ν, rfl, hBν⟩ := hh9
            refine kk9 ?_
            clear kk9 PP9
            have hwl : b.words.length = b.mid.length + 1 := by simp [Blk.words]
            have hpl : (pre.flatMap Blk.rev).length + b.rev.length ≤ rows.length := by
              have := congrArg List.length hK.flat
              rw [List.flatMap_append, List.length_append] at this
              have h3 : ([b].flatMap Blk.rows).length = b.rows.length := by simp
              rw [h3, List.length_take] at this
              rw [flat_len2 rev_len, rev_len]
              (first | lia | omega)
            have hfsz : (pre.flatMap Blk.rev ++ b.rev.take b.words.length).length ≤ 1000 := by rw [List.length_append, List.length_take]; (first | lia | omega)
            obtain ⟨lw, hlw, hlz⟩ := rows_last_z b hG
            have hrv := rev_take (b := b)
            walk_at "mg"
            refine r_extend hA ?_
            walk_at "mg"
            refine ⟨f, _, rfl, hBν.fc, ?_⟩
            walk_at "k"
            refine r_items_cons ?_ (by with_unfolding_all rfl)
            walk_at "k"
            refine r_ifexp ?_
            walk_at "k"
            refine r_test_cmp ?_ (by with_unfolding_all rfl)
            walk_at "mg"
            refine s_list_last hBν.lc (d := .str lw) (by rw [List.getLast?_map, hlw]; rfl) ?_
            walk_at "mg"
            refine ⟨fun hx => ?_, fun hx => ?_⟩
            · walk_at "mg"
              intro e he0
              walk_at "mg"
              have hB2 := hBν.keep (Mod.refl.new (c := .list [D.tup [.str "z"]]) he0)
              have he1 : (ν.set e (.list [D.tup [.str "z"]])) e = some (.list [D.tup [.str "z"]]) := set_same _ _
              generalize (ν.set e (.list [D.tup [.str "z"]])) = ν1 at hB2 he1 ⊢
              walk_at "k"
              refine b_extendL hA (by exact hB2.fc) (by exact he1) (by rw [List.length_map]; exact Nat.le_trans (Nat.add_le_add_right hfsz _) (by simp)) ?_
              have hz1 : b.z = true := hlz.mp (beq_iff_eq.mp hx)
              have hB3 := hB2.setF (ds := rowsD (pre.flatMap Blk.rev ++ b.rev.take b.words.length) ++ [D.tup [.str "z"]]) ((pre ++ [b]).flatMap Blk.rev) (by
                rw [hz1] at hrv
                rw [List.flatMap_append, show [b].flatMap Blk.rev = b.rev by simp]
                conv => rhs; rw [hrv]
                simp [rowsD, Row.d])
              dsimp only at hB3
              generalize (ν1.set f (.list (rowsD (pre.flatMap Blk.rev ++ b.rev.take b.words.length) ++ [D.tup [.str "z"]]))) = ν2 at hB3 ⊢
              walk_at "mg"
              refine x_swap2 (x := "lot") (y := "points") hA ?_
              walk_at "mg"
              intro l2 hl2
              have hB4 := hB3.newL (ds := []) hl2 [] rfl
              walk_at "mg"
              intro p2 hp2
              have hB5 := hB4.newP (ds := []) hp2 [] rfl
              walk_at "mg"
              exact ⟨l2, p2, (((LLess.nil.cons rfl).cons3 rfl rfl rfl).cons rfl), hB5⟩
            · walk_at "mg"
              intro e he0
              walk_at "mg"
              have hB2 := hBν.keep (Mod.refl.new (c := .list []) he0)
              have he1 : (ν.set e (.list [])) e = some (.list []) := set_same _ _
              generalize (ν.set e (.list [])) = ν1 at hB2 he1 ⊢
              walk_at "k"
              refine b_extendL hA (by exact hB2.fc) (by exact he1) (by rw [List.length_map]; exact Nat.le_trans (Nat.add_le_add_right hfsz _) (by simp)) ?_
              have hz1 : b.z = false := by cases q : b.z with | false => rfl | true => rw [hlz.mpr q] at hx; cases hx
              have hB3 := hB2.setF (ds := rowsD (pre.flatMap Blk.rev ++ b.rev.take b.words.length) ++ []) ((pre ++ [b]).flatMap Blk.rev) (by
                rw [hz1] at hrv
                rw [List.flatMap_append, show [b].flatMap Blk.rev = b.rev by simp]
                conv => rhs; rw [hrv]
                simp [rowsD, Row.d])
              dsimp only at hB3
              generalize (ν1.set f (.list (rowsD (pre.flatMap Blk.rev ++ b.rev.take b.words.length) ++ []))) = ν2 at hB3 ⊢
              walk_at "mg"
              refine x_swap2 (x := "lot") (y := "points") hA ?_
              walk_at "mg"
              intro l2 hl2
              have hB4 := hB3.newL (ds := []) hl2 [] rfl
              walk_at "mg"
              intro p2 hp2
              have hB5 := hB4.newP (ds := []) hp2 [] rfl
              walk_at "mg"
              exact ⟨l2, p2, (((LLess.nil.cons rfl).cons3 rfl rfl rfl).cons rfl), hB5⟩
      · have hw : w ≠ "m" := fun z => by rw [z] at hx; cases hx
        rw [if_neg hw] at u1
        walk_at "go"
        exact ⟨l, p, LLess.refl, hB⟩
    · rintro ⟨loc', μ'⟩ ⟨l, p, hll, hB⟩
      refine Wp.pre hll Less.refl ?_
      dsimp only at hB ⊢
      have hB2 : (if w = "m" then ⟨(bw rows (i + 1)).f, [], []⟩ else bw rows i : Bw).w ++ [w] = (bw rows (i + 1)).w ∧ (if w = "m" then ⟨(bw rows (i + 1)).f, [], []⟩ else bw rows i : Bw).p ++ ps = (bw rows (i + 1)).p ∧
          (if w = "m" then ⟨(bw rows (i + 1)).f, [], []⟩ else bw rows i : Bw).f = (bw rows (i + 1)).f := by
        by_cases hw : w = "m"
        · rw [if_pos hw, hwm hw]; exact ⟨rfl, rfl, rfl⟩
        · rw [if_neg hw, hwo hw]; exact ⟨rfl, rfl, rfl⟩
      refine hid fun PP9 kk9 => ?_
      obtain ⟨e1, e2, e3⟩ := hB2
      obtain ⟨y1, y2, y3⟩ := bw_small hn (i := i + 1) (by (first | lia | omega))
      refine kk9 ?_
      clear kk9 PP9
      generalize (if w = "m" then ⟨(bw rows (i + 1)).f, [], []⟩ else bw rows i : Bw) = B at hB e1 e2 e3
      generalize bw rows (i + 1) = B2 at *
      obtain ⟨f2, w2, p2⟩ := B2
      dsimp only at e1 e2 e3 y1 y2 y3
      subst e1 e2 e3
      rw [List.length_append] at y2 y3
      walk_at "mg"
      refine r_append hA ?_
      walk_at "mg"
      refine ⟨l, _, rfl, hB.lc, ?_⟩
      walk_at "mg"
      refine b_append hA (by exact hB.lc) (by simp; (first | lia | omega)) ?_
      have hB1 := hB.setL (ds := strsD B.w ++ [.str w]) (B.w ++ [w]) (by simp)
      generalize (μ'.set l (.list (strsD B.w ++ [.str w]))) = μ1 at hB1 ⊢
      walk_at "mg"
      refine r_extend hA ?_
      walk_at "mg"
      refine ⟨p, _, rfl, hB1.pc, ?_⟩
      walk_at "mg"
      refine r_comp hA ⟨rfl, rfl, by decide, by decide, by decide⟩ (cellsHere ["row"] rfl (by intro x hx; cases List.mem_singleton.mp hx; exact hcell)) ?_
      walk_at "k"
      refine r_call hA P.range trivial ?_
      walk_at "mg"
      refine r_call hA P.len trivial ?_
      walk_at "mg"
      refine b_lenT (by rw [List.length_cons, nums_len]; (first | lia | omega)) ?_
      walk_at "mg"
      refine b_range3 (by decide) (by decide) ?_
      have hll : (D.str w :: numsD ps).length = 1 + 2 * ps.length := by rw [List.length_cons, nums_len]; (first | lia | omega)
      rw [hll]
      obtain ⟨hr1, hr2⟩ := rng_odd ps.length (by (first | lia | omega))
      refine ⟨rngD 1 2 ps.length, _, fun i out μ => out = (ptsD ps).take i ∧ Mod [] μ1 μ, ⟨.rng hr2 hr1, by simp [rngD]; (first | lia | omega), fun _ _ _ _ _ _ _ _ => trivial, ⟨rfl, Mod.refl⟩, ?_⟩, ?_⟩
      · rintro XC hAC i out μ b d hd ⟨rfl, hm⟩ hb
        obtain ⟨hi, rfl⟩ := rngD_at hd
        obtain ⟨q, hp⟩ : ∃ q, ps[i]? = some q := ⟨_, List.getElem?_eq_getElem hi⟩
        obtain ⟨x, y⟩ := q
        walk_at "k"
        refine s_name hAC ?_ (by decide)
        refine t_nil ⟨fun _ => ?_, fun z => by cases z⟩
        walk_at "mg"
        refine s_numx (by (first | lia | omega)) hp ?_
        walk_at "mg"
        refine s_numy (by (first | lia | omega)) hp ?_
        walk_at "mg"
        refine CFin.of (LLess.cap (by decide)) (set_same _ _) ⟨?_, fun a c ha e => del_get (set_new hb (hm.get0 e)) (ne_of (hm.get0 e) hb)⟩
        rw [List.take_add_one, List.getElem?_map, hp]
        rfl
      · rintro out μ2 e ⟨rfl, hm⟩ he0
        have e4 : (ptsD ps).take (rngD 1 2 ps.length).length = ptsD ps := List.take_of_length_le (by simp [rngD])
        rw [e4]
        have hB2 := hB1.keep (hm.new (c := .list (ptsD ps)) he0)
        have he1 : (μ2.set e (.list (ptsD ps))) e = some (.list (ptsD ps)) := set_same _ _
        generalize (μ2.set e (.list (ptsD ps))) = μ3 at hB2 he1 ⊢
        walk_at "mg"
        refine b_extendL hA (by exact hB2.pc) (by exact he1) (by simp; (first | lia | omega)) ?_
        walk_at "mg"
        have hB3 := hB2.setP (ds := ptsD B.p ++ ptsD ps) (B.p ++ ps) (by simp [ptsD])
        refine Wp.fit (by with_reducible assumption) ?_
        exact x_done _ _ ((LLess.nil.cons rfl).cons3 rfl rfl rfl) Less.refl ⟨l, p, _, rfl, hB3⟩
  · intro st' hh9
    refine hid fun PP9 kk9 => ?_
    obtain ⟨l, p, μ', rfl, hB⟩ := hh9
    refine kk9 ?_
    clear kk9 PP9
    rw [hlen2, bw_end] at hB
    walk_at "mg"
    exact h f μ' hB.fc hB.nf hB.mod
end
end
section
section
variable {g : Gd} {X : Fx} {SC : Scope} {n : Nat} {st : St} {E : EP} {μ ν ρ : Mem}
/-- a name that may be stored to -/
noncomputable def Mine1 (X : Fx) (SC : Scope) (x : Str) : Prop := SC.names.lookup x = some .local ∨ (SC.names.lookup x = some .cell ∧ CellsMine X ∧ (X.env.cells.lookup x).isSome = true)
theorem s_bindG {x : Str} {d : D} {Q : Unit → St → Prop} (hA : At g X SC n) (hx : Mine1 X SC x) (h : Q () { st with loc := st.loc.set x d }) : W1 g UnitR X st (fun v => bindName X.env x v) d Q E :=
  fun v s hv hr => wpAny_bindName (w_store hA hx h v s hv hr)
/-- a closing alone, on an empty path -/
theorem c_law_after_z {o b : Addr} {most : Int} {Q : D → St → Prop} (P : Prg g) (hA : At g X SC (n + 2)) (ho : st.mem o = some (.list [])) (hb : st.mem b = some (.list (rowsD [.z]))) (hmost : 0 ≤ most)
    (h : ∀ w μ, μ w = some (.list []) → st.mem w = none → Mod [] st.mem μ → Q (.tup [.ref w, .none]) ⟨st.loc, μ⟩) : WCall g X st (.ref 309) [.ref o, .ref b, .int most] Q E := by
  refine (P.law_after.fn.call hA rfl fun X' hA hC hL Q9 uQ E9 uE => ?_).w
  refine x_cons ?_
  walk_at "mg"
  refine r_call hA P.list trivial ?_
  walk_at "mg"
  refine b_list ho (by simp) fun w hw => ?_
  walk_at "mg"
  refine x_for hA (Wp.less ?_)
  walk_at "k"
  refine r_name hA rfl ?_
  have hbw : b ≠ w := ne_of hb hw
  refine ⟨(bindD ["own", "rows", "most"] [.ref o, .ref b, .int most] noLoc).set "now" (.ref w), _, LLess.refl, Less.refl, rowsD [.z], _,
    fun i st' => ∃ μ' : Mem, st' = ⟨(bindD ["own", "rows", "most"] [.ref o, .ref b, .int most] noLoc).set "now" (.ref w), μ'⟩ ∧ μ' w = some (.list []) ∧ Mod [] st.mem μ',
    .list (set_new hw hb), ?_, ⟨_, rfl, set_same _ _, Mod.refl.new hw⟩, ?_, ?_⟩
  · rintro i st' ⟨μ', rfl, _, hm⟩; exact hm.get0 hb
  · intro i dd st' hd' hh9
    refine hid fun PP9 kk9 => ?_
    obtain ⟨μ', rfl, hk', hm'⟩ := hh9
    refine kk9 ?_
    clear kk9 PP9
    obtain ⟨r, hr, rfl⟩ := rows_at hd'
    have hrz : r = .z := by cases i with | zero => exact (by simpa using hr.symm) | succ i => simp at hr
    subst hrz
    walk_at "k"
    refine s_name hA ?_ (by decide)
    walk_at "mg"
    intro a ha
    walk_at "k"
    refine c_neNil hA (set_new ha hk') (set_same _ _) ?_
    walk_at "go"
    dsimp only [Row.d]
    walk_at "go"
    refine Wp.fit (by with_reducible assumption) ?_
    exact x_done _ _ (((LLess.nil.cons rfl).cons3 rfl rfl rfl)) Less.refl ⟨_, rfl, set_new ha hk', hm'.new ha⟩
  · intro st' hh9
    refine hid fun PP9 kk9 => ?_
    obtain ⟨μ', rfl, hk, hm⟩ := hh9
    refine kk9 ?_
    clear kk9 PP9
    walk_at "mg"
    refine r_call hA P.len trivial ?_
    walk_at "mg"
    refine b_lenL hk (by simp) ?_
    walk_at "mg"
    refine ⟨fun hx => ?_, fun hx => ?_⟩
    · simp at hx; (first | lia | omega)
    · walk_at "mg"
      exact h w μ' hk hw hm
end
end
section
/-! ## The law's turns: what is held -/
theorem bd_mono {B C : Int} {r : Row} (h : Bd B r) (hBC : B ≤ C) : Bd C r := fun v hv => by have := h v hv; (first | lia | omega)
theorem lastM_mem : ∀ {rows : List Row} {p : Int × Int}, lastM rows = some p → Row.m p.1 p.2 ∈ rows
  | r :: rest, p, h => by
    cases q : lastM rest with
    | some p' =>
      have : p' = p := by
        cases r <;> simp [lastM, q] at h <;> exact h
      subst this
      exact List.mem_cons_of_mem _ (lastM_mem q)
    | none =>
      cases r <;> simp [lastM, q] at h
      subst h
      exact List.mem_cons_self
theorem bd_put1 {B : Int} {rows : List Row} {r : Row} (hg : Good rows) (h : ∀ q ∈ rows, Bd B q) (hr : Bd B r) : ∀ q ∈ put1 rows r, Bd B q := by
  have hm : (rows.getLast?).any Row.isZ = true → Bd B (.m ((lastM rows).getD (0, 0)).1 ((lastM rows).getD (0, 0)).2) := fun hz => by
    have hne : rows ≠ [] := fun z => by rw [z] at hz; cases hz
    obtain ⟨p, hp⟩ := Option.isSome_iff_exists.mp (hg hne)
    rw [hp]
    exact h _ (lastM_mem hp)
  have go : ∀ q ∈ rows ++ (if (rows.getLast?).any Row.isZ then [Row.m ((lastM rows).getD (0, 0)).1 ((lastM rows).getD (0, 0)).2] else []) ++ [r], Bd B q := fun q hq => by
    rcases List.mem_append.mp hq with w | w
    · rcases List.mem_append.mp w with w | w
      · exact h q w
      · split at w
        · rename_i hz; rw [List.mem_singleton.mp w]; exact hm hz
        · cases w
    · rw [List.mem_singleton.mp w]; exact hr
  cases r with
  | m x y =>
    intro q hq
    rcases List.mem_append.mp hq with w | w
    · split at w
      · exact h q (List.dropLast_subset _ w)
      · exact h q w
    · rw [List.mem_singleton.mp w]; exact hr
  | z =>
    intro q hq
    simp only [put1] at hq
    split at hq
    · exact h q hq
    · rcases List.mem_append.mp hq with w | w
      · exact h q w
      · rw [List.mem_singleton.mp w]; exact hr
  | l x y => exact go
  | c x1 y1 x2 y2 x3 y3 => exact go
theorem bd_putAll {B : Int} : ∀ (rs rows : List Row), Nf none rows → Fit rows rs → (∀ q ∈ rows, Bd B q) → (∀ q ∈ rs, Bd B q) → ∀ q ∈ putAll rows rs, Bd B q
  | [], rows, _, _, h, _ => h
  | r :: rs, rows, hn, hf, h, h2 => bd_putAll rs (put1 rows r) (nf_put1 hn fun z => (hf z r rfl).1) (fun z => by
      obtain ⟨z1, z2⟩ := put1_nil z
      exact absurd z2 (hf z1 r rfl).2) (bd_put1 (nf_good hn) h (h2 r List.mem_cons_self)) fun q hq => h2 q (List.mem_cons_of_mem _ hq)
theorem bd_mv {B ac up : Int} {r : Row} (h : Bd B r) (h1 : -4 ≤ ac) (h2 : ac ≤ 4) (h3 : -4 ≤ up) (h4 : up ≤ 4) : Bd (B + 4) (r.mv ac up) := by
  rw [bd_pts] at *
  cases r <;> simp [Row.mv, Row.pts, PB] at h ⊢ <;> (first | lia | omega)
theorem half_bd {B : Int} {a b : Pt} (ha : PB B a) (hb : PB B b) : PB B (half a b) := by
  refine hid fun PP9 kk9 => ?_
  obtain ⟨h1, h2, h3, h4⟩ := ha
  obtain ⟨q1, q2, q3, q4⟩ := hb
  refine kk9 ?_
  clear kk9 PP9
  rw [half_eq]
  unfold PB
  dsimp only
  (first | lia | omega)
theorem ends_bd {B : Int} (fl : Int) : ∀ (f : Nat) (k : Cv), PB B k.a → PB B k.b → PB B k.c → PB B k.d → ∀ p ∈ ends fl f k, PB B p
  | 0, k, _, _, _, hd, p, hp => by simp [ends] at hp; rw [hp]; exact hd
  | f + 1, k, ha, hb, hc, hd, p, hp => by
    unfold ends at hp
    split at hp
    · rw [List.mem_singleton.mp hp]; exact hd
    · have h1 := half_bd ha hb; have h2 := half_bd hb hc; have h3 := half_bd hc hd; have h4 := half_bd h1 h2; have h5 := half_bd h2 h3; have h6 := half_bd h4 h5
      rcases List.mem_append.mp hp with w | w
      · exact ends_bd fl f k.ahead ha h1 h4 h6 p w
      · exact ends_bd fl f k.behind h6 h5 h3 hd p w
theorem bd_flat {B : Int} (fl : Int) : ∀ (rows : List Row) (h : Option Pt), (∀ q ∈ rows, Bd B q) → (∀ p, h = some p → PB B p) → ∀ q ∈ flatAll fl h rows, Bd B q
  | [], _, _, _, q, hq => by cases hq
  | r :: rs, h, hb, hh, q, hq => by
    have hr := bd_pts.mp (hb r List.mem_cons_self)
    rcases List.mem_append.mp hq with w | w
    · by_cases hc : r.w = "c"
      · cases r with
        | m => exact absurd hc (by simp [Row.w]; decide)
        | l => exact absurd hc (by simp [Row.w]; decide)
        | z => exact absurd hc (by simp [Row.w]; decide)
        | c x1 y1 x2 y2 x3 y3 =>
          cases h with
          | none => cases w
          | some p =>
            obtain ⟨e, he, rfl⟩ := List.mem_map.mp w
            exact bd_pts.mpr (by
              have := ends_bd fl 10 ⟨p, (x1, y1), (x2, y2), (x3, y3)⟩ (hh p rfl) (hr _ (by simp [Row.pts])) (hr _ (by simp [Row.pts])) (hr _ (by simp [Row.pts])) e he
              simpa [Row.pts] using this)
      · rw [flatRow_other hc] at w
        rw [List.mem_singleton.mp w]; exact hb r List.mem_cons_self
    · refine bd_flat fl rs _ (fun q' hq' => hb q' (List.mem_cons_of_mem _ hq')) (fun p hp => ?_) q w
      unfold hereN at hp
      cases e : r.pts.getLast? with
      | none => rw [e] at hp; exact hh p hp
      | some p' =>
        rw [e] at hp
        cases hp
        exact hr p (List.mem_of_getLast? e)

structure El where
  d : Addr
  k : Addr
  o : Addr
  rows : List Row
noncomputable def El.D (e : El) : D := .tup [.obj 198 e.d, .ref e.o]
structure Turn (μ : Mem) (t c el d k o : Addr) (most : Int) (rp ro : List Row) (els : List El) : Prop where
  tape : TapeIs μ t c
  path : PathAt μ d k most rp
  own : μ o = some (.list (rowsD ro))
  eld : μ el = some (.list (els.map El.D))
  each : ∀ e ∈ els, PathAt μ e.d e.k most e.rows ∧ μ e.o = some (.list (rowsD e.rows)) ∧ e.d ∉ [t, el, d, k] ∧ e.k ∉ [t, el, d, k] ∧ e.o ∉ [t, el, d, k] ∧ e.rows.length ≤ 1000
  tel : t ≠ el
  tk : t ≠ k
  elk : el ≠ k
  cm : c ∉ [t, el, d, k]
  om : o ∉ [t, el, d, k]
variable {μ ν : Mem} {t c el d k o : Addr} {most : Int} {rp ro : List Row} {els : List El}
theorem Turn.td (h : Turn μ t c el d k o most rp ro els) : t ≠ d := fun z => by
  refine hid fun PP9 kk9 => ?_
  obtain ⟨_, _, e, _⟩ := h.tape.there
  refine kk9 ?_
  clear kk9 PP9
  have := h.path.1
  rw [← z, e] at this; cases this
theorem Turn.eld' (h : Turn μ t c el d k o most rp ro els) : el ≠ d := fun z => by
  have := h.path.1
  rw [← z, h.eld] at this; cases this
theorem Turn.mod0 (h : Turn μ t c el d k o most rp ro els) (hm : Mod [] μ ν) : Turn ν t c el d k o most rp ro els :=
  ⟨h.tape.mod0 hm, h.path.mod0 hm, hm.get0 h.own, hm.get0 h.eld, fun e he => let ⟨h1, h2, h3⟩ := h.each e he; ⟨h1.mod0 hm, hm.get0 h2, h3⟩, h.tel, h.tk, h.elk, h.cm, h.om⟩
/-- what is there is not new -/
theorem Turn.newM (h : Turn μ t c el d k o most rp ro els) {a : Addr} (ha : μ a = none) : a ∉ [t, el, d, k] := fun z => by
  refine hid fun PP9 kk9 => ?_
  obtain ⟨_, _, e, _⟩ := h.tape.there
  refine kk9 ?_
  clear kk9 PP9
  simp only [List.mem_cons, List.not_mem_nil, or_false] at z
  rcases z with rfl | rfl | rfl | rfl
  · rw [e] at ha; cases ha
  · rw [h.eld] at ha; cases ha
  · rw [h.path.1] at ha; cases ha
  · rw [h.path.2] at ha; cases ha
theorem Turn.draw {c' : Addr} (h : Turn μ t c el d k o most rp ro els) (hm : Mod [t] μ ν) (ht : TapeIs ν t c') (hc : c' = c ∨ μ c' = none) : Turn ν t c' el d k o most rp ro els := by
  have nt : ∀ {a : Addr}, a ∉ [t, el, d, k] → a ∉ [t] := fun ha z => ha (by rw [List.mem_singleton.mp z]; simp)
  refine ⟨ht, h.path.mod hm (by simp [Ne.symm h.td]) (by simp [Ne.symm h.tk]), hm.get (nt h.om) h.own, hm.get (by simp [Ne.symm h.tel]) h.eld, fun e he => ?_, h.tel, h.tk, h.elk, ?_, h.om⟩
  · refine hid fun PP9 kk9 => ?_
    obtain ⟨h1, h2, h3, h4, h5, h6⟩ := h.each e he
    refine kk9 ?_
    clear kk9 PP9
    exact ⟨h1.mod hm (nt h3) (nt h4), hm.get (nt h5) h2, h3, h4, h5, h6⟩
  · rcases hc with rfl | hc
    · exact h.cm
    · exact h.newM hc
/-- the path's own cells change -/
theorem Turn.moved {k' : Addr} {rp' : List Row} (h : Turn μ t c el d k o most rp ro els) (hm : Mod [d, k] μ ν) (hp : PathAt ν d k' most rp') (hk : k' = k ∨ μ k' = none) : Turn ν t c el d k' o most rp' ro els := by
  have nt : ∀ {a : Addr}, a ∉ [t, el, d, k] → a ∉ [d, k] := fun ha z => ha (by
    simp only [List.mem_cons, List.not_mem_nil, or_false] at z ⊢
    rcases z with z | z <;> simp [z])
  have h0 : ∀ {a : Addr} {cc : Cell}, μ a = some cc → a ∉ [t, el, d, k] → a ∉ [t, el, d, k'] := fun he ha => by
    rcases hk with rfl | hk
    · exact ha
    · intro z
      simp only [List.mem_cons, List.not_mem_nil, or_false] at z ha
      rcases z with z | z | z | z
      · exact ha (.inl z)
      · exact ha (.inr (.inl z))
      · exact ha (.inr (.inr (.inl z)))
      · rw [z, hk] at he; cases he
  refine hid fun PP9 kk9 => ?_
  obtain ⟨kk, ds, e1, e2, e3⟩ := h.tape.there
  refine kk9 ?_
  clear kk9 PP9
  have htk : t ≠ k' := by
    rcases hk with rfl | hk
    · exact h.tk
    · exact ne_of e1 hk
  have hek : el ≠ k' := by
    rcases hk with rfl | hk
    · exact h.elk
    · exact ne_of h.eld hk
  refine ⟨h.tape.mod hm (by simp [h.td, h.tk]) (nt h.cm), hp, hm.get (nt h.om) h.own, hm.get (by simp [h.eld', h.elk]) h.eld, fun e he => ?_, h.tel, htk, hek, h0 e2 h.cm, h0 h.own h.om⟩
  refine hid fun PP9 kk9 => ?_
  obtain ⟨h1, h2, h3, h4, h5, h6⟩ := h.each e he
  refine kk9 ?_
  clear kk9 PP9
  exact ⟨h1.mod hm (nt h3) (nt h4), hm.get (nt h5) h2, h0 h1.1 h3, h0 h1.2 h4, h0 h2 h5, h6⟩
/-- another list is held as the law's own -/
theorem Turn.owned {o' : Addr} {ro' : List Row} (h : Turn μ t c el d k o most rp ro els) (ho : μ o' = some (.list (rowsD ro'))) (hm : o' ∉ [t, el, d, k]) : Turn μ t c el d k o' most rp ro' els :=
  ⟨h.tape, h.path, ho, h.eld, h.each, h.tel, h.tk, h.elk, h.cm, hm⟩
/-- the path is left for another one -/
theorem Turn.left {d' k' : Addr} {rp' : List Row} (h : Turn μ t c el d k o most rp rp els) (hlen : rp.length ≤ 1000) (hd : μ d' = none) (hk : μ k' = none) (hm : Mod [] μ ν) (hp : PathAt ν d' k' most rp') :
    Turn (ν.set el (.list (els.map El.D ++ [.tup [.obj 198 d, .ref o]]))) t c el d' k' o most rp' rp (els ++ [⟨d, k, o, rp⟩]) := by
  have h' := h.mod0 hm
  have hne : ∀ {a : Addr} {cc : Cell}, μ a = some cc → a ∉ [t, el, d, k] → a ∉ [t, el, d', k'] := fun he ha z => by
    simp only [List.mem_cons, List.not_mem_nil, or_false] at z ha
    rcases z with z | z | z | z
    · exact ha (.inl z)
    · exact ha (.inr (.inl z))
    · rw [z, hd] at he; cases he
    · rw [z, hk] at he; cases he
  have nel : ∀ {a : Addr}, a ∉ [t, el, d, k] → a ≠ el := fun ha z => ha (by simp [z])
  have hS : Mod [el] ν (ν.set el (.list (els.map El.D ++ [.tup [.obj 198 d, .ref o]]))) := Mod.refl.put (.inl (by simp))
  refine hid fun PP9 kk9 => ?_
  obtain ⟨kk, ds, e1, e2, e3⟩ := h.tape.there
  refine kk9 ?_
  clear kk9 PP9
  have hdel : d' ≠ el := fun z => by rw [z, h.eld] at hd; cases hd
  have hkel : k' ≠ el := fun z => by rw [z, h.eld] at hk; cases hk
  have mine : ∀ {a : Addr} {cc : Cell}, μ a = some cc → a ≠ t → a ≠ el → a ∉ [t, el, d', k'] := fun he h1 h2 z => by
    simp only [List.mem_cons, List.not_mem_nil, or_false] at z
    rcases z with z | z | z | z
    · exact h1 z
    · exact h2 z
    · rw [z, hd] at he; cases he
    · rw [z, hk] at he; cases he
  refine ⟨h'.tape.mod hS (by simp [h.tel]) (by simp [nel h.cm]), hp.mod hS (by simp [hdel]) (by simp [hkel]), hS.get (by simp [nel h.om]) h'.own, (set_same _ _).trans (by simp [El.D]), ?_, h.tel, ne_of e1 hk, ne_of h.eld hk, hne e2 h.cm, hne h.own h.om⟩
  intro e he
  rcases List.mem_append.mp he with q | q
  · refine hid fun PP9 kk9 => ?_
    obtain ⟨h1, h2, h3, h4, h5, h6⟩ := h.each e q
    obtain ⟨g1, g2, _⟩ := h'.each e q
    refine kk9 ?_
    clear kk9 PP9
    exact ⟨g1.mod hS (by simp [nel h3]) (by simp [nel h4]), hS.get (by simp [nel h5]) g2, hne h1.1 h3, hne h1.2 h4, hne h2 h5, h6⟩
  · rw [List.mem_singleton.mp q]
    exact ⟨h'.path.mod hS (by simp [Ne.symm h.eld']) (by simp [Ne.symm h.elk]), hS.get (by simp [nel h.om]) h'.own, mine h.path.1 (Ne.symm h.td) (Ne.symm h.eld'), mine h.path.2 (Ne.symm h.tk) (Ne.symm h.elk), hne h.own h.om, hlen⟩
end
section
section
variable {g : Gd} {X : Fx} {SC : Scope} {n : Nat} {st : St} {E : EP} {μ ν ρ : Mem}
noncomputable def forOf : Option Stmt → List Stmt
  | some (.For _ _ b _ _) => b
  | _ => []
noncomputable def turnBody : List Stmt := forOf (bd 37)[3]?
noncomputable def tS (i : Nat) : Stmt := (turnBody[i]?).getD (.Pass default)
noncomputable abbrev L0 (t d o el : Addr) (most : Int) : Loc := ((((noLoc.set "tape" (.ref t)).set "most" (.int most)).set "route" (.obj 198 d)).set "own" (.ref o)).set "elder" (.ref el)
noncomputable abbrev L1 (t d o el : Addr) (most : Int) (turn way : Int) (rows made told : D) (ac up fl : Int) : Loc :=
  (((((((L0 t d o el most).set "turn" (.int turn)).set "way" (.int way)).set "rows" rows).set "made" made).set "told" told).set "across" (.int ac)).set "up" (.int up) |>.set "flatness" (.int fl)
structure After1 (most : Int) (rows : List Row) (r : Row) (now : List Row) (due : D) : Prop where
  it : ((rows = [] → r.isG = false) ∧ ((put1 rows r).length : Int) ≤ most ∧ now = put1 rows r ∧ due = .none) ∨ ((rows = [] → r.isG = false) ∧ most < ((put1 rows r).length : Int) ∧ now = rows ∧ due = .bytes limitB) ∨ (rows = [] ∧ r.isG = true ∧ now = rows ∧ due = .bytes nocurB)
structure AfterN (most : Int) (rows rs : List Row) (now : List Row) (due : D) : Prop where
  it : (Fit rows rs ∧ ((putAll rows rs).length : Int) ≤ most ∧ now = putAll rows rs ∧ due = .none) ∨ (Fit rows rs ∧ most < ((putAll rows rs).length : Int) ∧ now = rows ∧ due = .bytes limitB) ∨ (rows = [] ∧ rs.head?.any Row.isG = true ∧ now = rows ∧ due = .bytes nocurB)
inductive Plan (most : Int) (rows : List Row) (k : Addr) (μ : Mem) : Int → D → D → Int → Int → Int → List Row → Prop
  | one {way : Int} {r : Row} {b : Addr} {due : D} {now : List Row} (h0 : 0 ≤ way) (h1 : way < 6) (hb : μ b = some (.list (rowsD [r]))) (ha : After1 most rows r now due) : Plan most rows k μ way (.ref b) due 0 0 0 now
  | many {way : Int} {rs : List Row} {b : Addr} {due : D} {now : List Row} (h0 : 5 < way) (h1 : way < 8) (hb : μ b = some (.list (rowsD rs))) (hl : rs.length ≤ 4) (hbk : b ≠ k) (hz : rows = [] → rs.head? ≠ some .z) (ha : AfterN most rows rs now due) : Plan most rows k μ way (.ref b) due 0 0 0 now
  | copy {a : D} : Plan most rows k μ 8 a .none 0 0 0 rows
  | back {a : D} : Plan most rows k μ 9 a .none 0 0 0 (revAll rows)
  | move {a : D} {ac up : Int} : Plan most rows k μ 10 a .none ac up 0 (rows.map (Row.mv ac up))
  | flat {a : D} {fl : Int} (h0 : 1000 ≤ fl) (h1 : fl ≤ 10000) (hl : ((flatAll fl none rows).length : Int) ≤ most) : Plan most rows k μ 11 a .none 0 0 fl (flatAll fl none rows)
  | full {a : D} {fl : Int} (h0 : 1000 ≤ fl) (h1 : fl ≤ 10000) (hl : most < ((flatAll fl none rows).length : Int)) : Plan most rows k μ 11 a (.bytes limitB) 0 0 fl rows
  | clear {a : D} : Plan most rows k μ 12 a .none 0 0 0 []
/-- what is known of a turn's path -/
structure Held (most B : Int) (rows : List Row) : Prop where
  nf : Nf none rows
  len : (rows.length : Int) ≤ most
  bd : ∀ r ∈ rows, Bd B r
theorem Held.mono {most B C : Int} {rows : List Row} (h : Held most B rows) (hBC : B ≤ C) : Held most C rows := ⟨h.nf, h.len, fun r hr => bd_mono (h.bd r hr) hBC⟩
structure PhA (t el d k o : Addr) (most turn way : Int) (rows : List Row) (els : List El) (B : Int) (st' : St) (c nw : Addr) (a due : D) (ac up fl : Int) (now : List Row) : Prop where
  loc : LLess (((L1 t d o el most turn way a .none .none ac up fl).set "due" due).set "now" (.ref nw)) st'.loc
  turn : Turn st'.mem t c el d k o most rows rows els
  plan : Plan most rows k st'.mem way a due ac up fl now
  nowc : st'.mem nw = some (.list (rowsD now))
  nm : nw ∉ [t, el, d, k]
  held : Held most (B + 4) now
theorem s_words6 {v : Int} {value slice : Expr} {Q : D → St → Prop} (h0 : 0 ≤ v) (h1 : v < 6) (h : ∀ w : Str, (w = "m" ∨ w = "l" ∨ w = "c" ∨ w = "z") → Q (.str w) st) (hs : autoParam (notSlice slice = true) autoR._auto_1) :
    W2 g Val X st (subscriptTail value slice) (.tup [.str "m", .str "l", .str "c", .str "z", .str "l", .str "z"]) (.int v) Q E := by
  have hv : v = 0 ∨ v = 1 ∨ v = 2 ∨ v = 3 ∨ v = 4 ∨ v = 5 := by (first | lia | omega)
  rcases hv with rfl | rfl | rfl | rfl | rfl | rfl
  · exact s_nat (j := 0) rfl rfl (by simp) (h _ (by simp)) hs
  · exact s_nat (j := 1) rfl rfl (by simp) (h _ (by simp)) hs
  · exact s_nat (j := 2) rfl rfl (by simp) (h _ (by simp)) hs
  · exact s_nat (j := 3) rfl rfl (by simp) (h _ (by simp)) hs
  · exact s_nat (j := 4) rfl rfl (by simp) (h _ (by simp)) hs
  · exact s_nat (j := 5) rfl rfl (by simp) (h _ (by simp)) hs
theorem after_held {most B : Int} {rows rs now : List Row} {due : D} (h : Held most B rows) (hB : 0 ≤ B) (hr : ∀ r ∈ rs, Bd 0 r) (ha : AfterN most rows rs now due) : Held most (B + 4) now := by
  rcases ha.it with ⟨hf, hl, rfl, _⟩ | ⟨_, _, rfl, _⟩ | ⟨_, _, rfl, _⟩
  · exact ⟨nf_putAll rs rows h.nf hf, hl, bd_putAll rs rows h.nf hf (fun q hq => bd_mono (h.bd q hq) (by (first | lia | omega))) fun q hq => bd_mono (hr q hq) (by (first | lia | omega))⟩
  · exact h.mono (by (first | lia | omega))
  · exact h.mono (by (first | lia | omega))
theorem after1_held {most B : Int} {rows now : List Row} {r : Row} {due : D} (h : Held most B rows) (hB : 0 ≤ B) (hr : Bd 0 r) (ha : After1 most rows r now due) : Held most (B + 4) now := by
  rcases ha.it with ⟨hf, hl, rfl, _⟩ | ⟨_, _, rfl, _⟩ | ⟨_, _, rfl, _⟩
  · exact ⟨nf_put1 h.nf hf, hl, bd_put1 (nf_good h.nf) (fun q hq => bd_mono (h.bd q hq) (by (first | lia | omega))) (bd_mono hr (by (first | lia | omega)))⟩
  · exact h.mono (by (first | lia | omega))
  · exact h.mono (by (first | lia | omega))
theorem c_A1 {t c el d k o : Addr} {most turn way B : Int} {rows : List Row} {els : List El} {a : Addr} {J : St → Prop} {Q2 : AF → St → Prop} (P : Prg g) (hA : At g X (sc 37) (n + 12))
    (hT : Turn μ t c el d k o most rows rows els) (hH : Held most B rows) (hB : 0 ≤ B) (hm0 : 0 ≤ most) (hm : most ≤ 8) (hw0 : 0 ≤ way) (hw : way < 6)
    (h : ∀ st' c nw a due ac up fl now, PhA t el d k o most turn way rows els B st' c nw a due ac up fl now → J st') :
    Wp g FlowR X ⟨(L1 t d o el most turn way (.ref a) .none .none 0 0 0).set "due" .none, μ⟩ (exec (tS 3) X.env) (Then J Q2) E := by
  have hlen := hH.len
  refine x_if ?_
  walk_at "mg"
  refine ⟨fun _ => ?_, fun hx => absurd hx (by simp; omega)⟩
  walk_at "mg"
  refine ⟨fun hx => absurd hx (by simp; omega), fun _ => ?_⟩
  walk_at "mg"
  refine r_call hA P.law_row.glob P.law_row.keep ?_
  walk_at "mg"
  refine s_words6 hw0 hw fun w hww => ?_
  walk_at "mg"
  refine c_law_row P hA hT.tape hww fun r c' μ1 hrw hrb ht1 hc1 hm1 => ?_
  have hT1 := hT.draw hm1 ht1 hc1
  walk_at "mg"
  intro b hb
  have hT2 := hT1.mod0 (Mod.refl.new (c := .list [r.d]) hb)
  have hb2 : (μ1.set b (.list [r.d])) b = some (.list (rowsD [r])) := set_same _ _
  generalize (μ1.set b (.list [r.d])) = μ2 at hT2 hb2 ⊢
  walk_at "mg"
  refine x_unpack hA ?_
  walk_at "k"
  refine r_call hA P.law_after.glob P.law_after.keep ?_
  walk_at "mg"
  have fin : ∀ (w : Addr) (due : D) (now : List Row) (μ3 : Mem), μ3 w = some (.list (rowsD now)) → w ∉ [t, el, d, k] → Mod [] μ2 μ3 → After1 most rows r now due →
      J ⟨((((L1 t d o el most turn way (.ref a) .none .none 0 0 0).set "due" .none).set "rows" (.ref b)).set "now" (.ref w)).set "due" due, μ3⟩ := fun w due now μ3 hw3 hwm hm3 haft =>
    h _ c' w (.ref b) due 0 0 0 now ⟨(((((((((((((LLess.nil.cons rfl).cons3 rfl rfl rfl).cons rfl).cons rfl).cons rfl).cons rfl).cons rfl).cons rfl).cons rfl).cons rfl).cons rfl).cons rfl).cons rfl), hT2.mod0 hm3, .one hw0 hw (hm3.get0 hb2) haft, hw3, hwm, after1_held hH hB hrb haft⟩
  by_cases hz : rows = [] ∧ r = .z
  · obtain ⟨rfl, rfl⟩ := hz
    walk_at "k"
    refine c_law_after_z P hA hT2.own hb2 hm0 fun w2 μ3 hw3 hn3 hm3 => ?_
    walk_at "k"
    refine s_unpack (ds := [.ref w2, .none]) hA rfl (ts := [_, _]) rfl ?_
    refine in_cons (s_name hA (in_cons (s_name hA (in_nil ?_))))
    walk_at "mg"
    exact fin w2 .none [] μ3 hw3 (hT2.newM hn3) hm3 ⟨.inl ⟨fun _ => rfl, by simpa [put1] using hm0, by simp [put1], rfl⟩⟩
  · have hfit : Fit rows [r] → rows = [] → r.isG = false := fun hf z => (hf z r rfl).1
    have hpa : putAll rows [r] = put1 rows r := rfl
    walk_at "k"
    refine c_law_after P hA hT2.own hb2 (by omega) (by simp) (nf_good hH.nf) (fun z1 z2 => hz ⟨z1, by simpa using z2⟩) (fun hf hl w2 μ3 hw3 hn3 hm3 => ?_) (fun hf hl μ3 hm3 => ?_) fun h0 h1 μ3 hm3 => ?_
    · walk_at "k"
      refine s_unpack (ds := [.ref w2, .none]) hA rfl (ts := [_, _]) rfl ?_
      refine in_cons (s_name hA (in_cons (s_name hA (in_nil ?_))))
      walk_at "mg"
      exact fin w2 .none _ μ3 hw3 (hT2.newM hn3) hm3 ⟨.inl ⟨hfit hf, hl, rfl, rfl⟩⟩
    · walk_at "k"
      refine s_unpack (ds := [.ref o, .bytes limitB]) hA rfl (ts := [_, _]) rfl ?_
      refine in_cons (s_name hA (in_cons (s_name hA (in_nil ?_))))
      walk_at "mg"
      exact fin o (.bytes limitB) rows μ3 (hm3.get0 hT2.own) hT.om hm3 ⟨.inr (.inl ⟨hfit hf, hl, rfl, rfl⟩)⟩
    · walk_at "k"
      refine s_unpack (ds := [.ref o, .bytes nocurB]) hA rfl (ts := [_, _]) rfl ?_
      refine in_cons (s_name hA (in_cons (s_name hA (in_nil ?_))))
      walk_at "mg"
      exact fin o (.bytes nocurB) rows μ3 (hm3.get0 hT2.own) hT.om hm3 ⟨.inr (.inr ⟨h0, by simpa using h1, rfl, rfl⟩)⟩
theorem c_A2 {t c el d k o : Addr} {most turn way B : Int} {rows : List Row} {els : List El} {a : Addr} {J : St → Prop} {Q2 : AF → St → Prop} (P : Prg g) (hA : At g X (sc 37) (n + 12))
    (hT : Turn μ t c el d k o most rows rows els) (hH : Held most B rows) (hB : 0 ≤ B) (hm0 : 0 ≤ most) (hm : most ≤ 8) (hw0 : 5 < way) (hw : way < 8)
    (h : ∀ st' c nw a due ac up fl now, PhA t el d k o most turn way rows els B st' c nw a due ac up fl now → J st') :
    Wp g FlowR X ⟨(L1 t d o el most turn way (.ref a) .none .none 0 0 0).set "due" .none, μ⟩ (exec (tS 3) X.env) (Then J Q2) E := by
  have hlen := hH.len
  refine x_if ?_
  walk_at "mg"
  refine ⟨fun _ => ?_, fun hx => absurd hx (by simp; (first | lia | omega))⟩
  walk_at "mg"
  refine ⟨fun _ => ?_, fun hx => absurd hx (by simp; (first | lia | omega))⟩
  walk_at "mg"
  refine r_call hA P.law_some_rows.glob P.law_some_rows.keep ?_
  walk_at "mg"
  refine c_some_rows P hA hT.tape hT.own (fun z => hT.om (by simp [z])) fun rs b c' μ2 hrl hrb hz hb2 hbn ht1 hc1 hbt hbc hm1 => ?_
  have hT2 := hT.draw hm1 ht1 hc1
  walk_at "mg"
  refine x_unpack hA ?_
  walk_at "k"
  refine r_call hA P.law_after.glob P.law_after.keep ?_
  walk_at "mg"
  have fin : ∀ (w : Addr) (due : D) (now : List Row) (μ3 : Mem), μ3 w = some (.list (rowsD now)) → w ∉ [t, el, d, k] → Mod [] μ2 μ3 → AfterN most rows rs now due →
      J ⟨((((L1 t d o el most turn way (.ref a) .none .none 0 0 0).set "due" .none).set "rows" (.ref b)).set "now" (.ref w)).set "due" due, μ3⟩ := fun w due now μ3 hw3 hwm hm3 haft =>
    h _ c' w (.ref b) due 0 0 0 now ⟨(((((((((((((LLess.nil.cons rfl).cons3 rfl rfl rfl).cons rfl).cons rfl).cons rfl).cons rfl).cons rfl).cons rfl).cons rfl).cons rfl).cons rfl).cons rfl).cons rfl), hT2.mod0 hm3, .many hw0 hw (hm3.get0 hb2) hrl (Ne.symm (ne_of hT.path.2 hbn)) hz haft, hw3, hwm, after_held hH hB hrb haft⟩
  walk_at "k"
  refine c_law_after P hA hT2.own hb2 (by (first | lia | omega)) (by (first | lia | omega)) (nf_good hH.nf) hz (fun hf hl w2 μ3 hw3 hn3 hm3 => ?_) (fun hf hl μ3 hm3 => ?_) fun h0 h1 μ3 hm3 => ?_
  · walk_at "k"
    refine s_unpack (ds := [.ref w2, .none]) hA rfl (ts := [_, _]) rfl ?_
    refine in_cons (s_name hA (in_cons (s_name hA (in_nil ?_))))
    walk_at "mg"
    exact fin w2 .none _ μ3 hw3 (hT2.newM hn3) hm3 ⟨.inl ⟨hf, hl, rfl, rfl⟩⟩
  · walk_at "k"
    refine s_unpack (ds := [.ref o, .bytes limitB]) hA rfl (ts := [_, _]) rfl ?_
    refine in_cons (s_name hA (in_cons (s_name hA (in_nil ?_))))
    walk_at "mg"
    exact fin o (.bytes limitB) rows μ3 (hm3.get0 hT2.own) hT.om hm3 ⟨.inr (.inl ⟨hf, hl, rfl, rfl⟩)⟩
  · walk_at "k"
    refine s_unpack (ds := [.ref o, .bytes nocurB]) hA rfl (ts := [_, _]) rfl ?_
    refine in_cons (s_name hA (in_cons (s_name hA (in_nil ?_))))
    walk_at "mg"
    exact fin o (.bytes nocurB) rows μ3 (hm3.get0 hT2.own) hT.om hm3 ⟨.inr (.inr ⟨h0, h1, rfl, rfl⟩)⟩
end
end
section
section
variable {g : Gd} {X : Fx} {SC : Scope} {n : Nat} {st : St} {E : EP} {μ ν ρ : Mem}
theorem c_A3 {t c el d k o : Addr} {most turn way B : Int} {rows : List Row} {els : List El} {a : Addr} {J : St → Prop} {Q2 : AF → St → Prop} (P : Prg g) (hA : At g X (sc 37) (n + 12))
    (hT : Turn μ t c el d k o most rows rows els) (hH : Held most B rows) (hB : 0 ≤ B) (hm0 : 0 ≤ most) (hm : most ≤ 8) (hw : way = 8 ∨ way = 9 ∨ way = 12)
    (h : ∀ st' c nw a due ac up fl now, PhA t el d k o most turn way rows els B st' c nw a due ac up fl now → J st') :
    Wp g FlowR X ⟨(L1 t d o el most turn way (.ref a) .none .none 0 0 0).set "due" .none, μ⟩ (exec (tS 3) X.env) (Then J Q2) E := by
  have hlen := hH.len
  refine x_if ?_
  walk_at "mg"
  refine ⟨fun hx => absurd hx (by simp; (first | lia | omega)), fun _ => ?_⟩
  walk_at "mg"
  refine ⟨fun hx => absurd hx (by simp; (first | lia | omega)), fun _ => ?_⟩
  walk_at "mg"
  refine ⟨fun hx => absurd hx (by simp; (first | lia | omega)), fun _ => ?_⟩
  walk_at "mg"
  refine r_idictP hA.fx rfl rfl (by decide) (by decide) fun e he => ?_
  have hT1 := hT.mod0 (Mod.refl.new (c := .idict []) he)
  have he1 : (μ.set e (.idict [])) e = some (.idict []) := set_same _ _
  have hm1 : Mod [] μ (μ.set e (.idict [])) := Mod.refl.new he
  have hfr : ∀ {x : Addr}, (μ.set e (.idict [])) x = none → μ x = none := fun hx => (Mod.refl.new (T := []) (c := .idict []) he).none (by simp) hx
  generalize (μ.set e (.idict [])) = μ1 at hT1 he1 hfr hm1 ⊢
  dsimp only [pairsOf]
  refine p_cons ?_
  walk_at "mg"
  refine p_back ?_
  walk_at "mg"
  refine p_cons ?_
  walk_at "mg"
  refine p_back ?_
  walk_at "k"
  refine r_call hA P.law_backwards.glob P.law_backwards.keep ?_
  walk_at "mg"
  refine c_law_backwards P hA hT1.own (by (first | lia | omega)) hH.nf fun b μ2 hb2 hb0 hm2 => ?_
  have hT2 := hT1.mod0 hm2
  walk_at "mg"
  refine p_cons ?_
  walk_at "mg"
  refine p_back ?_
  walk_at "mg"
  intro z hz0
  have hm3 : Mod [] μ2 (μ2.set z (.list [])) := Mod.refl.new hz0
  have hz3 : (μ2.set z (.list [])) z = some (.list []) := set_same _ _
  have hz1 : μ1 z = none := hm2.none (by simp) hz0
  generalize (μ2.set z (.list [])) = μ3 at hm3 hz3 ⊢
  walk_at "mg"
  refine p_nil ?_
  have hT3 := hT2.mod0 hm3
  refine ⟨_, rfl, (show [(8 : Int), 9, 12].Nodup by decide), hm3.get0 (hm2.get0 he1), ?_⟩
  have he0 : μ1 e ≠ none := by rw [he1]; simp
  have hbe : b ≠ e := fun q => by rw [q] at hb0; exact he0 hb0
  have hze : z ≠ e := fun q => by rw [q] at hz1; exact he0 hz1
  have hT4 : Turn (μ3.set e (.idict [(8, .ref o), (9, .ref b), (12, .ref z)])) t c el d k o most rows rows els := by
    have hMe : Mod [] μ (μ3.set e (.idict [(8, .ref o), (9, .ref b), (12, .ref z)])) := fun a' cc _ q => by
      have hne : a' ≠ e := ne_of q he
      exact set_get hne (hm3.get0 (hm2.get0 (hm1.get0 q)))
    exact hT.mod0 hMe
  have hb4 : (μ3.set e (.idict [(8, .ref o), (9, .ref b), (12, .ref z)])) b = some (.list (rowsD (revAll rows))) := set_get hbe (hm3.get0 hb2)
  have hz4 : (μ3.set e (.idict [(8, .ref o), (9, .ref b), (12, .ref z)])) z = some (.list (rowsD [])) := set_get hze hz3
  have he4 : (μ3.set e (.idict [(8, .ref o), (9, .ref b), (12, .ref z)])) e = some (.idict [(8, .ref o), (9, .ref b), (12, .ref z)]) := set_same _ _
  dsimp only
  generalize (μ3.set e (.idict [(8, .ref o), (9, .ref b), (12, .ref z)])) = μ4 at hT4 hb4 hz4 he4 ⊢
  walk_at "mg"
  have hl : ∀ x : Addr, LLess (((L1 t d o el most turn way (.ref a) .none .none 0 0 0).set "due" .none).set "now" (.ref x)) (((L1 t d o el most turn way (.ref a) .none .none 0 0 0).set "due" .none).set "now" (.ref x)) := fun x => LLess.refl
  rcases hw with rfl | rfl | rfl
  · walk_at "k"
    refine s_idict (d := .ref o) he4 rfl ?_
    walk_at "mg"
    exact h _ c o (.ref a) .none 0 0 0 rows ⟨hl o, hT4, .copy, hT4.own, hT.om, hH.mono (by (first | lia | omega))⟩
  · walk_at "k"
    refine s_idict (d := .ref b) he4 rfl ?_
    walk_at "mg"
    exact h _ c b (.ref a) .none 0 0 0 _ ⟨hl b, hT4, .back, hb4, hT1.newM hb0, ⟨nf_revAll hH.nf, by rw [revAll_len hH.nf]; exact hlen, fun r hr => bd_mono (bd_revAll hH.nf hH.bd r hr) (by (first | lia | omega))⟩⟩
  · walk_at "k"
    refine s_idict (d := .ref z) he4 rfl ?_
    walk_at "mg"
    exact h _ c z (.ref a) .none 0 0 0 [] ⟨hl z, hT4, .clear, hz4, hT1.newM hz1, ⟨trivial, hm0, fun r hr => by cases hr⟩⟩
theorem b_range2 {i j : Int} {Q : D → St → Prop} (h : Q (.rng i j 1) st) : WCall g X st (.ty "range") [.int i, .int j] Q E := by
  rintro _ _ s rfl hvs hr
  refine hid fun PP9 kk9 => ?_
  obtain ⟨_, _, rfl, ⟨t, rfl⟩, u, rfl⟩ := hvs.two
  refine kk9 ?_
  clear kk9 PP9
  refine call_range_2 ?_
  have hp := push_keeps s.heap (rangeO (.int i t) (.int j u) (.int 1 s.toks))
  exact Po.still hr hp (d := .rng i j 1) ⟨_, _, _, _, rfl, Heap.get?_push_size _ rfl⟩ h _
theorem coords_d (r : Row) : r.d = .tup (.str r.w :: r.coords.map D.int) := by cases r <;> rfl
theorem coords_len (r : Row) : r.coords.length ≤ 6 := by cases r <;> simp [Row.coords]
theorem mv_coords (ac up : Int) (r : Row) {j : Nat} {v : Int} (h : r.coords[j]? = some v) : (r.mv ac up).coords[j]? = some (v + if (1 + (j : Nat) * 1 : Int).fmod 2 = 1 then ac else up) := by
  have hj := (List.getElem?_eq_some_iff.mp h).1
  have hl := coords_len r
  have h6 : j = 0 ∨ j = 1 ∨ j = 2 ∨ j = 3 ∨ j = 4 ∨ j = 5 := by (first | lia | omega)
  cases r <;> rcases h6 with rfl | rfl | rfl | rfl | rfl | rfl <;> simp [Row.coords] at h <;> subst h <;> rfl
theorem mv_clen (ac up : Int) (r : Row) : (r.mv ac up).coords.length = r.coords.length := by cases r <;> rfl
theorem mv_w (ac up : Int) (r : Row) : (r.mv ac up).w = r.w := by cases r <;> rfl
theorem rng_one (m : Nat) (h : m ≤ 1000) : Builtin.Range.rangeSize 1 ((1 + m : Nat) : Int) 1 = ((m : Nat) : Int) ∧ Builtin.Range.small 1 ((1 + m : Nat) : Int) 1 = true := by
  have e : Builtin.Range.rangeSize 1 ((1 + m : Nat) : Int) 1 = ((m : Nat) : Int) := by
    unfold Builtin.Range.rangeSize
    rw [if_pos (by decide), Int.ediv_one]
    split <;> (first | lia | omega)
  refine ⟨e, ?_⟩
  unfold Builtin.Range.small
  rw [e]
  simp [Builtin.Range.rangeFitsLong]
  (first | lia | omega)
theorem c_A11 {t c el d k o : Addr} {most turn B : Int} {rows : List Row} {els : List El} {a : Addr} {J : St → Prop} {Q2 : AF → St → Prop} (P : Prg g) (hA : At g X (sc 37) (n + 12))
    (hT : Turn μ t c el d k o most rows rows els) (hH : Held most B rows) (hB : 0 ≤ B) (hB' : B ≤ 100) (hm0 : 0 ≤ most) (hm : most ≤ 8)
    (h : ∀ st' c nw a due ac up fl now, PhA t el d k o most turn 11 rows els B st' c nw a due ac up fl now → J st') :
    Wp g FlowR X ⟨(L1 t d o el most turn 11 (.ref a) .none .none 0 0 0).set "due" .none, μ⟩ (exec (tS 3) X.env) (Then J Q2) E := by
  have hlen := hH.len
  refine x_if ?_
  walk_at "go"
  refine r_call hA P.law_draw.glob P.law_draw.keep ?_
  walk_at "mg"
  refine c_draw P hA hT.tape (by decide) (by decide) fun v c' μ1 hv0 hv1 ht1 hc1 hm1 => ?_
  have hT1 := hT.draw hm1 ht1 hc1
  obtain ⟨fl, hd, hf0, hf1⟩ : ∃ fl : Int, [D.int 1000, D.int 2500, D.int 4000][v.toNat]? = some (.int fl) ∧ 1000 ≤ fl ∧ fl ≤ 10000 := by
    have hv : v = 0 ∨ v = 1 ∨ v = 2 := by (first | lia | omega)
    rcases hv with rfl | rfl | rfl
    · exact ⟨1000, rfl, by decide, by decide⟩
    · exact ⟨2500, rfl, by decide, by decide⟩
    · exact ⟨4000, rfl, by decide, by decide⟩
  walk_at "k"
  refine s_nat (j := v.toNat) (by (first | lia | omega)) hd (by simp) ?_
  walk_at "mg"
  refine r_call hA P.law_flat.glob P.law_flat.keep ?_
  walk_at "mg"
  have hbd : ∀ r ∈ rows, Bd 100 r := fun r hr => bd_mono (hH.bd r hr) hB'
  walk_at "k"
  refine c_law_flat P hA hT1.own (by (first | lia | omega)) hf0 hf1 hbd hH.nf fun b μ2 hb2 hb0 hm2 => ?_
  have hT2 := hT1.mod0 hm2
  have hfl := flat_len hf0 rows none hbd (by intro p hp; cases hp)
  walk_at "mg"
  refine x_unpack hA ?_
  walk_at "k"
  refine r_ifexp ?_
  walk_at "k"
  refine r_test_cmp ?_ (by with_unfolding_all rfl)
  walk_at "k"
  refine r_call hA P.len trivial ?_
  walk_at "mg"
  refine b_lenL hb2 (by first | exact rows_le (by first | lia | omega) | (simp [rowsD]; first | lia | omega)) ?_
  walk_at "mg"
  refine ⟨fun hx => ?_, fun hx => ?_⟩ <;> simp only [decide_eq_true_eq, decide_eq_false_iff_not, List.length_map, rowsD] at hx
  · walk_at "mg"
    refine s_unpack (ds := [.ref o, .bytes limitB]) hA rfl (ts := [_, _]) rfl ?_
    refine in_cons (s_name hA (in_cons (s_name hA (in_nil ?_))))
    walk_at "mg"
    exact h _ c' o (.ref a) (.bytes limitB) 0 0 fl rows ⟨(((((((((((((LLess.nil.cons rfl).cons3 rfl rfl rfl).cons rfl).cons rfl).cons rfl).cons rfl).cons rfl).cons rfl).cons rfl).cons rfl).cons rfl).cons rfl).cons rfl), hT2, .full hf0 hf1 (by (first | lia | omega)), hT2.own, hT.om, hH.mono (by (first | lia | omega))⟩
  · walk_at "mg"
    refine s_unpack (ds := [.ref b, .none]) hA rfl (ts := [_, _]) rfl ?_
    refine in_cons (s_name hA (in_cons (s_name hA (in_nil ?_))))
    walk_at "mg"
    exact h _ c' b (.ref a) .none 0 0 fl _ ⟨(((((((((((((LLess.nil.cons rfl).cons3 rfl rfl rfl).cons rfl).cons rfl).cons rfl).cons rfl).cons rfl).cons rfl).cons rfl).cons rfl).cons rfl).cons rfl).cons rfl), hT2, .flat hf0 hf1 (by (first | lia | omega)), hb2, hT1.newM hb0,
      ⟨nf_flat fl rows none none none hH.nf Kin.rfl' (nf_ready rows none none hH.nf (.inl rfl)), by (first | lia | omega), bd_flat fl rows none (fun r hr => bd_mono (hH.bd r hr) (by (first | lia | omega))) (by intro p hp; cases hp)⟩⟩
theorem Turn.aside {t c0 c el d k o w : Addr} {most : Int} {rp ro : List Row} {els : List El} (h0 : Turn ρ t c0 el d k o most rp ro els) (hw : ρ w = none) (h : Turn μ t c el d k o most rp ro els) (hc : c ≠ w) (hm : Mod [w] μ ν) : Turn ν t c el d k o most rp ro els := by
  have hM := h0.newM hw
  have nt : t ≠ w := fun z => hM (by simp [z])
  have ne : el ≠ w := fun z => hM (by simp [z])
  have nd : d ≠ w := fun z => hM (by simp [z])
  have nk : k ≠ w := fun z => hM (by simp [z])
  refine ⟨h.tape.mod hm (by simp [nt]) (by simp [hc]), h.path.mod hm (by simp [nd]) (by simp [nk]), hm.get (by simp [ne_of h0.own hw]) h.own, hm.get (by simp [ne]) h.eld, fun e he => ?_, h.tel, h.tk, h.elk, h.cm, h.om⟩
  refine hid fun PP9 kk9 => ?_
  obtain ⟨h1, h2, h3⟩ := h.each e he
  obtain ⟨g1, g2, g3⟩ := h0.each e he
  refine kk9 ?_
  clear kk9 PP9
  exact ⟨h1.mod hm (by simp [ne_of g1.1 hw]) (by simp [ne_of g1.2 hw]), hm.get (by simp [ne_of g2 hw]) h2, h3⟩
theorem TapeIs.there2 {t c : Addr} (h : TapeIs μ t c) : ∃ cc, μ c = some cc := let ⟨_, _, _, e, _⟩ := h.there; ⟨_, e⟩
theorem c_A10 {t c el d k o : Addr} {most turn B : Int} {rows : List Row} {els : List El} {a : Addr} {J : St → Prop} {Q2 : AF → St → Prop} (P : Prg g) (hA : At g X (sc 37) (n + 12)) (hC : CellsMine X)
    (hc1 : (X.env.cells.lookup ("across" : Str)).isSome = true) (hc2 : (X.env.cells.lookup ("up" : Str)).isSome = true) (hc3 : (X.env.cells.lookup ("row" : Str)).isSome = true)
    (hT : Turn μ t c el d k o most rows rows els) (hH : Held most B rows) (hB : 0 ≤ B) (hm0 : 0 ≤ most) (hm : most ≤ 8)
    (h : ∀ st' c nw a due ac up fl now, PhA t el d k o most turn 10 rows els B st' c nw a due ac up fl now → J st') :
    Wp g FlowR X ⟨(L1 t d o el most turn 10 (.ref a) .none .none 0 0 0).set "due" .none, μ⟩ (exec (tS 3) X.env) (Then J Q2) E := by
  have hlen := hH.len
  refine x_if ?_
  walk_at "go"
  refine x_unpack hA ?_
  walk_at "mg"
  intro w hw0
  have hT0 := hT.mod0 (Mod.refl.new (c := .list []) hw0)
  have hww : (μ.set w (.list [])) w = some (.list []) := set_same _ _
  have hwM := hT.newM hw0
  generalize (μ.set w (.list [])) = μ0 at hT0 hww ⊢
  walk_at "mg"
  refine r_call hA P.law_draw.glob P.law_draw.keep ?_
  walk_at "mg"
  refine c_draw P hA hT0.tape (by decide) (by decide) fun v1 c1 μ1 hv10 hv11 ht1 hc1' hm1 => ?_
  have hT1 := hT0.draw hm1 ht1 hc1'
  have hw1 := hm1.get (by intro z; exact hwM (by simp [List.mem_singleton.mp z])) hww
  walk_at "mg"
  refine r_call hA P.law_draw.glob P.law_draw.keep ?_
  walk_at "mg"
  refine c_draw P hA hT1.tape (by decide) (by decide) fun v2 c2 μ2 hv20 hv21 ht2 hc2' hm2 => ?_
  have hT2 := hT1.draw hm2 ht2 hc2'
  have hw2 := hm2.get (by intro z; exact hwM (by simp [List.mem_singleton.mp z])) hw1
  walk_at "mg"
  refine s_unpack (ds := [.ref w, .int (v1 - 4), .int (v2 - 4)]) hA rfl (ts := [_, _, _]) rfl ?_
  refine in_cons (s_name hA (in_cons (s_nameC hA hC hc1 (in_cons (s_nameC hA hC hc2 (in_nil ?_))))))
  walk_at "mg"
  have hac : -4 ≤ v1 - 4 ∧ v1 - 4 ≤ 4 := by (first | lia | omega)
  have hup : -4 ≤ v2 - 4 ∧ v2 - 4 ≤ 4 := by (first | lia | omega)
  generalize v1 - 4 = ac at hac ⊢
  generalize v2 - 4 = up at hup ⊢
  have hc2w : c2 ≠ w := by
    obtain ⟨_, q0⟩ := hT.tape.there2
    rcases hc2' with rfl | q
    · rcases hc1' with rfl | q
      · exact ne_of q0 hw0
      · exact fun z => by dsimp only at q; rw [z, hww] at q; cases q
    · exact fun z => by dsimp only at q; rw [z, hw1] at q; cases q
  have hmw : ∀ ν, Mod [w] μ2 ν → Turn ν t c2 el d k o most rows rows els := fun ν hm => hT.aside hw0 hT2 hc2w hm
  generalize hLL : (((L1 t d o el most turn 10 (.ref a) .none .none ac up 0).set "due" .none).set "now" (.ref w)) = LL
  refine x_for hA (Wp.less ?_)
  walk_at "k"
  refine r_name hA rfl ?_
  refine ⟨LL, μ2, by subst hLL; exact (((((((((((((LLess.nil.cons rfl).cons3 rfl rfl rfl).cons rfl).cons rfl).cons rfl).cons rfl).cons rfl).cons rfl).cons rfl).cons rfl).cons rfl).cons rfl).cons rfl), Less.refl, rowsD rows, _,
    fun i st' => ∃ ν : Mem, st' = ⟨LL, ν⟩ ∧ Mod [w] μ2 ν ∧ ν w = some (.list (rowsD ((rows.take i).map (Row.mv ac up)))), .list hT2.own, ?_, ⟨μ2, rfl, Mod.refl, by simpa using hw2⟩, ?_, ?_⟩
  · intro i st' hh9
    refine hid fun PP9 kk9 => ?_
    obtain ⟨ν, rfl, hm, _⟩ := hh9
    refine kk9 ?_
    clear kk9 PP9
    exact (hmw ν hm).own
  · intro i dd st' hd hh9
    refine hid fun PP9 kk9 => ?_
    obtain ⟨ν, rfl, hm, hwν⟩ := hh9
    refine kk9 ?_
    clear kk9 PP9
    obtain ⟨r, hr', rfl⟩ := rows_at hd
    have hi : i < rows.length := (List.getElem?_eq_some_iff.mp hr').1
    subst hLL
    walk_at "k"
    refine s_nameC hA hC hc3 ?_ (by decide)
    walk_at "mg"
    refine r_append hA ?_
    walk_at "mg"
    refine ⟨w, _, rfl, hwν, ?_⟩
    walk_at "mg"
    refine r_call hA P.tuple trivial ?_
    walk_at "mg"
    refine r_comp hA ⟨rfl, rfl, by decide, by decide, by decide⟩ (cellsHere ["across", "row", "up"] rfl (by intro x hx; simp only [List.mem_cons, List.not_mem_nil, or_false] at hx; rcases hx with rfl | rfl | rfl <;> assumption)) ?_
    walk_at "k"
    refine r_call hA P.range trivial ?_
    walk_at "mg"
    refine r_call hA P.len trivial ?_
    walk_at "mg"
    rw [coords_d]
    walk_at "k"
    refine b_lenT (by simp; have := coords_len r; (first | lia | omega)) ?_
    have hll : (D.str r.w :: r.coords.map D.int).length = 1 + r.coords.length := by simp; (first | lia | omega)
    rw [hll]
    walk_at "mg"
    refine b_range2 ?_
    have hcl := coords_len r
    obtain ⟨hr1, hr2⟩ := rng_one r.coords.length (by (first | lia | omega))
    refine ⟨rngD 1 1 r.coords.length, _, fun j out ν' => out = ((r.mv ac up).coords.map D.int).take j ∧ Mod [] ν ν', ⟨.rng hr2 hr1, by simp [rngD]; (first | lia | omega), fun _ _ _ _ _ _ _ _ => trivial, ⟨rfl, Mod.refl⟩, ?_⟩, ?_⟩
    · rintro XC hAC j out ν' b d hd' ⟨rfl, hm'⟩ hb
      obtain ⟨hj, rfl⟩ := rngD_at hd'
      obtain ⟨v, hv⟩ : ∃ v, r.coords[j]? = some v := ⟨_, List.getElem?_eq_getElem hj⟩
      have hmv := mv_coords ac up r hv
      walk_at "k"
      refine s_name hAC ?_ (by decide)
      refine t_nil ⟨fun _ => ?_, fun z => by cases z⟩
      walk_at "mg"
      refine s_nat (j := 1 + j) (by (first | lia | omega)) (d := .int v) (by rw [Nat.add_comm]; simp [hv]) (by simp; (first | lia | omega)) ?_
      walk_at "mg"
      refine o_mod (by decide) ?_
      walk_at "mg"
      have hdel : ∀ ds, Mod [] ν ((ν'.set b (.list ds)).del b) := fun ds a' cc ha' e => del_get (set_new hb (hm'.get0 e)) (ne_of (hm'.get0 e) hb)
      refine ⟨fun hx => ?_, fun hx => ?_⟩ <;> simp only [decide_eq_true_eq, decide_eq_false_iff_not] at hx
      · rw [if_pos hx] at hmv
        walk_at "mg"
        refine CFin.of (LLess.cap (by decide)) (set_same _ _) ⟨?_, hdel _⟩
        rw [List.take_add_one, List.getElem?_map, hmv]
        rfl
      · rw [if_neg hx] at hmv
        walk_at "mg"
        refine CFin.of (LLess.cap (by decide)) (set_same _ _) ⟨?_, hdel _⟩
        rw [List.take_add_one, List.getElem?_map, hmv]
        rfl
    · rintro out ν' b ⟨rfl, hm'⟩ hb
      have e1 : ((r.mv ac up).coords.map D.int).take (rngD 1 1 r.coords.length).length = (r.mv ac up).coords.map D.int := List.take_of_length_le (by simp [rngD, mv_clen])
      rw [e1]
      walk_at "mg"
      refine b_tuple (set_same _ _) (by simp [mv_clen]; (first | lia | omega)) ?_
      walk_at "mg"
      refine o_addT (by simp [mv_clen]; (first | lia | omega)) ?_
      have hw4 := (hm'.new (c := .list ((r.mv ac up).coords.map D.int)) hb).get0 hwν
      walk_at "mg"
      refine b_append hA (by exact hw4) (by first | exact rows_le (by first | lia | omega) | (simp [rowsD]; first | lia | omega)) ?_
      walk_at "mg"
      refine Wp.fit (by with_reducible assumption) ?_
      refine x_done _ _ (((((((((((((LLess.nil.cons rfl).cons3 rfl rfl rfl).cons rfl).cons rfl).cons rfl).cons rfl).cons rfl).cons rfl).cons rfl).cons rfl).cons rfl).cons rfl).cons rfl) Less.refl ⟨_, rfl, hm.trans ((hm'.new hb).wide.put (.inl (by simp))), (set_same _ _).trans ?_⟩
      rw [List.take_add_one, hr']
      have : (D.tup ([.str r.w] ++ (r.mv ac up).coords.map D.int)) = (r.mv ac up).d := by rw [coords_d, mv_w]; rfl
      rw [this]
      simp [rowsD]
  · intro st' hh9
    refine hid fun PP9 kk9 => ?_
    obtain ⟨ν, rfl, hm, hwν⟩ := hh9
    refine kk9 ?_
    clear kk9 PP9
    subst hLL
    walk_at "mg"
    rw [List.length_map, List.take_length] at hwν
    exact h _ c2 w (.ref a) .none ac up 0 _ ⟨(((((((((((((LLess.nil.cons rfl).cons3 rfl rfl rfl).cons rfl).cons rfl).cons rfl).cons rfl).cons rfl).cons rfl).cons rfl).cons rfl).cons rfl).cons rfl).cons rfl), hmw ν hm, .move, hwν, hwM,
      ⟨nx_mv ac up rows none none hH.nf Kin.rfl', by simpa using hlen, fun r hr => by
        obtain ⟨q, hq, rfl⟩ := List.mem_map.mp hr
        exact bd_mv (hH.bd q hq) hac.1 hac.2 hup.1 hup.2⟩⟩
end
end
section
section
variable {g : Gd} {X : Fx} {SC : Scope} {n : Nat} {st : St} {E : EP} {μ ν ρ : Mem}
noncomputable abbrev LT (t d o el : Addr) (most : Int) (due told made : D) (nw : Addr) : Loc := ((((L0 t d o el most).set "due" due).set "told" told).set "made" made).set "now" (.ref nw)
inductive PhB (t el d k o : Addr) (most B : Int) (rows : List Row) (els : List El) : St → Prop
  | same {st' : St} {c k' nw : Addr} {now : List Row} {due : D} (hdue : due = .none ∨ due = .bytes limitB ∨ due = .bytes nocurB) (held : Held most B now) (loc : LLess (LT t d o el most due due .none nw) st'.loc)
      (turn : Turn st'.mem t c el d k' o most now rows els) (nowc : st'.mem nw = some (.list (rowsD now))) (nm : nw ∉ [t, el, d, k']) : PhB t el d k o most B rows els st'
  | left {st' : St} {c d' k' nw : Addr} {now : List Row} {μ0 : Mem} (held : Held most B now) (loc : LLess (LT t d o el most .none .none (.obj 198 d') nw) st'.loc)
      (turn : Turn μ0 t c el d k o most rows rows els) (nowc : μ0 nw = some (.list (rowsD now))) (nm : nw ∉ [t, el, d, k]) (hd : μ0 d' = none) (hk : μ0 k' = none) (hm : Mod [] μ0 st'.mem) (path : PathAt st'.mem d' k' most now) : PhB t el d k o most B rows els st'
theorem c_B {t c el d k o nw : Addr} {most turn way B : Int} {rows now : List Row} {els : List El} {a due : D} {ac up fl : Int} {J : St → Prop} {Q2 : AF → St → Prop} (P : Prg g) (hA : At g X (sc 37) (n + 12))
    (hT : Turn μ t c el d k o most rows rows els) (hH : Held most B rows) (hB : 0 ≤ B) (hB' : B ≤ 100) (hm0 : 0 ≤ most) (hm : most ≤ 8) (hP : Plan most rows k μ way a due ac up fl now)
    (hnow : μ nw = some (.list (rowsD now))) (hnm : nw ∉ [t, el, d, k]) (hHn : Held most (B + 4) now)
    (h : ∀ st', PhB t el d k o most (B + 4) rows els st' → J st') :
    Wp g FlowR X ⟨((L1 t d o el most turn way a .none .none ac up fl).set "due" due).set "now" (.ref nw), μ⟩ (exec (tS 4) X.env) (Then J Q2) E := by
  have hlen := hH.len
  have hg := nf_good hH.nf
  have hnd : nw ∉ [d, k] := fun z => hnm (by
    simp only [List.mem_cons, List.not_mem_nil, or_false] at z ⊢
    rcases z with z | z <;> simp [z])
  have go : ∀ (k' : Addr) (μ' : Mem) (L : Loc), Mod [d, k] μ μ' → PathAt μ' d k' most now → (k' = k ∨ μ k' = none) → LLess (LT t d o el most .none .none .none nw) L → J ⟨L, μ'⟩ := fun k' μ' L hm' hp' hk hL =>
    h _ (.same (c := c) (.inl rfl) hHn hL (hT.moved hm' hp' hk) (hm'.get hnd hnow) (by
      rcases hk with rfl | hk
      · exact hnm
      · have q := ne_of hnow hk
        intro z
        simp only [List.mem_cons, List.not_mem_nil, or_false] at z hnm
        rcases z with z | z | z | z
        · exact hnm (.inl z)
        · exact hnm (.inr (.inl z))
        · exact hnm (.inr (.inr (.inl z)))
        · exact q z))
  have ex : now = rows → (due = .bytes limitB ∨ due = .bytes nocurB) → ∀ (μ' : Mem) (L : Loc), Mod [] μ μ' → LLess (LT t d o el most due due .none nw) L → J ⟨L, μ'⟩ := fun e hd μ' L hm' hL =>
    h _ (.same (c := c) (.inr hd) hHn hL (by rw [e]; exact hT.mod0 hm') (hm'.get0 hnow) hnm)
  have mk : ∀ (d' k' : Addr) (μ' : Mem) (L : Loc), PathAt μ' d' k' most now → μ d' = none → μ k' = none → Mod [] μ μ' → LLess (LT t d o el most .none .none (.obj 198 d') nw) L → J ⟨L, μ'⟩ := fun d' k' μ' L hp' hd hk hm' hL =>
    h _ (.left (c := c) hHn hL hT hnow hnm hd hk hm' hp')
  refine x_try hA P.exc P.excG ?_
  refine x_cons ?_
  walk_at "mg"
  cases hP with
  | one h0 h1 hb ha =>
    rename_i r b
    refine ⟨fun hx => absurd hx (by simp; (first | lia | omega)), fun _ => ?_⟩
    walk_at "go"
    refine ⟨fun _ => ?_, fun hx => absurd hx (by simp; (first | lia | omega))⟩
    walk_at "mg"
    refine r_call hA P.law_put.glob P.law_put.keep ?_
    walk_at "mg"
    refine c_law_put P hA hT.path (by (first | lia | omega)) hlen hg ⟨fun hf hl μ' hp hm' => ?_, fun hf hl μ' hm' => ?_, fun q1 q2 μ' hm' => ?_⟩
    · rcases ha.it with ⟨_, _, rfl, rfl⟩ | ⟨_, q, _, _⟩ | ⟨q1, q2, _, _⟩
      · walk_at "mg"
        exact go k μ' _ hm' hp (.inl rfl) (((((((LLess.nil.cons rfl).cons3 rfl rfl rfl).cons rfl).cons rfl).cons rfl).cons rfl).cons rfl)
      · (first | lia | omega)
      · rw [hf q1] at q2; cases q2
    · rcases ha.it with ⟨_, q, _, _⟩ | ⟨_, _, rfl, rfl⟩ | ⟨q1, q2, _, _⟩
      · (first | lia | omega)
      · exact ⟨rfl, ex rfl (.inl rfl) μ' _ hm' (((((((LLess.nil.cons rfl).cons3 rfl rfl rfl).cons rfl).cons rfl).cons rfl).cons rfl).cons rfl)⟩
      · rw [hf q1] at q2; cases q2
    · rcases ha.it with ⟨hf, _, _, _⟩ | ⟨hf, _, _, _⟩ | ⟨_, _, rfl, rfl⟩
      · rw [hf q1] at q2; cases q2
      · rw [hf q1] at q2; cases q2
      · exact ⟨rfl, ex rfl (.inr rfl) μ' _ hm' (((((((LLess.nil.cons rfl).cons3 rfl rfl rfl).cons rfl).cons rfl).cons rfl).cons rfl).cons rfl)⟩
  | many h0 h1 hb hl hbk hz ha =>
    rename_i rs b
    refine ⟨fun _ => ?_, fun hx => absurd hx (by simp; (first | lia | omega))⟩
    walk_at "mg"
    refine ⟨fun _ => ?_, fun hx => absurd hx (by simp; (first | lia | omega))⟩
    walk_at "go"
    refine r_meth hA ?_
    walk_at "mg"
    refine ⟨198, d, _, 167, rfl, hT.path.1, rfl, P.put_rows.meth, ?_⟩
    walk_at "mg"
    have hcl : ∀ {rs : List Row}, Fit rows rs → rows = [] → rs.head?.any Row.isG = true → False := fun {rs} hf q1 q2 => by
      cases rs with
      | nil => cases q2
      | cons r rest =>
        have q3 : r.isG = true := q2
        rw [(hf q1 r rfl).1] at q3; cases q3
    walk_at "k"
    refine c_put_rows P hA hT.path hb hbk hlen (by (first | lia | omega)) (by (first | lia | omega)) hg hz (fun hf hl μ' hp hm' => ?_) (fun hf hl μ' hm' => ?_) (fun q1 q2 μ' hm' => ?_)
    · rcases ha.it with ⟨_, _, rfl, rfl⟩ | ⟨_, q, _, _⟩ | ⟨q1, q2, _, _⟩
      · walk_at "mg"
        exact go k μ' _ hm' hp (.inl rfl) (((((((LLess.nil.cons rfl).cons3 rfl rfl rfl).cons rfl).cons rfl).cons rfl).cons rfl).cons rfl)
      · (first | lia | omega)
      · exact (hcl hf q1 q2).elim
    · rcases ha.it with ⟨_, q, _, _⟩ | ⟨_, _, rfl, rfl⟩ | ⟨q1, q2, _, _⟩
      · (first | lia | omega)
      · exact ⟨rfl, ex rfl (.inl rfl) μ' _ hm' (((((((LLess.nil.cons rfl).cons3 rfl rfl rfl).cons rfl).cons rfl).cons rfl).cons rfl).cons rfl)⟩
      · exact (hcl hf q1 q2).elim
    · rcases ha.it with ⟨hf, _, _, _⟩ | ⟨hf, _, _, _⟩ | ⟨_, _, rfl, rfl⟩
      · exact (hcl hf q1 q2).elim
      · exact (hcl hf q1 q2).elim
      · exact ⟨rfl, ex rfl (.inr rfl) μ' _ hm' (((((((LLess.nil.cons rfl).cons3 rfl rfl rfl).cons rfl).cons rfl).cons rfl).cons rfl).cons rfl)⟩
  | copy =>
    walk_at "go"
    refine r_meth hA ?_
    walk_at "mg"
    refine ⟨198, d, _, 111, rfl, hT.path.1, rfl, P.copy.meth, ?_⟩
    walk_at "mg"
    refine c_copy P hA hT.path (by (first | lia | omega)) fun d' k' μ' hp hd hk hm' => ?_
    walk_at "mg"
    exact mk d' k' μ' _ hp hd hk hm' (((((((LLess.nil.cons rfl).cons3 rfl rfl rfl).cons rfl).cons rfl).cons rfl).cons rfl).cons rfl)
  | back =>
    walk_at "go"
    refine r_meth hA ?_
    walk_at "mg"
    refine ⟨198, d, _, 188, rfl, hT.path.1, rfl, P.reversed.meth, ?_⟩
    walk_at "mg"
    refine c_reversed P hA hT.path hlen (by (first | lia | omega)) hH.nf fun d' k' μ' hp hd hk hm' => ?_
    walk_at "mg"
    exact mk d' k' μ' _ hp hd hk hm' (((((((LLess.nil.cons rfl).cons3 rfl rfl rfl).cons rfl).cons rfl).cons rfl).cons rfl).cons rfl)
  | move =>
    walk_at "go"
    refine r_meth hA ?_
    walk_at "mg"
    refine ⟨198, d, _, 195, rfl, hT.path.1, rfl, P.transformed.meth, ?_⟩
    walk_at "mg"
    intro w hw
    have hp0 : PathAt (μ.set w (matD ac up)) d k most rows := hT.path.mod0 (Mod.refl.new hw)
    have hw0 : (μ.set w (matD ac up)) w = some (matD ac up) := set_same _ _
    walk_at "mg"
    refine c_transformed P hA hp0 hw0 hlen (by (first | lia | omega)) hH.nf fun d' k' μ' hp hd hk hm' => ?_
    have hf : ∀ {x : Addr}, (μ.set w (matD ac up)) x = none → μ x = none := fun hx => (Mod.refl.new (T := []) hw).none (by simp) hx
    walk_at "mg"
    exact mk d' k' μ' _ hp (hf hd) (hf hk) ((Mod.refl.new hw).trans hm') (((((((LLess.nil.cons rfl).cons3 rfl rfl rfl).cons rfl).cons rfl).cons rfl).cons rfl).cons rfl)
  | flat h0 h1 hl =>
    walk_at "go"
    refine r_meth hA ?_
    walk_at "mg"
    refine ⟨198, d, _, 181, rfl, hT.path.1, rfl, P.flattened.meth, ?_⟩
    walk_at "mg"
    refine c_flattened P hA hT.path (by (first | lia | omega)) h0 h1 hm0 (by (first | lia | omega)) (fun r hr => bd_mono (hH.bd r hr) hB') hH.nf (fun _ d' k' μ' hp hd hk hm' => ?_) (fun q => absurd q (by (first | lia | omega)))
    walk_at "mg"
    exact mk d' k' μ' _ hp hd hk hm' (((((((LLess.nil.cons rfl).cons3 rfl rfl rfl).cons rfl).cons rfl).cons rfl).cons rfl).cons rfl)
  | full h0 h1 hl =>
    walk_at "go"
    refine r_meth hA ?_
    walk_at "mg"
    refine ⟨198, d, _, 181, rfl, hT.path.1, rfl, P.flattened.meth, ?_⟩
    walk_at "mg"
    refine c_flattened P hA hT.path (by (first | lia | omega)) h0 h1 hm0 (by (first | lia | omega)) (fun r hr => bd_mono (hH.bd r hr) hB') hH.nf (fun q => absurd q (by (first | lia | omega))) (fun q μ' hm' => ?_)
    exact ⟨rfl, ex rfl (.inl rfl) μ' _ hm' (((((((LLess.nil.cons rfl).cons3 rfl rfl rfl).cons rfl).cons rfl).cons rfl).cons rfl).cons rfl)⟩
  | clear =>
    walk_at "go"
    refine r_meth hA ?_
    walk_at "mg"
    refine ⟨198, d, _, 118, rfl, hT.path.1, rfl, P.clear.meth, ?_⟩
    walk_at "mg"
    refine c_clear P hA hT.path fun k' μ' hp hk hm' => ?_
    walk_at "mg"
    exact go k' μ' _ (hm'.mono (by intro x hx; simp at hx ⊢; exact .inl hx)) hp (.inr hk) (((((((LLess.nil.cons rfl).cons3 rfl rfl rfl).cons rfl).cons rfl).cons rfl).cons rfl).cons rfl)
end
end
section
section
variable {g : Gd} {X : Fx} {SC : Scope} {n : Nat} {st : St} {E : EP} {μ ν ρ : Mem}
theorem c_neSame {due : D} {Q : D → St → Prop} (hd : due = .none ∨ due = .bytes limitB ∨ due = .bytes nocurB) (h : Q (.bool false) st) : W2 g Val X st (compareOp .NotEq) due due Q E := by
  rcases hd with rfl | rfl | rfl
  · exact c_neNone h
  · exact c_neBytes (by rw [bne_self_eq_false]; exact h)
  · exact c_neBytes (by rw [bne_self_eq_false]; exact h)
/-- the turn's end -/
theorem c_C {t el d k o : Addr} {most B : Int} {rows : List Row} {els : List El} {J : St → Prop} {Q1 : AF → St → Prop} (P : Prg g) (hA : At g X (sc 37) (n + 12)) (hm : most ≤ 8) (hlen : (rows.length : Int) ≤ most) (hel : els.length ≤ 100)
    (hB : PhB t el d k o most B rows els st)
    (hJ : ∀ (μ' : Mem) (c d' k' o' : Addr) (rows' : List Row) (els' : List El), Turn μ' t c el d' k' o' most rows' rows' els' → Held most B rows' → els'.length ≤ els.length + 1 → J ⟨L0 t d' o' el most, μ'⟩) :
    WS g X st [tS 5, tS 6, tS 7] (ForQ J Q1) E := by
  cases hB with
  | same hdue held loc turn nowc nm =>
    rename_i c k' nw now due
    have hln := held.len
    refine Wp.pre loc Less.refl ?_
    refine x_cons ?_
    refine x_if ?_
    walk_at "go"
    refine x_assign hA ?_ (by with_unfolding_all decide) (by with_unfolding_all rfl)
    walk_at "mg"
    refine x_if ?_
    walk_at "mg"
    refine c_neSame hdue ?_
    walk_at "go"
    refine r_call hA P.law_stands.glob P.law_stands.keep ?_
    walk_at "mg"
    refine c_law_stands P hA turn.path nowc (by (first | lia | omega)) (nf_good held.nf) fun μ' hm' => ?_
    walk_at "go"
    refine Wp.fit (by with_reducible assumption) ?_
    exact x_done _ _ (((LLess.nil.cons rfl).cons3 rfl rfl rfl).cons rfl) Less.refl (hJ μ' c d k' nw now els ((turn.owned nowc nm).mod0 hm') held (by (first | lia | omega)))
  | left held loc turn nowc nm hd hk hm0 path =>
    rename_i c d' k' nw now μ0
    have hln := held.len
    have hT := turn.left (by (first | lia | omega)) hd hk hm0 path
    refine Wp.pre loc Less.refl ?_
    refine x_cons ?_
    refine x_if ?_
    walk_at "go"
    refine r_append hA ?_
    walk_at "mg"
    refine ⟨el, _, rfl, hm0.get0 turn.eld, ?_⟩
    walk_at "mg"
    refine b_append hA (hm0.get0 turn.eld) (by simp; (first | lia | omega)) ?_
    walk_at "mg"
    refine x_assign hA ?_ (by with_unfolding_all decide) (by with_unfolding_all rfl)
    walk_at "mg"
    have nw1 : nw ∉ [t, el, d', k'] := by
      have q1 := ne_of nowc hd
      have q2 := ne_of nowc hk
      intro z
      simp only [List.mem_cons, List.not_mem_nil, or_false] at z nm
      rcases z with z | z | z | z
      · exact nm (.inl z)
      · exact nm (.inr (.inl z))
      · exact q1 z
      · exact q2 z
    have nwe : nw ≠ el := fun z => nm (by simp [z])
    have hT2 := hT.owned (set_get nwe (hm0.get0 nowc)) nw1
    refine x_if ?_
    walk_at "mg"
    refine c_neNone ?_
    walk_at "go"
    refine r_call hA P.law_stands.glob P.law_stands.keep ?_
    walk_at "mg"
    refine c_law_stands P hA hT2.path hT2.own (by (first | lia | omega)) (nf_good held.nf) fun μ' hm' => ?_
    walk_at "go"
    refine Wp.fit (by with_reducible assumption) ?_
    exact x_done _ _ (((LLess.nil.cons rfl).cons3 rfl rfl rfl).cons rfl) Less.refl (hJ μ' c d' k' nw now _ (hT2.mod0 hm') held (by simp))
end
end
section
section
variable {g : Gd} {X : Fx} {SC : Scope} {n : Nat} {st : St} {E : EP} {μ ν ρ : Mem}
theorem body_eq : turnBody = [tS 0, tS 1, tS 2, tS 3, tS 4, tS 5, tS 6, tS 7] := by with_unfolding_all rfl
/-- one turn -/
theorem c_turn {t c el d k o : Addr} {most turn B : Int} {rows : List Row} {els : List El} {J : St → Prop} {Q1 : AF → St → Prop} (P : Prg g) (hA : At g X (sc 37) (n + 12)) (hC : CellsMine X)
    (hc1 : (X.env.cells.lookup ("across" : Str)).isSome = true) (hc2 : (X.env.cells.lookup ("up" : Str)).isSome = true) (hc3 : (X.env.cells.lookup ("row" : Str)).isSome = true)
    (hT : Turn μ t c el d k o most rows rows els) (hH : Held most B rows) (hB : 0 ≤ B) (hB' : B ≤ 100) (hm0 : 0 ≤ most) (hm : most ≤ 8) (hel : els.length ≤ 100)
    (hJ : ∀ (μ' : Mem) (c d' k' o' : Addr) (rows' : List Row) (els' : List El), Turn μ' t c el d' k' o' most rows' rows' els' → Held most (B + 4) rows' → els'.length ≤ els.length + 1 → J ⟨L0 t d' o' el most, μ'⟩) :
    WS g X ⟨(L0 t d o el most).set "turn" (.int turn), μ⟩ turnBody (ForQ J Q1) E := by
  rw [body_eq]
  refine Wp.up fun F uF => ?_
  have hlen := hH.len
  have main : ∀ (way : Int) (c' : Addr) (μ1 : Mem), 0 ≤ way → way < 13 → Turn μ1 t c' el d k o most rows rows els →
      Wp g FlowR X ⟨((L0 t d o el most).set "turn" (.int turn)).set "way" (.int way), μ1⟩ (exec (tS 1) X.env) (Then (fun st1 => WS g X st1 [tS 2, tS 3, tS 4, tS 5, tS 6, tS 7] F E) F) E := fun way c' μ1 hw0 hw1 hT1 => by
    refine x_unpack hA ?_
    walk_at "mg"
    intro a ha
    walk_at "mg"
    refine s_unpack (ds := [.ref a, .none, .none, .none]) hA rfl (ts := [_, _, _, _]) rfl ?_
    refine in_cons (s_name hA (in_cons (s_name hA (in_cons (s_name hA (in_cons (s_name hA (in_nil ?_))))))))
    have hT2 := hT1.mod0 (Mod.refl.new (c := .list []) ha)
    generalize (μ1.set a (.list [])) = μ2 at hT2 ⊢
    walk_at "mg"
    refine x_unpack hA ?_
    walk_at "mg"
    refine s_unpack (ds := [.int 0, .int 0, .int 0]) hA rfl (ts := [_, _, _]) rfl ?_
    refine in_cons (s_nameC hA hC hc1 (in_cons (s_nameC hA hC hc2 (in_cons (s_name hA (in_nil ?_))))))
    walk_at "mg"
    have post : ∀ st' c nw a due ac up fl now, PhA t el d k o most turn way rows els B st' c nw a due ac up fl now → WS g X st' [tS 4, tS 5, tS 6, tS 7] F E := fun st' c nw a due ac up fl now hp => by
      refine Wp.pre hp.loc Less.refl (Wp.fit uF ?_)
      refine x_cons ?_
      exact c_B P hA hp.turn hH hB hB' hm0 hm hp.plan hp.nowc hp.nm hp.held fun st'' hb => c_C P hA hm hlen hel hb hJ
    refine Wp.pre (loc := (L1 t d o el most turn way (.ref a) .none .none 0 0 0).set "due" .none) ((((((((((((LLess.nil.cons rfl).cons3 rfl rfl rfl).cons rfl).cons rfl).cons rfl).cons rfl).cons rfl).cons rfl).cons rfl).cons rfl).cons rfl).cons rfl) Less.refl ?_
    by_cases h6 : way < 6
    · exact c_A1 P hA hT2 hH hB hm0 hm hw0 h6 post
    by_cases h8 : way < 8
    · exact c_A2 P hA hT2 hH hB hm0 hm (by (first | lia | omega)) h8 post
    by_cases h3 : way = 8 ∨ way = 9 ∨ way = 12
    · exact c_A3 P hA hT2 hH hB hm0 hm h3 post
    have h5 : way = 10 ∨ way = 11 := by (first | lia | omega)
    rcases h5 with rfl | rfl
    · exact c_A10 P hA hC hc1 hc2 hc3 hT2 hH hB hm0 hm post
    · exact c_A11 P hA hT2 hH hB hB' hm0 hm post
  refine x_cons ?_
  refine x_assign hA ?_ (by with_unfolding_all decide) (by with_unfolding_all rfl)
  walk_at "mg"
  refine ⟨fun _ => ?_, fun _ => ?_⟩
  · walk_at "mg"
    exact main 0 c μ (by (first | lia | omega)) (by (first | lia | omega)) hT
  · walk_at "mg"
    refine r_call hA P.law_draw.glob P.law_draw.keep ?_
    walk_at "mg"
    refine c_draw P hA hT.tape (by decide) (by decide) fun v c' μ1 hv0 hv1 ht1 hc1' hm1 => ?_
    walk_at "mg"
    exact main v c' μ1 hv0 hv1 (hT.draw hm1 ht1 hc1')
end
end
section
section
variable {g : Gd} {X : Fx} {SC : Scope} {n : Nat} {st : St} {E : EP} {μ ν ρ : Mem}
/-- a list that stood before the law began -/
theorem r_slice_base {value : Expr} {lo hi : Option Expr} {p pos : Pos} {a0 : Addr} {vs : Array Value} {ds : List D} {Q : D → St → Prop} (hL : g.base.IsList a0 vs) (hV : ∀ h, Vals h ds vs.toList)
    (h : Wp g Val X st (eval value X.env) (fun d st1 => Wp g Val X st1 (Part lo X) (fun l st2 => Wp g Val X st2 (Part hi X) (fun u st3 => ∃ lo' hi', d = .ref a0 ∧ ds.length ≤ 1000000 ∧ PartD l lo' ∧ PartD u hi' ∧
      ∀ b, st3.mem b = none → Q (.ref b) { st3 with mem := st3.mem.set b (.list (cutD ds lo' hi')) }) E) E) E) :
    Wp g Val X st (eval (.Subscript value (.Slice lo hi none p) pos) X.env) Q E := by
  intro s hr
  refine Subscript_ ?_
  refine h.then hr .refl fun v1 d1 st1 s1 hv1 hr1 hx1 hy1 hq1 => ?_
  refine wpAny_Slice ?_
  refine hq1.then hr1 hx1 fun v2 d2 st2 s2 hv2 hr2 hx2 hy2 hq2 => ?_
  refine hq2.then hr2 hx2 fun v3 d3 st3 s3 hv3 hr3 hx3 hy3 hq3 => ?_
  refine wpAny_evalPart_none ?_
  obtain ⟨lo', hi', rfl, hsz, pl, pu, hq⟩ := hq3
  cases hv1
  have hV3 := hV s3.heap
  have hlen : vs.size = ds.length := by rw [← hV3.length]; simp
  let s4 : Shared := { s3 with heap := s3.heap.push { cls := .type "slice", data := .fields #[v2, v3, .none] } }
  have hp4 := push_keeps s3.heap { cls := .type "slice", data := .fields #[v2, v3, .none] }
  have hl : s4.heap.IsList a0 vs := by
    obtain ⟨o, ho, hc⟩ := hL
    exact ⟨o, hp4 _ _ (hr3.stays _ _ ho), hc⟩
  have hs4 : s4.heap.IsSliceOf s3.heap.objs.size v2 v3 .none := Heap.IsSliceOf.new ..
  have hr4 : Rep g X st3 s4 := hr3.all hp4 s3.toks
  have hx4 : Ext X st.mem s st3.mem s4 := hx3.trans (.all hp4 s3.toks)
  refine tail_any (s := s4) (T := "list") (id := "list.__getitem__") (ops := [.ref s3.heap.objs.size, .ref a0]) hl.typeIs slot_list_getitem.lookup (wpAny_getItem_list_slice hl hs4 (pl.at (hr2.val hy3 hv2)) (pu.at hv3) .none (by simp) ?_ (by rw [hlen, sizeLine_eq]; (first | lia | omega))) rfl
  have hp5 := push_keeps s4.heap (listO (slicePick vs lo' hi' none) 0)
  refine (Po.cell (c := .list (cutD ds lo' hi')) hr4 hp5 (fresh_none _) ⟨slicePick vs lo' hi' none, 0, Heap.get?_push_size _ rfl, ?_⟩ hq s3.toks).lift hx4
  exact Vals.keeps (fun b o e _ => hp5 b o (hp4 b o e)) _ _ ((hV3).cut _ _)
theorem ints_vals {vs : List Value} {ns : List Int} (h : IntsAre vs ns) (hp : Heap) : Vals hp (ns.map D.int) vs := by
  induction h with
  | nil => rfl
  | cons n t _ ih => exact ⟨_, _, rfl, ⟨t, rfl⟩, ih⟩
noncomputable def lS (i : Nat) : Stmt := ((bd 37)[i]?).getD (.Pass default)
theorem law_eq : bd 37 = [lS 0, lS 1, lS 2, lS 3, lS 4] := by with_unfolding_all rfl
noncomputable def noMem : Mem := fun _ => none
theorem c_tape {a0 : Addr} {vs : Array Value} {ns : List Int} {J : St → Prop} {Q2 : AF → St → Prop} (P : Prg g) (hA : At g X (sc 37) (n + 14)) (hL : g.base.IsList a0 vs) (hI : IntsAre vs.toList ns) (hlen : ns.length ≤ 63)
    (h : ∀ t c μ, TapeIs μ t c → J ⟨(bindD ["script"] [.ref a0] noLoc).set "tape" (.ref t), μ⟩) :
    Wp g FlowR X ⟨bindD ["script"] [.ref a0] noLoc, noMem⟩ (exec (lS 0) X.env) (Then J Q2) E := by
  refine x_assign hA ?_ (by with_unfolding_all decide) (by with_unfolding_all rfl)
  walk_at "mg"
  refine r_comp hA ⟨rfl, rfl, by decide, by decide, by decide⟩ (cellsHere [] rfl (by intro x hx; cases hx)) ?_
  walk_at "k"
  refine r_slice_base hL (ints_vals hI) ?_
  walk_at "mg"
  refine ⟨_, _, rfl, by simp; (first | lia | omega), rfl, rfl, ?_⟩
  intro b hb
  rw [show (63 : Int) = ((63 : Nat) : Int) from rfl, cut_take]
  have hb1 : ((noMem : Mem).set b (.list ((ns.map D.int).take 63))) b = some (.list ((ns.map D.int).take 63)) := set_same _ _
  generalize ((noMem : Mem).set b (.list ((ns.map D.int).take 63))) = μ1 at hb1 ⊢
  refine ⟨(ns.map D.int).take 63, _, fun i out μ => (∃ vs : List Int, out = vs.map D.int ∧ vs.length = i) ∧ Mod [] μ1 μ, ⟨.list hb1, by simp; (first | lia | omega), ?_, ⟨⟨[], rfl, rfl⟩, Mod.refl⟩, ?_⟩, ?_⟩
  · rintro i out μ ⟨_, hm⟩ loc b' c' hb'
    exact set_new hb' (hm.get0 hb1)
  · rintro XC hAC i out μ b' dd hdd ⟨⟨ws, rfl, hwl⟩, hm⟩ hb'
    obtain ⟨q, rfl⟩ : ∃ q : Int, dd = .int q := by
      have := List.mem_of_getElem? hdd
      obtain ⟨q, _, e⟩ := List.mem_map.mp (List.mem_of_mem_take this)
      exact ⟨q, e.symm⟩
    walk_at "k"
    refine s_name hAC ?_ (by decide)
    refine t_nil ⟨fun _ => ?_, fun z => by cases z⟩
    walk_at "k"
    refine r_binop ?_
    walk_at "k"
    refine r_call hAC P.int trivial ?_
    walk_at "mg"
    refine b_int ?_
    walk_at "mg"
    refine o_pow (by decide) (by decide) ?_
    walk_at "k"
    refine o_mod (by decide) ?_
    have hdel : ∀ ds, Mod [] μ1 ((μ.set b' (.list ds)).del b') := fun ds a' cc ha' e => del_get (set_new hb' (hm.get0 e)) (ne_of (hm.get0 e) hb')
    walk_at "k"
    refine CFin.of (LLess.cap (by decide)) (set_same _ _) ⟨⟨ws ++ [_], by rw [List.map_append]; rfl, by simp [hwl]⟩, hdel _⟩
  · rintro out μ b' ⟨⟨ws, rfl, hwl⟩, hm⟩ hb'
    walk_at "mg"
    intro t ht
    have hb2 : (μ.set b' (.list (ws.map D.int))) b' = some (.list (ws.map D.int)) := set_same _ _
    walk_at "mg"
    exact h t b' _ ⟨0, ws, set_same _ _, set_new ht hb2, by rw [hwl]; simp; (first | lia | omega)⟩
end
end
section
section
variable {g : Gd} {X : Fx} {SC : Scope} {n : Nat} {st : St} {E : EP} {μ ν ρ : Mem}
theorem held_nil {most : Int} (h : 0 ≤ most) : Held most 0 [] := ⟨trivial, h, fun r hr => by cases hr⟩
/-- the first path -/
theorem c_first {t c : Addr} {most : Int} {J : St → Prop} {Q2 : AF → St → Prop} (P : Prg g) (hA : At g X (sc 37) (n + 12)) (hT : TapeIs μ t c)
    (h : ∀ o el d k μ', Turn μ' t c el d k o most [] [] [] → J ⟨((((noLoc.set "tape" (.ref t)).set "most" (.int most)).set "elder" (.ref el)).set "own" (.ref o)).set "route" (.obj 198 d), μ'⟩) :
    Wp g FlowR X ⟨(noLoc.set "tape" (.ref t)).set "most" (.int most), μ⟩ (exec (lS 2) X.env) (Then J Q2) E := by
  refine x_swap3 hA ?_
  walk_at "mg"
  refine r_call hA P.Path P.PathK ?_
  walk_at "mg"
  refine c_new P hA fun d k μ2 hp hd hk hm => ?_
  walk_at "mg"
  intro o ho
  walk_at "mg"
  intro el hel
  walk_at "mg"
  refine hid fun PP9 kk9 => ?_
  obtain ⟨kk, ds, e1, e2, e3⟩ := id hT.there
  refine kk9 ?_
  clear kk9 PP9
  have hc := hT.ne
  have t2 := hm.get0 e1
  have c2 := hm.get0 e2
  have hm3 : Mod [] μ2 (μ2.set o (.list [])) := Mod.refl.new ho
  have hm4 : Mod [] (μ2.set o (.list [])) ((μ2.set o (.list [])).set el (.list [])) := Mod.refl.new hel
  have o3 : (μ2.set o (.list [])) o = some (.list []) := set_same _ _
  refine h o el d k _ ⟨(hT.mod0 hm).mod0 (hm3.trans hm4), hp.mod0 (hm3.trans hm4), hm4.get0 o3, set_same _ _, (fun e he => by cases he), ne_of (hm3.get0 t2) hel, ne_of e1 hk, Ne.symm (ne_of (hm3.get0 hp.2) hel), ?_, ?_⟩
  · intro z
    simp only [List.mem_cons, List.not_mem_nil, or_false] at z
    rcases z with z | z | z | z
    · exact hc z
    · exact ne_of (hm3.get0 c2) hel z
    · exact ne_of e2 hd z
    · exact ne_of e2 hk z
  · intro z
    simp only [List.mem_cons, List.not_mem_nil, or_false] at z
    rcases z with z | z | z | z
    · exact ne_of t2 ho z.symm
    · exact ne_of o3 hel z
    · exact ne_of hp.1 ho z.symm
    · exact ne_of hp.2 ho z.symm
end
end
section
section
variable {g : Gd} {X : Fx} {SC : Scope} {n : Nat} {st : St} {E : EP} {μ ν ρ : Mem}
theorem el_at {els : List El} {i : Nat} {d : D} (h : (els.map El.D)[i]? = some d) : ∃ e, els[i]? = some e ∧ d = e.D := by
  rw [List.getElem?_map] at h
  cases q : els[i]? with
  | none => rw [q] at h; cases h
  | some e => rw [q] at h; cases h; exact ⟨e, rfl, rfl⟩
theorem LLess.cap2 {scope : Scope} {l : Loc} {x y : Str} {d d' : D} (h1 : scope.names.lookup x ≠ some .free) (h2 : scope.names.lookup y ≠ some .free) : LLess (capL scope l) (((capL scope l).set x d).set y d') := by
  intro z e hz
  unfold Loc.set
  by_cases w : z = y
  · subst w; unfold capL at hz; rw [if_neg h2] at hz; cases hz
  · rw [if_neg w]; exact LLess.cap h1 z e hz
/-- the elders stand as they stood -/
theorem c_elders {t c el d k o : Addr} {most : Int} {rp ro : List Row} {els : List El} {Q : AF → St → Prop} (P : Prg g) (hA : At g X (sc 37) (n + 12)) (hT : Turn μ t c el d k o most rp ro els) (hel : els.length ≤ 100)
    (h : ∀ st', Q (.ret (.bool true)) st') : Wp g FlowR X ⟨L0 t d o el most, μ⟩ (exec (lS 4) X.env) Q E := by
  refine x_ret ?_
  walk_at "k"
  refine r_call hA P.all trivial ?_
  walk_at "mg"
  refine r_comp hA ⟨rfl, rfl, by decide, by decide, by decide⟩ (cellsHere [] rfl (by intro x hx; cases hx)) ?_
  walk_at "mg"
  refine ⟨els.map El.D, _, fun i out ν => (out.length = i ∧ ∀ d ∈ out, d = .bool true) ∧ Mod [] μ ν, ⟨.list hT.eld, by simp; (first | lia | omega), ?_, ⟨⟨rfl, fun d hd => by cases hd⟩, Mod.refl⟩, ?_⟩, ?_⟩
  · rintro i out ν ⟨_, hm⟩ loc b' c' hb'
    exact set_new hb' (hm.get0 hT.eld)
  · rintro XC hAC i out ν b dd hdd ⟨⟨hol, hot⟩, hm⟩ hb
    refine hid fun PP9 kk9 => ?_
    obtain ⟨e, he, rfl⟩ := el_at hdd
    obtain ⟨hp, ho, _, _, _, hl⟩ := hT.each e (List.mem_of_getElem? he)
    refine kk9 ?_
    clear kk9 PP9
    have hp1 := hp.mod0 hm
    have ho1 := hm.get0 ho
    have hm2 : Mod [] ν (ν.set b (.list out)) := Mod.refl.new hb
    have hp2 := hp1.mod0 hm2
    have ho2 := hm2.get0 ho1
    have hb2 : (ν.set b (.list out)) b = some (.list out) := set_same _ _
    have hmm := hm.trans hm2
    walk_at "k"
    refine s_unpack (ds := [.obj 198 e.d, .ref e.o]) hAC rfl (ts := [_, _]) rfl ?_
    refine in_cons ?_
    walk_at "k"
    refine s_name hAC ?_ (by decide)
    refine in_cons ?_
    walk_at "k"
    refine s_name hAC ?_ (by decide)
    refine in_nil ?_
    refine t_nil ⟨fun _ => ?_, fun z => by cases z⟩
    walk_at "k"
    refine r_cmp ?_
    walk_at "k"
    refine r_meth hAC ?_
    walk_at "k"
    refine r_name hAC rfl ?_
    refine ⟨198, e.d, _, 90, rfl, hp2.1, rfl, P.rows.meth, ?_⟩
    walk_at "k"
    refine r_items_nil ?_
    walk_at "k"
    refine c_rows P hAC hp2 hl fun w hw => ?_
    walk_at "k"
    refine r_name hAC rfl ?_
    walk_at "k"
    refine c_eqRows hAC (set_same _ _) (set_new hw ho2) flat_rows ?_
    have hw2 : ((ν.set b (.list out)).set w (.list (rowsD e.rows))) b = some (.list out) := set_new hw hb2
    walk_at "k"
    refine CFin.of (LLess.cap2 (by decide) (by decide)) hw2 ⟨⟨by simp [hol], fun d' hd' => ?_⟩, fun a' cc ha' q => ?_⟩
    · rcases List.mem_append.mp hd' with q | q
      · exact hot d' q
      · exact List.mem_singleton.mp q
    · exact del_get (set_new hw (hmm.get0 q)) (ne_of (hm.get0 q) hb)
  · rintro out ν b ⟨⟨hol, hot⟩, hm⟩ hb
    walk_at "mg"
    refine b_all hA (set_same _ _) hot ?_
    exact h _
theorem rng_turns {v : Int} (h0 : 0 ≤ v) (h1 : v < 7) : Builtin.Range.rangeSize 0 (4 + v) 1 = (((4 + v).toNat : Nat) : Int) ∧ Builtin.Range.small 0 (4 + v) 1 = true := by
  have : v = 0 ∨ v = 1 ∨ v = 2 ∨ v = 3 ∨ v = 4 ∨ v = 5 ∨ v = 6 := by (first | lia | omega)
  rcases this with rfl | rfl | rfl | rfl | rfl | rfl | rfl <;> exact ⟨by decide, by decide⟩
noncomputable def TInv (t el : Addr) (most : Int) (i : Nat) (st' : St) : Prop :=
  ∃ (c d k o : Addr) (rows : List Row) (els : List El) (μ' : Mem), st' = ⟨L0 t d o el most, μ'⟩ ∧ Turn μ' t c el d k o most rows rows els ∧ Held most (4 * i) rows ∧ els.length ≤ i
theorem c_loop {t c el d k o : Addr} {most : Int} {J : St → Prop} {Q2 : AF → St → Prop} (P : Prg g) (hA : At g X (sc 37) (n + 12)) (hC : CellsMine X)
    (hc1 : (X.env.cells.lookup ("across" : Str)).isSome = true) (hc2 : (X.env.cells.lookup ("up" : Str)).isSome = true) (hc3 : (X.env.cells.lookup ("row" : Str)).isSome = true)
    (hm0 : 0 ≤ most) (hm : most ≤ 8) (hT : Turn μ t c el d k o most [] [] [])
    (h : ∀ (c d k o : Addr) (rows : List Row) (els : List El) (μ' : Mem), Turn μ' t c el d k o most rows rows els → els.length ≤ 100 → J ⟨L0 t d o el most, μ'⟩) :
    Wp g FlowR X ⟨L0 t d o el most, μ⟩ (exec (lS 3) X.env) (Then J Q2) E := by
  refine x_for hA (Wp.less ?_)
  walk_at "k"
  refine r_call hA P.range trivial ?_
  walk_at "mg"
  refine r_call hA P.law_draw.glob P.law_draw.keep ?_
  walk_at "mg"
  refine c_draw P hA hT.tape (by decide) (by decide) fun v c' μ1 hv0 hv1 ht1 hc1' hm1 => ?_
  have hT1 := hT.draw hm1 ht1 hc1'
  walk_at "mg"
  refine b_range1 ?_
  obtain ⟨hr1, hr2⟩ := rng_turns hv0 hv1
  refine ⟨L0 t d o el most, μ1, LLess.refl, Less.refl, rngD 0 1 (4 + v).toNat, _, fun i st' => TInv t el most i st', .rng hr2 hr1, fun _ _ _ => trivial, ⟨c', d, k, o, [], [], μ1, rfl, hT1, by simpa using held_nil hm0, by simp⟩, ?_, ?_⟩
  · intro i dd st' hdd hh9
    refine hid fun PP9 kk9 => ?_
    obtain ⟨c2, d2, k2, o2, rows, els, μ2, rfl, hT2, hH, hel⟩ := hh9
    refine kk9 ?_
    clear kk9 PP9
    obtain ⟨hi, rfl⟩ := rngD_at hdd
    have hi10 : i < 10 := by (first | lia | omega)
    walk_at "k"
    refine s_name hA ?_ (by decide)
    walk_at "k"
    refine c_turn (B := 4 * i) P hA hC hc1 hc2 hc3 hT2 hH (by (first | lia | omega)) (by (first | lia | omega)) hm0 hm (by (first | lia | omega)) fun μ3 c3 d3 k3 o3 rows3 els3 hT3 hH3 hel3 => ?_
    have e4 : (4 * ((i + 1 : Nat) : Int)) = 4 * (i : Int) + 4 := by (first | lia | omega)
    refine ⟨c3, d3, k3, o3, rows3, els3, μ3, rfl, hT3, ?_, by (first | lia | omega)⟩
    rw [e4]
    exact hH3
  · intro st' hh9
    refine hid fun PP9 kk9 => ?_
    obtain ⟨c2, d2, k2, o2, rows, els, μ2, rfl, hT2, hH, hel⟩ := hh9
    refine kk9 ?_
    clear kk9 PP9
    have : (rngD 0 1 (4 + v).toNat).length = (4 + v).toNat := by simp [rngD]
    rw [this] at hel
    exact h c2 d2 k2 o2 rows els μ2 hT2 (by (first | lia | omega))
end
end
section
section
variable {g : Gd} {X : Fx} {SC : Scope} {n : Nat} {st : St} {E : EP} {μ ν ρ : Mem}
/-- the whole law -/
theorem c_law {a0 : Addr} {vs : Array Value} {ns : List Int} (P : Prg g) (hA : At g X (sc 37) (n + 14)) (hC : CellsMine X)
    (hc1 : (X.env.cells.lookup ("across" : Str)).isSome = true) (hc2 : (X.env.cells.lookup ("up" : Str)).isSome = true) (hc3 : (X.env.cells.lookup ("row" : Str)).isSome = true)
    (hL : g.base.IsList a0 vs) (hI : IntsAre vs.toList ns) (hlen : ns.length ≤ 63) :
    WS g X ⟨bindD ["script"] [.ref a0] noLoc, noMem⟩ (bd 37) (fun f _ => f = .ret (.bool true)) (fun _ _ => False) := by
  rw [law_eq]
  refine x_cons (c_tape P hA hL hI hlen fun t c μ hT => ?_)
  refine x_cons ?_
  refine x_assign hA ?_ (by with_unfolding_all decide) (by with_unfolding_all rfl)
  walk_at "mg"
  refine r_call hA P.law_draw.glob P.law_draw.keep ?_
  walk_at "mg"
  refine c_draw P hA hT (by decide) (by decide) fun most c1 μ1 hv0 hv1 ht1 _ _ => ?_
  walk_at "mg"
  refine Wp.pre (loc := (noLoc.set "tape" (.ref t)).set "most" (.int most)) ((LLess.nil.cons rfl).cons rfl) Less.refl ?_
  walk_at "k"
  refine c_first P hA ht1 fun o el d k μ2 hT2 => ?_
  refine x_cons ?_
  refine Wp.pre (loc := L0 t d o el most) (((LLess.nil.cons rfl).cons3 rfl rfl rfl).cons rfl) Less.refl ?_
  walk_at "k"
  refine c_loop P hA hC hc1 hc2 hc3 hv0 (by (first | lia | omega)) hT2 fun c3 d3 k3 o3 rows els μ3 hT3 hel => ?_
  refine x_cons ?_
  exact c_elders P hA hT3 hel fun _ => rfl
end
end
end
section
/-! ## What the top leaves, told once -/
noncomputable def fdOf : Option Obj → FuncData
  | some o => match o.data with
    | .func f => f
    | _ => default
  | none => default
noncomputable def isFnO : Option Obj → Bool
  | some o => match o.data with
    | .func _ => true
    | _ => false
  | none => false
noncomputable def FD (p : Params) (a : Addr) : FuncData := fdOf ((K p).lookup a)
theorem fd_look {o : Option Obj} (h : isFnO o = true) : ∃ x, o = some x ∧ x.data = .func (fdOf o) := by
  cases o with
  | none => cases h
  | some o =>
    refine ⟨o, rfl, ?_⟩
    obtain ⟨c, d, t, l⟩ := o
    cases t <;> first | rfl | exact Bool.noConfusion h
theorem cells_some {x : Str} : ∀ (names : List (Str × NameKind)) (n m : Nat) (acc acc' : List (Str × Addr)), ((acc.lookup x).isSome = true → (acc'.lookup x).isSome = true) →
    ((cellsFrom n names acc).lookup x).isSome = true → ((cellsFrom m names acc').lookup x).isSome = true
  | [], _, _, _, _, h, h' => h h'
  | (y, k) :: r, n, m, acc, acc', h, h' => by
    unfold cellsFrom at h' ⊢
    by_cases hk : (k == .cell) = true
    · rw [if_pos hk] at h' ⊢
      refine cells_some r _ _ _ _ (fun z => ?_) h'
      rw [List.lookup_cons] at z ⊢
      cases hx : x == y
      · rw [hx] at z; exact h z
      · rfl
    · rw [if_neg hk] at h' ⊢
      exact cells_some r _ _ _ _ h h'
noncomputable def parOk (names : List (Str × NameKind)) (x : Str) : Bool := match names.lookup x with
  | some .local => true
  | some .cell => ((cellsFrom 0 names []).lookup x).isSome
  | _ => false
theorem par_ok {names : List (Str × NameKind)} {x : Str} (h : parOk names x = true) : names.lookup x = some .local ∨ (names.lookup x = some .cell ∧ ∀ n, ((cellsFrom n names []).lookup x).isSome = true) := by
  unfold parOk at h
  split at h
  · exact .inl ‹_›
  · exact .inr ⟨‹_›, fun n => cells_some names 0 n [] [] id h⟩
  · cases h
noncomputable def nodupB : List Str → Bool
  | [] => true
  | x :: r => !r.contains x && nodupB r
theorem nodup_of : ∀ {l : List Str}, nodupB l = true → l.Nodup
  | [], _ => List.nodup_nil
  | x :: r, h => by
    simp only [nodupB, Bool.and_eq_true] at h
    exact List.nodup_cons.mpr ⟨fun z => by simp [z] at h, nodup_of h.2⟩
noncomputable def plainFd (K : Frag) (a : Addr) (ps : List Str) (fd : FuncData) : Bool :=
  isFnO (K.lookup a) && (codeIn K fd.code fd.qualname && (fd.closure.isEmpty && (fd.scope.kind == .function && (!fd.scope.isCoroutine && (!fd.scope.isGenerator && (fd.globals == mainGlobals && (fd.builtins == builtinsNs &&
    (ps.all (parOk fd.scope.names) && nodupB (fd.scope.names.map (·.1))))))))))
theorem glob_of {g : Gd} {K : Frag} (hK : g.K = K) {x : Str} {v : Value} {d : D} (h : nsIn K mainGlobals x = some (some v)) (hv : Val g.base d v) : GlobIs g x d := by
  subst hK
  exact ⟨v, .inl h, hv⟩
theorem glob_bi {g : Gd} {K : Frag} (hK : g.K = K) {x : Str} {v : Value} {d : D} (h : nsIn K mainGlobals x = some none) (hb : bootBuiltins x = some v) (hx : x ≠ ("__name__" : Str)) (hv : Val g.base d v) : GlobIs g x d := by
  subst hK
  exact ⟨v, .inr ⟨h, hb, hx⟩, hv⟩
section
variable {g : Gd} {p : Params}
theorem fnok_by (hK : g.K = K p) (hIn : (K p).In g.base) {a : Addr} {body : List Stmt} {ps : List Str} (h : plainFd (K p) a ps (FD p a) = true) (hb : (FD p a).body = .stmts body)
    (hbi : ∀ s vals, (K p).In s.heap → vals.length = ps.length → BindsTo s (FD p a) ⟨vals, []⟩ (ps.zip vals)) : FnOk g a (FD p a) body ps := by
  unfold plainFd at h
  simp only [Bool.and_eq_true, Bool.not_eq_true', beq_iff_eq, List.all_eq_true] at h
  obtain ⟨h1, h2, h3, h4, h5, h6, h7, h8, h9, h10⟩ := h
  exact ⟨by rw [hK]; exact fd_look h1, codeRec_of hIn h2, hb, List.isEmpty_iff.mp h3, by rw [hK]; exact hbi, h4, h5, h6, h7, h8, fun x hx => par_ok (h9 x hx), nodup_of h10⟩
theorem fn_by (hK : g.K = K p) (hIn : (K p).In g.base) {a : Addr} {body : List Stmt} {ps : List Str} {SC : Scope} (h : plainFd (K p) a ps (FD p a) = true) (hb : (FD p a).body = .stmts body) (hs : (FD p a).scope = SC)
    (hbi : ∀ s vals, (K p).In s.heap → vals.length = ps.length → BindsTo s (FD p a) ⟨vals, []⟩ (ps.zip vals)) : Fn g a SC body ps := ⟨_, fnok_by hK hIn h hb hbi, hs⟩
theorem bnd {s : Shared} {fd : FuncData} {args : Args} {binds : List (Str × Value)} (h : bindArgs fd args = pure binds) : BindsTo s fd args binds := BindsTo.of_eq h
theorem v0 {P : List Value → Prop} (h : P []) (vals : List Value) (e : vals.length = 0) : P vals := by
  rw [List.length_eq_zero_iff.mp e]; exact h
theorem vS {P : List Value → Prop} {n : Nat} (h : ∀ a vals, vals.length = n → P (a :: vals)) (vals : List Value) (e : vals.length = n + 1) : P vals := by
  cases vals with
  | nil => exact absurd e (by simp)
  | cons a t => exact h a t (Nat.succ.inj e)
theorem keep_of (hK : g.K = K p) {a : Addr} (h : keepIn (K p) (.ref a) = true) : CalleeOk g (.ref a) := by
  show keepIn g.K _ = true
  rw [hK]; exact h
theorem meth_of (hK : g.K = K p) {C f : Addr} {x : Str} (h1 : plainGet (K p) C x = true) (h2 : findIn (K p) (.ref C) x = some (some (.ref f))) (h3 : isFn (K p) (.ref f) = true) (h4 : keepIn (K p) (.ref f) = true) : MethIs g C x f :=
  ⟨by rw [hK]; exact h1, by rw [hK]; exact h2, by rw [hK]; exact h3, by rw [hK]; exact h4⟩

theorem fn_divided (hK : g.K = K p) (hIn : (K p).In g.base) : Fn g 54 (sc 5) (bd 5) ["number", "by"] := by
  refine fn_by hK hIn ?_ ?_ ?_ ?_
  · kernel_rfl
  · kernel_rfl
  · kernel_rfl
  intro s vals hX hl
  revert vals
  refine vS (P := fun vals => BindsTo s (FD p 54) ⟨vals, []⟩ ((["number", "by"] : List Str).zip (vals))) fun a0 => ?_
  refine vS (P := fun vals => BindsTo s (FD p 54) ⟨a0 :: vals, []⟩ ((["number", "by"] : List Str).zip (a0 :: vals))) fun a1 => ?_
  refine v0 (P := fun vals => BindsTo s (FD p 54) ⟨a0 :: a1 :: vals, []⟩ ((["number", "by"] : List Str).zip (a0 :: a1 :: vals))) ?_
  refine bnd ?_
  kernel_rfl
theorem fn_transform (hK : g.K = K p) (hIn : (K p).In g.base) : Fn g 61 (sc 7) (bd 7) ["m", "x", "y"] := by
  refine fn_by hK hIn ?_ ?_ ?_ ?_
  · kernel_rfl
  · kernel_rfl
  · kernel_rfl
  intro s vals hX hl
  revert vals
  refine vS (P := fun vals => BindsTo s (FD p 61) ⟨vals, []⟩ ((["m", "x", "y"] : List Str).zip (vals))) fun a0 => ?_
  refine vS (P := fun vals => BindsTo s (FD p 61) ⟨a0 :: vals, []⟩ ((["m", "x", "y"] : List Str).zip (a0 :: vals))) fun a1 => ?_
  refine vS (P := fun vals => BindsTo s (FD p 61) ⟨a0 :: a1 :: vals, []⟩ ((["m", "x", "y"] : List Str).zip (a0 :: a1 :: vals))) fun a2 => ?_
  refine v0 (P := fun vals => BindsTo s (FD p 61) ⟨a0 :: a1 :: a2 :: vals, []⟩ ((["m", "x", "y"] : List Str).zip (a0 :: a1 :: a2 :: vals))) ?_
  refine bnd ?_
  kernel_rfl
theorem fn_rows_transformed (hK : g.K = K p) (hIn : (K p).In g.base) : Fn g 68 (sc 8) (bd 8) ["rows", "m"] := by
  refine fn_by hK hIn ?_ ?_ ?_ ?_
  · kernel_rfl
  · kernel_rfl
  · kernel_rfl
  intro s vals hX hl
  revert vals
  refine vS (P := fun vals => BindsTo s (FD p 68) ⟨vals, []⟩ ((["rows", "m"] : List Str).zip (vals))) fun a0 => ?_
  refine vS (P := fun vals => BindsTo s (FD p 68) ⟨a0 :: vals, []⟩ ((["rows", "m"] : List Str).zip (a0 :: vals))) fun a1 => ?_
  refine v0 (P := fun vals => BindsTo s (FD p 68) ⟨a0 :: a1 :: vals, []⟩ ((["rows", "m"] : List Str).zip (a0 :: a1 :: vals))) ?_
  refine bnd ?_
  kernel_rfl
theorem fn_path_of (hK : g.K = K p) (hIn : (K p).In g.base) : Fn g 210 (sc 13) (bd 13) ["rows", "most"] := by
  refine fn_by hK hIn ?_ ?_ ?_ ?_
  · kernel_rfl
  · kernel_rfl
  · kernel_rfl
  intro s vals hX hl
  revert vals
  refine vS (P := fun vals => BindsTo s (FD p 210) ⟨vals, []⟩ ((["rows", "most"] : List Str).zip (vals))) fun a0 => ?_
  refine vS (P := fun vals => BindsTo s (FD p 210) ⟨a0 :: vals, []⟩ ((["rows", "most"] : List Str).zip (a0 :: vals))) fun a1 => ?_
  refine v0 (P := fun vals => BindsTo s (FD p 210) ⟨a0 :: a1 :: vals, []⟩ ((["rows", "most"] : List Str).zip (a0 :: a1 :: vals))) ?_
  refine binds_K hX (T := 203) (o := Obj.mk (Value.type "tuple") none (Data.seq #[(Value.int 1500 274)] 0) #[]) ?_ ?_ rfl rfl ?_ <;> kernel_rfl
theorem fn_path_more (hK : g.K = K p) (hIn : (K p).In g.base) : Fn g 217 (sc 14) (bd 14) ["last", "rows"] := by
  refine fn_by hK hIn ?_ ?_ ?_ ?_
  · kernel_rfl
  · kernel_rfl
  · kernel_rfl
  intro s vals hX hl
  revert vals
  refine vS (P := fun vals => BindsTo s (FD p 217) ⟨vals, []⟩ ((["last", "rows"] : List Str).zip (vals))) fun a0 => ?_
  refine vS (P := fun vals => BindsTo s (FD p 217) ⟨a0 :: vals, []⟩ ((["last", "rows"] : List Str).zip (a0 :: vals))) fun a1 => ?_
  refine v0 (P := fun vals => BindsTo s (FD p 217) ⟨a0 :: a1 :: vals, []⟩ ((["last", "rows"] : List Str).zip (a0 :: a1 :: vals))) ?_
  refine bnd ?_
  kernel_rfl
theorem fn_path_points (hK : g.K = K p) (hIn : (K p).In g.base) : Fn g 222 (sc 15) (bd 15) ["row"] := by
  refine fn_by hK hIn ?_ ?_ ?_ ?_
  · kernel_rfl
  · kernel_rfl
  · kernel_rfl
  intro s vals hX hl
  revert vals
  refine vS (P := fun vals => BindsTo s (FD p 222) ⟨vals, []⟩ ((["row"] : List Str).zip (vals))) fun a0 => ?_
  refine v0 (P := fun vals => BindsTo s (FD p 222) ⟨a0 :: vals, []⟩ ((["row"] : List Str).zip (a0 :: vals))) ?_
  refine bnd ?_
  kernel_rfl
theorem fn_path_row (hK : g.K = K p) (hIn : (K p).In g.base) : Fn g 229 (sc 16) (bd 16) ["word", "points"] := by
  refine fn_by hK hIn ?_ ?_ ?_ ?_
  · kernel_rfl
  · kernel_rfl
  · kernel_rfl
  intro s vals hX hl
  revert vals
  refine vS (P := fun vals => BindsTo s (FD p 229) ⟨vals, []⟩ ((["word", "points"] : List Str).zip (vals))) fun a0 => ?_
  refine vS (P := fun vals => BindsTo s (FD p 229) ⟨a0 :: vals, []⟩ ((["word", "points"] : List Str).zip (a0 :: vals))) fun a1 => ?_
  refine v0 (P := fun vals => BindsTo s (FD p 229) ⟨a0 :: a1 :: vals, []⟩ ((["word", "points"] : List Str).zip (a0 :: a1 :: vals))) ?_
  refine bnd ?_
  kernel_rfl
theorem fn_path_subpaths (hK : g.K = K p) (hIn : (K p).In g.base) : Fn g 243 (sc 18) (bd 18) ["rows"] := by
  refine fn_by hK hIn ?_ ?_ ?_ ?_
  · kernel_rfl
  · kernel_rfl
  · kernel_rfl
  intro s vals hX hl
  revert vals
  refine vS (P := fun vals => BindsTo s (FD p 243) ⟨vals, []⟩ ((["rows"] : List Str).zip (vals))) fun a0 => ?_
  refine v0 (P := fun vals => BindsTo s (FD p 243) ⟨a0 :: vals, []⟩ ((["rows"] : List Str).zip (a0 :: vals))) ?_
  refine bnd ?_
  kernel_rfl
theorem fn_path_reversed (hK : g.K = K p) (hIn : (K p).In g.base) : Fn g 248 (sc 19) (bd 19) ["rows"] := by
  refine fn_by hK hIn ?_ ?_ ?_ ?_
  · kernel_rfl
  · kernel_rfl
  · kernel_rfl
  intro s vals hX hl
  revert vals
  refine vS (P := fun vals => BindsTo s (FD p 248) ⟨vals, []⟩ ((["rows"] : List Str).zip (vals))) fun a0 => ?_
  refine v0 (P := fun vals => BindsTo s (FD p 248) ⟨a0 :: vals, []⟩ ((["rows"] : List Str).zip (a0 :: vals))) ?_
  refine bnd ?_
  kernel_rfl
theorem fn_path_half (hK : g.K = K p) (hIn : (K p).In g.base) : Fn g 255 (sc 20) (bd 20) ["one", "other"] := by
  refine fn_by hK hIn ?_ ?_ ?_ ?_
  · kernel_rfl
  · kernel_rfl
  · kernel_rfl
  intro s vals hX hl
  revert vals
  refine vS (P := fun vals => BindsTo s (FD p 255) ⟨vals, []⟩ ((["one", "other"] : List Str).zip (vals))) fun a0 => ?_
  refine vS (P := fun vals => BindsTo s (FD p 255) ⟨a0 :: vals, []⟩ ((["one", "other"] : List Str).zip (a0 :: vals))) fun a1 => ?_
  refine v0 (P := fun vals => BindsTo s (FD p 255) ⟨a0 :: a1 :: vals, []⟩ ((["one", "other"] : List Str).zip (a0 :: a1 :: vals))) ?_
  refine bnd ?_
  kernel_rfl
theorem fn_path_halves (hK : g.K = K p) (hIn : (K p).In g.base) : Fn g 262 (sc 21) (bd 21) ["points"] := by
  refine fn_by hK hIn ?_ ?_ ?_ ?_
  · kernel_rfl
  · kernel_rfl
  · kernel_rfl
  intro s vals hX hl
  revert vals
  refine vS (P := fun vals => BindsTo s (FD p 262) ⟨vals, []⟩ ((["points"] : List Str).zip (vals))) fun a0 => ?_
  refine v0 (P := fun vals => BindsTo s (FD p 262) ⟨a0 :: vals, []⟩ ((["points"] : List Str).zip (a0 :: vals))) ?_
  refine bnd ?_
  kernel_rfl
theorem fn_path_is_flat (hK : g.K = K p) (hIn : (K p).In g.base) : Fn g 269 (sc 22) (bd 22) ["points", "flatness"] := by
  refine fn_by hK hIn ?_ ?_ ?_ ?_
  · kernel_rfl
  · kernel_rfl
  · kernel_rfl
  intro s vals hX hl
  revert vals
  refine vS (P := fun vals => BindsTo s (FD p 269) ⟨vals, []⟩ ((["points", "flatness"] : List Str).zip (vals))) fun a0 => ?_
  refine vS (P := fun vals => BindsTo s (FD p 269) ⟨a0 :: vals, []⟩ ((["points", "flatness"] : List Str).zip (a0 :: vals))) fun a1 => ?_
  refine v0 (P := fun vals => BindsTo s (FD p 269) ⟨a0 :: a1 :: vals, []⟩ ((["points", "flatness"] : List Str).zip (a0 :: a1 :: vals))) ?_
  refine bnd ?_
  kernel_rfl
theorem fn_path_curve_ends (hK : g.K = K p) (hIn : (K p).In g.base) : Fn g 276 (sc 23) (bd 23) ["points", "flatness"] := by
  refine fn_by hK hIn ?_ ?_ ?_ ?_
  · kernel_rfl
  · kernel_rfl
  · kernel_rfl
  intro s vals hX hl
  revert vals
  refine vS (P := fun vals => BindsTo s (FD p 276) ⟨vals, []⟩ ((["points", "flatness"] : List Str).zip (vals))) fun a0 => ?_
  refine vS (P := fun vals => BindsTo s (FD p 276) ⟨a0 :: vals, []⟩ ((["points", "flatness"] : List Str).zip (a0 :: vals))) fun a1 => ?_
  refine v0 (P := fun vals => BindsTo s (FD p 276) ⟨a0 :: a1 :: vals, []⟩ ((["points", "flatness"] : List Str).zip (a0 :: a1 :: vals))) ?_
  refine bnd ?_
  kernel_rfl
theorem fn_path_flattened (hK : g.K = K p) (hIn : (K p).In g.base) : Fn g 284 (sc 24) (bd 24) ["rows", "flatness", "most"] := by
  refine fn_by hK hIn ?_ ?_ ?_ ?_
  · kernel_rfl
  · kernel_rfl
  · kernel_rfl
  intro s vals hX hl
  revert vals
  refine vS (P := fun vals => BindsTo s (FD p 284) ⟨vals, []⟩ ((["rows", "flatness", "most"] : List Str).zip (vals))) fun a0 => ?_
  refine vS (P := fun vals => BindsTo s (FD p 284) ⟨a0 :: vals, []⟩ ((["rows", "flatness", "most"] : List Str).zip (a0 :: vals))) fun a1 => ?_
  refine vS (P := fun vals => BindsTo s (FD p 284) ⟨a0 :: a1 :: vals, []⟩ ((["rows", "flatness", "most"] : List Str).zip (a0 :: a1 :: vals))) fun a2 => ?_
  refine v0 (P := fun vals => BindsTo s (FD p 284) ⟨a0 :: a1 :: a2 :: vals, []⟩ ((["rows", "flatness", "most"] : List Str).zip (a0 :: a1 :: a2 :: vals))) ?_
  refine binds_K hX (T := 277) (o := Obj.mk (Value.type "tuple") none (Data.seq #[Value.none] 0) #[]) ?_ ?_ rfl rfl ?_ <;> kernel_rfl
theorem fn_law_sizes (hK : g.K = K p) (hIn : (K p).In g.base) : Fn g 292 (sc 27) (bd 27) [] := by
  refine fn_by hK hIn ?_ ?_ ?_ ?_
  · kernel_rfl
  · kernel_rfl
  · kernel_rfl
  intro s vals hX hl
  revert vals
  refine v0 (P := fun vals => BindsTo s (FD p 292) ⟨vals, []⟩ (([] : List Str).zip (vals))) ?_
  refine bnd ?_
  kernel_rfl
theorem fn_law_draw (hK : g.K = K p) (hIn : (K p).In g.base) : Fn g 299 (sc 29) (bd 29) ["tape", "many"] := by
  refine fn_by hK hIn ?_ ?_ ?_ ?_
  · kernel_rfl
  · kernel_rfl
  · kernel_rfl
  intro s vals hX hl
  revert vals
  refine vS (P := fun vals => BindsTo s (FD p 299) ⟨vals, []⟩ ((["tape", "many"] : List Str).zip (vals))) fun a0 => ?_
  refine vS (P := fun vals => BindsTo s (FD p 299) ⟨a0 :: vals, []⟩ ((["tape", "many"] : List Str).zip (a0 :: vals))) fun a1 => ?_
  refine v0 (P := fun vals => BindsTo s (FD p 299) ⟨a0 :: a1 :: vals, []⟩ ((["tape", "many"] : List Str).zip (a0 :: a1 :: vals))) ?_
  refine bnd ?_
  kernel_rfl
theorem fn_law_row (hK : g.K = K p) (hIn : (K p).In g.base) : Fn g 304 (sc 30) (bd 30) ["tape", "word"] := by
  refine fn_by hK hIn ?_ ?_ ?_ ?_
  · kernel_rfl
  · kernel_rfl
  · kernel_rfl
  intro s vals hX hl
  revert vals
  refine vS (P := fun vals => BindsTo s (FD p 304) ⟨vals, []⟩ ((["tape", "word"] : List Str).zip (vals))) fun a0 => ?_
  refine vS (P := fun vals => BindsTo s (FD p 304) ⟨a0 :: vals, []⟩ ((["tape", "word"] : List Str).zip (a0 :: vals))) fun a1 => ?_
  refine v0 (P := fun vals => BindsTo s (FD p 304) ⟨a0 :: a1 :: vals, []⟩ ((["tape", "word"] : List Str).zip (a0 :: a1 :: vals))) ?_
  refine bnd ?_
  kernel_rfl
theorem fn_law_after (hK : g.K = K p) (hIn : (K p).In g.base) : Fn g 309 (sc 31) (bd 31) ["own", "rows", "most"] := by
  refine fn_by hK hIn ?_ ?_ ?_ ?_
  · kernel_rfl
  · kernel_rfl
  · kernel_rfl
  intro s vals hX hl
  revert vals
  refine vS (P := fun vals => BindsTo s (FD p 309) ⟨vals, []⟩ ((["own", "rows", "most"] : List Str).zip (vals))) fun a0 => ?_
  refine vS (P := fun vals => BindsTo s (FD p 309) ⟨a0 :: vals, []⟩ ((["own", "rows", "most"] : List Str).zip (a0 :: vals))) fun a1 => ?_
  refine vS (P := fun vals => BindsTo s (FD p 309) ⟨a0 :: a1 :: vals, []⟩ ((["own", "rows", "most"] : List Str).zip (a0 :: a1 :: vals))) fun a2 => ?_
  refine v0 (P := fun vals => BindsTo s (FD p 309) ⟨a0 :: a1 :: a2 :: vals, []⟩ ((["own", "rows", "most"] : List Str).zip (a0 :: a1 :: a2 :: vals))) ?_
  refine bnd ?_
  kernel_rfl
theorem fn_law_put (hK : g.K = K p) (hIn : (K p).In g.base) : Fn g 316 (sc 32) (bd 32) ["route", "row"] := by
  refine fn_by hK hIn ?_ ?_ ?_ ?_
  · kernel_rfl
  · kernel_rfl
  · kernel_rfl
  intro s vals hX hl
  revert vals
  refine vS (P := fun vals => BindsTo s (FD p 316) ⟨vals, []⟩ ((["route", "row"] : List Str).zip (vals))) fun a0 => ?_
  refine vS (P := fun vals => BindsTo s (FD p 316) ⟨a0 :: vals, []⟩ ((["route", "row"] : List Str).zip (a0 :: vals))) fun a1 => ?_
  refine v0 (P := fun vals => BindsTo s (FD p 316) ⟨a0 :: a1 :: vals, []⟩ ((["route", "row"] : List Str).zip (a0 :: a1 :: vals))) ?_
  refine bnd ?_
  kernel_rfl
theorem fn_law_backwards (hK : g.K = K p) (hIn : (K p).In g.base) : Fn g 321 (sc 33) (bd 33) ["own"] := by
  refine fn_by hK hIn ?_ ?_ ?_ ?_
  · kernel_rfl
  · kernel_rfl
  · kernel_rfl
  intro s vals hX hl
  revert vals
  refine vS (P := fun vals => BindsTo s (FD p 321) ⟨vals, []⟩ ((["own"] : List Str).zip (vals))) fun a0 => ?_
  refine v0 (P := fun vals => BindsTo s (FD p 321) ⟨a0 :: vals, []⟩ ((["own"] : List Str).zip (a0 :: vals))) ?_
  refine bnd ?_
  kernel_rfl
theorem fn_law_flat (hK : g.K = K p) (hIn : (K p).In g.base) : Fn g 328 (sc 34) (bd 34) ["own", "flatness"] := by
  refine fn_by hK hIn ?_ ?_ ?_ ?_
  · kernel_rfl
  · kernel_rfl
  · kernel_rfl
  intro s vals hX hl
  revert vals
  refine vS (P := fun vals => BindsTo s (FD p 328) ⟨vals, []⟩ ((["own", "flatness"] : List Str).zip (vals))) fun a0 => ?_
  refine vS (P := fun vals => BindsTo s (FD p 328) ⟨a0 :: vals, []⟩ ((["own", "flatness"] : List Str).zip (a0 :: vals))) fun a1 => ?_
  refine v0 (P := fun vals => BindsTo s (FD p 328) ⟨a0 :: a1 :: vals, []⟩ ((["own", "flatness"] : List Str).zip (a0 :: a1 :: vals))) ?_
  refine bnd ?_
  kernel_rfl
theorem fn_law_stands (hK : g.K = K p) (hIn : (K p).In g.base) : Fn g 333 (sc 35) (bd 35) ["route", "own"] := by
  refine fn_by hK hIn ?_ ?_ ?_ ?_
  · kernel_rfl
  · kernel_rfl
  · kernel_rfl
  intro s vals hX hl
  revert vals
  refine vS (P := fun vals => BindsTo s (FD p 333) ⟨vals, []⟩ ((["route", "own"] : List Str).zip (vals))) fun a0 => ?_
  refine vS (P := fun vals => BindsTo s (FD p 333) ⟨a0 :: vals, []⟩ ((["route", "own"] : List Str).zip (a0 :: vals))) fun a1 => ?_
  refine v0 (P := fun vals => BindsTo s (FD p 333) ⟨a0 :: a1 :: vals, []⟩ ((["route", "own"] : List Str).zip (a0 :: a1 :: vals))) ?_
  refine bnd ?_
  kernel_rfl
theorem fn_law_some_rows (hK : g.K = K p) (hIn : (K p).In g.base) : Fn g 340 (sc 36) (bd 36) ["tape", "own"] := by
  refine fn_by hK hIn ?_ ?_ ?_ ?_
  · kernel_rfl
  · kernel_rfl
  · kernel_rfl
  intro s vals hX hl
  revert vals
  refine vS (P := fun vals => BindsTo s (FD p 340) ⟨vals, []⟩ ((["tape", "own"] : List Str).zip (vals))) fun a0 => ?_
  refine vS (P := fun vals => BindsTo s (FD p 340) ⟨a0 :: vals, []⟩ ((["tape", "own"] : List Str).zip (a0 :: vals))) fun a1 => ?_
  refine v0 (P := fun vals => BindsTo s (FD p 340) ⟨a0 :: a1 :: vals, []⟩ ((["tape", "own"] : List Str).zip (a0 :: a1 :: vals))) ?_
  refine bnd ?_
  kernel_rfl
theorem fn_init (hK : g.K = K p) (hIn : (K p).In g.base) : Fn g 83 (msc 0) (mbd 0) ["self", "most"] := by
  refine fn_by hK hIn ?_ ?_ ?_ ?_
  · kernel_rfl
  · kernel_rfl
  · kernel_rfl
  intro s vals hX hl
  revert vals
  refine vS (P := fun vals => BindsTo s (FD p 83) ⟨vals, []⟩ ((["self", "most"] : List Str).zip (vals))) fun a0 => ?_
  refine vS (P := fun vals => BindsTo s (FD p 83) ⟨a0 :: vals, []⟩ ((["self", "most"] : List Str).zip (a0 :: vals))) fun a1 => ?_
  refine v0 (P := fun vals => BindsTo s (FD p 83) ⟨a0 :: a1 :: vals, []⟩ ((["self", "most"] : List Str).zip (a0 :: a1 :: vals))) ?_
  refine binds_K hX (T := 76) (o := Obj.mk (Value.type "tuple") none (Data.seq #[(Value.int 1500 274)] 0) #[]) ?_ ?_ rfl rfl ?_ <;> kernel_rfl
theorem fn_rows (hK : g.K = K p) (hIn : (K p).In g.base) : Fn g 90 (msc 1) (mbd 1) ["self"] := by
  refine fn_by hK hIn ?_ ?_ ?_ ?_
  · kernel_rfl
  · kernel_rfl
  · kernel_rfl
  intro s vals hX hl
  revert vals
  refine vS (P := fun vals => BindsTo s (FD p 90) ⟨vals, []⟩ ((["self"] : List Str).zip (vals))) fun a0 => ?_
  refine v0 (P := fun vals => BindsTo s (FD p 90) ⟨a0 :: vals, []⟩ ((["self"] : List Str).zip (a0 :: vals))) ?_
  refine bnd ?_
  kernel_rfl
theorem fn_is_empty (hK : g.K = K p) (hIn : (K p).In g.base) : Fn g 97 (msc 2) (mbd 2) ["self"] := by
  refine fn_by hK hIn ?_ ?_ ?_ ?_
  · kernel_rfl
  · kernel_rfl
  · kernel_rfl
  intro s vals hX hl
  revert vals
  refine vS (P := fun vals => BindsTo s (FD p 97) ⟨vals, []⟩ ((["self"] : List Str).zip (vals))) fun a0 => ?_
  refine v0 (P := fun vals => BindsTo s (FD p 97) ⟨a0 :: vals, []⟩ ((["self"] : List Str).zip (a0 :: vals))) ?_
  refine bnd ?_
  kernel_rfl
theorem fn_current (hK : g.K = K p) (hIn : (K p).In g.base) : Fn g 104 (msc 3) (mbd 3) ["self"] := by
  refine fn_by hK hIn ?_ ?_ ?_ ?_
  · kernel_rfl
  · kernel_rfl
  · kernel_rfl
  intro s vals hX hl
  revert vals
  refine vS (P := fun vals => BindsTo s (FD p 104) ⟨vals, []⟩ ((["self"] : List Str).zip (vals))) fun a0 => ?_
  refine v0 (P := fun vals => BindsTo s (FD p 104) ⟨a0 :: vals, []⟩ ((["self"] : List Str).zip (a0 :: vals))) ?_
  refine bnd ?_
  kernel_rfl
theorem fn_copy (hK : g.K = K p) (hIn : (K p).In g.base) : Fn g 111 (msc 4) (mbd 4) ["self"] := by
  refine fn_by hK hIn ?_ ?_ ?_ ?_
  · kernel_rfl
  · kernel_rfl
  · kernel_rfl
  intro s vals hX hl
  revert vals
  refine vS (P := fun vals => BindsTo s (FD p 111) ⟨vals, []⟩ ((["self"] : List Str).zip (vals))) fun a0 => ?_
  refine v0 (P := fun vals => BindsTo s (FD p 111) ⟨a0 :: vals, []⟩ ((["self"] : List Str).zip (a0 :: vals))) ?_
  refine bnd ?_
  kernel_rfl
theorem fn_clear (hK : g.K = K p) (hIn : (K p).In g.base) : Fn g 118 (msc 5) (mbd 5) ["self"] := by
  refine fn_by hK hIn ?_ ?_ ?_ ?_
  · kernel_rfl
  · kernel_rfl
  · kernel_rfl
  intro s vals hX hl
  revert vals
  refine vS (P := fun vals => BindsTo s (FD p 118) ⟨vals, []⟩ ((["self"] : List Str).zip (vals))) fun a0 => ?_
  refine v0 (P := fun vals => BindsTo s (FD p 118) ⟨a0 :: vals, []⟩ ((["self"] : List Str).zip (a0 :: vals))) ?_
  refine bnd ?_
  kernel_rfl
theorem fn_need_room (hK : g.K = K p) (hIn : (K p).In g.base) : Fn g 125 (msc 6) (mbd 6) ["self", "rows"] := by
  refine fn_by hK hIn ?_ ?_ ?_ ?_
  · kernel_rfl
  · kernel_rfl
  · kernel_rfl
  intro s vals hX hl
  revert vals
  refine vS (P := fun vals => BindsTo s (FD p 125) ⟨vals, []⟩ ((["self", "rows"] : List Str).zip (vals))) fun a0 => ?_
  refine vS (P := fun vals => BindsTo s (FD p 125) ⟨a0 :: vals, []⟩ ((["self", "rows"] : List Str).zip (a0 :: vals))) fun a1 => ?_
  refine v0 (P := fun vals => BindsTo s (FD p 125) ⟨a0 :: a1 :: vals, []⟩ ((["self", "rows"] : List Str).zip (a0 :: a1 :: vals))) ?_
  refine bnd ?_
  kernel_rfl
theorem fn_move (hK : g.K = K p) (hIn : (K p).In g.base) : Fn g 132 (msc 7) (mbd 7) ["self", "x", "y"] := by
  refine fn_by hK hIn ?_ ?_ ?_ ?_
  · kernel_rfl
  · kernel_rfl
  · kernel_rfl
  intro s vals hX hl
  revert vals
  refine vS (P := fun vals => BindsTo s (FD p 132) ⟨vals, []⟩ ((["self", "x", "y"] : List Str).zip (vals))) fun a0 => ?_
  refine vS (P := fun vals => BindsTo s (FD p 132) ⟨a0 :: vals, []⟩ ((["self", "x", "y"] : List Str).zip (a0 :: vals))) fun a1 => ?_
  refine vS (P := fun vals => BindsTo s (FD p 132) ⟨a0 :: a1 :: vals, []⟩ ((["self", "x", "y"] : List Str).zip (a0 :: a1 :: vals))) fun a2 => ?_
  refine v0 (P := fun vals => BindsTo s (FD p 132) ⟨a0 :: a1 :: a2 :: vals, []⟩ ((["self", "x", "y"] : List Str).zip (a0 :: a1 :: a2 :: vals))) ?_
  refine bnd ?_
  kernel_rfl
theorem fn_go_on (hK : g.K = K p) (hIn : (K p).In g.base) : Fn g 139 (msc 8) (mbd 8) ["self", "row", "point"] := by
  refine fn_by hK hIn ?_ ?_ ?_ ?_
  · kernel_rfl
  · kernel_rfl
  · kernel_rfl
  intro s vals hX hl
  revert vals
  refine vS (P := fun vals => BindsTo s (FD p 139) ⟨vals, []⟩ ((["self", "row", "point"] : List Str).zip (vals))) fun a0 => ?_
  refine vS (P := fun vals => BindsTo s (FD p 139) ⟨a0 :: vals, []⟩ ((["self", "row", "point"] : List Str).zip (a0 :: vals))) fun a1 => ?_
  refine vS (P := fun vals => BindsTo s (FD p 139) ⟨a0 :: a1 :: vals, []⟩ ((["self", "row", "point"] : List Str).zip (a0 :: a1 :: vals))) fun a2 => ?_
  refine v0 (P := fun vals => BindsTo s (FD p 139) ⟨a0 :: a1 :: a2 :: vals, []⟩ ((["self", "row", "point"] : List Str).zip (a0 :: a1 :: a2 :: vals))) ?_
  refine bnd ?_
  kernel_rfl
theorem fn_line (hK : g.K = K p) (hIn : (K p).In g.base) : Fn g 146 (msc 9) (mbd 9) ["self", "x", "y"] := by
  refine fn_by hK hIn ?_ ?_ ?_ ?_
  · kernel_rfl
  · kernel_rfl
  · kernel_rfl
  intro s vals hX hl
  revert vals
  refine vS (P := fun vals => BindsTo s (FD p 146) ⟨vals, []⟩ ((["self", "x", "y"] : List Str).zip (vals))) fun a0 => ?_
  refine vS (P := fun vals => BindsTo s (FD p 146) ⟨a0 :: vals, []⟩ ((["self", "x", "y"] : List Str).zip (a0 :: vals))) fun a1 => ?_
  refine vS (P := fun vals => BindsTo s (FD p 146) ⟨a0 :: a1 :: vals, []⟩ ((["self", "x", "y"] : List Str).zip (a0 :: a1 :: vals))) fun a2 => ?_
  refine v0 (P := fun vals => BindsTo s (FD p 146) ⟨a0 :: a1 :: a2 :: vals, []⟩ ((["self", "x", "y"] : List Str).zip (a0 :: a1 :: a2 :: vals))) ?_
  refine bnd ?_
  kernel_rfl
theorem fn_curve (hK : g.K = K p) (hIn : (K p).In g.base) : Fn g 153 (msc 10) (mbd 10) ["self", "x1", "y1", "x2", "y2", "x3", "y3"] := by
  refine fn_by hK hIn ?_ ?_ ?_ ?_
  · kernel_rfl
  · kernel_rfl
  · kernel_rfl
  intro s vals hX hl
  revert vals
  refine vS (P := fun vals => BindsTo s (FD p 153) ⟨vals, []⟩ ((["self", "x1", "y1", "x2", "y2", "x3", "y3"] : List Str).zip (vals))) fun a0 => ?_
  refine vS (P := fun vals => BindsTo s (FD p 153) ⟨a0 :: vals, []⟩ ((["self", "x1", "y1", "x2", "y2", "x3", "y3"] : List Str).zip (a0 :: vals))) fun a1 => ?_
  refine vS (P := fun vals => BindsTo s (FD p 153) ⟨a0 :: a1 :: vals, []⟩ ((["self", "x1", "y1", "x2", "y2", "x3", "y3"] : List Str).zip (a0 :: a1 :: vals))) fun a2 => ?_
  refine vS (P := fun vals => BindsTo s (FD p 153) ⟨a0 :: a1 :: a2 :: vals, []⟩ ((["self", "x1", "y1", "x2", "y2", "x3", "y3"] : List Str).zip (a0 :: a1 :: a2 :: vals))) fun a3 => ?_
  refine vS (P := fun vals => BindsTo s (FD p 153) ⟨a0 :: a1 :: a2 :: a3 :: vals, []⟩ ((["self", "x1", "y1", "x2", "y2", "x3", "y3"] : List Str).zip (a0 :: a1 :: a2 :: a3 :: vals))) fun a4 => ?_
  refine vS (P := fun vals => BindsTo s (FD p 153) ⟨a0 :: a1 :: a2 :: a3 :: a4 :: vals, []⟩ ((["self", "x1", "y1", "x2", "y2", "x3", "y3"] : List Str).zip (a0 :: a1 :: a2 :: a3 :: a4 :: vals))) fun a5 => ?_
  refine vS (P := fun vals => BindsTo s (FD p 153) ⟨a0 :: a1 :: a2 :: a3 :: a4 :: a5 :: vals, []⟩ ((["self", "x1", "y1", "x2", "y2", "x3", "y3"] : List Str).zip (a0 :: a1 :: a2 :: a3 :: a4 :: a5 :: vals))) fun a6 => ?_
  refine v0 (P := fun vals => BindsTo s (FD p 153) ⟨a0 :: a1 :: a2 :: a3 :: a4 :: a5 :: a6 :: vals, []⟩ ((["self", "x1", "y1", "x2", "y2", "x3", "y3"] : List Str).zip (a0 :: a1 :: a2 :: a3 :: a4 :: a5 :: a6 :: vals))) ?_
  refine bnd ?_
  kernel_rfl
theorem fn_close (hK : g.K = K p) (hIn : (K p).In g.base) : Fn g 160 (msc 11) (mbd 11) ["self"] := by
  refine fn_by hK hIn ?_ ?_ ?_ ?_
  · kernel_rfl
  · kernel_rfl
  · kernel_rfl
  intro s vals hX hl
  revert vals
  refine vS (P := fun vals => BindsTo s (FD p 160) ⟨vals, []⟩ ((["self"] : List Str).zip (vals))) fun a0 => ?_
  refine v0 (P := fun vals => BindsTo s (FD p 160) ⟨a0 :: vals, []⟩ ((["self"] : List Str).zip (a0 :: vals))) ?_
  refine bnd ?_
  kernel_rfl
theorem fn_put_rows (hK : g.K = K p) (hIn : (K p).In g.base) : Fn g 167 (msc 12) (mbd 12) ["self", "rows"] := by
  refine fn_by hK hIn ?_ ?_ ?_ ?_
  · kernel_rfl
  · kernel_rfl
  · kernel_rfl
  intro s vals hX hl
  revert vals
  refine vS (P := fun vals => BindsTo s (FD p 167) ⟨vals, []⟩ ((["self", "rows"] : List Str).zip (vals))) fun a0 => ?_
  refine vS (P := fun vals => BindsTo s (FD p 167) ⟨a0 :: vals, []⟩ ((["self", "rows"] : List Str).zip (a0 :: vals))) fun a1 => ?_
  refine v0 (P := fun vals => BindsTo s (FD p 167) ⟨a0 :: a1 :: vals, []⟩ ((["self", "rows"] : List Str).zip (a0 :: a1 :: vals))) ?_
  refine bnd ?_
  kernel_rfl
theorem fn_flattened (hK : g.K = K p) (hIn : (K p).In g.base) : Fn g 181 (msc 14) (mbd 14) ["self", "flatness"] := by
  refine fn_by hK hIn ?_ ?_ ?_ ?_
  · kernel_rfl
  · kernel_rfl
  · kernel_rfl
  intro s vals hX hl
  revert vals
  refine vS (P := fun vals => BindsTo s (FD p 181) ⟨vals, []⟩ ((["self", "flatness"] : List Str).zip (vals))) fun a0 => ?_
  refine vS (P := fun vals => BindsTo s (FD p 181) ⟨a0 :: vals, []⟩ ((["self", "flatness"] : List Str).zip (a0 :: vals))) fun a1 => ?_
  refine v0 (P := fun vals => BindsTo s (FD p 181) ⟨a0 :: a1 :: vals, []⟩ ((["self", "flatness"] : List Str).zip (a0 :: a1 :: vals))) ?_
  refine bnd ?_
  kernel_rfl
theorem fn_reversed (hK : g.K = K p) (hIn : (K p).In g.base) : Fn g 188 (msc 15) (mbd 15) ["self"] := by
  refine fn_by hK hIn ?_ ?_ ?_ ?_
  · kernel_rfl
  · kernel_rfl
  · kernel_rfl
  intro s vals hX hl
  revert vals
  refine vS (P := fun vals => BindsTo s (FD p 188) ⟨vals, []⟩ ((["self"] : List Str).zip (vals))) fun a0 => ?_
  refine v0 (P := fun vals => BindsTo s (FD p 188) ⟨a0 :: vals, []⟩ ((["self"] : List Str).zip (a0 :: vals))) ?_
  refine bnd ?_
  kernel_rfl
theorem fn_transformed (hK : g.K = K p) (hIn : (K p).In g.base) : Fn g 195 (msc 16) (mbd 16) ["self", "matrix"] := by
  refine fn_by hK hIn ?_ ?_ ?_ ?_
  · kernel_rfl
  · kernel_rfl
  · kernel_rfl
  intro s vals hX hl
  revert vals
  refine vS (P := fun vals => BindsTo s (FD p 195) ⟨vals, []⟩ ((["self", "matrix"] : List Str).zip (vals))) fun a0 => ?_
  refine vS (P := fun vals => BindsTo s (FD p 195) ⟨a0 :: vals, []⟩ ((["self", "matrix"] : List Str).zip (a0 :: vals))) fun a1 => ?_
  refine v0 (P := fun vals => BindsTo s (FD p 195) ⟨a0 :: a1 :: vals, []⟩ ((["self", "matrix"] : List Str).zip (a0 :: a1 :: vals))) ?_
  refine bnd ?_
  kernel_rfl
theorem exc_ok (hK : g.K = K p) (hIn : (K p).In g.base) (hE : g.exc = 45) : ExcOk g 29 := by
  refine ⟨?_, by rw [hK, hE]; kernel_rfl, by rw [hK]; kernel_rfl, by rw [hK, hE]; kernel_rfl, by rw [hK, hE]; kernel_rfl, by rw [hK, hE]; kernel_rfl, by rw [hK, hE]; kernel_rfl, ?_⟩
  · rw [hK, hE]
    exact ⟨_, _, _, _, _, _, _, _, _, _, _, _, _, _, _, by with_unfolding_all rfl⟩
  · refine ⟨FD p 29, ?p1, ?p2, ?p3, ?p4, fnok_by (p := p) (a := 29) hK hIn ?q1 ?q2 ?q3, ?q4, ?q5, ?q6⟩
    case q2 => with_unfolding_all rfl
    case q1 => kernel_rfl
    case q3 =>
      intro s vals hX hl
      revert vals
      refine vS (P := fun vals => BindsTo s (FD p 29) ⟨vals, []⟩ ((["self", "told"] : List Str).zip (vals))) fun a0 => ?_
      refine vS (P := fun vals => BindsTo s (FD p 29) ⟨a0 :: vals, []⟩ ((["self", "told"] : List Str).zip (a0 :: vals))) fun a1 => ?_
      refine v0 (P := fun vals => BindsTo s (FD p 29) ⟨a0 :: a1 :: vals, []⟩ ((["self", "told"] : List Str).zip (a0 :: a1 :: vals))) ?_
      refine binds_K hX (T := 22) (o := Obj.mk (Value.type "tuple") none (Data.seq #[Value.none] 0) #[]) ?_ ?_ rfl rfl ?_ <;> kernel_rfl
    case q4 => rw [show (FD p 29).scope = scopeOf (bd 2)[0]? by kernel_rfl]; decide +kernel
    case q5 => kernel_rfl
    case q6 => kernel_rfl
theorem words_of (hK : g.K = K p) (hIn : (K p).In g.base) : GlobIs g "_law_words" (.tup [.str "m", .str "l", .str "c", .str "z"]) :=
  glob_of hK (v := (Value.ref 285)) (by kernel_rfl) ⟨_, _, _, rfl, hIn 285 (Obj.mk (Value.type "tuple") none (Data.seq #[(Value.str (Str.ofString "m") 578), (Value.str (Str.ofString "l") 579), (Value.str (Str.ofString "c") 580), (Value.str (Str.ofString "z") 581)] 0) #[]) (by kernel_rfl), ⟨_, _, rfl, ⟨_, rfl⟩, _, _, rfl, ⟨_, rfl⟩, _, _, rfl, ⟨_, rfl⟩, _, _, rfl, ⟨_, rfl⟩, rfl⟩⟩
theorem prg (hK : g.K = K p) (hIn : (K p).In g.base) (hE : g.exc = 45) : Prg g where
  exc := exc_ok hK hIn hE
  excG := glob_of hK (v := .ref 45) (by kernel_rfl) (by rw [hE]; rfl)
  excK := by rw [hK, hE]; kernel_rfl
  Path := glob_of hK (v := .ref 198) (by kernel_rfl) rfl
  PathK := keep_of hK (by kernel_rfl)
  PathM := ⟨by rw [hK]; kernel_rfl, by rw [hK]; kernel_rfl, by rw [hK]; kernel_rfl⟩
  PathC := ⟨fun x => by rw [hK]; exact (by kernel_rfl : plainGet (K p) 198 "rows" = true), by rw [hK]; kernel_rfl, by rw [hK]; kernel_rfl, by rw [hK]; kernel_rfl⟩
  kept := by rw [hK]; kernel_rfl
  most := by rw [hK]; kernel_rfl
  begun := by rw [hK]; kernel_rfl
  point := by rw [hK]; kernel_rfl
  grain := glob_of hK (v := (Value.int 1000000 189)) (by kernel_rfl) ⟨_, rfl⟩
  halvings := glob_of hK (v := (Value.int 10 276)) (by kernel_rfl) ⟨_, rfl⟩
  words := words_of hK hIn
  unit := glob_of hK (v := (Value.int 1000 589)) (by kernel_rfl) ⟨_, rfl⟩
  len := glob_bi hK (by kernel_rfl) rfl (by decide) rfl
  abs := glob_bi hK (by kernel_rfl) rfl (by decide) rfl
  max := glob_bi hK (by kernel_rfl) rfl (by decide) rfl
  all := glob_bi hK (by kernel_rfl) rfl (by decide) rfl
  int := glob_bi hK (by kernel_rfl) rfl (by decide) rfl
  list := glob_bi hK (by kernel_rfl) rfl (by decide) rfl
  tuple := glob_bi hK (by kernel_rfl) rfl (by decide) rfl
  range := glob_bi hK (by kernel_rfl) rfl (by decide) rfl
  divided := ⟨glob_of hK (v := .ref 54) (by kernel_rfl) rfl, keep_of hK (by kernel_rfl), fn_divided hK hIn⟩
  transform := ⟨glob_of hK (v := .ref 61) (by kernel_rfl) rfl, keep_of hK (by kernel_rfl), fn_transform hK hIn⟩
  rows_transformed := ⟨glob_of hK (v := .ref 68) (by kernel_rfl) rfl, keep_of hK (by kernel_rfl), fn_rows_transformed hK hIn⟩
  path_of := ⟨glob_of hK (v := .ref 210) (by kernel_rfl) rfl, keep_of hK (by kernel_rfl), fn_path_of hK hIn⟩
  path_more := ⟨glob_of hK (v := .ref 217) (by kernel_rfl) rfl, keep_of hK (by kernel_rfl), fn_path_more hK hIn⟩
  path_points := ⟨glob_of hK (v := .ref 222) (by kernel_rfl) rfl, keep_of hK (by kernel_rfl), fn_path_points hK hIn⟩
  path_row := ⟨glob_of hK (v := .ref 229) (by kernel_rfl) rfl, keep_of hK (by kernel_rfl), fn_path_row hK hIn⟩
  path_subpaths := ⟨glob_of hK (v := .ref 243) (by kernel_rfl) rfl, keep_of hK (by kernel_rfl), fn_path_subpaths hK hIn⟩
  path_reversed := ⟨glob_of hK (v := .ref 248) (by kernel_rfl) rfl, keep_of hK (by kernel_rfl), fn_path_reversed hK hIn⟩
  path_half := ⟨glob_of hK (v := .ref 255) (by kernel_rfl) rfl, keep_of hK (by kernel_rfl), fn_path_half hK hIn⟩
  path_halves := ⟨glob_of hK (v := .ref 262) (by kernel_rfl) rfl, keep_of hK (by kernel_rfl), fn_path_halves hK hIn⟩
  path_is_flat := ⟨glob_of hK (v := .ref 269) (by kernel_rfl) rfl, keep_of hK (by kernel_rfl), fn_path_is_flat hK hIn⟩
  path_curve_ends := ⟨glob_of hK (v := .ref 276) (by kernel_rfl) rfl, keep_of hK (by kernel_rfl), fn_path_curve_ends hK hIn⟩
  path_flattened := ⟨glob_of hK (v := .ref 284) (by kernel_rfl) rfl, keep_of hK (by kernel_rfl), fn_path_flattened hK hIn⟩
  law_sizes := ⟨glob_of hK (v := .ref 292) (by kernel_rfl) rfl, keep_of hK (by kernel_rfl), fn_law_sizes hK hIn⟩
  law_draw := ⟨glob_of hK (v := .ref 299) (by kernel_rfl) rfl, keep_of hK (by kernel_rfl), fn_law_draw hK hIn⟩
  law_row := ⟨glob_of hK (v := .ref 304) (by kernel_rfl) rfl, keep_of hK (by kernel_rfl), fn_law_row hK hIn⟩
  law_after := ⟨glob_of hK (v := .ref 309) (by kernel_rfl) rfl, keep_of hK (by kernel_rfl), fn_law_after hK hIn⟩
  law_put := ⟨glob_of hK (v := .ref 316) (by kernel_rfl) rfl, keep_of hK (by kernel_rfl), fn_law_put hK hIn⟩
  law_backwards := ⟨glob_of hK (v := .ref 321) (by kernel_rfl) rfl, keep_of hK (by kernel_rfl), fn_law_backwards hK hIn⟩
  law_flat := ⟨glob_of hK (v := .ref 328) (by kernel_rfl) rfl, keep_of hK (by kernel_rfl), fn_law_flat hK hIn⟩
  law_stands := ⟨glob_of hK (v := .ref 333) (by kernel_rfl) rfl, keep_of hK (by kernel_rfl), fn_law_stands hK hIn⟩
  law_some_rows := ⟨glob_of hK (v := .ref 340) (by kernel_rfl) rfl, keep_of hK (by kernel_rfl), fn_law_some_rows hK hIn⟩
  init := fn_init hK hIn
  rows := ⟨meth_of hK (by kernel_rfl) (by kernel_rfl) (by kernel_rfl) (by kernel_rfl), fn_rows hK hIn⟩
  is_empty := ⟨meth_of hK (by kernel_rfl) (by kernel_rfl) (by kernel_rfl) (by kernel_rfl), fn_is_empty hK hIn⟩
  current := ⟨meth_of hK (by kernel_rfl) (by kernel_rfl) (by kernel_rfl) (by kernel_rfl), fn_current hK hIn⟩
  copy := ⟨meth_of hK (by kernel_rfl) (by kernel_rfl) (by kernel_rfl) (by kernel_rfl), fn_copy hK hIn⟩
  clear := ⟨meth_of hK (by kernel_rfl) (by kernel_rfl) (by kernel_rfl) (by kernel_rfl), fn_clear hK hIn⟩
  need_room := ⟨meth_of hK (by kernel_rfl) (by kernel_rfl) (by kernel_rfl) (by kernel_rfl), fn_need_room hK hIn⟩
  move := ⟨meth_of hK (by kernel_rfl) (by kernel_rfl) (by kernel_rfl) (by kernel_rfl), fn_move hK hIn⟩
  go_on := ⟨meth_of hK (by kernel_rfl) (by kernel_rfl) (by kernel_rfl) (by kernel_rfl), fn_go_on hK hIn⟩
  line := ⟨meth_of hK (by kernel_rfl) (by kernel_rfl) (by kernel_rfl) (by kernel_rfl), fn_line hK hIn⟩
  curve := ⟨meth_of hK (by kernel_rfl) (by kernel_rfl) (by kernel_rfl) (by kernel_rfl), fn_curve hK hIn⟩
  close := ⟨meth_of hK (by kernel_rfl) (by kernel_rfl) (by kernel_rfl) (by kernel_rfl), fn_close hK hIn⟩
  put_rows := ⟨meth_of hK (by kernel_rfl) (by kernel_rfl) (by kernel_rfl) (by kernel_rfl), fn_put_rows hK hIn⟩
  flattened := ⟨meth_of hK (by kernel_rfl) (by kernel_rfl) (by kernel_rfl) (by kernel_rfl), fn_flattened hK hIn⟩
  reversed := ⟨meth_of hK (by kernel_rfl) (by kernel_rfl) (by kernel_rfl) (by kernel_rfl), fn_reversed hK hIn⟩
  transformed := ⟨meth_of hK (by kernel_rfl) (by kernel_rfl) (by kernel_rfl) (by kernel_rfl), fn_transformed hK hIn⟩
end
end
section
theorem cells_law (L : Nat) : cellsFrom (L + 1) (sc 37).names [] = [(("row" : Str), L + 1 + 1 + 1), (("up" : Str), L + 1 + 1), (("across" : Str), L + 1)] := by with_unfolding_all rfl
section
variable {w : World} {s₁ : Shared} {h₁ : Heap} {tk : Nat} {fa a0 : Addr} {cd : Value} {name : Str} {mg mb m : Str → Option Value} {p : Program} {loose : List Str} {mean : ExcName → Option Value} {o1 o2 o3 : Obj} {vs : List Value} {ns : List Int}
noncomputable def gd (w : World) (h : Heap) : Gd := { exc := 45, base := h, prog := PySem.Challenge.rw_rh0179_02.row.prog, w := w, K := K w.params }
noncomputable def evL (name : Str) (L fa : Addr) (cd : Value) : Env := envOfC name (sc 37) L fa cd
noncomputable def fx (name : Str) (L fa : Addr) (cd : Value) : Fx := { A := callerA.deeper (evL name L fa cd), env := evL name L fa cd, frames := [evL name L fa cd], taken := [L, L + 1 + 1 + 1, L + 1 + 1, L + 1], mine := [L, L + 1 + 1 + 1, L + 1 + 1, L + 1] }
theorem fx_ok (L : Nat) : FxOk (fx name L fa cd) := by
  have hc : (fx name L fa cd).env.cells = [(("row" : Str), L + 1 + 1 + 1), (("up" : Str), L + 1 + 1), (("across" : Str), L + 1)] := cells_law L
  refine ⟨by with_unfolding_all rfl, rfl, rfl, Around.frames_deeper rfl, rfl, ?_, List.mem_cons_self, fun a ha => ha, ?_, ?_, ?_, ⟨L, evL name L fa cd, [], rfl, rfl, rfl⟩⟩
  · intro e he a ha
    rw [List.mem_singleton.mp he] at ha
    cases ha
    exact List.mem_cons_self
  · intro x c h
    rw [hc] at h
    simp only [List.mem_cons, List.not_mem_nil, or_false, Prod.mk.injEq] at h
    show c ∈ [L, L + 1 + 1 + 1, L + 1 + 1, L + 1]
    rcases h with ⟨_, rfl⟩ | ⟨_, rfl⟩ | ⟨_, rfl⟩ <;> simp
  · rw [hc]
    have e : ¬ (L + 1 + 1 : Nat) = L := by omega
    simp
    exact e
  · intro x c h
    rw [hc] at h
    simp only [List.mem_cons, List.not_mem_nil, or_false, Prod.mk.injEq] at h
    have e1 : (L + 1 + 1 + 1 : Nat) ≠ L := by omega
    have e2 : (L + 1 + 1 : Nat) ≠ L := by omega
    have e3 : (L + 1 : Nat) ≠ L := by omega
    rcases h with ⟨_, rfl⟩ | ⟨_, rfl⟩ | ⟨_, rfl⟩
    · exact e1
    · exact e2
    · exact e3
theorem fin_law {qk : Flow → Shared → Prop} {ek : Value → Shared → Prop} (KX : (K w.params).In s₁.heap) (T : Top p loose mean mg mb s₁.heap) (F : Fr s₁.heap s₁.heap.objs.size h₁ m)
    (N0 : News s₁.heap s₁.heap.objs.size h₁ [(s₁.heap.objs.size + 1 + 1 + 1, o1), (s₁.heap.objs.size + 1 + 1, o2), (s₁.heap.objs.size + 1, o3)])
    (c1 : ∃ v, o1.data = .cell v) (c2 : ∃ v, o2.data = .cell v) (c3 : ∃ v, o3.data = .cell v)
    (hL : s₁.heap.IsList a0 vs.toArray) (hI : IntsAre vs ns) (hlen : ns.length ≤ 63) (hm : m "script" = some (.ref a0))
    (hq : ∀ s', (∀ b o, s₁.heap.get? b = some o → s'.heap.get? b = some o) → s'.gens = s₁.gens → s'.os = s₁.os → qk (.ret (.bool true)) s') :
    wpAny (model PySem.Challenge.rw_rh0179_02.row.prog w) (callerA.deeper (envOfC name (sc 37) s₁.heap.objs.size fa cd)) (execs (bd 37) (envOfC name (sc 37) s₁.heap.objs.size fa cd)) qk ek { heap := h₁, gens := s₁.gens, drawn := s₁.drawn, toks := tk, os := s₁.os } := by
  have P : Prg (gd w s₁.heap) := prg (p := w.params) rfl KX rfl
  have hcells : ∀ q ∈ [(s₁.heap.objs.size + 1 + 1 + 1, o1), (s₁.heap.objs.size + 1 + 1, o2), (s₁.heap.objs.size + 1, o3)], ∃ v, q.2.data = .cell v := fun q hq => by
    simp only [List.mem_cons, List.not_mem_nil, or_false] at hq
    rcases hq with rfl | rfl | rfl
    · exact c1
    · exact c2
    · exact c3
  have hX : FxOk (fx name s₁.heap.objs.size fa cd) := fx_ok _
  have hA : At (gd w s₁.heap) (fx name s₁.heap.objs.size fa cd) (sc 37) (0 + 14) :=
    ⟨⟨KX, T.nolimit, mg, mb, T.g, T.b, T.builtins⟩, hX, rfl, by show (1 + claimMargin + 1) + (0 + 14) < recursionLimit; decide, by show 4 + 3 + 8 * (0 + 14) < cLine; decide⟩
  have hC : CellsMine (fx name s₁.heap.objs.size fa cd) := fun x c h => hX.cells x c h
  have hce : (fx name s₁.heap.objs.size fa cd).env.cells = [(("row" : Str), s₁.heap.objs.size + 1 + 1 + 1), (("up" : Str), s₁.heap.objs.size + 1 + 1), (("across" : Str), s₁.heap.objs.size + 1)] := cells_law _
  have hnew : s₁.heap.get? s₁.heap.objs.size = none := fresh_none _
  obtain ⟨oL, esL, epL, hoL, hdL, hrL⟩ := id F.ns
  have hr : Rep (gd w s₁.heap) (fx name s₁.heap.objs.size fa cd) ⟨bindD ["script"] [.ref a0] noLoc, noMem⟩ { heap := h₁, gens := s₁.gens, drawn := s₁.drawn, toks := tk, os := s₁.os } := by
    refine ⟨F.keep, ⟨?_, ⟨s₁.heap.objs.size, oL, rfl, hnew, hoL, fun vs q => by rw [hdL] at q; cases q⟩, trivial⟩, ?_, ⟨m, F.ns, ?_⟩, ?_, fun a c e => by cases e⟩
    · have hk : (evL name s₁.heap.objs.size fa cd).scope.kind = .function := hX.kind
      rw [hk]; decide
    · intro b hb
      rcases List.mem_cons.mp hb with rfl | hb
      · exact ⟨hnew, oL, hoL, .inl ⟨esL, epL, hdL⟩⟩
      · have : ∃ o, (b, o) ∈ [(s₁.heap.objs.size + 1 + 1 + 1, o1), (s₁.heap.objs.size + 1 + 1, o2), (s₁.heap.objs.size + 1, o3)] := by
          simp only [List.mem_cons, List.not_mem_nil, or_false] at hb
          rcases hb with rfl | rfl | rfl
          · exact ⟨o1, by simp⟩
          · exact ⟨o2, by simp⟩
          · exact ⟨o3, by simp⟩
        obtain ⟨o, ho⟩ := this
        obtain ⟨h1, h2, h3⟩ := N0 _ ho
        exact ⟨h3, o, h1, .inr (hcells _ ho)⟩
    · intro x d hx
      dsimp only at hx
      have : x = "script" ∧ d = .ref a0 := by
        by_cases z : x = "script"
        · subst z
          exact ⟨rfl, (Option.some.inj (hx.symm.trans rfl))⟩
        · have : (bindD ["script"] [.ref a0] noLoc) x = none := if_neg z
          rw [this] at hx; cases hx
      obtain ⟨rfl, rfl⟩ := this
      exact .inl ⟨by with_unfolding_all rfl, _, hm, rfl⟩
    · intro x c h
      rw [hce] at h
      simp only [List.mem_cons, List.not_mem_nil, or_false, Prod.mk.injEq] at h
      rcases h with ⟨_, rfl⟩ | ⟨_, rfl⟩ | ⟨_, rfl⟩
      · obtain ⟨v, hv⟩ := c1; exact ⟨v, o1, (N0 _ (.head _)).1, hv⟩
      · obtain ⟨v, hv⟩ := c2; exact ⟨v, o2, (N0 _ (.tail _ (.head _))).1, hv⟩
      · obtain ⟨v, hv⟩ := c3; exact ⟨v, o3, (N0 _ (.tail _ (.tail _ (.head _)))).1, hv⟩
  have key := c_law (n := 0) P hA hC (by rw [hce]; rfl) (by rw [hce]; rfl) (by rw [hce]; rfl) hL (by rw [List.toList_toArray]; exact hI) hlen _ hr
  refine wpAny_mono key (fun f s' ⟨b, st', h1, h2, h3, h4⟩ => ?_) fun e s' ⟨told, st', _, _, hf⟩ => hf.elim
  subst h4
  obtain ⟨v, rfl, rfl⟩ := h1
  exact hq s' h2.stays h3.gens h3.os
end
end
end Mine
set_option maxRecDepth 100000 in
set_option maxHeartbeats 8000000 in
theorem PySem.Challenge.cw_rh0179_02_holds : PySem.Challenge.rw_rh0179_02.Holds := by
  w_on
  refine holds_law Mine.said fun said => ?_
  refine holds_open (q := Mine.view) (loose := Mine.loose) (Xt := fun s => xlAt Mine.view [] s && recOk [] s) (XP := XL Mine.view []) (Yf := Hook.obs Mine.HK) (Ya := Hook.val Mine.HK) (YP := Hook.says Mine.HK) (N := 4252)
    Mine.left (Hook.of Mine.HK) (Hook.keeps Mine.HK) (fun s e => xl_of s (Bool.and_eq_true_iff.mp e).1) XL.keeps (by rfl) (by rfl) (by rfl) (fun s e => recFacts_of (Bool.and_eq_true_iff.mp e).2) (by kernel_rfl) said (by kernel_rfl) ⟨rfl, rfl, rfl, rfl, rfl, by decide +kernel⟩ ?hw ?hc
  case hw => w_witness2
  case hc =>
    generalize Mine.view = q
    k_go0
    (all_goals try k_fold)
    all_goals (
      refine Mine.fin_law (by assumption) (by assumption) (by assumption) (by assumption) ⟨_, by assumption⟩ ⟨_, by assumption⟩ ⟨_, by assumption⟩ (by assumption) (by assumption) (by omega) ?_ ?_
      · rfl
      · intro s' hk' hgn' hos'
        refine ⟨.inl ⟨.bool true, .bool true, [], rfl, raisesW_false ?_, .bool true, ?_, unshared_nil⟩, hk', hos', hgn'.trans (by assumption)⟩
        · wrow_none_raised
        · wrow_post)
