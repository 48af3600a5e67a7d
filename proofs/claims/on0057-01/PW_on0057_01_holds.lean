import PyProof.Rows.All
import Wide.All
import OpenK.AllK
import Wide.FinOn
import KE.BitLaws
import Lean
import PySem.Challenge.RW_on0057_01
set_option Elab.async false
set_option maxRecDepth 100000
set_option linter.all false
set_option maxHeartbeats 4000000
namespace Mine
noncomputable section
open PySem PySem.W PyProof.Rows PySem.Calls
noncomputable abbrev pw : Program := PySem.Challenge.pw_on0057_01
noncomputable def pass0 : Stmt := .Pass ⟨0, 0, 0, 0⟩
noncomputable def D (i : Nat) : Stmt := (PySem.Challenge.pw_on0057_01.main.body[i]?).getD pass0
noncomputable def M (i j : Nat) : Stmt := match D i with
  | .ClassDef _ _ _ b _ _ _ _ _ _ _ => (b[j]?).getD pass0
  | s => s
noncomputable def pA : Stmt → Arguments
  | .FunctionDef _ a _ _ _ _ _ _ _ _ => a
  | _ => { posonlyargs := [], args := [], vararg := none, kwonlyargs := [], kw_defaults := [], kwarg := none, defaults := [] }
noncomputable def pB : Stmt → List Stmt
  | .FunctionDef _ _ b _ _ _ _ _ _ _ => b
  | _ => []
noncomputable def pS : Stmt → Scope
  | .FunctionDef _ _ _ _ _ _ s _ _ _ => s
  | _ => PySem.Challenge.pw_on0057_01.main.scope
noncomputable def bE : List Stmt := behindTheImports PySem.Challenge.pw_on0057_01
noncomputable def env0 : Env := { scope := PySem.Challenge.pw_on0057_01.main.scope, locals := mainNs, globals := mainNs, cells := [], code := .ref 13, frame := some 14 }
noncomputable def cE : Code := .body bE env0
noncomputable def topB : List Frame := [topFrame ⟨0, 0, 0, 0⟩]
noncomputable def life0 : Life := {}
noncomputable abbrev nd := BT.node
noncomputable abbrev nl := BT.nil
noncomputable def addT (s : Array (Int × Value) × Nat × SetTable) (h : Int) (x : Value) : Array (Int × Value) × Nat × SetTable :=
  let r := layNew s.2.2 s.1 h x
  let t : SetTable := { r.2.1 with plain := false }
  match !r.2.2.1 && t.tooFull with
  | true => ((relayAll t r.1 (SetTable.grown r.1.size)).1, s.2.1 + 1 + 1, (relayAll t r.1 (SetTable.grown r.1.size)).2.1)
  | false => (r.1, s.2.1 + 1, t)
noncomputable def addS (P : Params) (s : Array (Int × Value) × Nat × SetTable) (c : Str × Nat) : Array (Int × Value) × Nat × SetTable := addT s (PyData.keyHash P c.1) (.str c.1 c.2)
noncomputable def start0 (P : Params) : Array (Int × Value) × Nat × SetTable := (#[], 0, SetTable.fresh 0 0 (!P.followText "set-order"))
noncomputable def addsOf (P : Params) (l : List (Str × Nat)) : Array (Int × Value) × Nat × SetTable := l.foldl (addS P) (start0 P)
noncomputable def setObj (s : Array (Int × Value) × Nat × SetTable) : Obj := ⟨.type "set", none, .set s.1 s.2.1 s.2.2, #[]⟩
noncomputable def csD : List (Str × Nat) := [("0", 255), ("1", 257), ("2", 259), ("3", 261), ("4", 263), ("5", 265), ("6", 267), ("7", 269), ("8", 271), ("9", 273)]
noncomputable def csH : List (Str × Nat) := [("0", 277), ("1", 279), ("2", 281), ("3", 283), ("4", 285), ("5", 287), ("6", 289), ("7", 291), ("8", 293), ("9", 295), ("a", 297), ("b", 299), ("c", 301), ("d", 303), ("e", 305), ("f", 307), ("A", 309), ("B", 311), ("C", 313), ("D", 315), ("E", 317), ("F", 319)]
noncomputable def csO : List (Str × Nat) := [("0", 323), ("1", 325), ("2", 327), ("3", 329), ("4", 331), ("5", 333), ("6", 335), ("7", 337)]
noncomputable def csS : List (Str × Nat) := [("", 340), ("u", 341), ("l", 342), ("ul", 343), ("lu", 344)]
noncomputable def setD (P : Params) : Obj := setObj (addsOf P csD)
noncomputable def setH (P : Params) : Obj := setObj (addsOf P csH)
noncomputable def setO (P : Params) : Obj := setObj (addsOf P csO)
noncomputable def setSx (P : Params) : Array (Int × Value) × Nat × SetTable := ((addsOf P csS).1, (addsOf P csS).2.1 + 1, { (addsOf P csS).2.2 with led := false })
noncomputable def setS (P : Params) : Obj := setObj (setSx P)
noncomputable def o11_z (P : Params) : Obj := ⟨(.type "tuple"), none, (.seq #[] 0), #[]⟩
noncomputable def o12_z (P : Params) : Obj := ⟨.none, none, (.fields #[]), #[]⟩
noncomputable def o13_z (P : Params) : Obj := ⟨(.type "code"), none, (.fields #[(.str "<module>" 182), (.str "<module>" 183), (.str "/claim/cut.py" 184), (.int 1 0), (.int 0 0), (.int 0 0), (.int 0 0), (.int 0 0), (.ref 11), (.bool false), (.int 181 0), (.ref 12), .none, .none, .none, .none, (.int 185 0), (.int 1 0), (.str "/claim/cut.py" 186)]), #[]⟩
noncomputable def o14_z (P : Params) : Obj := ⟨(.type "frame"), none, .plain, #[(some (.ref 13)), (some (.ref 3)), (some (.ref 3)), none, (some (.str "__main__" 164)), none, (some (.ref 0))]⟩
noncomputable def T_z (P : Params) : BT := (nd (boot_o_0 P) (nd (boot_o_1 P) (nd (boot_o_3 P) (nd (boot_o_7 P) nl nl) (nd (o11_z P) nl nl)) (nd (boot_o_5 P) (nd (boot_o_9 P) nl nl) (nd (o13_z P) nl nl))) (nd (boot_o_2 P) (nd (boot_o_4 P) (nd (boot_o_8 P) nl nl) (nd (o12_z P) nl nl)) (nd (boot_o_6 P) (nd (boot_o_10 P) nl nl) (nd (o14_z P) nl nl))))
noncomputable def S_z (w : World) (os : OsState) : SharedT := ⟨T_z w.params, 15, life0, Array.mk [], boot_drawn, 187, os⟩
noncomputable def o2_a (P : Params) : Obj := ⟨.none, none, (.dict #[⟨PyData.keyHash P "type.__subclasses__.Exception.0", (.str "type.__subclasses__.Exception.0" 232), (.int 45 0)⟩, ⟨PyData.keyHash P "type.__subclasses__.Exception.n", (.str "type.__subclasses__.Exception.n" 233), (.int 1 0)⟩] 2), #[]⟩
noncomputable def o3_a (P : Params) : Obj := ⟨(.type "dict"), none, (.dict #[⟨PyData.keyHash P "__name__", (.str "__name__" 165), (.str "corecc.scanner" 252)⟩, ⟨PyData.keyHash P "__doc__", (.str "__doc__" 166), .none⟩, ⟨PyData.keyHash P "__package__", (.str "__package__" 167), .none⟩, ⟨PyData.keyHash P "__loader__", (.str "__loader__" 168), (.builtin "__main__.__loader__#opaque")⟩, ⟨PyData.keyHash P "__spec__", (.str "__spec__" 169), .none⟩, ⟨PyData.keyHash P "__annotations__", (.str "__annotations__" 170), (.ref 6)⟩, ⟨PyData.keyHash P "__builtins__", (.str "__builtins__" 171), (.ref 4)⟩, ⟨PyData.keyHash P "__file__", (.str "__file__" 173), (.str "/claim/cut.py" 172)⟩, ⟨PyData.keyHash P "__cached__", (.str "__cached__" 174), .none⟩, ⟨PyData.keyHash P "_wall", (.str "_wall" 193), (.ref 21)⟩, ⟨PyData.keyHash P "CompileFault", (.str "CompileFault" 235), (.ref 45)⟩, ⟨PyData.keyHash P "DirectiveFault", (.str "DirectiveFault" 251), (.ref 58)⟩] 12), #[]⟩
noncomputable def o12_a (P : Params) : Obj := ⟨.none, none, (.fields #[(.int 1 0), (.int 0 0), (.ref 20), (.int 5 0), (.int 0 0), (.ref 27), (.int 15 0), (.int 0 0), (.ref 54)]), #[]⟩
noncomputable def o15_a (P : Params) : Obj := ⟨(.type "tuple"), none, (.seq #[] 0), #[]⟩
noncomputable def o16_a (P : Params) : Obj := ⟨.none, none, (.fields #[]), #[]⟩
noncomputable def o17_a (P : Params) : Obj := ⟨(.type "tuple"), none, (.seq #[(.str "k" 190)] 0), #[]⟩
noncomputable def o18_a (P : Params) : Obj := ⟨(.type "tuple"), none, (.seq #[] 0), #[]⟩
noncomputable def o19_a (P : Params) : Obj := ⟨.none, none, (.func { name := "_wall", qualname := "_wall", params := pA (D 0), body := .stmts (pB (D 0)), scope := pS (D 0), globals := 0, closure := [], defaults := .none, kwdefaults := .none, doc := .none, pyModule := .none, annotations := none, code := .none, closureTuple := .none, builtins := 0 }), #[]⟩
noncomputable def o20_a (P : Params) : Obj := ⟨(.type "code"), none, (.fields #[(.str "_wall" 187), (.str "_wall" 188), (.str "/claim/cut.py" 189), (.int 1 0), (.int 1 0), (.int 0 0), (.int 0 0), (.int 3 0), (.ref 15), (.bool true), (.int 181 0), (.ref 16), .none, (.ref 17), (.ref 18), (.ref 19), (.int 191 0), (.int 1 0), (.str "/claim/cut.py" 192)]), #[]⟩
noncomputable def o21_a (P : Params) : Obj := ⟨(.type "function"), none, (.func { name := "_wall", qualname := "_wall", params := pA (D 0), body := .stmts (pB (D 0)), scope := pS (D 0), globals := 3, closure := [], defaults := .none, kwdefaults := .none, doc := .none, pyModule := (.str "__main__" 164), annotations := none, code := (.ref 20), closureTuple := .none, builtins := 0 }), #[]⟩
noncomputable def o22_a (P : Params) : Obj := ⟨(.type "tuple"), none, (.seq #[(.type "Exception")] 0), #[]⟩
noncomputable def o23_a (P : Params) : Obj := ⟨(.type "builtin_function_or_method"), none, (.fields #[(.builtin "type.__prepare__"), (.type "type")]), #[]⟩
noncomputable def o24_a (P : Params) : Obj := ⟨(.type "dict"), none, (.dict #[⟨PyData.keyHash P "__module__", (.str "__module__" 203), (.str "corecc.errors" 194)⟩, ⟨PyData.keyHash P "__qualname__", (.str "__qualname__" 205), (.str "CompileFault" 204)⟩, ⟨PyData.keyHash P "__firstlineno__", (.str "__firstlineno__" 207), (.int 5 206)⟩, ⟨PyData.keyHash P "__init__", (.str "__init__" 217), (.ref 35)⟩, ⟨PyData.keyHash P "place", (.str "place" 224), (.ref 42)⟩, ⟨PyData.keyHash P "__static_attributes__", (.str "__static_attributes__" 228), (.ref 43)⟩] 6), #[]⟩
noncomputable def o25_a (P : Params) : Obj := ⟨(.type "tuple"), none, (.seq #[] 0), #[]⟩
noncomputable def o26_a (P : Params) : Obj := ⟨.none, none, (.fields #[(.int 7 0), (.int 4 0), (.ref 34), (.int 13 0), (.int 4 0), (.ref 41)]), #[]⟩
noncomputable def o27_a (P : Params) : Obj := ⟨(.type "code"), none, (.fields #[(.str "CompileFault" 198), (.str "CompileFault" 199), (.str "/claim/cut.py" 200), (.int 5 0), (.int 0 0), (.int 0 0), (.int 0 0), (.int 0 0), (.ref 25), (.bool false), (.int 181 0), (.ref 26), .none, .none, .none, .none, (.int 201 0), (.int 5 0), (.str "/claim/cut.py" 202)]), #[]⟩
noncomputable def o28_a (P : Params) : Obj := ⟨(.type "frame"), none, .plain, #[(some (.ref 27)), (some (.ref 3)), (some (.ref 24)), none, (some (.str "corecc.errors" 194)), none, (some (.ref 0))]⟩
noncomputable def o29_a (P : Params) : Obj := ⟨(.type "tuple"), none, (.seq #[] 0), #[]⟩
noncomputable def o30_a (P : Params) : Obj := ⟨.none, none, (.fields #[]), #[]⟩
noncomputable def o31_a (P : Params) : Obj := ⟨(.type "tuple"), none, (.seq #[(.str "self" 211), (.str "word" 212), (.str "file" 213), (.str "line" 214)] 0), #[]⟩
noncomputable def o32_a (P : Params) : Obj := ⟨(.type "tuple"), none, (.seq #[] 0), #[]⟩
noncomputable def o33_a (P : Params) : Obj := ⟨.none, none, (.func { name := "__init__", qualname := "CompileFault.__init__", params := pA (M 2 0), body := .stmts (pB (M 2 0)), scope := pS (M 2 0), globals := 0, closure := [], defaults := .none, kwdefaults := .none, doc := .none, pyModule := .none, annotations := none, code := .none, closureTuple := .none, builtins := 0 }), #[]⟩
noncomputable def o34_a (P : Params) : Obj := ⟨(.type "code"), none, (.fields #[(.str "__init__" 208), (.str "CompileFault.__init__" 209), (.str "/claim/cut.py" 210), (.int 7 0), (.int 4 0), (.int 0 0), (.int 0 0), (.int 3 0), (.ref 29), (.bool true), (.int 181 0), (.ref 30), .none, (.ref 31), (.ref 32), (.ref 33), (.int 215 0), (.int 7 0), (.str "/claim/cut.py" 216)]), #[]⟩
noncomputable def o35_a (P : Params) : Obj := ⟨(.type "function"), none, (.func { name := "__init__", qualname := "CompileFault.__init__", params := pA (M 2 0), body := .stmts (pB (M 2 0)), scope := pS (M 2 0), globals := 3, closure := [], defaults := .none, kwdefaults := .none, doc := .none, pyModule := (.str "corecc.errors" 194), annotations := none, code := (.ref 34), closureTuple := .none, builtins := 0 }), #[]⟩
noncomputable def o36_a (P : Params) : Obj := ⟨(.type "tuple"), none, (.seq #[] 0), #[]⟩
noncomputable def o37_a (P : Params) : Obj := ⟨.none, none, (.fields #[]), #[]⟩
noncomputable def o38_a (P : Params) : Obj := ⟨(.type "tuple"), none, (.seq #[(.str "self" 221)] 0), #[]⟩
noncomputable def o39_a (P : Params) : Obj := ⟨(.type "tuple"), none, (.seq #[] 0), #[]⟩
noncomputable def o40_a (P : Params) : Obj := ⟨.none, none, (.func { name := "place", qualname := "CompileFault.place", params := pA (M 2 1), body := .stmts (pB (M 2 1)), scope := pS (M 2 1), globals := 0, closure := [], defaults := .none, kwdefaults := .none, doc := .none, pyModule := .none, annotations := none, code := .none, closureTuple := .none, builtins := 0 }), #[]⟩
noncomputable def o41_a (P : Params) : Obj := ⟨(.type "code"), none, (.fields #[(.str "place" 218), (.str "CompileFault.place" 219), (.str "/claim/cut.py" 220), (.int 13 0), (.int 1 0), (.int 0 0), (.int 0 0), (.int 3 0), (.ref 36), (.bool true), (.int 181 0), (.ref 37), .none, (.ref 38), (.ref 39), (.ref 40), (.int 222 0), (.int 13 0), (.str "/claim/cut.py" 223)]), #[]⟩
noncomputable def o42_a (P : Params) : Obj := ⟨(.type "function"), none, (.func { name := "place", qualname := "CompileFault.place", params := pA (M 2 1), body := .stmts (pB (M 2 1)), scope := pS (M 2 1), globals := 3, closure := [], defaults := .none, kwdefaults := .none, doc := .none, pyModule := (.str "corecc.errors" 194), annotations := none, code := (.ref 41), closureTuple := .none, builtins := 0 }), #[]⟩
noncomputable def o43_a (P : Params) : Obj := ⟨(.type "tuple"), none, (.seq #[(.str "file" 225), (.str "line" 226), (.str "word" 227)] 0), #[]⟩
noncomputable def o44_a (P : Params) : Obj := ⟨(.type "dict"), none, (.dict #[⟨PyData.keyHash P "__module__", (.str "__module__" 203), (.str "corecc.errors" 194)⟩, ⟨PyData.keyHash P "__firstlineno__", (.str "__firstlineno__" 207), (.int 5 206)⟩, ⟨PyData.keyHash P "__init__", (.str "__init__" 217), (.ref 35)⟩, ⟨PyData.keyHash P "place", (.str "place" 224), (.ref 42)⟩, ⟨PyData.keyHash P "__static_attributes__", (.str "__static_attributes__" 228), (.ref 43)⟩, ⟨PyData.keyHash P "__weakref__", (.str "__weakref__" 230), (.ref 46)⟩, ⟨PyData.keyHash P "__doc__", (.str "__doc__" 231), .none⟩] 3), #[]⟩
noncomputable def o45_a (P : Params) : Obj := ⟨(.type "type"), none, (.cls { name := "CompileFault", bases := [(.type "Exception")], mro := [(.ref 45), (.type "Exception"), (.type "BaseException"), (.type "object")], ns := 44, qualname := "CompileFault", hasDict := true, slotNames := [], subclasses := [(.ref 58)], abstract := false, collection := none, hasDel := false }), #[(some (.ref 22)), none, (some (.str "CompileFault" 196)), (some (.str "CompileFault" 204)), (some (.builtin "Exception.__new__")), (some (.bool true))]⟩
noncomputable def o46_a (P : Params) : Obj := ⟨(.type "getset_descriptor"), none, (.fields #[(.str "__weakref__" 229), (.ref 45), (.builtin "ExceptionGroup.__weakref__"), .none]), #[]⟩
noncomputable def o47_a (P : Params) : Obj := ⟨(.type "super"), none, (.fields #[(.ref 45), (.ref 45), (.ref 45)]), #[]⟩
noncomputable def o48_a (P : Params) : Obj := ⟨(.type "builtin_function_or_method"), none, (.fields #[(.builtin "object.__init_subclass__"), (.ref 45)]), #[]⟩
noncomputable def o49_a (P : Params) : Obj := ⟨(.type "tuple"), none, (.seq #[(.ref 45)] 0), #[]⟩
noncomputable def o50_a (P : Params) : Obj := ⟨(.type "builtin_function_or_method"), none, (.fields #[(.builtin "type.__prepare__"), (.type "type")]), #[]⟩
noncomputable def o51_a (P : Params) : Obj := ⟨(.type "dict"), none, (.dict #[⟨PyData.keyHash P "__module__", (.str "__module__" 243), (.str "corecc.errors" 194)⟩, ⟨PyData.keyHash P "__qualname__", (.str "__qualname__" 245), (.str "DirectiveFault" 244)⟩, ⟨PyData.keyHash P "__firstlineno__", (.str "__firstlineno__" 247), (.int 15 246)⟩, ⟨PyData.keyHash P "__static_attributes__", (.str "__static_attributes__" 248), (.ref 56)⟩] 4), #[]⟩
noncomputable def o52_a (P : Params) : Obj := ⟨(.type "tuple"), none, (.seq #[] 0), #[]⟩
noncomputable def o53_a (P : Params) : Obj := ⟨.none, none, (.fields #[]), #[]⟩
noncomputable def o54_a (P : Params) : Obj := ⟨(.type "code"), none, (.fields #[(.str "DirectiveFault" 238), (.str "DirectiveFault" 239), (.str "/claim/cut.py" 240), (.int 15 0), (.int 0 0), (.int 0 0), (.int 0 0), (.int 0 0), (.ref 52), (.bool false), (.int 181 0), (.ref 53), .none, .none, .none, .none, (.int 241 0), (.int 15 0), (.str "/claim/cut.py" 242)]), #[]⟩
noncomputable def o55_a (P : Params) : Obj := ⟨(.type "frame"), none, .plain, #[(some (.ref 54)), (some (.ref 3)), (some (.ref 51)), none, (some (.str "corecc.errors" 194)), none, (some (.ref 0))]⟩
noncomputable def o56_a (P : Params) : Obj := ⟨(.type "tuple"), none, (.seq #[] 0), #[]⟩
noncomputable def o57_a (P : Params) : Obj := ⟨(.type "dict"), none, (.dict #[⟨PyData.keyHash P "__module__", (.str "__module__" 243), (.str "corecc.errors" 194)⟩, ⟨PyData.keyHash P "__firstlineno__", (.str "__firstlineno__" 247), (.int 15 246)⟩, ⟨PyData.keyHash P "__static_attributes__", (.str "__static_attributes__" 248), (.ref 56)⟩, ⟨PyData.keyHash P "__doc__", (.str "__doc__" 249), .none⟩] 2), #[]⟩
noncomputable def o58_a (P : Params) : Obj := ⟨(.type "type"), none, (.cls { name := "DirectiveFault", bases := [(.ref 45)], mro := [(.ref 58), (.ref 45), (.type "Exception"), (.type "BaseException"), (.type "object")], ns := 57, qualname := "DirectiveFault", hasDict := true, slotNames := [], subclasses := [], abstract := false, collection := none, hasDel := false }), #[(some (.ref 49)), none, (some (.str "DirectiveFault" 236)), (some (.str "DirectiveFault" 244)), (some (.builtin "Exception.__new__")), (some (.bool true))]⟩
noncomputable def o59_a (P : Params) : Obj := ⟨(.type "super"), none, (.fields #[(.ref 58), (.ref 58), (.ref 58)]), #[]⟩
noncomputable def o60_a (P : Params) : Obj := ⟨(.type "builtin_function_or_method"), none, (.fields #[(.builtin "object.__init_subclass__"), (.ref 58)]), #[]⟩
noncomputable def T_a (P : Params) : BT := (nd (boot_o_0 P) (nd (boot_o_1 P) (nd (o3_a P) (nd (boot_o_7 P) (nd (o15_a P) (nd (o31_a P) nl nl) (nd (o47_a P) nl nl)) (nd (o23_a P) (nd (o39_a P) nl nl) (nd (o55_a P) nl nl))) (nd (o11_z P) (nd (o19_a P) (nd (o35_a P) nl nl) (nd (o51_a P) nl nl)) (nd (o27_a P) (nd (o43_a P) nl nl) (nd (o59_a P) nl nl)))) (nd (boot_o_5 P) (nd (boot_o_9 P) (nd (o17_a P) (nd (o33_a P) nl nl) (nd (o49_a P) nl nl)) (nd (o25_a P) (nd (o41_a P) nl nl) (nd (o57_a P) nl nl))) (nd (o13_z P) (nd (o21_a P) (nd (o37_a P) nl nl) (nd (o53_a P) nl nl)) (nd (o29_a P) (nd (o45_a P) nl nl) nl)))) (nd (o2_a P) (nd (boot_o_4 P) (nd (boot_o_8 P) (nd (o16_a P) (nd (o32_a P) nl nl) (nd (o48_a P) nl nl)) (nd (o24_a P) (nd (o40_a P) nl nl) (nd (o56_a P) nl nl))) (nd (o12_a P) (nd (o20_a P) (nd (o36_a P) nl nl) (nd (o52_a P) nl nl)) (nd (o28_a P) (nd (o44_a P) nl nl) (nd (o60_a P) nl nl)))) (nd (boot_o_6 P) (nd (boot_o_10 P) (nd (o18_a P) (nd (o34_a P) nl nl) (nd (o50_a P) nl nl)) (nd (o26_a P) (nd (o42_a P) nl nl) (nd (o58_a P) nl nl))) (nd (o14_z P) (nd (o22_a P) (nd (o38_a P) nl nl) (nd (o54_a P) nl nl)) (nd (o30_a P) (nd (o46_a P) nl nl) nl)))))
noncomputable def S_a (w : World) (os : OsState) : SharedT := ⟨T_a w.params, 61, life0, Array.mk [], boot_drawn, 254, os⟩
noncomputable def o3_b (P : Params) : Obj := ⟨(.type "dict"), none, (.dict #[⟨PyData.keyHash P "__name__", (.str "__name__" 165), (.str "corecc.scanner" 252)⟩, ⟨PyData.keyHash P "__doc__", (.str "__doc__" 166), .none⟩, ⟨PyData.keyHash P "__package__", (.str "__package__" 167), .none⟩, ⟨PyData.keyHash P "__loader__", (.str "__loader__" 168), (.builtin "__main__.__loader__#opaque")⟩, ⟨PyData.keyHash P "__spec__", (.str "__spec__" 169), .none⟩, ⟨PyData.keyHash P "__annotations__", (.str "__annotations__" 170), (.ref 6)⟩, ⟨PyData.keyHash P "__builtins__", (.str "__builtins__" 171), (.ref 4)⟩, ⟨PyData.keyHash P "__file__", (.str "__file__" 173), (.str "/claim/cut.py" 172)⟩, ⟨PyData.keyHash P "__cached__", (.str "__cached__" 174), .none⟩, ⟨PyData.keyHash P "_wall", (.str "_wall" 193), (.ref 21)⟩, ⟨PyData.keyHash P "CompileFault", (.str "CompileFault" 235), (.ref 45)⟩, ⟨PyData.keyHash P "DirectiveFault", (.str "DirectiveFault" 251), (.ref 58)⟩, ⟨PyData.keyHash P "DIGITS", (.str "DIGITS" 275), (.ref 61)⟩] 13), #[]⟩
noncomputable def o62_b (P : Params) : Obj := ⟨(.type "str_ascii_iterator"), none, (.fields #[.none, (.int 10 0)]), #[]⟩
noncomputable def o63_b (P : Params) : Obj := ⟨(.type "tuple"), none, (.seq #[] 0), #[]⟩
noncomputable def o64_b (P : Params) : Obj := ⟨(.type "StopIteration"), none, (.fields #[(.ref 63), .none, .none, .none, (.bool false), .none]), #[]⟩
noncomputable def T_b (P : Params) : BT := (nd (boot_o_0 P) (nd (boot_o_1 P) (nd (o3_b P) (nd (boot_o_7 P) (nd (o15_a P) (nd (o31_a P) (nd (o63_b P) nl nl) nl) (nd (o47_a P) nl nl)) (nd (o23_a P) (nd (o39_a P) nl nl) (nd (o55_a P) nl nl))) (nd (o11_z P) (nd (o19_a P) (nd (o35_a P) nl nl) (nd (o51_a P) nl nl)) (nd (o27_a P) (nd (o43_a P) nl nl) (nd (o59_a P) nl nl)))) (nd (boot_o_5 P) (nd (boot_o_9 P) (nd (o17_a P) (nd (o33_a P) nl nl) (nd (o49_a P) nl nl)) (nd (o25_a P) (nd (o41_a P) nl nl) (nd (o57_a P) nl nl))) (nd (o13_z P) (nd (o21_a P) (nd (o37_a P) nl nl) (nd (o53_a P) nl nl)) (nd (o29_a P) (nd (o45_a P) nl nl) (nd (setD P) nl nl))))) (nd (o2_a P) (nd (boot_o_4 P) (nd (boot_o_8 P) (nd (o16_a P) (nd (o32_a P) (nd (o64_b P) nl nl) nl) (nd (o48_a P) nl nl)) (nd (o24_a P) (nd (o40_a P) nl nl) (nd (o56_a P) nl nl))) (nd (o12_a P) (nd (o20_a P) (nd (o36_a P) nl nl) (nd (o52_a P) nl nl)) (nd (o28_a P) (nd (o44_a P) nl nl) (nd (o60_a P) nl nl)))) (nd (boot_o_6 P) (nd (boot_o_10 P) (nd (o18_a P) (nd (o34_a P) nl nl) (nd (o50_a P) nl nl)) (nd (o26_a P) (nd (o42_a P) nl nl) (nd (o58_a P) nl nl))) (nd (o14_z P) (nd (o22_a P) (nd (o38_a P) nl nl) (nd (o54_a P) nl nl)) (nd (o30_a P) (nd (o46_a P) nl nl) (nd (o62_b P) nl nl))))))
noncomputable def S_b (w : World) (os : OsState) : SharedT := ⟨T_b w.params, 65, life0, Array.mk [], boot_drawn, 276, os⟩
noncomputable def o3_c (P : Params) : Obj := ⟨(.type "dict"), none, (.dict #[⟨PyData.keyHash P "__name__", (.str "__name__" 165), (.str "corecc.scanner" 252)⟩, ⟨PyData.keyHash P "__doc__", (.str "__doc__" 166), .none⟩, ⟨PyData.keyHash P "__package__", (.str "__package__" 167), .none⟩, ⟨PyData.keyHash P "__loader__", (.str "__loader__" 168), (.builtin "__main__.__loader__#opaque")⟩, ⟨PyData.keyHash P "__spec__", (.str "__spec__" 169), .none⟩, ⟨PyData.keyHash P "__annotations__", (.str "__annotations__" 170), (.ref 6)⟩, ⟨PyData.keyHash P "__builtins__", (.str "__builtins__" 171), (.ref 4)⟩, ⟨PyData.keyHash P "__file__", (.str "__file__" 173), (.str "/claim/cut.py" 172)⟩, ⟨PyData.keyHash P "__cached__", (.str "__cached__" 174), .none⟩, ⟨PyData.keyHash P "_wall", (.str "_wall" 193), (.ref 21)⟩, ⟨PyData.keyHash P "CompileFault", (.str "CompileFault" 235), (.ref 45)⟩, ⟨PyData.keyHash P "DirectiveFault", (.str "DirectiveFault" 251), (.ref 58)⟩, ⟨PyData.keyHash P "DIGITS", (.str "DIGITS" 275), (.ref 61)⟩, ⟨PyData.keyHash P "HEX_DIGITS", (.str "HEX_DIGITS" 321), (.ref 65)⟩] 14), #[]⟩
noncomputable def o66_c (P : Params) : Obj := ⟨(.type "str_ascii_iterator"), none, (.fields #[.none, (.int 22 0)]), #[]⟩
noncomputable def o67_c (P : Params) : Obj := ⟨(.type "tuple"), none, (.seq #[] 0), #[]⟩
noncomputable def o68_c (P : Params) : Obj := ⟨(.type "StopIteration"), none, (.fields #[(.ref 67), .none, .none, .none, (.bool false), .none]), #[]⟩
noncomputable def T_c (P : Params) : BT := (nd (boot_o_0 P) (nd (boot_o_1 P) (nd (o3_c P) (nd (boot_o_7 P) (nd (o15_a P) (nd (o31_a P) (nd (o63_b P) nl nl) nl) (nd (o47_a P) nl nl)) (nd (o23_a P) (nd (o39_a P) nl nl) (nd (o55_a P) nl nl))) (nd (o11_z P) (nd (o19_a P) (nd (o35_a P) (nd (o67_c P) nl nl) nl) (nd (o51_a P) nl nl)) (nd (o27_a P) (nd (o43_a P) nl nl) (nd (o59_a P) nl nl)))) (nd (boot_o_5 P) (nd (boot_o_9 P) (nd (o17_a P) (nd (o33_a P) (nd (setH P) nl nl) nl) (nd (o49_a P) nl nl)) (nd (o25_a P) (nd (o41_a P) nl nl) (nd (o57_a P) nl nl))) (nd (o13_z P) (nd (o21_a P) (nd (o37_a P) nl nl) (nd (o53_a P) nl nl)) (nd (o29_a P) (nd (o45_a P) nl nl) (nd (setD P) nl nl))))) (nd (o2_a P) (nd (boot_o_4 P) (nd (boot_o_8 P) (nd (o16_a P) (nd (o32_a P) (nd (o64_b P) nl nl) nl) (nd (o48_a P) nl nl)) (nd (o24_a P) (nd (o40_a P) nl nl) (nd (o56_a P) nl nl))) (nd (o12_a P) (nd (o20_a P) (nd (o36_a P) (nd (o68_c P) nl nl) nl) (nd (o52_a P) nl nl)) (nd (o28_a P) (nd (o44_a P) nl nl) (nd (o60_a P) nl nl)))) (nd (boot_o_6 P) (nd (boot_o_10 P) (nd (o18_a P) (nd (o34_a P) (nd (o66_c P) nl nl) nl) (nd (o50_a P) nl nl)) (nd (o26_a P) (nd (o42_a P) nl nl) (nd (o58_a P) nl nl))) (nd (o14_z P) (nd (o22_a P) (nd (o38_a P) nl nl) (nd (o54_a P) nl nl)) (nd (o30_a P) (nd (o46_a P) nl nl) (nd (o62_b P) nl nl))))))
noncomputable def S_c (w : World) (os : OsState) : SharedT := ⟨T_c w.params, 69, life0, Array.mk [], boot_drawn, 322, os⟩
noncomputable def o3_d (P : Params) : Obj := ⟨(.type "dict"), none, (.dict #[⟨PyData.keyHash P "__name__", (.str "__name__" 165), (.str "corecc.scanner" 252)⟩, ⟨PyData.keyHash P "__doc__", (.str "__doc__" 166), .none⟩, ⟨PyData.keyHash P "__package__", (.str "__package__" 167), .none⟩, ⟨PyData.keyHash P "__loader__", (.str "__loader__" 168), (.builtin "__main__.__loader__#opaque")⟩, ⟨PyData.keyHash P "__spec__", (.str "__spec__" 169), .none⟩, ⟨PyData.keyHash P "__annotations__", (.str "__annotations__" 170), (.ref 6)⟩, ⟨PyData.keyHash P "__builtins__", (.str "__builtins__" 171), (.ref 4)⟩, ⟨PyData.keyHash P "__file__", (.str "__file__" 173), (.str "/claim/cut.py" 172)⟩, ⟨PyData.keyHash P "__cached__", (.str "__cached__" 174), .none⟩, ⟨PyData.keyHash P "_wall", (.str "_wall" 193), (.ref 21)⟩, ⟨PyData.keyHash P "CompileFault", (.str "CompileFault" 235), (.ref 45)⟩, ⟨PyData.keyHash P "DirectiveFault", (.str "DirectiveFault" 251), (.ref 58)⟩, ⟨PyData.keyHash P "DIGITS", (.str "DIGITS" 275), (.ref 61)⟩, ⟨PyData.keyHash P "HEX_DIGITS", (.str "HEX_DIGITS" 321), (.ref 65)⟩, ⟨PyData.keyHash P "OCTAL_DIGITS", (.str "OCTAL_DIGITS" 339), (.ref 69)⟩] 15), #[]⟩
noncomputable def o70_d (P : Params) : Obj := ⟨(.type "str_ascii_iterator"), none, (.fields #[.none, (.int 8 0)]), #[]⟩
noncomputable def o71_d (P : Params) : Obj := ⟨(.type "tuple"), none, (.seq #[] 0), #[]⟩
noncomputable def o72_d (P : Params) : Obj := ⟨(.type "StopIteration"), none, (.fields #[(.ref 71), .none, .none, .none, (.bool false), .none]), #[]⟩
noncomputable def T_d (P : Params) : BT := (nd (boot_o_0 P) (nd (boot_o_1 P) (nd (o3_d P) (nd (boot_o_7 P) (nd (o15_a P) (nd (o31_a P) (nd (o63_b P) nl nl) nl) (nd (o47_a P) nl nl)) (nd (o23_a P) (nd (o39_a P) (nd (o71_d P) nl nl) nl) (nd (o55_a P) nl nl))) (nd (o11_z P) (nd (o19_a P) (nd (o35_a P) (nd (o67_c P) nl nl) nl) (nd (o51_a P) nl nl)) (nd (o27_a P) (nd (o43_a P) nl nl) (nd (o59_a P) nl nl)))) (nd (boot_o_5 P) (nd (boot_o_9 P) (nd (o17_a P) (nd (o33_a P) (nd (setH P) nl nl) nl) (nd (o49_a P) nl nl)) (nd (o25_a P) (nd (o41_a P) nl nl) (nd (o57_a P) nl nl))) (nd (o13_z P) (nd (o21_a P) (nd (o37_a P) (nd (setO P) nl nl) nl) (nd (o53_a P) nl nl)) (nd (o29_a P) (nd (o45_a P) nl nl) (nd (setD P) nl nl))))) (nd (o2_a P) (nd (boot_o_4 P) (nd (boot_o_8 P) (nd (o16_a P) (nd (o32_a P) (nd (o64_b P) nl nl) nl) (nd (o48_a P) nl nl)) (nd (o24_a P) (nd (o40_a P) (nd (o72_d P) nl nl) nl) (nd (o56_a P) nl nl))) (nd (o12_a P) (nd (o20_a P) (nd (o36_a P) (nd (o68_c P) nl nl) nl) (nd (o52_a P) nl nl)) (nd (o28_a P) (nd (o44_a P) nl nl) (nd (o60_a P) nl nl)))) (nd (boot_o_6 P) (nd (boot_o_10 P) (nd (o18_a P) (nd (o34_a P) (nd (o66_c P) nl nl) nl) (nd (o50_a P) nl nl)) (nd (o26_a P) (nd (o42_a P) nl nl) (nd (o58_a P) nl nl))) (nd (o14_z P) (nd (o22_a P) (nd (o38_a P) (nd (o70_d P) nl nl) nl) (nd (o54_a P) nl nl)) (nd (o30_a P) (nd (o46_a P) nl nl) (nd (o62_b P) nl nl))))))
noncomputable def S_d (w : World) (os : OsState) : SharedT := ⟨T_d w.params, 73, life0, Array.mk [], boot_drawn, 340, os⟩
noncomputable def o3_e (P : Params) : Obj := ⟨(.type "dict"), none, (.dict #[⟨PyData.keyHash P "__name__", (.str "__name__" 165), (.str "corecc.scanner" 252)⟩, ⟨PyData.keyHash P "__doc__", (.str "__doc__" 166), .none⟩, ⟨PyData.keyHash P "__package__", (.str "__package__" 167), .none⟩, ⟨PyData.keyHash P "__loader__", (.str "__loader__" 168), (.builtin "__main__.__loader__#opaque")⟩, ⟨PyData.keyHash P "__spec__", (.str "__spec__" 169), .none⟩, ⟨PyData.keyHash P "__annotations__", (.str "__annotations__" 170), (.ref 6)⟩, ⟨PyData.keyHash P "__builtins__", (.str "__builtins__" 171), (.ref 4)⟩, ⟨PyData.keyHash P "__file__", (.str "__file__" 173), (.str "/claim/cut.py" 172)⟩, ⟨PyData.keyHash P "__cached__", (.str "__cached__" 174), .none⟩, ⟨PyData.keyHash P "_wall", (.str "_wall" 193), (.ref 21)⟩, ⟨PyData.keyHash P "CompileFault", (.str "CompileFault" 235), (.ref 45)⟩, ⟨PyData.keyHash P "DirectiveFault", (.str "DirectiveFault" 251), (.ref 58)⟩, ⟨PyData.keyHash P "DIGITS", (.str "DIGITS" 275), (.ref 61)⟩, ⟨PyData.keyHash P "HEX_DIGITS", (.str "HEX_DIGITS" 321), (.ref 65)⟩, ⟨PyData.keyHash P "OCTAL_DIGITS", (.str "OCTAL_DIGITS" 339), (.ref 69)⟩, ⟨PyData.keyHash P "SUFFIXES", (.str "SUFFIXES" 350), (.ref 73)⟩] 16), #[]⟩
noncomputable def T_e (P : Params) : BT := (nd (boot_o_0 P) (nd (boot_o_1 P) (nd (o3_e P) (nd (boot_o_7 P) (nd (o15_a P) (nd (o31_a P) (nd (o63_b P) nl nl) nl) (nd (o47_a P) nl nl)) (nd (o23_a P) (nd (o39_a P) (nd (o71_d P) nl nl) nl) (nd (o55_a P) nl nl))) (nd (o11_z P) (nd (o19_a P) (nd (o35_a P) (nd (o67_c P) nl nl) nl) (nd (o51_a P) nl nl)) (nd (o27_a P) (nd (o43_a P) nl nl) (nd (o59_a P) nl nl)))) (nd (boot_o_5 P) (nd (boot_o_9 P) (nd (o17_a P) (nd (o33_a P) (nd (setH P) nl nl) nl) (nd (o49_a P) nl nl)) (nd (o25_a P) (nd (o41_a P) (nd (setS P) nl nl) nl) (nd (o57_a P) nl nl))) (nd (o13_z P) (nd (o21_a P) (nd (o37_a P) (nd (setO P) nl nl) nl) (nd (o53_a P) nl nl)) (nd (o29_a P) (nd (o45_a P) nl nl) (nd (setD P) nl nl))))) (nd (o2_a P) (nd (boot_o_4 P) (nd (boot_o_8 P) (nd (o16_a P) (nd (o32_a P) (nd (o64_b P) nl nl) nl) (nd (o48_a P) nl nl)) (nd (o24_a P) (nd (o40_a P) (nd (o72_d P) nl nl) nl) (nd (o56_a P) nl nl))) (nd (o12_a P) (nd (o20_a P) (nd (o36_a P) (nd (o68_c P) nl nl) nl) (nd (o52_a P) nl nl)) (nd (o28_a P) (nd (o44_a P) nl nl) (nd (o60_a P) nl nl)))) (nd (boot_o_6 P) (nd (boot_o_10 P) (nd (o18_a P) (nd (o34_a P) (nd (o66_c P) nl nl) nl) (nd (o50_a P) nl nl)) (nd (o26_a P) (nd (o42_a P) nl nl) (nd (o58_a P) nl nl))) (nd (o14_z P) (nd (o22_a P) (nd (o38_a P) (nd (o70_d P) nl nl) nl) (nd (o54_a P) nl nl)) (nd (o30_a P) (nd (o46_a P) nl nl) (nd (o62_b P) nl nl))))))
noncomputable def S_e (w : World) (os : OsState) : SharedT := ⟨T_e w.params, 74, life0, Array.mk [], boot_drawn, 351, os⟩
noncomputable def o3_f (P : Params) : Obj := ⟨(.type "dict"), none, (.dict #[⟨PyData.keyHash P "__name__", (.str "__name__" 165), (.str "corecc.scanner" 252)⟩, ⟨PyData.keyHash P "__doc__", (.str "__doc__" 166), .none⟩, ⟨PyData.keyHash P "__package__", (.str "__package__" 167), .none⟩, ⟨PyData.keyHash P "__loader__", (.str "__loader__" 168), (.builtin "__main__.__loader__#opaque")⟩, ⟨PyData.keyHash P "__spec__", (.str "__spec__" 169), .none⟩, ⟨PyData.keyHash P "__annotations__", (.str "__annotations__" 170), (.ref 6)⟩, ⟨PyData.keyHash P "__builtins__", (.str "__builtins__" 171), (.ref 4)⟩, ⟨PyData.keyHash P "__file__", (.str "__file__" 173), (.str "/claim/cut.py" 172)⟩, ⟨PyData.keyHash P "__cached__", (.str "__cached__" 174), .none⟩, ⟨PyData.keyHash P "_wall", (.str "_wall" 193), (.ref 21)⟩, ⟨PyData.keyHash P "CompileFault", (.str "CompileFault" 235), (.ref 45)⟩, ⟨PyData.keyHash P "DirectiveFault", (.str "DirectiveFault" 251), (.ref 58)⟩, ⟨PyData.keyHash P "DIGITS", (.str "DIGITS" 275), (.ref 61)⟩, ⟨PyData.keyHash P "HEX_DIGITS", (.str "HEX_DIGITS" 321), (.ref 65)⟩, ⟨PyData.keyHash P "OCTAL_DIGITS", (.str "OCTAL_DIGITS" 339), (.ref 69)⟩, ⟨PyData.keyHash P "SUFFIXES", (.str "SUFFIXES" 350), (.ref 73)⟩, ⟨PyData.keyHash P "MOST_OCTET", (.str "MOST_OCTET" 352), (.int 255 351)⟩, ⟨PyData.keyHash P "MOST_WIDE", (.str "MOST_WIDE" 354), (.int 4294967295 353)⟩, ⟨PyData.keyHash P "ESCAPES", (.str "ESCAPES" 388), (.ref 74)⟩, ⟨PyData.keyHash P "Token", (.str "Token" 445), (.ref 106)⟩] 20), #[]⟩
noncomputable def o12_f (P : Params) : Obj := ⟨.none, none, (.fields #[(.int 1 0), (.int 0 0), (.ref 20), (.int 5 0), (.int 0 0), (.ref 27), (.int 15 0), (.int 0 0), (.ref 54), (.int 25 0), (.int 0 0), (.ref 80)]), #[]⟩
noncomputable def o74_f (P : Params) : Obj := ⟨(.type "dict"), none, (.dict #[⟨PyData.keyHash P "a", (.str "a" 355), (.int 7 356)⟩, ⟨PyData.keyHash P "b", (.str "b" 357), (.int 8 358)⟩, ⟨PyData.keyHash P "f", (.str "f" 359), (.int 12 360)⟩, ⟨PyData.keyHash P "n", (.str "n" 361), (.int 10 362)⟩, ⟨PyData.keyHash P "r", (.str "r" 363), (.int 13 364)⟩, ⟨PyData.keyHash P "t", (.str "t" 365), (.int 9 366)⟩, ⟨PyData.keyHash P "v", (.str "v" 367), (.int 11 368)⟩, ⟨PyData.keyHash P "\\", (.str "\\" 369), (.int 92 370)⟩, ⟨PyData.keyHash P "'", (.str "'" 371), (.int 39 372)⟩, ⟨PyData.keyHash P "\"", (.str "\"" 373), (.int 34 374)⟩, ⟨PyData.keyHash P "?", (.str "?" 375), (.int 63 376)⟩] 11), #[]⟩
noncomputable def o75_f (P : Params) : Obj := ⟨(.type "tuple"), none, (.seq #[] 0), #[]⟩
noncomputable def o76_f (P : Params) : Obj := ⟨(.type "builtin_function_or_method"), none, (.fields #[(.builtin "type.__prepare__"), (.type "type")]), #[]⟩
noncomputable def o77_f (P : Params) : Obj := ⟨(.type "dict"), none, (.dict #[⟨PyData.keyHash P "__module__", (.str "__module__" 396), (.str "corecc.scanner" 252)⟩, ⟨PyData.keyHash P "__qualname__", (.str "__qualname__" 398), (.str "Token" 397)⟩, ⟨PyData.keyHash P "__firstlineno__", (.str "__firstlineno__" 400), (.int 25 399)⟩, ⟨PyData.keyHash P "space", (.str "space" 401), (.bool false)⟩, ⟨PyData.keyHash P "starts", (.str "starts" 402), (.bool false)⟩, ⟨PyData.keyHash P "end_line", (.str "end_line" 404), (.int 0 403)⟩, ⟨PyData.keyHash P "hidden", (.str "hidden" 405), (.ref 82)⟩, ⟨PyData.keyHash P "value", (.str "value" 406), .none⟩, ⟨PyData.keyHash P "type", (.str "type" 407), .none⟩, ⟨PyData.keyHash P "__init__", (.str "__init__" 418), (.ref 89)⟩, ⟨PyData.keyHash P "copy", (.str "copy" 425), (.ref 96)⟩, ⟨PyData.keyHash P "is_punct", (.str "is_punct" 433), (.ref 103)⟩, ⟨PyData.keyHash P "__static_attributes__", (.str "__static_attributes__" 438), (.ref 104)⟩] 13), #[]⟩
noncomputable def o78_f (P : Params) : Obj := ⟨(.type "tuple"), none, (.seq #[] 0), #[]⟩
noncomputable def o79_f (P : Params) : Obj := ⟨.none, none, (.fields #[(.int 33 0), (.int 4 0), (.ref 88), (.int 39 0), (.int 4 0), (.ref 95), (.int 42 0), (.int 4 0), (.ref 102)]), #[]⟩
noncomputable def o80_f (P : Params) : Obj := ⟨(.type "code"), none, (.fields #[(.str "Token" 391), (.str "Token" 392), (.str "/claim/cut.py" 393), (.int 25 0), (.int 0 0), (.int 0 0), (.int 0 0), (.int 0 0), (.ref 78), (.bool false), (.int 181 0), (.ref 79), .none, .none, .none, .none, (.int 394 0), (.int 25 0), (.str "/claim/cut.py" 395)]), #[]⟩
noncomputable def o81_f (P : Params) : Obj := ⟨(.type "frame"), none, .plain, #[(some (.ref 80)), (some (.ref 3)), (some (.ref 77)), none, (some (.str "corecc.scanner" 252)), none, (some (.ref 0))]⟩
noncomputable def o82_f (P : Params) : Obj := ⟨(.type "tuple"), none, (.seq #[] 0), #[]⟩
noncomputable def o83_f (P : Params) : Obj := ⟨(.type "tuple"), none, (.seq #[] 0), #[]⟩
noncomputable def o84_f (P : Params) : Obj := ⟨.none, none, (.fields #[]), #[]⟩
noncomputable def o85_f (P : Params) : Obj := ⟨(.type "tuple"), none, (.seq #[(.str "self" 411), (.str "kind" 412), (.str "text" 413), (.str "file" 414), (.str "line" 415)] 0), #[]⟩
noncomputable def o86_f (P : Params) : Obj := ⟨(.type "tuple"), none, (.seq #[] 0), #[]⟩
noncomputable def o87_f (P : Params) : Obj := ⟨.none, none, (.func { name := "__init__", qualname := "Token.__init__", params := pA (M 12 6), body := .stmts (pB (M 12 6)), scope := pS (M 12 6), globals := 0, closure := [], defaults := .none, kwdefaults := .none, doc := .none, pyModule := .none, annotations := none, code := .none, closureTuple := .none, builtins := 0 }), #[]⟩
noncomputable def o88_f (P : Params) : Obj := ⟨(.type "code"), none, (.fields #[(.str "__init__" 408), (.str "Token.__init__" 409), (.str "/claim/cut.py" 410), (.int 33 0), (.int 5 0), (.int 0 0), (.int 0 0), (.int 3 0), (.ref 83), (.bool true), (.int 181 0), (.ref 84), .none, (.ref 85), (.ref 86), (.ref 87), (.int 416 0), (.int 33 0), (.str "/claim/cut.py" 417)]), #[]⟩
noncomputable def o89_f (P : Params) : Obj := ⟨(.type "function"), none, (.func { name := "__init__", qualname := "Token.__init__", params := pA (M 12 6), body := .stmts (pB (M 12 6)), scope := pS (M 12 6), globals := 3, closure := [], defaults := .none, kwdefaults := .none, doc := .none, pyModule := (.str "corecc.scanner" 252), annotations := none, code := (.ref 88), closureTuple := .none, builtins := 0 }), #[]⟩
noncomputable def o90_f (P : Params) : Obj := ⟨(.type "tuple"), none, (.seq #[] 0), #[]⟩
noncomputable def o91_f (P : Params) : Obj := ⟨.none, none, (.fields #[]), #[]⟩
noncomputable def o92_f (P : Params) : Obj := ⟨(.type "tuple"), none, (.seq #[(.str "self" 422)] 0), #[]⟩
noncomputable def o93_f (P : Params) : Obj := ⟨(.type "tuple"), none, (.seq #[] 0), #[]⟩
noncomputable def o94_f (P : Params) : Obj := ⟨.none, none, (.func { name := "copy", qualname := "Token.copy", params := pA (M 12 7), body := .stmts (pB (M 12 7)), scope := pS (M 12 7), globals := 0, closure := [], defaults := .none, kwdefaults := .none, doc := .none, pyModule := .none, annotations := none, code := .none, closureTuple := .none, builtins := 0 }), #[]⟩
noncomputable def o95_f (P : Params) : Obj := ⟨(.type "code"), none, (.fields #[(.str "copy" 419), (.str "Token.copy" 420), (.str "/claim/cut.py" 421), (.int 39 0), (.int 1 0), (.int 0 0), (.int 0 0), (.int 3 0), (.ref 90), (.bool true), (.int 181 0), (.ref 91), .none, (.ref 92), (.ref 93), (.ref 94), (.int 423 0), (.int 39 0), (.str "/claim/cut.py" 424)]), #[]⟩
noncomputable def o96_f (P : Params) : Obj := ⟨(.type "function"), none, (.func { name := "copy", qualname := "Token.copy", params := pA (M 12 7), body := .stmts (pB (M 12 7)), scope := pS (M 12 7), globals := 3, closure := [], defaults := .none, kwdefaults := .none, doc := .none, pyModule := (.str "corecc.scanner" 252), annotations := none, code := (.ref 95), closureTuple := .none, builtins := 0 }), #[]⟩
noncomputable def o97_f (P : Params) : Obj := ⟨(.type "tuple"), none, (.seq #[] 0), #[]⟩
noncomputable def o98_f (P : Params) : Obj := ⟨.none, none, (.fields #[]), #[]⟩
noncomputable def o99_f (P : Params) : Obj := ⟨(.type "tuple"), none, (.seq #[(.str "self" 429), (.str "text" 430)] 0), #[]⟩
noncomputable def o100_f (P : Params) : Obj := ⟨(.type "tuple"), none, (.seq #[] 0), #[]⟩
noncomputable def o101_f (P : Params) : Obj := ⟨.none, none, (.func { name := "is_punct", qualname := "Token.is_punct", params := pA (M 12 8), body := .stmts (pB (M 12 8)), scope := pS (M 12 8), globals := 0, closure := [], defaults := .none, kwdefaults := .none, doc := .none, pyModule := .none, annotations := none, code := .none, closureTuple := .none, builtins := 0 }), #[]⟩
noncomputable def o102_f (P : Params) : Obj := ⟨(.type "code"), none, (.fields #[(.str "is_punct" 426), (.str "Token.is_punct" 427), (.str "/claim/cut.py" 428), (.int 42 0), (.int 2 0), (.int 0 0), (.int 0 0), (.int 3 0), (.ref 97), (.bool true), (.int 181 0), (.ref 98), .none, (.ref 99), (.ref 100), (.ref 101), (.int 431 0), (.int 42 0), (.str "/claim/cut.py" 432)]), #[]⟩
noncomputable def o103_f (P : Params) : Obj := ⟨(.type "function"), none, (.func { name := "is_punct", qualname := "Token.is_punct", params := pA (M 12 8), body := .stmts (pB (M 12 8)), scope := pS (M 12 8), globals := 3, closure := [], defaults := .none, kwdefaults := .none, doc := .none, pyModule := (.str "corecc.scanner" 252), annotations := none, code := (.ref 102), closureTuple := .none, builtins := 0 }), #[]⟩
noncomputable def o104_f (P : Params) : Obj := ⟨(.type "tuple"), none, (.seq #[(.str "file" 434), (.str "kind" 435), (.str "line" 436), (.str "text" 437)] 0), #[]⟩
noncomputable def o105_f (P : Params) : Obj := ⟨(.type "dict"), none, (.dict #[⟨PyData.keyHash P "__module__", (.str "__module__" 396), (.str "corecc.scanner" 252)⟩, ⟨PyData.keyHash P "__firstlineno__", (.str "__firstlineno__" 400), (.int 25 399)⟩, ⟨PyData.keyHash P "space", (.str "space" 401), (.bool false)⟩, ⟨PyData.keyHash P "starts", (.str "starts" 402), (.bool false)⟩, ⟨PyData.keyHash P "end_line", (.str "end_line" 404), (.int 0 403)⟩, ⟨PyData.keyHash P "hidden", (.str "hidden" 405), (.ref 82)⟩, ⟨PyData.keyHash P "value", (.str "value" 406), .none⟩, ⟨PyData.keyHash P "type", (.str "type" 407), .none⟩, ⟨PyData.keyHash P "__init__", (.str "__init__" 418), (.ref 89)⟩, ⟨PyData.keyHash P "copy", (.str "copy" 425), (.ref 96)⟩, ⟨PyData.keyHash P "is_punct", (.str "is_punct" 433), (.ref 103)⟩, ⟨PyData.keyHash P "__static_attributes__", (.str "__static_attributes__" 438), (.ref 104)⟩, ⟨PyData.keyHash P "__dict__", (.str "__dict__" 440), (.ref 107)⟩, ⟨PyData.keyHash P "__weakref__", (.str "__weakref__" 442), (.ref 108)⟩, ⟨PyData.keyHash P "__doc__", (.str "__doc__" 443), .none⟩] 4), #[]⟩
noncomputable def o106_f (P : Params) : Obj := ⟨(.type "type"), none, (.cls { name := "Token", bases := [(.type "object")], mro := [(.ref 106), (.type "object")], ns := 105, qualname := "Token", hasDict := true, slotNames := [], subclasses := [], abstract := false, collection := none, hasDel := false }), #[none, none, (some (.str "Token" 389)), (some (.str "Token" 397)), (some (.builtin "object.__new__")), (some (.bool true))]⟩
noncomputable def o107_f (P : Params) : Obj := ⟨(.type "getset_descriptor"), none, (.fields #[(.str "__dict__" 439), (.ref 106), (.builtin "function.__dict__"), (.builtin "function.__dict__#set")]), #[]⟩
noncomputable def o108_f (P : Params) : Obj := ⟨(.type "getset_descriptor"), none, (.fields #[(.str "__weakref__" 441), (.ref 106), (.builtin "ExceptionGroup.__weakref__"), .none]), #[]⟩
noncomputable def o109_f (P : Params) : Obj := ⟨(.type "super"), none, (.fields #[(.ref 106), (.ref 106), (.ref 106)]), #[]⟩
noncomputable def o110_f (P : Params) : Obj := ⟨(.type "builtin_function_or_method"), none, (.fields #[(.builtin "object.__init_subclass__"), (.ref 106)]), #[]⟩
noncomputable def T_f (P : Params) : BT := (nd (boot_o_0 P) (nd (boot_o_1 P) (nd (o3_f P) (nd (boot_o_7 P) (nd (o15_a P) (nd (o31_a P) (nd (o63_b P) nl nl) (nd (o95_f P) nl nl)) (nd (o47_a P) (nd (o79_f P) nl nl) nl)) (nd (o23_a P) (nd (o39_a P) (nd (o71_d P) nl nl) (nd (o103_f P) nl nl)) (nd (o55_a P) (nd (o87_f P) nl nl) nl))) (nd (o11_z P) (nd (o19_a P) (nd (o35_a P) (nd (o67_c P) nl nl) (nd (o99_f P) nl nl)) (nd (o51_a P) (nd (o83_f P) nl nl) nl)) (nd (o27_a P) (nd (o43_a P) (nd (o75_f P) nl nl) (nd (o107_f P) nl nl)) (nd (o59_a P) (nd (o91_f P) nl nl) nl)))) (nd (boot_o_5 P) (nd (boot_o_9 P) (nd (o17_a P) (nd (o33_a P) (nd (setH P) nl nl) (nd (o97_f P) nl nl)) (nd (o49_a P) (nd (o81_f P) nl nl) nl)) (nd (o25_a P) (nd (o41_a P) (nd (setS P) nl nl) (nd (o105_f P) nl nl)) (nd (o57_a P) (nd (o89_f P) nl nl) nl))) (nd (o13_z P) (nd (o21_a P) (nd (o37_a P) (nd (setO P) nl nl) (nd (o101_f P) nl nl)) (nd (o53_a P) (nd (o85_f P) nl nl) nl)) (nd (o29_a P) (nd (o45_a P) (nd (o77_f P) nl nl) (nd (o109_f P) nl nl)) (nd (setD P) (nd (o93_f P) nl nl) nl))))) (nd (o2_a P) (nd (boot_o_4 P) (nd (boot_o_8 P) (nd (o16_a P) (nd (o32_a P) (nd (o64_b P) nl nl) (nd (o96_f P) nl nl)) (nd (o48_a P) (nd (o80_f P) nl nl) nl)) (nd (o24_a P) (nd (o40_a P) (nd (o72_d P) nl nl) (nd (o104_f P) nl nl)) (nd (o56_a P) (nd (o88_f P) nl nl) nl))) (nd (o12_f P) (nd (o20_a P) (nd (o36_a P) (nd (o68_c P) nl nl) (nd (o100_f P) nl nl)) (nd (o52_a P) (nd (o84_f P) nl nl) nl)) (nd (o28_a P) (nd (o44_a P) (nd (o76_f P) nl nl) (nd (o108_f P) nl nl)) (nd (o60_a P) (nd (o92_f P) nl nl) nl)))) (nd (boot_o_6 P) (nd (boot_o_10 P) (nd (o18_a P) (nd (o34_a P) (nd (o66_c P) nl nl) (nd (o98_f P) nl nl)) (nd (o50_a P) (nd (o82_f P) nl nl) nl)) (nd (o26_a P) (nd (o42_a P) (nd (o74_f P) nl nl) (nd (o106_f P) nl nl)) (nd (o58_a P) (nd (o90_f P) nl nl) nl))) (nd (o14_z P) (nd (o22_a P) (nd (o38_a P) (nd (o70_d P) nl nl) (nd (o102_f P) nl nl)) (nd (o54_a P) (nd (o86_f P) nl nl) nl)) (nd (o30_a P) (nd (o46_a P) (nd (o78_f P) nl nl) (nd (o110_f P) nl nl)) (nd (o62_b P) (nd (o94_f P) nl nl) nl))))))
noncomputable def S_f (w : World) (os : OsState) : SharedT := ⟨T_f w.params, 111, life0, Array.mk [], boot_drawn, 446, os⟩
noncomputable def o3_g (P : Params) : Obj := ⟨(.type "dict"), none, (.dict #[⟨PyData.keyHash P "__name__", (.str "__name__" 165), (.str "corecc.preprocess" 497)⟩, ⟨PyData.keyHash P "__doc__", (.str "__doc__" 166), .none⟩, ⟨PyData.keyHash P "__package__", (.str "__package__" 167), .none⟩, ⟨PyData.keyHash P "__loader__", (.str "__loader__" 168), (.builtin "__main__.__loader__#opaque")⟩, ⟨PyData.keyHash P "__spec__", (.str "__spec__" 169), .none⟩, ⟨PyData.keyHash P "__annotations__", (.str "__annotations__" 170), (.ref 6)⟩, ⟨PyData.keyHash P "__builtins__", (.str "__builtins__" 171), (.ref 4)⟩, ⟨PyData.keyHash P "__file__", (.str "__file__" 173), (.str "/claim/cut.py" 172)⟩, ⟨PyData.keyHash P "__cached__", (.str "__cached__" 174), .none⟩, ⟨PyData.keyHash P "_wall", (.str "_wall" 193), (.ref 21)⟩, ⟨PyData.keyHash P "CompileFault", (.str "CompileFault" 235), (.ref 45)⟩, ⟨PyData.keyHash P "DirectiveFault", (.str "DirectiveFault" 251), (.ref 58)⟩, ⟨PyData.keyHash P "DIGITS", (.str "DIGITS" 275), (.ref 61)⟩, ⟨PyData.keyHash P "HEX_DIGITS", (.str "HEX_DIGITS" 321), (.ref 65)⟩, ⟨PyData.keyHash P "OCTAL_DIGITS", (.str "OCTAL_DIGITS" 339), (.ref 69)⟩, ⟨PyData.keyHash P "SUFFIXES", (.str "SUFFIXES" 350), (.ref 73)⟩, ⟨PyData.keyHash P "MOST_OCTET", (.str "MOST_OCTET" 352), (.int 255 351)⟩, ⟨PyData.keyHash P "MOST_WIDE", (.str "MOST_WIDE" 354), (.int 4294967295 353)⟩, ⟨PyData.keyHash P "ESCAPES", (.str "ESCAPES" 388), (.ref 74)⟩, ⟨PyData.keyHash P "Token", (.str "Token" 445), (.ref 106)⟩, ⟨PyData.keyHash P "number_parts", (.str "number_parts" 459), (.ref 117)⟩, ⟨PyData.keyHash P "escape_at", (.str "escape_at" 469), (.ref 124)⟩, ⟨PyData.keyHash P "literal_values", (.str "literal_values" 482), (.ref 131)⟩, ⟨PyData.keyHash P "literal_octets", (.str "literal_octets" 489), (.ref 138)⟩, ⟨PyData.keyHash P "wide_values", (.str "wide_values" 496), (.ref 145)⟩, ⟨PyData.keyHash P "ALL_BITS", (.str "ALL_BITS" 500), (.int 4294967295 499)⟩, ⟨PyData.keyHash P "TOP_BIT", (.str "TOP_BIT" 502), (.int 2147483648 501)⟩, ⟨PyData.keyHash P "LEVELS", (.str "LEVELS" 557), (.ref 146)⟩, ⟨PyData.keyHash P "SIGNS_AHEAD", (.str "SIGNS_AHEAD" 570), (.ref 148)⟩] 29), #[]⟩
noncomputable def o12_g (P : Params) : Obj := ⟨.none, none, (.fields #[(.int 1 0), (.int 0 0), (.ref 20), (.int 5 0), (.int 0 0), (.ref 27), (.int 15 0), (.int 0 0), (.ref 54), (.int 25 0), (.int 0 0), (.ref 80), (.int 44 0), (.int 0 0), (.ref 116), (.int 65 0), (.int 0 0), (.ref 123), (.int 80 0), (.int 0 0), (.ref 130), (.int 94 0), (.int 0 0), (.ref 137), (.int 96 0), (.int 0 0), (.ref 144)]), #[]⟩
noncomputable def o111_g (P : Params) : Obj := ⟨(.type "tuple"), none, (.seq #[] 0), #[]⟩
noncomputable def o112_g (P : Params) : Obj := ⟨.none, none, (.fields #[]), #[]⟩
noncomputable def o113_g (P : Params) : Obj := ⟨(.type "tuple"), none, (.seq #[(.str "text" 449), (.str "end" 450), (.str "digits" 451), (.str "suffix" 452), (.str "base" 453), (.str "good" 454), (.str "value" 455), (.str "sign" 456)] 0), #[]⟩
noncomputable def o114_g (P : Params) : Obj := ⟨(.type "tuple"), none, (.seq #[] 0), #[]⟩
noncomputable def o115_g (P : Params) : Obj := ⟨.none, none, (.func { name := "number_parts", qualname := "number_parts", params := pA (D 13), body := .stmts (pB (D 13)), scope := pS (D 13), globals := 0, closure := [], defaults := .none, kwdefaults := .none, doc := .none, pyModule := .none, annotations := none, code := .none, closureTuple := .none, builtins := 0 }), #[]⟩
noncomputable def o116_g (P : Params) : Obj := ⟨(.type "code"), none, (.fields #[(.str "number_parts" 446), (.str "number_parts" 447), (.str "/claim/cut.py" 448), (.int 44 0), (.int 1 0), (.int 0 0), (.int 0 0), (.int 3 0), (.ref 111), (.bool true), (.int 181 0), (.ref 112), .none, (.ref 113), (.ref 114), (.ref 115), (.int 457 0), (.int 44 0), (.str "/claim/cut.py" 458)]), #[]⟩
noncomputable def o117_g (P : Params) : Obj := ⟨(.type "function"), none, (.func { name := "number_parts", qualname := "number_parts", params := pA (D 13), body := .stmts (pB (D 13)), scope := pS (D 13), globals := 3, closure := [], defaults := .none, kwdefaults := .none, doc := .none, pyModule := (.str "corecc.scanner" 252), annotations := none, code := (.ref 116), closureTuple := .none, builtins := 0 }), #[]⟩
noncomputable def o118_g (P : Params) : Obj := ⟨(.type "tuple"), none, (.seq #[] 0), #[]⟩
noncomputable def o119_g (P : Params) : Obj := ⟨.none, none, (.fields #[]), #[]⟩
noncomputable def o120_g (P : Params) : Obj := ⟨(.type "tuple"), none, (.seq #[(.str "inner" 463), (.str "at" 464), (.str "sign" 465), (.str "end" 466)] 0), #[]⟩
noncomputable def o121_g (P : Params) : Obj := ⟨(.type "tuple"), none, (.seq #[] 0), #[]⟩
noncomputable def o122_g (P : Params) : Obj := ⟨.none, none, (.func { name := "escape_at", qualname := "escape_at", params := pA (D 14), body := .stmts (pB (D 14)), scope := pS (D 14), globals := 0, closure := [], defaults := .none, kwdefaults := .none, doc := .none, pyModule := .none, annotations := none, code := .none, closureTuple := .none, builtins := 0 }), #[]⟩
noncomputable def o123_g (P : Params) : Obj := ⟨(.type "code"), none, (.fields #[(.str "escape_at" 460), (.str "escape_at" 461), (.str "/claim/cut.py" 462), (.int 65 0), (.int 2 0), (.int 0 0), (.int 0 0), (.int 3 0), (.ref 118), (.bool true), (.int 181 0), (.ref 119), .none, (.ref 120), (.ref 121), (.ref 122), (.int 467 0), (.int 65 0), (.str "/claim/cut.py" 468)]), #[]⟩
noncomputable def o124_g (P : Params) : Obj := ⟨(.type "function"), none, (.func { name := "escape_at", qualname := "escape_at", params := pA (D 14), body := .stmts (pB (D 14)), scope := pS (D 14), globals := 3, closure := [], defaults := .none, kwdefaults := .none, doc := .none, pyModule := (.str "corecc.scanner" 252), annotations := none, code := (.ref 123), closureTuple := .none, builtins := 0 }), #[]⟩
noncomputable def o125_g (P : Params) : Obj := ⟨(.type "tuple"), none, (.seq #[] 0), #[]⟩
noncomputable def o126_g (P : Params) : Obj := ⟨.none, none, (.fields #[]), #[]⟩
noncomputable def o127_g (P : Params) : Obj := ⟨(.type "tuple"), none, (.seq #[(.str "text" 473), (.str "most" 474), (.str "inner" 475), (.str "found" 476), (.str "at" 477), (.str "told" 478), (.str "value" 479)] 0), #[]⟩
noncomputable def o128_g (P : Params) : Obj := ⟨(.type "tuple"), none, (.seq #[] 0), #[]⟩
noncomputable def o129_g (P : Params) : Obj := ⟨.none, none, (.func { name := "literal_values", qualname := "literal_values", params := pA (D 15), body := .stmts (pB (D 15)), scope := pS (D 15), globals := 0, closure := [], defaults := .none, kwdefaults := .none, doc := .none, pyModule := .none, annotations := none, code := .none, closureTuple := .none, builtins := 0 }), #[]⟩
noncomputable def o130_g (P : Params) : Obj := ⟨(.type "code"), none, (.fields #[(.str "literal_values" 470), (.str "literal_values" 471), (.str "/claim/cut.py" 472), (.int 80 0), (.int 2 0), (.int 0 0), (.int 0 0), (.int 3 0), (.ref 125), (.bool true), (.int 181 0), (.ref 126), .none, (.ref 127), (.ref 128), (.ref 129), (.int 480 0), (.int 80 0), (.str "/claim/cut.py" 481)]), #[]⟩
noncomputable def o131_g (P : Params) : Obj := ⟨(.type "function"), none, (.func { name := "literal_values", qualname := "literal_values", params := pA (D 15), body := .stmts (pB (D 15)), scope := pS (D 15), globals := 3, closure := [], defaults := .none, kwdefaults := .none, doc := .none, pyModule := (.str "corecc.scanner" 252), annotations := none, code := (.ref 130), closureTuple := .none, builtins := 0 }), #[]⟩
noncomputable def o132_g (P : Params) : Obj := ⟨(.type "tuple"), none, (.seq #[] 0), #[]⟩
noncomputable def o133_g (P : Params) : Obj := ⟨.none, none, (.fields #[]), #[]⟩
noncomputable def o134_g (P : Params) : Obj := ⟨(.type "tuple"), none, (.seq #[(.str "text" 486)] 0), #[]⟩
noncomputable def o135_g (P : Params) : Obj := ⟨(.type "tuple"), none, (.seq #[] 0), #[]⟩
noncomputable def o136_g (P : Params) : Obj := ⟨.none, none, (.func { name := "literal_octets", qualname := "literal_octets", params := pA (D 16), body := .stmts (pB (D 16)), scope := pS (D 16), globals := 0, closure := [], defaults := .none, kwdefaults := .none, doc := .none, pyModule := .none, annotations := none, code := .none, closureTuple := .none, builtins := 0 }), #[]⟩
noncomputable def o137_g (P : Params) : Obj := ⟨(.type "code"), none, (.fields #[(.str "literal_octets" 483), (.str "literal_octets" 484), (.str "/claim/cut.py" 485), (.int 94 0), (.int 1 0), (.int 0 0), (.int 0 0), (.int 3 0), (.ref 132), (.bool true), (.int 181 0), (.ref 133), .none, (.ref 134), (.ref 135), (.ref 136), (.int 487 0), (.int 94 0), (.str "/claim/cut.py" 488)]), #[]⟩
noncomputable def o138_g (P : Params) : Obj := ⟨(.type "function"), none, (.func { name := "literal_octets", qualname := "literal_octets", params := pA (D 16), body := .stmts (pB (D 16)), scope := pS (D 16), globals := 3, closure := [], defaults := .none, kwdefaults := .none, doc := .none, pyModule := (.str "corecc.scanner" 252), annotations := none, code := (.ref 137), closureTuple := .none, builtins := 0 }), #[]⟩
noncomputable def o139_g (P : Params) : Obj := ⟨(.type "tuple"), none, (.seq #[] 0), #[]⟩
noncomputable def o140_g (P : Params) : Obj := ⟨.none, none, (.fields #[]), #[]⟩
noncomputable def o141_g (P : Params) : Obj := ⟨(.type "tuple"), none, (.seq #[(.str "text" 493)] 0), #[]⟩
noncomputable def o142_g (P : Params) : Obj := ⟨(.type "tuple"), none, (.seq #[] 0), #[]⟩
noncomputable def o143_g (P : Params) : Obj := ⟨.none, none, (.func { name := "wide_values", qualname := "wide_values", params := pA (D 17), body := .stmts (pB (D 17)), scope := pS (D 17), globals := 0, closure := [], defaults := .none, kwdefaults := .none, doc := .none, pyModule := .none, annotations := none, code := .none, closureTuple := .none, builtins := 0 }), #[]⟩
noncomputable def o144_g (P : Params) : Obj := ⟨(.type "code"), none, (.fields #[(.str "wide_values" 490), (.str "wide_values" 491), (.str "/claim/cut.py" 492), (.int 96 0), (.int 1 0), (.int 0 0), (.int 0 0), (.int 3 0), (.ref 139), (.bool true), (.int 181 0), (.ref 140), .none, (.ref 141), (.ref 142), (.ref 143), (.int 494 0), (.int 96 0), (.str "/claim/cut.py" 495)]), #[]⟩
noncomputable def o145_g (P : Params) : Obj := ⟨(.type "function"), none, (.func { name := "wide_values", qualname := "wide_values", params := pA (D 17), body := .stmts (pB (D 17)), scope := pS (D 17), globals := 3, closure := [], defaults := .none, kwdefaults := .none, doc := .none, pyModule := (.str "corecc.scanner" 252), annotations := none, code := (.ref 144), closureTuple := .none, builtins := 0 }), #[]⟩
noncomputable def o146_g (P : Params) : Obj := ⟨(.type "dict"), none, (.dict #[⟨PyData.keyHash P "*", (.str "*" 503), (.int 10 504)⟩, ⟨PyData.keyHash P "/", (.str "/" 506), (.int 10 507)⟩, ⟨PyData.keyHash P "%", (.str "%" 509), (.int 10 510)⟩, ⟨PyData.keyHash P "+", (.str "+" 512), (.int 9 513)⟩, ⟨PyData.keyHash P "-", (.str "-" 515), (.int 9 516)⟩, ⟨PyData.keyHash P "<<", (.str "<<" 518), (.int 8 519)⟩, ⟨PyData.keyHash P ">>", (.str ">>" 521), (.int 8 522)⟩, ⟨PyData.keyHash P "<", (.str "<" 524), (.int 7 525)⟩, ⟨PyData.keyHash P "<=", (.str "<=" 527), (.int 7 528)⟩, ⟨PyData.keyHash P ">", (.str ">" 530), (.int 7 531)⟩, ⟨PyData.keyHash P ">=", (.str ">=" 533), (.int 7 534)⟩, ⟨PyData.keyHash P "==", (.str "==" 536), (.int 6 537)⟩, ⟨PyData.keyHash P "!=", (.str "!=" 539), (.int 6 540)⟩, ⟨PyData.keyHash P "&", (.str "&" 542), (.int 5 543)⟩, ⟨PyData.keyHash P "^", (.str "^" 545), (.int 4 546)⟩, ⟨PyData.keyHash P "|", (.str "|" 548), (.int 3 549)⟩, ⟨PyData.keyHash P "&&", (.str "&&" 551), (.int 2 552)⟩, ⟨PyData.keyHash P "||", (.str "||" 554), (.int 1 555)⟩] 18), #[]⟩
noncomputable def o147_g (P : Params) : Obj := ⟨(.type "dict"), none, (.dict #[⟨PyData.keyHash P "||", (.str "||" 554), (.int 1 555)⟩] 1), #[]⟩
noncomputable def o148_g (P : Params) : Obj := ⟨(.type "dict"), none, (.dict #[⟨PyData.keyHash P "+", (.str "+" 558), (.str "plus" 559)⟩, ⟨PyData.keyHash P "-", (.str "-" 560), (.str "minus" 561)⟩, ⟨PyData.keyHash P "!", (.str "!" 562), (.str "not" 563)⟩, ⟨PyData.keyHash P "~", (.str "~" 564), (.str "turned" 565)⟩] 4), #[]⟩
noncomputable def T_g (P : Params) : BT := (nd (boot_o_0 P) (nd (boot_o_1 P) (nd (o3_g P) (nd (boot_o_7 P) (nd (o15_a P) (nd (o31_a P) (nd (o63_b P) (nd (o127_g P) nl nl) nl) (nd (o95_f P) nl nl)) (nd (o47_a P) (nd (o79_f P) (nd (o143_g P) nl nl) nl) (nd (o111_g P) nl nl))) (nd (o23_a P) (nd (o39_a P) (nd (o71_d P) (nd (o135_g P) nl nl) nl) (nd (o103_f P) nl nl)) (nd (o55_a P) (nd (o87_f P) nl nl) (nd (o119_g P) nl nl)))) (nd (o11_z P) (nd (o19_a P) (nd (o35_a P) (nd (o67_c P) (nd (o131_g P) nl nl) nl) (nd (o99_f P) nl nl)) (nd (o51_a P) (nd (o83_f P) (nd (o147_g P) nl nl) nl) (nd (o115_g P) nl nl))) (nd (o27_a P) (nd (o43_a P) (nd (o75_f P) (nd (o139_g P) nl nl) nl) (nd (o107_f P) nl nl)) (nd (o59_a P) (nd (o91_f P) nl nl) (nd (o123_g P) nl nl))))) (nd (boot_o_5 P) (nd (boot_o_9 P) (nd (o17_a P) (nd (o33_a P) (nd (setH P) (nd (o129_g P) nl nl) nl) (nd (o97_f P) nl nl)) (nd (o49_a P) (nd (o81_f P) (nd (o145_g P) nl nl) nl) (nd (o113_g P) nl nl))) (nd (o25_a P) (nd (o41_a P) (nd (setS P) (nd (o137_g P) nl nl) nl) (nd (o105_f P) nl nl)) (nd (o57_a P) (nd (o89_f P) nl nl) (nd (o121_g P) nl nl)))) (nd (o13_z P) (nd (o21_a P) (nd (o37_a P) (nd (setO P) (nd (o133_g P) nl nl) nl) (nd (o101_f P) nl nl)) (nd (o53_a P) (nd (o85_f P) nl nl) (nd (o117_g P) nl nl))) (nd (o29_a P) (nd (o45_a P) (nd (o77_f P) (nd (o141_g P) nl nl) nl) (nd (o109_f P) nl nl)) (nd (setD P) (nd (o93_f P) nl nl) (nd (o125_g P) nl nl)))))) (nd (o2_a P) (nd (boot_o_4 P) (nd (boot_o_8 P) (nd (o16_a P) (nd (o32_a P) (nd (o64_b P) (nd (o128_g P) nl nl) nl) (nd (o96_f P) nl nl)) (nd (o48_a P) (nd (o80_f P) (nd (o144_g P) nl nl) nl) (nd (o112_g P) nl nl))) (nd (o24_a P) (nd (o40_a P) (nd (o72_d P) (nd (o136_g P) nl nl) nl) (nd (o104_f P) nl nl)) (nd (o56_a P) (nd (o88_f P) nl nl) (nd (o120_g P) nl nl)))) (nd (o12_g P) (nd (o20_a P) (nd (o36_a P) (nd (o68_c P) (nd (o132_g P) nl nl) nl) (nd (o100_f P) nl nl)) (nd (o52_a P) (nd (o84_f P) (nd (o148_g P) nl nl) nl) (nd (o116_g P) nl nl))) (nd (o28_a P) (nd (o44_a P) (nd (o76_f P) (nd (o140_g P) nl nl) nl) (nd (o108_f P) nl nl)) (nd (o60_a P) (nd (o92_f P) nl nl) (nd (o124_g P) nl nl))))) (nd (boot_o_6 P) (nd (boot_o_10 P) (nd (o18_a P) (nd (o34_a P) (nd (o66_c P) (nd (o130_g P) nl nl) nl) (nd (o98_f P) nl nl)) (nd (o50_a P) (nd (o82_f P) (nd (o146_g P) nl nl) nl) (nd (o114_g P) nl nl))) (nd (o26_a P) (nd (o42_a P) (nd (o74_f P) (nd (o138_g P) nl nl) nl) (nd (o106_f P) nl nl)) (nd (o58_a P) (nd (o90_f P) nl nl) (nd (o122_g P) nl nl)))) (nd (o14_z P) (nd (o22_a P) (nd (o38_a P) (nd (o70_d P) (nd (o134_g P) nl nl) nl) (nd (o102_f P) nl nl)) (nd (o54_a P) (nd (o86_f P) nl nl) (nd (o118_g P) nl nl))) (nd (o30_a P) (nd (o46_a P) (nd (o78_f P) (nd (o142_g P) nl nl) nl) (nd (o110_f P) nl nl)) (nd (o62_b P) (nd (o94_f P) nl nl) (nd (o126_g P) nl nl)))))))
noncomputable def S_g (w : World) (os : OsState) : SharedT := ⟨T_g w.params, 149, life0, Array.mk [], boot_drawn, 571, os⟩
noncomputable def o3_h (P : Params) : Obj := ⟨(.type "dict"), none, (.dict #[⟨PyData.keyHash P "__name__", (.str "__name__" 165), (.str "corecc.preprocess" 497)⟩, ⟨PyData.keyHash P "__doc__", (.str "__doc__" 166), .none⟩, ⟨PyData.keyHash P "__package__", (.str "__package__" 167), .none⟩, ⟨PyData.keyHash P "__loader__", (.str "__loader__" 168), (.builtin "__main__.__loader__#opaque")⟩, ⟨PyData.keyHash P "__spec__", (.str "__spec__" 169), .none⟩, ⟨PyData.keyHash P "__annotations__", (.str "__annotations__" 170), (.ref 6)⟩, ⟨PyData.keyHash P "__builtins__", (.str "__builtins__" 171), (.ref 4)⟩, ⟨PyData.keyHash P "__file__", (.str "__file__" 173), (.str "/claim/cut.py" 172)⟩, ⟨PyData.keyHash P "__cached__", (.str "__cached__" 174), .none⟩, ⟨PyData.keyHash P "_wall", (.str "_wall" 193), (.ref 21)⟩, ⟨PyData.keyHash P "CompileFault", (.str "CompileFault" 235), (.ref 45)⟩, ⟨PyData.keyHash P "DirectiveFault", (.str "DirectiveFault" 251), (.ref 58)⟩, ⟨PyData.keyHash P "DIGITS", (.str "DIGITS" 275), (.ref 61)⟩, ⟨PyData.keyHash P "HEX_DIGITS", (.str "HEX_DIGITS" 321), (.ref 65)⟩, ⟨PyData.keyHash P "OCTAL_DIGITS", (.str "OCTAL_DIGITS" 339), (.ref 69)⟩, ⟨PyData.keyHash P "SUFFIXES", (.str "SUFFIXES" 350), (.ref 73)⟩, ⟨PyData.keyHash P "MOST_OCTET", (.str "MOST_OCTET" 352), (.int 255 351)⟩, ⟨PyData.keyHash P "MOST_WIDE", (.str "MOST_WIDE" 354), (.int 4294967295 353)⟩, ⟨PyData.keyHash P "ESCAPES", (.str "ESCAPES" 388), (.ref 74)⟩, ⟨PyData.keyHash P "Token", (.str "Token" 445), (.ref 106)⟩, ⟨PyData.keyHash P "number_parts", (.str "number_parts" 459), (.ref 117)⟩, ⟨PyData.keyHash P "escape_at", (.str "escape_at" 469), (.ref 124)⟩, ⟨PyData.keyHash P "literal_values", (.str "literal_values" 482), (.ref 131)⟩, ⟨PyData.keyHash P "literal_octets", (.str "literal_octets" 489), (.ref 138)⟩, ⟨PyData.keyHash P "wide_values", (.str "wide_values" 496), (.ref 145)⟩, ⟨PyData.keyHash P "ALL_BITS", (.str "ALL_BITS" 500), (.int 4294967295 499)⟩, ⟨PyData.keyHash P "TOP_BIT", (.str "TOP_BIT" 502), (.int 2147483648 501)⟩, ⟨PyData.keyHash P "LEVELS", (.str "LEVELS" 557), (.ref 146)⟩, ⟨PyData.keyHash P "SIGNS_AHEAD", (.str "SIGNS_AHEAD" 570), (.ref 148)⟩, ⟨PyData.keyHash P "Value", (.str "Value" 603), (.ref 165)⟩, ⟨PyData.keyHash P "truth", (.str "truth" 611), (.ref 176)⟩, ⟨PyData.keyHash P "quotient", (.str "quotient" 620), (.ref 183)⟩, ⟨PyData.keyHash P "one_sided", (.str "one_sided" 628), (.ref 190)⟩, ⟨PyData.keyHash P "compared", (.str "compared" 637), (.ref 197)⟩, ⟨PyData.keyHash P "two_sided", (.str "two_sided" 651), (.ref 204)⟩, ⟨PyData.keyHash P "chosen", (.str "chosen" 661), (.ref 211)⟩] 36), #[]⟩
noncomputable def o12_h (P : Params) : Obj := ⟨.none, none, (.fields #[(.int 1 0), (.int 0 0), (.ref 20), (.int 5 0), (.int 0 0), (.ref 27), (.int 15 0), (.int 0 0), (.ref 54), (.int 25 0), (.int 0 0), (.ref 80), (.int 44 0), (.int 0 0), (.ref 116), (.int 65 0), (.int 0 0), (.ref 123), (.int 80 0), (.int 0 0), (.ref 130), (.int 94 0), (.int 0 0), (.ref 137), (.int 96 0), (.int 0 0), (.ref 144), (.int 103 0), (.int 0 0), (.ref 154), (.int 112 0), (.int 0 0), (.ref 175), (.int 114 0), (.int 0 0), (.ref 182), (.int 117 0), (.int 0 0), (.ref 189), (.int 125 0), (.int 0 0), (.ref 196), (.int 135 0), (.int 0 0), (.ref 203), (.int 165 0), (.int 0 0), (.ref 210)]), #[]⟩
noncomputable def o149_h (P : Params) : Obj := ⟨(.type "tuple"), none, (.seq #[] 0), #[]⟩
noncomputable def o150_h (P : Params) : Obj := ⟨(.type "builtin_function_or_method"), none, (.fields #[(.builtin "type.__prepare__"), (.type "type")]), #[]⟩
noncomputable def o151_h (P : Params) : Obj := ⟨(.type "dict"), none, (.dict #[⟨PyData.keyHash P "__module__", (.str "__module__" 578), (.str "corecc.preprocess" 497)⟩, ⟨PyData.keyHash P "__qualname__", (.str "__qualname__" 580), (.str "Value" 579)⟩, ⟨PyData.keyHash P "__firstlineno__", (.str "__firstlineno__" 582), (.int 103 581)⟩, ⟨PyData.keyHash P "__init__", (.str "__init__" 592), (.ref 162)⟩, ⟨PyData.keyHash P "__static_attributes__", (.str "__static_attributes__" 596), (.ref 163)⟩] 5), #[]⟩
noncomputable def o152_h (P : Params) : Obj := ⟨(.type "tuple"), none, (.seq #[] 0), #[]⟩
noncomputable def o153_h (P : Params) : Obj := ⟨.none, none, (.fields #[(.int 105 0), (.int 4 0), (.ref 161)]), #[]⟩
noncomputable def o154_h (P : Params) : Obj := ⟨(.type "code"), none, (.fields #[(.str "Value" 573), (.str "Value" 574), (.str "/claim/cut.py" 575), (.int 103 0), (.int 0 0), (.int 0 0), (.int 0 0), (.int 0 0), (.ref 152), (.bool false), (.int 181 0), (.ref 153), .none, .none, .none, .none, (.int 576 0), (.int 103 0), (.str "/claim/cut.py" 577)]), #[]⟩
noncomputable def o155_h (P : Params) : Obj := ⟨(.type "frame"), none, .plain, #[(some (.ref 154)), (some (.ref 3)), (some (.ref 151)), none, (some (.str "corecc.preprocess" 497)), none, (some (.ref 0))]⟩
noncomputable def o156_h (P : Params) : Obj := ⟨(.type "tuple"), none, (.seq #[] 0), #[]⟩
noncomputable def o157_h (P : Params) : Obj := ⟨.none, none, (.fields #[]), #[]⟩
noncomputable def o158_h (P : Params) : Obj := ⟨(.type "tuple"), none, (.seq #[(.str "self" 586), (.str "number" 587), (.str "is_unsigned" 588), (.str "is_bad" 589)] 0), #[]⟩
noncomputable def o159_h (P : Params) : Obj := ⟨(.type "tuple"), none, (.seq #[] 0), #[]⟩
noncomputable def o160_h (P : Params) : Obj := ⟨.none, none, (.func { name := "__init__", qualname := "Value.__init__", params := pA (M 23 0), body := .stmts (pB (M 23 0)), scope := pS (M 23 0), globals := 0, closure := [], defaults := .none, kwdefaults := .none, doc := .none, pyModule := .none, annotations := none, code := .none, closureTuple := .none, builtins := 0 }), #[]⟩
noncomputable def o161_h (P : Params) : Obj := ⟨(.type "code"), none, (.fields #[(.str "__init__" 583), (.str "Value.__init__" 584), (.str "/claim/cut.py" 585), (.int 105 0), (.int 4 0), (.int 0 0), (.int 0 0), (.int 3 0), (.ref 156), (.bool true), (.int 181 0), (.ref 157), .none, (.ref 158), (.ref 159), (.ref 160), (.int 590 0), (.int 105 0), (.str "/claim/cut.py" 591)]), #[]⟩
noncomputable def o162_h (P : Params) : Obj := ⟨(.type "function"), none, (.func { name := "__init__", qualname := "Value.__init__", params := pA (M 23 0), body := .stmts (pB (M 23 0)), scope := pS (M 23 0), globals := 3, closure := [], defaults := .none, kwdefaults := .none, doc := .none, pyModule := (.str "corecc.preprocess" 497), annotations := none, code := (.ref 161), closureTuple := .none, builtins := 0 }), #[]⟩
noncomputable def o163_h (P : Params) : Obj := ⟨(.type "tuple"), none, (.seq #[(.str "is_bad" 593), (.str "is_unsigned" 594), (.str "number" 595)] 0), #[]⟩
noncomputable def o164_h (P : Params) : Obj := ⟨(.type "dict"), none, (.dict #[⟨PyData.keyHash P "__module__", (.str "__module__" 578), (.str "corecc.preprocess" 497)⟩, ⟨PyData.keyHash P "__firstlineno__", (.str "__firstlineno__" 582), (.int 103 581)⟩, ⟨PyData.keyHash P "__init__", (.str "__init__" 592), (.ref 162)⟩, ⟨PyData.keyHash P "__static_attributes__", (.str "__static_attributes__" 596), (.ref 163)⟩, ⟨PyData.keyHash P "__dict__", (.str "__dict__" 598), (.ref 166)⟩, ⟨PyData.keyHash P "__weakref__", (.str "__weakref__" 600), (.ref 167)⟩, ⟨PyData.keyHash P "__doc__", (.str "__doc__" 601), .none⟩] 4), #[]⟩
noncomputable def o165_h (P : Params) : Obj := ⟨(.type "type"), none, (.cls { name := "Value", bases := [(.type "object")], mro := [(.ref 165), (.type "object")], ns := 164, qualname := "Value", hasDict := true, slotNames := [], subclasses := [], abstract := false, collection := none, hasDel := false }), #[none, none, (some (.str "Value" 571)), (some (.str "Value" 579)), (some (.builtin "object.__new__")), (some (.bool true))]⟩
noncomputable def o166_h (P : Params) : Obj := ⟨(.type "getset_descriptor"), none, (.fields #[(.str "__dict__" 597), (.ref 165), (.builtin "function.__dict__"), (.builtin "function.__dict__#set")]), #[]⟩
noncomputable def o167_h (P : Params) : Obj := ⟨(.type "getset_descriptor"), none, (.fields #[(.str "__weakref__" 599), (.ref 165), (.builtin "ExceptionGroup.__weakref__"), .none]), #[]⟩
noncomputable def o168_h (P : Params) : Obj := ⟨(.type "super"), none, (.fields #[(.ref 165), (.ref 165), (.ref 165)]), #[]⟩
noncomputable def o169_h (P : Params) : Obj := ⟨(.type "builtin_function_or_method"), none, (.fields #[(.builtin "object.__init_subclass__"), (.ref 165)]), #[]⟩
noncomputable def o170_h (P : Params) : Obj := ⟨(.type "tuple"), none, (.seq #[] 0), #[]⟩
noncomputable def o171_h (P : Params) : Obj := ⟨.none, none, (.fields #[]), #[]⟩
noncomputable def o172_h (P : Params) : Obj := ⟨(.type "tuple"), none, (.seq #[(.str "is_so" 607), (.str "is_bad" 608)] 0), #[]⟩
noncomputable def o173_h (P : Params) : Obj := ⟨(.type "tuple"), none, (.seq #[] 0), #[]⟩
noncomputable def o174_h (P : Params) : Obj := ⟨.none, none, (.func { name := "truth", qualname := "truth", params := pA (D 24), body := .stmts (pB (D 24)), scope := pS (D 24), globals := 0, closure := [], defaults := .none, kwdefaults := .none, doc := .none, pyModule := .none, annotations := none, code := .none, closureTuple := .none, builtins := 0 }), #[]⟩
noncomputable def o175_h (P : Params) : Obj := ⟨(.type "code"), none, (.fields #[(.str "truth" 604), (.str "truth" 605), (.str "/claim/cut.py" 606), (.int 112 0), (.int 2 0), (.int 0 0), (.int 0 0), (.int 3 0), (.ref 170), (.bool true), (.int 181 0), (.ref 171), .none, (.ref 172), (.ref 173), (.ref 174), (.int 609 0), (.int 112 0), (.str "/claim/cut.py" 610)]), #[]⟩
noncomputable def o176_h (P : Params) : Obj := ⟨(.type "function"), none, (.func { name := "truth", qualname := "truth", params := pA (D 24), body := .stmts (pB (D 24)), scope := pS (D 24), globals := 3, closure := [], defaults := .none, kwdefaults := .none, doc := .none, pyModule := (.str "corecc.preprocess" 497), annotations := none, code := (.ref 175), closureTuple := .none, builtins := 0 }), #[]⟩
noncomputable def o177_h (P : Params) : Obj := ⟨(.type "tuple"), none, (.seq #[] 0), #[]⟩
noncomputable def o178_h (P : Params) : Obj := ⟨.none, none, (.fields #[]), #[]⟩
noncomputable def o179_h (P : Params) : Obj := ⟨(.type "tuple"), none, (.seq #[(.str "one" 615), (.str "two" 616), (.str "found" 617)] 0), #[]⟩
noncomputable def o180_h (P : Params) : Obj := ⟨(.type "tuple"), none, (.seq #[] 0), #[]⟩
noncomputable def o181_h (P : Params) : Obj := ⟨.none, none, (.func { name := "quotient", qualname := "quotient", params := pA (D 25), body := .stmts (pB (D 25)), scope := pS (D 25), globals := 0, closure := [], defaults := .none, kwdefaults := .none, doc := .none, pyModule := .none, annotations := none, code := .none, closureTuple := .none, builtins := 0 }), #[]⟩
noncomputable def o182_h (P : Params) : Obj := ⟨(.type "code"), none, (.fields #[(.str "quotient" 612), (.str "quotient" 613), (.str "/claim/cut.py" 614), (.int 114 0), (.int 2 0), (.int 0 0), (.int 0 0), (.int 3 0), (.ref 177), (.bool true), (.int 181 0), (.ref 178), .none, (.ref 179), (.ref 180), (.ref 181), (.int 618 0), (.int 114 0), (.str "/claim/cut.py" 619)]), #[]⟩
noncomputable def o183_h (P : Params) : Obj := ⟨(.type "function"), none, (.func { name := "quotient", qualname := "quotient", params := pA (D 25), body := .stmts (pB (D 25)), scope := pS (D 25), globals := 3, closure := [], defaults := .none, kwdefaults := .none, doc := .none, pyModule := (.str "corecc.preprocess" 497), annotations := none, code := (.ref 182), closureTuple := .none, builtins := 0 }), #[]⟩
noncomputable def o184_h (P : Params) : Obj := ⟨(.type "tuple"), none, (.seq #[] 0), #[]⟩
noncomputable def o185_h (P : Params) : Obj := ⟨.none, none, (.fields #[]), #[]⟩
noncomputable def o186_h (P : Params) : Obj := ⟨(.type "tuple"), none, (.seq #[(.str "word" 624), (.str "a" 625)] 0), #[]⟩
noncomputable def o187_h (P : Params) : Obj := ⟨(.type "tuple"), none, (.seq #[] 0), #[]⟩
noncomputable def o188_h (P : Params) : Obj := ⟨.none, none, (.func { name := "one_sided", qualname := "one_sided", params := pA (D 26), body := .stmts (pB (D 26)), scope := pS (D 26), globals := 0, closure := [], defaults := .none, kwdefaults := .none, doc := .none, pyModule := .none, annotations := none, code := .none, closureTuple := .none, builtins := 0 }), #[]⟩
noncomputable def o189_h (P : Params) : Obj := ⟨(.type "code"), none, (.fields #[(.str "one_sided" 621), (.str "one_sided" 622), (.str "/claim/cut.py" 623), (.int 117 0), (.int 2 0), (.int 0 0), (.int 0 0), (.int 3 0), (.ref 184), (.bool true), (.int 181 0), (.ref 185), .none, (.ref 186), (.ref 187), (.ref 188), (.int 626 0), (.int 117 0), (.str "/claim/cut.py" 627)]), #[]⟩
noncomputable def o190_h (P : Params) : Obj := ⟨(.type "function"), none, (.func { name := "one_sided", qualname := "one_sided", params := pA (D 26), body := .stmts (pB (D 26)), scope := pS (D 26), globals := 3, closure := [], defaults := .none, kwdefaults := .none, doc := .none, pyModule := (.str "corecc.preprocess" 497), annotations := none, code := (.ref 189), closureTuple := .none, builtins := 0 }), #[]⟩
noncomputable def o191_h (P : Params) : Obj := ⟨(.type "tuple"), none, (.seq #[] 0), #[]⟩
noncomputable def o192_h (P : Params) : Obj := ⟨.none, none, (.fields #[]), #[]⟩
noncomputable def o193_h (P : Params) : Obj := ⟨(.type "tuple"), none, (.seq #[(.str "word" 632), (.str "one" 633), (.str "two" 634)] 0), #[]⟩
noncomputable def o194_h (P : Params) : Obj := ⟨(.type "tuple"), none, (.seq #[] 0), #[]⟩
noncomputable def o195_h (P : Params) : Obj := ⟨.none, none, (.func { name := "compared", qualname := "compared", params := pA (D 27), body := .stmts (pB (D 27)), scope := pS (D 27), globals := 0, closure := [], defaults := .none, kwdefaults := .none, doc := .none, pyModule := .none, annotations := none, code := .none, closureTuple := .none, builtins := 0 }), #[]⟩
noncomputable def o196_h (P : Params) : Obj := ⟨(.type "code"), none, (.fields #[(.str "compared" 629), (.str "compared" 630), (.str "/claim/cut.py" 631), (.int 125 0), (.int 3 0), (.int 0 0), (.int 0 0), (.int 3 0), (.ref 191), (.bool true), (.int 181 0), (.ref 192), .none, (.ref 193), (.ref 194), (.ref 195), (.int 635 0), (.int 125 0), (.str "/claim/cut.py" 636)]), #[]⟩
noncomputable def o197_h (P : Params) : Obj := ⟨(.type "function"), none, (.func { name := "compared", qualname := "compared", params := pA (D 27), body := .stmts (pB (D 27)), scope := pS (D 27), globals := 3, closure := [], defaults := .none, kwdefaults := .none, doc := .none, pyModule := (.str "corecc.preprocess" 497), annotations := none, code := (.ref 196), closureTuple := .none, builtins := 0 }), #[]⟩
noncomputable def o198_h (P : Params) : Obj := ⟨(.type "tuple"), none, (.seq #[] 0), #[]⟩
noncomputable def o199_h (P : Params) : Obj := ⟨.none, none, (.fields #[]), #[]⟩
noncomputable def o200_h (P : Params) : Obj := ⟨(.type "tuple"), none, (.seq #[(.str "word" 641), (.str "a" 642), (.str "b" 643), (.str "is_bad" 644), (.str "is_unsigned" 645), (.str "one" 646), (.str "two" 647), (.str "found" 648)] 0), #[]⟩
noncomputable def o201_h (P : Params) : Obj := ⟨(.type "tuple"), none, (.seq #[] 0), #[]⟩
noncomputable def o202_h (P : Params) : Obj := ⟨.none, none, (.func { name := "two_sided", qualname := "two_sided", params := pA (D 28), body := .stmts (pB (D 28)), scope := pS (D 28), globals := 0, closure := [], defaults := .none, kwdefaults := .none, doc := .none, pyModule := .none, annotations := none, code := .none, closureTuple := .none, builtins := 0 }), #[]⟩
noncomputable def o203_h (P : Params) : Obj := ⟨(.type "code"), none, (.fields #[(.str "two_sided" 638), (.str "two_sided" 639), (.str "/claim/cut.py" 640), (.int 135 0), (.int 3 0), (.int 0 0), (.int 0 0), (.int 3 0), (.ref 198), (.bool true), (.int 181 0), (.ref 199), .none, (.ref 200), (.ref 201), (.ref 202), (.int 649 0), (.int 135 0), (.str "/claim/cut.py" 650)]), #[]⟩
noncomputable def o204_h (P : Params) : Obj := ⟨(.type "function"), none, (.func { name := "two_sided", qualname := "two_sided", params := pA (D 28), body := .stmts (pB (D 28)), scope := pS (D 28), globals := 3, closure := [], defaults := .none, kwdefaults := .none, doc := .none, pyModule := (.str "corecc.preprocess" 497), annotations := none, code := (.ref 203), closureTuple := .none, builtins := 0 }), #[]⟩
noncomputable def o205_h (P : Params) : Obj := ⟨(.type "tuple"), none, (.seq #[] 0), #[]⟩
noncomputable def o206_h (P : Params) : Obj := ⟨.none, none, (.fields #[]), #[]⟩
noncomputable def o207_h (P : Params) : Obj := ⟨(.type "tuple"), none, (.seq #[(.str "test" 655), (.str "a" 656), (.str "b" 657), (.str "taken" 658)] 0), #[]⟩
noncomputable def o208_h (P : Params) : Obj := ⟨(.type "tuple"), none, (.seq #[] 0), #[]⟩
noncomputable def o209_h (P : Params) : Obj := ⟨.none, none, (.func { name := "chosen", qualname := "chosen", params := pA (D 29), body := .stmts (pB (D 29)), scope := pS (D 29), globals := 0, closure := [], defaults := .none, kwdefaults := .none, doc := .none, pyModule := .none, annotations := none, code := .none, closureTuple := .none, builtins := 0 }), #[]⟩
noncomputable def o210_h (P : Params) : Obj := ⟨(.type "code"), none, (.fields #[(.str "chosen" 652), (.str "chosen" 653), (.str "/claim/cut.py" 654), (.int 165 0), (.int 3 0), (.int 0 0), (.int 0 0), (.int 3 0), (.ref 205), (.bool true), (.int 181 0), (.ref 206), .none, (.ref 207), (.ref 208), (.ref 209), (.int 659 0), (.int 165 0), (.str "/claim/cut.py" 660)]), #[]⟩
noncomputable def o211_h (P : Params) : Obj := ⟨(.type "function"), none, (.func { name := "chosen", qualname := "chosen", params := pA (D 29), body := .stmts (pB (D 29)), scope := pS (D 29), globals := 3, closure := [], defaults := .none, kwdefaults := .none, doc := .none, pyModule := (.str "corecc.preprocess" 497), annotations := none, code := (.ref 210), closureTuple := .none, builtins := 0 }), #[]⟩
noncomputable def T_h (P : Params) : BT := (nd (boot_o_0 P) (nd (boot_o_1 P) (nd (o3_h P) (nd (boot_o_7 P) (nd (o15_a P) (nd (o31_a P) (nd (o63_b P) (nd (o127_g P) nl nl) (nd (o191_h P) nl nl)) (nd (o95_f P) (nd (o159_h P) nl nl) nl)) (nd (o47_a P) (nd (o79_f P) (nd (o143_g P) nl nl) (nd (o207_h P) nl nl)) (nd (o111_g P) (nd (o175_h P) nl nl) nl))) (nd (o23_a P) (nd (o39_a P) (nd (o71_d P) (nd (o135_g P) nl nl) (nd (o199_h P) nl nl)) (nd (o103_f P) (nd (o167_h P) nl nl) nl)) (nd (o55_a P) (nd (o87_f P) (nd (o151_h P) nl nl) nl) (nd (o119_g P) (nd (o183_h P) nl nl) nl)))) (nd (o11_z P) (nd (o19_a P) (nd (o35_a P) (nd (o67_c P) (nd (o131_g P) nl nl) (nd (o195_h P) nl nl)) (nd (o99_f P) (nd (o163_h P) nl nl) nl)) (nd (o51_a P) (nd (o83_f P) (nd (o147_g P) nl nl) (nd (o211_h P) nl nl)) (nd (o115_g P) (nd (o179_h P) nl nl) nl))) (nd (o27_a P) (nd (o43_a P) (nd (o75_f P) (nd (o139_g P) nl nl) (nd (o203_h P) nl nl)) (nd (o107_f P) (nd (o171_h P) nl nl) nl)) (nd (o59_a P) (nd (o91_f P) (nd (o155_h P) nl nl) nl) (nd (o123_g P) (nd (o187_h P) nl nl) nl))))) (nd (boot_o_5 P) (nd (boot_o_9 P) (nd (o17_a P) (nd (o33_a P) (nd (setH P) (nd (o129_g P) nl nl) (nd (o193_h P) nl nl)) (nd (o97_f P) (nd (o161_h P) nl nl) nl)) (nd (o49_a P) (nd (o81_f P) (nd (o145_g P) nl nl) (nd (o209_h P) nl nl)) (nd (o113_g P) (nd (o177_h P) nl nl) nl))) (nd (o25_a P) (nd (o41_a P) (nd (setS P) (nd (o137_g P) nl nl) (nd (o201_h P) nl nl)) (nd (o105_f P) (nd (o169_h P) nl nl) nl)) (nd (o57_a P) (nd (o89_f P) (nd (o153_h P) nl nl) nl) (nd (o121_g P) (nd (o185_h P) nl nl) nl)))) (nd (o13_z P) (nd (o21_a P) (nd (o37_a P) (nd (setO P) (nd (o133_g P) nl nl) (nd (o197_h P) nl nl)) (nd (o101_f P) (nd (o165_h P) nl nl) nl)) (nd (o53_a P) (nd (o85_f P) (nd (o149_h P) nl nl) nl) (nd (o117_g P) (nd (o181_h P) nl nl) nl))) (nd (o29_a P) (nd (o45_a P) (nd (o77_f P) (nd (o141_g P) nl nl) (nd (o205_h P) nl nl)) (nd (o109_f P) (nd (o173_h P) nl nl) nl)) (nd (setD P) (nd (o93_f P) (nd (o157_h P) nl nl) nl) (nd (o125_g P) (nd (o189_h P) nl nl) nl)))))) (nd (o2_a P) (nd (boot_o_4 P) (nd (boot_o_8 P) (nd (o16_a P) (nd (o32_a P) (nd (o64_b P) (nd (o128_g P) nl nl) (nd (o192_h P) nl nl)) (nd (o96_f P) (nd (o160_h P) nl nl) nl)) (nd (o48_a P) (nd (o80_f P) (nd (o144_g P) nl nl) (nd (o208_h P) nl nl)) (nd (o112_g P) (nd (o176_h P) nl nl) nl))) (nd (o24_a P) (nd (o40_a P) (nd (o72_d P) (nd (o136_g P) nl nl) (nd (o200_h P) nl nl)) (nd (o104_f P) (nd (o168_h P) nl nl) nl)) (nd (o56_a P) (nd (o88_f P) (nd (o152_h P) nl nl) nl) (nd (o120_g P) (nd (o184_h P) nl nl) nl)))) (nd (o12_h P) (nd (o20_a P) (nd (o36_a P) (nd (o68_c P) (nd (o132_g P) nl nl) (nd (o196_h P) nl nl)) (nd (o100_f P) (nd (o164_h P) nl nl) nl)) (nd (o52_a P) (nd (o84_f P) (nd (o148_g P) nl nl) nl) (nd (o116_g P) (nd (o180_h P) nl nl) nl))) (nd (o28_a P) (nd (o44_a P) (nd (o76_f P) (nd (o140_g P) nl nl) (nd (o204_h P) nl nl)) (nd (o108_f P) (nd (o172_h P) nl nl) nl)) (nd (o60_a P) (nd (o92_f P) (nd (o156_h P) nl nl) nl) (nd (o124_g P) (nd (o188_h P) nl nl) nl))))) (nd (boot_o_6 P) (nd (boot_o_10 P) (nd (o18_a P) (nd (o34_a P) (nd (o66_c P) (nd (o130_g P) nl nl) (nd (o194_h P) nl nl)) (nd (o98_f P) (nd (o162_h P) nl nl) nl)) (nd (o50_a P) (nd (o82_f P) (nd (o146_g P) nl nl) (nd (o210_h P) nl nl)) (nd (o114_g P) (nd (o178_h P) nl nl) nl))) (nd (o26_a P) (nd (o42_a P) (nd (o74_f P) (nd (o138_g P) nl nl) (nd (o202_h P) nl nl)) (nd (o106_f P) (nd (o170_h P) nl nl) nl)) (nd (o58_a P) (nd (o90_f P) (nd (o154_h P) nl nl) nl) (nd (o122_g P) (nd (o186_h P) nl nl) nl)))) (nd (o14_z P) (nd (o22_a P) (nd (o38_a P) (nd (o70_d P) (nd (o134_g P) nl nl) (nd (o198_h P) nl nl)) (nd (o102_f P) (nd (o166_h P) nl nl) nl)) (nd (o54_a P) (nd (o86_f P) (nd (o150_h P) nl nl) nl) (nd (o118_g P) (nd (o182_h P) nl nl) nl))) (nd (o30_a P) (nd (o46_a P) (nd (o78_f P) (nd (o142_g P) nl nl) (nd (o206_h P) nl nl)) (nd (o110_f P) (nd (o174_h P) nl nl) nl)) (nd (o62_b P) (nd (o94_f P) (nd (o158_h P) nl nl) nl) (nd (o126_g P) (nd (o190_h P) nl nl) nl)))))))
noncomputable def S_h (w : World) (os : OsState) : SharedT := ⟨T_h w.params, 212, life0, Array.mk [], boot_drawn, 662, os⟩
noncomputable def o3_i (P : Params) : Obj := ⟨(.type "dict"), none, (.dict #[⟨PyData.keyHash P "__name__", (.str "__name__" 165), (.str "corecc.preprocess" 497)⟩, ⟨PyData.keyHash P "__doc__", (.str "__doc__" 166), .none⟩, ⟨PyData.keyHash P "__package__", (.str "__package__" 167), .none⟩, ⟨PyData.keyHash P "__loader__", (.str "__loader__" 168), (.builtin "__main__.__loader__#opaque")⟩, ⟨PyData.keyHash P "__spec__", (.str "__spec__" 169), .none⟩, ⟨PyData.keyHash P "__annotations__", (.str "__annotations__" 170), (.ref 6)⟩, ⟨PyData.keyHash P "__builtins__", (.str "__builtins__" 171), (.ref 4)⟩, ⟨PyData.keyHash P "__file__", (.str "__file__" 173), (.str "/claim/cut.py" 172)⟩, ⟨PyData.keyHash P "__cached__", (.str "__cached__" 174), .none⟩, ⟨PyData.keyHash P "_wall", (.str "_wall" 193), (.ref 21)⟩, ⟨PyData.keyHash P "CompileFault", (.str "CompileFault" 235), (.ref 45)⟩, ⟨PyData.keyHash P "DirectiveFault", (.str "DirectiveFault" 251), (.ref 58)⟩, ⟨PyData.keyHash P "DIGITS", (.str "DIGITS" 275), (.ref 61)⟩, ⟨PyData.keyHash P "HEX_DIGITS", (.str "HEX_DIGITS" 321), (.ref 65)⟩, ⟨PyData.keyHash P "OCTAL_DIGITS", (.str "OCTAL_DIGITS" 339), (.ref 69)⟩, ⟨PyData.keyHash P "SUFFIXES", (.str "SUFFIXES" 350), (.ref 73)⟩, ⟨PyData.keyHash P "MOST_OCTET", (.str "MOST_OCTET" 352), (.int 255 351)⟩, ⟨PyData.keyHash P "MOST_WIDE", (.str "MOST_WIDE" 354), (.int 4294967295 353)⟩, ⟨PyData.keyHash P "ESCAPES", (.str "ESCAPES" 388), (.ref 74)⟩, ⟨PyData.keyHash P "Token", (.str "Token" 445), (.ref 106)⟩, ⟨PyData.keyHash P "number_parts", (.str "number_parts" 459), (.ref 117)⟩, ⟨PyData.keyHash P "escape_at", (.str "escape_at" 469), (.ref 124)⟩, ⟨PyData.keyHash P "literal_values", (.str "literal_values" 482), (.ref 131)⟩, ⟨PyData.keyHash P "literal_octets", (.str "literal_octets" 489), (.ref 138)⟩, ⟨PyData.keyHash P "wide_values", (.str "wide_values" 496), (.ref 145)⟩, ⟨PyData.keyHash P "ALL_BITS", (.str "ALL_BITS" 500), (.int 4294967295 499)⟩, ⟨PyData.keyHash P "TOP_BIT", (.str "TOP_BIT" 502), (.int 2147483648 501)⟩, ⟨PyData.keyHash P "LEVELS", (.str "LEVELS" 557), (.ref 146)⟩, ⟨PyData.keyHash P "SIGNS_AHEAD", (.str "SIGNS_AHEAD" 570), (.ref 148)⟩, ⟨PyData.keyHash P "Value", (.str "Value" 603), (.ref 165)⟩, ⟨PyData.keyHash P "truth", (.str "truth" 611), (.ref 176)⟩, ⟨PyData.keyHash P "quotient", (.str "quotient" 620), (.ref 183)⟩, ⟨PyData.keyHash P "one_sided", (.str "one_sided" 628), (.ref 190)⟩, ⟨PyData.keyHash P "compared", (.str "compared" 637), (.ref 197)⟩, ⟨PyData.keyHash P "two_sided", (.str "two_sided" 651), (.ref 204)⟩, ⟨PyData.keyHash P "chosen", (.str "chosen" 661), (.ref 211)⟩, ⟨PyData.keyHash P "Condition", (.str "Condition" 773), (.ref 291)⟩] 37), #[]⟩
noncomputable def o12_i (P : Params) : Obj := ⟨.none, none, (.fields #[(.int 1 0), (.int 0 0), (.ref 20), (.int 5 0), (.int 0 0), (.ref 27), (.int 15 0), (.int 0 0), (.ref 54), (.int 25 0), (.int 0 0), (.ref 80), (.int 44 0), (.int 0 0), (.ref 116), (.int 65 0), (.int 0 0), (.ref 123), (.int 80 0), (.int 0 0), (.ref 130), (.int 94 0), (.int 0 0), (.ref 137), (.int 96 0), (.int 0 0), (.ref 144), (.int 103 0), (.int 0 0), (.ref 154), (.int 112 0), (.int 0 0), (.ref 175), (.int 114 0), (.int 0 0), (.ref 182), (.int 117 0), (.int 0 0), (.ref 189), (.int 125 0), (.int 0 0), (.ref 196), (.int 135 0), (.int 0 0), (.ref 203), (.int 165 0), (.int 0 0), (.ref 210), (.int 168 0), (.int 0 0), (.ref 217)]), #[]⟩
noncomputable def o212_i (P : Params) : Obj := ⟨(.type "tuple"), none, (.seq #[] 0), #[]⟩
noncomputable def o213_i (P : Params) : Obj := ⟨(.type "builtin_function_or_method"), none, (.fields #[(.builtin "type.__prepare__"), (.type "type")]), #[]⟩
noncomputable def o214_i (P : Params) : Obj := ⟨(.type "dict"), none, (.dict #[⟨PyData.keyHash P "__module__", (.str "__module__" 669), (.str "corecc.preprocess" 497)⟩, ⟨PyData.keyHash P "__qualname__", (.str "__qualname__" 671), (.str "Condition" 670)⟩, ⟨PyData.keyHash P "__firstlineno__", (.str "__firstlineno__" 673), (.int 168 672)⟩, ⟨PyData.keyHash P "__init__", (.str "__init__" 682), (.ref 225)⟩, ⟨PyData.keyHash P "fault", (.str "fault" 690), (.ref 232)⟩, ⟨PyData.keyHash P "operand", (.str "operand" 699), (.ref 239)⟩, ⟨PyData.keyHash P "character", (.str "character" 709), (.ref 246)⟩, ⟨PyData.keyHash P "reduce", (.str "reduce" 719), (.ref 253)⟩, ⟨PyData.keyHash P "level", (.str "level" 726), (.ref 260)⟩, ⟨PyData.keyHash P "reduce_to", (.str "reduce_to" 735), (.ref 267)⟩, ⟨PyData.keyHash P "begin", (.str "begin" 743), (.ref 274)⟩, ⟨PyData.keyHash P "go_on", (.str "go_on" 752), (.ref 281)⟩, ⟨PyData.keyHash P "is_so", (.str "is_so" 761), (.ref 288)⟩, ⟨PyData.keyHash P "__static_attributes__", (.str "__static_attributes__" 766), (.ref 289)⟩] 14), #[]⟩
noncomputable def o215_i (P : Params) : Obj := ⟨(.type "tuple"), none, (.seq #[] 0), #[]⟩
noncomputable def o216_i (P : Params) : Obj := ⟨.none, none, (.fields #[(.int 170 0), (.int 4 0), (.ref 224), (.int 176 0), (.int 4 0), (.ref 231), (.int 179 0), (.int 4 0), (.ref 238), (.int 189 0), (.int 4 0), (.ref 245), (.int 196 0), (.int 4 0), (.ref 252), (.int 209 0), (.int 4 0), (.ref 259), (.int 214 0), (.int 4 0), (.ref 266), (.int 221 0), (.int 4 0), (.ref 273), (.int 231 0), (.int 4 0), (.ref 280), (.int 252 0), (.int 4 0), (.ref 287)]), #[]⟩
noncomputable def o217_i (P : Params) : Obj := ⟨(.type "code"), none, (.fields #[(.str "Condition" 664), (.str "Condition" 665), (.str "/claim/cut.py" 666), (.int 168 0), (.int 0 0), (.int 0 0), (.int 0 0), (.int 0 0), (.ref 215), (.bool false), (.int 181 0), (.ref 216), .none, .none, .none, .none, (.int 667 0), (.int 168 0), (.str "/claim/cut.py" 668)]), #[]⟩
noncomputable def o218_i (P : Params) : Obj := ⟨(.type "frame"), none, .plain, #[(some (.ref 217)), (some (.ref 3)), (some (.ref 214)), none, (some (.str "corecc.preprocess" 497)), none, (some (.ref 0))]⟩
noncomputable def o219_i (P : Params) : Obj := ⟨(.type "tuple"), none, (.seq #[] 0), #[]⟩
noncomputable def o220_i (P : Params) : Obj := ⟨.none, none, (.fields #[]), #[]⟩
noncomputable def o221_i (P : Params) : Obj := ⟨(.type "tuple"), none, (.seq #[(.str "self" 677), (.str "tokens" 678), (.str "place" 679)] 0), #[]⟩
noncomputable def o222_i (P : Params) : Obj := ⟨(.type "tuple"), none, (.seq #[] 0), #[]⟩
noncomputable def o223_i (P : Params) : Obj := ⟨.none, none, (.func { name := "__init__", qualname := "Condition.__init__", params := pA (M 30 0), body := .stmts (pB (M 30 0)), scope := pS (M 30 0), globals := 0, closure := [], defaults := .none, kwdefaults := .none, doc := .none, pyModule := .none, annotations := none, code := .none, closureTuple := .none, builtins := 0 }), #[]⟩
noncomputable def o224_i (P : Params) : Obj := ⟨(.type "code"), none, (.fields #[(.str "__init__" 674), (.str "Condition.__init__" 675), (.str "/claim/cut.py" 676), (.int 170 0), (.int 3 0), (.int 0 0), (.int 0 0), (.int 3 0), (.ref 219), (.bool true), (.int 181 0), (.ref 220), .none, (.ref 221), (.ref 222), (.ref 223), (.int 680 0), (.int 170 0), (.str "/claim/cut.py" 681)]), #[]⟩
noncomputable def o225_i (P : Params) : Obj := ⟨(.type "function"), none, (.func { name := "__init__", qualname := "Condition.__init__", params := pA (M 30 0), body := .stmts (pB (M 30 0)), scope := pS (M 30 0), globals := 3, closure := [], defaults := .none, kwdefaults := .none, doc := .none, pyModule := (.str "corecc.preprocess" 497), annotations := none, code := (.ref 224), closureTuple := .none, builtins := 0 }), #[]⟩
noncomputable def o226_i (P : Params) : Obj := ⟨(.type "tuple"), none, (.seq #[] 0), #[]⟩
noncomputable def o227_i (P : Params) : Obj := ⟨.none, none, (.fields #[]), #[]⟩
noncomputable def o228_i (P : Params) : Obj := ⟨(.type "tuple"), none, (.seq #[(.str "self" 686), (.str "word" 687)] 0), #[]⟩
noncomputable def o229_i (P : Params) : Obj := ⟨(.type "tuple"), none, (.seq #[] 0), #[]⟩
noncomputable def o230_i (P : Params) : Obj := ⟨.none, none, (.func { name := "fault", qualname := "Condition.fault", params := pA (M 30 1), body := .stmts (pB (M 30 1)), scope := pS (M 30 1), globals := 0, closure := [], defaults := .none, kwdefaults := .none, doc := .none, pyModule := .none, annotations := none, code := .none, closureTuple := .none, builtins := 0 }), #[]⟩
noncomputable def o231_i (P : Params) : Obj := ⟨(.type "code"), none, (.fields #[(.str "fault" 683), (.str "Condition.fault" 684), (.str "/claim/cut.py" 685), (.int 176 0), (.int 2 0), (.int 0 0), (.int 0 0), (.int 3 0), (.ref 226), (.bool true), (.int 181 0), (.ref 227), .none, (.ref 228), (.ref 229), (.ref 230), (.int 688 0), (.int 176 0), (.str "/claim/cut.py" 689)]), #[]⟩
noncomputable def o232_i (P : Params) : Obj := ⟨(.type "function"), none, (.func { name := "fault", qualname := "Condition.fault", params := pA (M 30 1), body := .stmts (pB (M 30 1)), scope := pS (M 30 1), globals := 3, closure := [], defaults := .none, kwdefaults := .none, doc := .none, pyModule := (.str "corecc.preprocess" 497), annotations := none, code := (.ref 231), closureTuple := .none, builtins := 0 }), #[]⟩
noncomputable def o233_i (P : Params) : Obj := ⟨(.type "tuple"), none, (.seq #[] 0), #[]⟩
noncomputable def o234_i (P : Params) : Obj := ⟨.none, none, (.fields #[]), #[]⟩
noncomputable def o235_i (P : Params) : Obj := ⟨(.type "tuple"), none, (.seq #[(.str "self" 694), (.str "token" 695), (.str "parts" 696)] 0), #[]⟩
noncomputable def o236_i (P : Params) : Obj := ⟨(.type "tuple"), none, (.seq #[] 0), #[]⟩
noncomputable def o237_i (P : Params) : Obj := ⟨.none, none, (.func { name := "operand", qualname := "Condition.operand", params := pA (M 30 2), body := .stmts (pB (M 30 2)), scope := pS (M 30 2), globals := 0, closure := [], defaults := .none, kwdefaults := .none, doc := .none, pyModule := .none, annotations := none, code := .none, closureTuple := .none, builtins := 0 }), #[]⟩
noncomputable def o238_i (P : Params) : Obj := ⟨(.type "code"), none, (.fields #[(.str "operand" 691), (.str "Condition.operand" 692), (.str "/claim/cut.py" 693), (.int 179 0), (.int 2 0), (.int 0 0), (.int 0 0), (.int 3 0), (.ref 233), (.bool true), (.int 181 0), (.ref 234), .none, (.ref 235), (.ref 236), (.ref 237), (.int 697 0), (.int 179 0), (.str "/claim/cut.py" 698)]), #[]⟩
noncomputable def o239_i (P : Params) : Obj := ⟨(.type "function"), none, (.func { name := "operand", qualname := "Condition.operand", params := pA (M 30 2), body := .stmts (pB (M 30 2)), scope := pS (M 30 2), globals := 3, closure := [], defaults := .none, kwdefaults := .none, doc := .none, pyModule := (.str "corecc.preprocess" 497), annotations := none, code := (.ref 238), closureTuple := .none, builtins := 0 }), #[]⟩
noncomputable def o240_i (P : Params) : Obj := ⟨(.type "tuple"), none, (.seq #[] 0), #[]⟩
noncomputable def o241_i (P : Params) : Obj := ⟨.none, none, (.fields #[]), #[]⟩
noncomputable def o242_i (P : Params) : Obj := ⟨(.type "tuple"), none, (.seq #[(.str "self" 703), (.str "text" 704), (.str "wide" 705), (.str "found" 706)] 0), #[]⟩
noncomputable def o243_i (P : Params) : Obj := ⟨(.type "tuple"), none, (.seq #[] 0), #[]⟩
noncomputable def o244_i (P : Params) : Obj := ⟨.none, none, (.func { name := "character", qualname := "Condition.character", params := pA (M 30 3), body := .stmts (pB (M 30 3)), scope := pS (M 30 3), globals := 0, closure := [], defaults := .none, kwdefaults := .none, doc := .none, pyModule := .none, annotations := none, code := .none, closureTuple := .none, builtins := 0 }), #[]⟩
noncomputable def o245_i (P : Params) : Obj := ⟨(.type "code"), none, (.fields #[(.str "character" 700), (.str "Condition.character" 701), (.str "/claim/cut.py" 702), (.int 189 0), (.int 2 0), (.int 0 0), (.int 0 0), (.int 3 0), (.ref 240), (.bool true), (.int 181 0), (.ref 241), .none, (.ref 242), (.ref 243), (.ref 244), (.int 707 0), (.int 189 0), (.str "/claim/cut.py" 708)]), #[]⟩
noncomputable def o246_i (P : Params) : Obj := ⟨(.type "function"), none, (.func { name := "character", qualname := "Condition.character", params := pA (M 30 3), body := .stmts (pB (M 30 3)), scope := pS (M 30 3), globals := 3, closure := [], defaults := .none, kwdefaults := .none, doc := .none, pyModule := (.str "corecc.preprocess" 497), annotations := none, code := (.ref 245), closureTuple := .none, builtins := 0 }), #[]⟩
noncomputable def o247_i (P : Params) : Obj := ⟨(.type "tuple"), none, (.seq #[] 0), #[]⟩
noncomputable def o248_i (P : Params) : Obj := ⟨.none, none, (.fields #[]), #[]⟩
noncomputable def o249_i (P : Params) : Obj := ⟨(.type "tuple"), none, (.seq #[(.str "self" 713), (.str "word" 714), (.str "other" 715), (.str "value" 716)] 0), #[]⟩
noncomputable def o250_i (P : Params) : Obj := ⟨(.type "tuple"), none, (.seq #[] 0), #[]⟩
noncomputable def o251_i (P : Params) : Obj := ⟨.none, none, (.func { name := "reduce", qualname := "Condition.reduce", params := pA (M 30 4), body := .stmts (pB (M 30 4)), scope := pS (M 30 4), globals := 0, closure := [], defaults := .none, kwdefaults := .none, doc := .none, pyModule := .none, annotations := none, code := .none, closureTuple := .none, builtins := 0 }), #[]⟩
noncomputable def o252_i (P : Params) : Obj := ⟨(.type "code"), none, (.fields #[(.str "reduce" 710), (.str "Condition.reduce" 711), (.str "/claim/cut.py" 712), (.int 196 0), (.int 1 0), (.int 0 0), (.int 0 0), (.int 3 0), (.ref 247), (.bool true), (.int 181 0), (.ref 248), .none, (.ref 249), (.ref 250), (.ref 251), (.int 717 0), (.int 196 0), (.str "/claim/cut.py" 718)]), #[]⟩
noncomputable def o253_i (P : Params) : Obj := ⟨(.type "function"), none, (.func { name := "reduce", qualname := "Condition.reduce", params := pA (M 30 4), body := .stmts (pB (M 30 4)), scope := pS (M 30 4), globals := 3, closure := [], defaults := .none, kwdefaults := .none, doc := .none, pyModule := (.str "corecc.preprocess" 497), annotations := none, code := (.ref 252), closureTuple := .none, builtins := 0 }), #[]⟩
noncomputable def o254_i (P : Params) : Obj := ⟨(.type "tuple"), none, (.seq #[] 0), #[]⟩
noncomputable def o255_i (P : Params) : Obj := ⟨.none, none, (.fields #[]), #[]⟩
noncomputable def o256_i (P : Params) : Obj := ⟨(.type "tuple"), none, (.seq #[(.str "self" 723)] 0), #[]⟩
noncomputable def o257_i (P : Params) : Obj := ⟨(.type "tuple"), none, (.seq #[] 0), #[]⟩
noncomputable def o258_i (P : Params) : Obj := ⟨.none, none, (.func { name := "level", qualname := "Condition.level", params := pA (M 30 5), body := .stmts (pB (M 30 5)), scope := pS (M 30 5), globals := 0, closure := [], defaults := .none, kwdefaults := .none, doc := .none, pyModule := .none, annotations := none, code := .none, closureTuple := .none, builtins := 0 }), #[]⟩
noncomputable def o259_i (P : Params) : Obj := ⟨(.type "code"), none, (.fields #[(.str "level" 720), (.str "Condition.level" 721), (.str "/claim/cut.py" 722), (.int 209 0), (.int 1 0), (.int 0 0), (.int 0 0), (.int 3 0), (.ref 254), (.bool true), (.int 181 0), (.ref 255), .none, (.ref 256), (.ref 257), (.ref 258), (.int 724 0), (.int 209 0), (.str "/claim/cut.py" 725)]), #[]⟩
noncomputable def o260_i (P : Params) : Obj := ⟨(.type "function"), none, (.func { name := "level", qualname := "Condition.level", params := pA (M 30 5), body := .stmts (pB (M 30 5)), scope := pS (M 30 5), globals := 3, closure := [], defaults := .none, kwdefaults := .none, doc := .none, pyModule := (.str "corecc.preprocess" 497), annotations := none, code := (.ref 259), closureTuple := .none, builtins := 0 }), #[]⟩
noncomputable def o261_i (P : Params) : Obj := ⟨(.type "tuple"), none, (.seq #[] 0), #[]⟩
noncomputable def o262_i (P : Params) : Obj := ⟨.none, none, (.fields #[]), #[]⟩
noncomputable def o263_i (P : Params) : Obj := ⟨(.type "tuple"), none, (.seq #[(.str "self" 730), (.str "word" 731), (.str "fault" 732)] 0), #[]⟩
noncomputable def o264_i (P : Params) : Obj := ⟨(.type "tuple"), none, (.seq #[] 0), #[]⟩
noncomputable def o265_i (P : Params) : Obj := ⟨.none, none, (.func { name := "reduce_to", qualname := "Condition.reduce_to", params := pA (M 30 6), body := .stmts (pB (M 30 6)), scope := pS (M 30 6), globals := 0, closure := [], defaults := .none, kwdefaults := .none, doc := .none, pyModule := .none, annotations := none, code := .none, closureTuple := .none, builtins := 0 }), #[]⟩
noncomputable def o266_i (P : Params) : Obj := ⟨(.type "code"), none, (.fields #[(.str "reduce_to" 727), (.str "Condition.reduce_to" 728), (.str "/claim/cut.py" 729), (.int 214 0), (.int 3 0), (.int 0 0), (.int 0 0), (.int 3 0), (.ref 261), (.bool true), (.int 181 0), (.ref 262), .none, (.ref 263), (.ref 264), (.ref 265), (.int 733 0), (.int 214 0), (.str "/claim/cut.py" 734)]), #[]⟩
noncomputable def o267_i (P : Params) : Obj := ⟨(.type "function"), none, (.func { name := "reduce_to", qualname := "Condition.reduce_to", params := pA (M 30 6), body := .stmts (pB (M 30 6)), scope := pS (M 30 6), globals := 3, closure := [], defaults := .none, kwdefaults := .none, doc := .none, pyModule := (.str "corecc.preprocess" 497), annotations := none, code := (.ref 266), closureTuple := .none, builtins := 0 }), #[]⟩
noncomputable def o268_i (P : Params) : Obj := ⟨(.type "tuple"), none, (.seq #[] 0), #[]⟩
noncomputable def o269_i (P : Params) : Obj := ⟨.none, none, (.fields #[]), #[]⟩
noncomputable def o270_i (P : Params) : Obj := ⟨(.type "tuple"), none, (.seq #[(.str "self" 739), (.str "token" 740)] 0), #[]⟩
noncomputable def o271_i (P : Params) : Obj := ⟨(.type "tuple"), none, (.seq #[] 0), #[]⟩
noncomputable def o272_i (P : Params) : Obj := ⟨.none, none, (.func { name := "begin", qualname := "Condition.begin", params := pA (M 30 7), body := .stmts (pB (M 30 7)), scope := pS (M 30 7), globals := 0, closure := [], defaults := .none, kwdefaults := .none, doc := .none, pyModule := .none, annotations := none, code := .none, closureTuple := .none, builtins := 0 }), #[]⟩
noncomputable def o273_i (P : Params) : Obj := ⟨(.type "code"), none, (.fields #[(.str "begin" 736), (.str "Condition.begin" 737), (.str "/claim/cut.py" 738), (.int 221 0), (.int 2 0), (.int 0 0), (.int 0 0), (.int 3 0), (.ref 268), (.bool true), (.int 181 0), (.ref 269), .none, (.ref 270), (.ref 271), (.ref 272), (.int 741 0), (.int 221 0), (.str "/claim/cut.py" 742)]), #[]⟩
noncomputable def o274_i (P : Params) : Obj := ⟨(.type "function"), none, (.func { name := "begin", qualname := "Condition.begin", params := pA (M 30 7), body := .stmts (pB (M 30 7)), scope := pS (M 30 7), globals := 3, closure := [], defaults := .none, kwdefaults := .none, doc := .none, pyModule := (.str "corecc.preprocess" 497), annotations := none, code := (.ref 273), closureTuple := .none, builtins := 0 }), #[]⟩
noncomputable def o275_i (P : Params) : Obj := ⟨(.type "tuple"), none, (.seq #[] 0), #[]⟩
noncomputable def o276_i (P : Params) : Obj := ⟨.none, none, (.fields #[]), #[]⟩
noncomputable def o277_i (P : Params) : Obj := ⟨(.type "tuple"), none, (.seq #[(.str "self" 747), (.str "token" 748), (.str "word" 749)] 0), #[]⟩
noncomputable def o278_i (P : Params) : Obj := ⟨(.type "tuple"), none, (.seq #[] 0), #[]⟩
noncomputable def o279_i (P : Params) : Obj := ⟨.none, none, (.func { name := "go_on", qualname := "Condition.go_on", params := pA (M 30 8), body := .stmts (pB (M 30 8)), scope := pS (M 30 8), globals := 0, closure := [], defaults := .none, kwdefaults := .none, doc := .none, pyModule := .none, annotations := none, code := .none, closureTuple := .none, builtins := 0 }), #[]⟩
noncomputable def o280_i (P : Params) : Obj := ⟨(.type "code"), none, (.fields #[(.str "go_on" 744), (.str "Condition.go_on" 745), (.str "/claim/cut.py" 746), (.int 231 0), (.int 2 0), (.int 0 0), (.int 0 0), (.int 3 0), (.ref 275), (.bool true), (.int 181 0), (.ref 276), .none, (.ref 277), (.ref 278), (.ref 279), (.int 750 0), (.int 231 0), (.str "/claim/cut.py" 751)]), #[]⟩
noncomputable def o281_i (P : Params) : Obj := ⟨(.type "function"), none, (.func { name := "go_on", qualname := "Condition.go_on", params := pA (M 30 8), body := .stmts (pB (M 30 8)), scope := pS (M 30 8), globals := 3, closure := [], defaults := .none, kwdefaults := .none, doc := .none, pyModule := (.str "corecc.preprocess" 497), annotations := none, code := (.ref 280), closureTuple := .none, builtins := 0 }), #[]⟩
noncomputable def o282_i (P : Params) : Obj := ⟨(.type "tuple"), none, (.seq #[] 0), #[]⟩
noncomputable def o283_i (P : Params) : Obj := ⟨.none, none, (.fields #[]), #[]⟩
noncomputable def o284_i (P : Params) : Obj := ⟨(.type "tuple"), none, (.seq #[(.str "self" 756), (.str "is_whole" 757), (.str "token" 758)] 0), #[]⟩
noncomputable def o285_i (P : Params) : Obj := ⟨(.type "tuple"), none, (.seq #[] 0), #[]⟩
noncomputable def o286_i (P : Params) : Obj := ⟨.none, none, (.func { name := "is_so", qualname := "Condition.is_so", params := pA (M 30 9), body := .stmts (pB (M 30 9)), scope := pS (M 30 9), globals := 0, closure := [], defaults := .none, kwdefaults := .none, doc := .none, pyModule := .none, annotations := none, code := .none, closureTuple := .none, builtins := 0 }), #[]⟩
noncomputable def o287_i (P : Params) : Obj := ⟨(.type "code"), none, (.fields #[(.str "is_so" 753), (.str "Condition.is_so" 754), (.str "/claim/cut.py" 755), (.int 252 0), (.int 1 0), (.int 0 0), (.int 0 0), (.int 3 0), (.ref 282), (.bool true), (.int 181 0), (.ref 283), .none, (.ref 284), (.ref 285), (.ref 286), (.int 759 0), (.int 252 0), (.str "/claim/cut.py" 760)]), #[]⟩
noncomputable def o288_i (P : Params) : Obj := ⟨(.type "function"), none, (.func { name := "is_so", qualname := "Condition.is_so", params := pA (M 30 9), body := .stmts (pB (M 30 9)), scope := pS (M 30 9), globals := 3, closure := [], defaults := .none, kwdefaults := .none, doc := .none, pyModule := (.str "corecc.preprocess" 497), annotations := none, code := (.ref 287), closureTuple := .none, builtins := 0 }), #[]⟩
noncomputable def o289_i (P : Params) : Obj := ⟨(.type "tuple"), none, (.seq #[(.str "place" 762), (.str "signs" 763), (.str "tokens" 764), (.str "values" 765)] 0), #[]⟩
noncomputable def o290_i (P : Params) : Obj := ⟨(.type "dict"), none, (.dict #[⟨PyData.keyHash P "__module__", (.str "__module__" 669), (.str "corecc.preprocess" 497)⟩, ⟨PyData.keyHash P "__firstlineno__", (.str "__firstlineno__" 673), (.int 168 672)⟩, ⟨PyData.keyHash P "__init__", (.str "__init__" 682), (.ref 225)⟩, ⟨PyData.keyHash P "fault", (.str "fault" 690), (.ref 232)⟩, ⟨PyData.keyHash P "operand", (.str "operand" 699), (.ref 239)⟩, ⟨PyData.keyHash P "character", (.str "character" 709), (.ref 246)⟩, ⟨PyData.keyHash P "reduce", (.str "reduce" 719), (.ref 253)⟩, ⟨PyData.keyHash P "level", (.str "level" 726), (.ref 260)⟩, ⟨PyData.keyHash P "reduce_to", (.str "reduce_to" 735), (.ref 267)⟩, ⟨PyData.keyHash P "begin", (.str "begin" 743), (.ref 274)⟩, ⟨PyData.keyHash P "go_on", (.str "go_on" 752), (.ref 281)⟩, ⟨PyData.keyHash P "is_so", (.str "is_so" 761), (.ref 288)⟩, ⟨PyData.keyHash P "__static_attributes__", (.str "__static_attributes__" 766), (.ref 289)⟩, ⟨PyData.keyHash P "__dict__", (.str "__dict__" 768), (.ref 292)⟩, ⟨PyData.keyHash P "__weakref__", (.str "__weakref__" 770), (.ref 293)⟩, ⟨PyData.keyHash P "__doc__", (.str "__doc__" 771), .none⟩] 4), #[]⟩
noncomputable def o291_i (P : Params) : Obj := ⟨(.type "type"), none, (.cls { name := "Condition", bases := [(.type "object")], mro := [(.ref 291), (.type "object")], ns := 290, qualname := "Condition", hasDict := true, slotNames := [], subclasses := [], abstract := false, collection := none, hasDel := false }), #[none, none, (some (.str "Condition" 662)), (some (.str "Condition" 670)), (some (.builtin "object.__new__")), (some (.bool true))]⟩
noncomputable def o292_i (P : Params) : Obj := ⟨(.type "getset_descriptor"), none, (.fields #[(.str "__dict__" 767), (.ref 291), (.builtin "function.__dict__"), (.builtin "function.__dict__#set")]), #[]⟩
noncomputable def o293_i (P : Params) : Obj := ⟨(.type "getset_descriptor"), none, (.fields #[(.str "__weakref__" 769), (.ref 291), (.builtin "ExceptionGroup.__weakref__"), .none]), #[]⟩
noncomputable def o294_i (P : Params) : Obj := ⟨(.type "super"), none, (.fields #[(.ref 291), (.ref 291), (.ref 291)]), #[]⟩
noncomputable def o295_i (P : Params) : Obj := ⟨(.type "builtin_function_or_method"), none, (.fields #[(.builtin "object.__init_subclass__"), (.ref 291)]), #[]⟩
noncomputable def T_i (P : Params) : BT := (nd (boot_o_0 P) (nd (boot_o_1 P) (nd (o3_i P) (nd (boot_o_7 P) (nd (o15_a P) (nd (o31_a P) (nd (o63_b P) (nd (o127_g P) (nd (o255_i P) nl nl) nl) (nd (o191_h P) nl nl)) (nd (o95_f P) (nd (o159_h P) (nd (o287_i P) nl nl) nl) (nd (o223_i P) nl nl))) (nd (o47_a P) (nd (o79_f P) (nd (o143_g P) (nd (o271_i P) nl nl) nl) (nd (o207_h P) nl nl)) (nd (o111_g P) (nd (o175_h P) nl nl) (nd (o239_i P) nl nl)))) (nd (o23_a P) (nd (o39_a P) (nd (o71_d P) (nd (o135_g P) (nd (o263_i P) nl nl) nl) (nd (o199_h P) nl nl)) (nd (o103_f P) (nd (o167_h P) (nd (o295_i P) nl nl) nl) (nd (o231_i P) nl nl))) (nd (o55_a P) (nd (o87_f P) (nd (o151_h P) (nd (o279_i P) nl nl) nl) (nd (o215_i P) nl nl)) (nd (o119_g P) (nd (o183_h P) nl nl) (nd (o247_i P) nl nl))))) (nd (o11_z P) (nd (o19_a P) (nd (o35_a P) (nd (o67_c P) (nd (o131_g P) (nd (o259_i P) nl nl) nl) (nd (o195_h P) nl nl)) (nd (o99_f P) (nd (o163_h P) (nd (o291_i P) nl nl) nl) (nd (o227_i P) nl nl))) (nd (o51_a P) (nd (o83_f P) (nd (o147_g P) (nd (o275_i P) nl nl) nl) (nd (o211_h P) nl nl)) (nd (o115_g P) (nd (o179_h P) nl nl) (nd (o243_i P) nl nl)))) (nd (o27_a P) (nd (o43_a P) (nd (o75_f P) (nd (o139_g P) (nd (o267_i P) nl nl) nl) (nd (o203_h P) nl nl)) (nd (o107_f P) (nd (o171_h P) nl nl) (nd (o235_i P) nl nl))) (nd (o59_a P) (nd (o91_f P) (nd (o155_h P) (nd (o283_i P) nl nl) nl) (nd (o219_i P) nl nl)) (nd (o123_g P) (nd (o187_h P) nl nl) (nd (o251_i P) nl nl)))))) (nd (boot_o_5 P) (nd (boot_o_9 P) (nd (o17_a P) (nd (o33_a P) (nd (setH P) (nd (o129_g P) (nd (o257_i P) nl nl) nl) (nd (o193_h P) nl nl)) (nd (o97_f P) (nd (o161_h P) (nd (o289_i P) nl nl) nl) (nd (o225_i P) nl nl))) (nd (o49_a P) (nd (o81_f P) (nd (o145_g P) (nd (o273_i P) nl nl) nl) (nd (o209_h P) nl nl)) (nd (o113_g P) (nd (o177_h P) nl nl) (nd (o241_i P) nl nl)))) (nd (o25_a P) (nd (o41_a P) (nd (setS P) (nd (o137_g P) (nd (o265_i P) nl nl) nl) (nd (o201_h P) nl nl)) (nd (o105_f P) (nd (o169_h P) nl nl) (nd (o233_i P) nl nl))) (nd (o57_a P) (nd (o89_f P) (nd (o153_h P) (nd (o281_i P) nl nl) nl) (nd (o217_i P) nl nl)) (nd (o121_g P) (nd (o185_h P) nl nl) (nd (o249_i P) nl nl))))) (nd (o13_z P) (nd (o21_a P) (nd (o37_a P) (nd (setO P) (nd (o133_g P) (nd (o261_i P) nl nl) nl) (nd (o197_h P) nl nl)) (nd (o101_f P) (nd (o165_h P) (nd (o293_i P) nl nl) nl) (nd (o229_i P) nl nl))) (nd (o53_a P) (nd (o85_f P) (nd (o149_h P) (nd (o277_i P) nl nl) nl) (nd (o213_i P) nl nl)) (nd (o117_g P) (nd (o181_h P) nl nl) (nd (o245_i P) nl nl)))) (nd (o29_a P) (nd (o45_a P) (nd (o77_f P) (nd (o141_g P) (nd (o269_i P) nl nl) nl) (nd (o205_h P) nl nl)) (nd (o109_f P) (nd (o173_h P) nl nl) (nd (o237_i P) nl nl))) (nd (setD P) (nd (o93_f P) (nd (o157_h P) (nd (o285_i P) nl nl) nl) (nd (o221_i P) nl nl)) (nd (o125_g P) (nd (o189_h P) nl nl) (nd (o253_i P) nl nl))))))) (nd (o2_a P) (nd (boot_o_4 P) (nd (boot_o_8 P) (nd (o16_a P) (nd (o32_a P) (nd (o64_b P) (nd (o128_g P) (nd (o256_i P) nl nl) nl) (nd (o192_h P) nl nl)) (nd (o96_f P) (nd (o160_h P) (nd (o288_i P) nl nl) nl) (nd (o224_i P) nl nl))) (nd (o48_a P) (nd (o80_f P) (nd (o144_g P) (nd (o272_i P) nl nl) nl) (nd (o208_h P) nl nl)) (nd (o112_g P) (nd (o176_h P) nl nl) (nd (o240_i P) nl nl)))) (nd (o24_a P) (nd (o40_a P) (nd (o72_d P) (nd (o136_g P) (nd (o264_i P) nl nl) nl) (nd (o200_h P) nl nl)) (nd (o104_f P) (nd (o168_h P) nl nl) (nd (o232_i P) nl nl))) (nd (o56_a P) (nd (o88_f P) (nd (o152_h P) (nd (o280_i P) nl nl) nl) (nd (o216_i P) nl nl)) (nd (o120_g P) (nd (o184_h P) nl nl) (nd (o248_i P) nl nl))))) (nd (o12_i P) (nd (o20_a P) (nd (o36_a P) (nd (o68_c P) (nd (o132_g P) (nd (o260_i P) nl nl) nl) (nd (o196_h P) nl nl)) (nd (o100_f P) (nd (o164_h P) (nd (o292_i P) nl nl) nl) (nd (o228_i P) nl nl))) (nd (o52_a P) (nd (o84_f P) (nd (o148_g P) (nd (o276_i P) nl nl) nl) (nd (o212_i P) nl nl)) (nd (o116_g P) (nd (o180_h P) nl nl) (nd (o244_i P) nl nl)))) (nd (o28_a P) (nd (o44_a P) (nd (o76_f P) (nd (o140_g P) (nd (o268_i P) nl nl) nl) (nd (o204_h P) nl nl)) (nd (o108_f P) (nd (o172_h P) nl nl) (nd (o236_i P) nl nl))) (nd (o60_a P) (nd (o92_f P) (nd (o156_h P) (nd (o284_i P) nl nl) nl) (nd (o220_i P) nl nl)) (nd (o124_g P) (nd (o188_h P) nl nl) (nd (o252_i P) nl nl)))))) (nd (boot_o_6 P) (nd (boot_o_10 P) (nd (o18_a P) (nd (o34_a P) (nd (o66_c P) (nd (o130_g P) (nd (o258_i P) nl nl) nl) (nd (o194_h P) nl nl)) (nd (o98_f P) (nd (o162_h P) (nd (o290_i P) nl nl) nl) (nd (o226_i P) nl nl))) (nd (o50_a P) (nd (o82_f P) (nd (o146_g P) (nd (o274_i P) nl nl) nl) (nd (o210_h P) nl nl)) (nd (o114_g P) (nd (o178_h P) nl nl) (nd (o242_i P) nl nl)))) (nd (o26_a P) (nd (o42_a P) (nd (o74_f P) (nd (o138_g P) (nd (o266_i P) nl nl) nl) (nd (o202_h P) nl nl)) (nd (o106_f P) (nd (o170_h P) nl nl) (nd (o234_i P) nl nl))) (nd (o58_a P) (nd (o90_f P) (nd (o154_h P) (nd (o282_i P) nl nl) nl) (nd (o218_i P) nl nl)) (nd (o122_g P) (nd (o186_h P) nl nl) (nd (o250_i P) nl nl))))) (nd (o14_z P) (nd (o22_a P) (nd (o38_a P) (nd (o70_d P) (nd (o134_g P) (nd (o262_i P) nl nl) nl) (nd (o198_h P) nl nl)) (nd (o102_f P) (nd (o166_h P) (nd (o294_i P) nl nl) nl) (nd (o230_i P) nl nl))) (nd (o54_a P) (nd (o86_f P) (nd (o150_h P) (nd (o278_i P) nl nl) nl) (nd (o214_i P) nl nl)) (nd (o118_g P) (nd (o182_h P) nl nl) (nd (o246_i P) nl nl)))) (nd (o30_a P) (nd (o46_a P) (nd (o78_f P) (nd (o142_g P) (nd (o270_i P) nl nl) nl) (nd (o206_h P) nl nl)) (nd (o110_f P) (nd (o174_h P) nl nl) (nd (o238_i P) nl nl))) (nd (o62_b P) (nd (o94_f P) (nd (o158_h P) (nd (o286_i P) nl nl) nl) (nd (o222_i P) nl nl)) (nd (o126_g P) (nd (o190_h P) nl nl) (nd (o254_i P) nl nl))))))))
noncomputable def S_i (w : World) (os : OsState) : SharedT := ⟨T_i w.params, 296, life0, Array.mk [], boot_drawn, 774, os⟩
noncomputable def o3_j (P : Params) : Obj := ⟨(.type "dict"), none, (.dict #[⟨PyData.keyHash P "__name__", (.str "__name__" 165), (.str "law_on0057_01" 774)⟩, ⟨PyData.keyHash P "__doc__", (.str "__doc__" 166), .none⟩, ⟨PyData.keyHash P "__package__", (.str "__package__" 167), .none⟩, ⟨PyData.keyHash P "__loader__", (.str "__loader__" 168), (.builtin "__main__.__loader__#opaque")⟩, ⟨PyData.keyHash P "__spec__", (.str "__spec__" 169), .none⟩, ⟨PyData.keyHash P "__annotations__", (.str "__annotations__" 170), (.ref 6)⟩, ⟨PyData.keyHash P "__builtins__", (.str "__builtins__" 171), (.ref 4)⟩, ⟨PyData.keyHash P "__file__", (.str "__file__" 173), (.str "/claim/cut.py" 172)⟩, ⟨PyData.keyHash P "__cached__", (.str "__cached__" 174), .none⟩, ⟨PyData.keyHash P "_wall", (.str "_wall" 193), (.ref 21)⟩, ⟨PyData.keyHash P "CompileFault", (.str "CompileFault" 235), (.ref 45)⟩, ⟨PyData.keyHash P "DirectiveFault", (.str "DirectiveFault" 251), (.ref 58)⟩, ⟨PyData.keyHash P "DIGITS", (.str "DIGITS" 275), (.ref 61)⟩, ⟨PyData.keyHash P "HEX_DIGITS", (.str "HEX_DIGITS" 321), (.ref 65)⟩, ⟨PyData.keyHash P "OCTAL_DIGITS", (.str "OCTAL_DIGITS" 339), (.ref 69)⟩, ⟨PyData.keyHash P "SUFFIXES", (.str "SUFFIXES" 350), (.ref 73)⟩, ⟨PyData.keyHash P "MOST_OCTET", (.str "MOST_OCTET" 352), (.int 255 351)⟩, ⟨PyData.keyHash P "MOST_WIDE", (.str "MOST_WIDE" 354), (.int 4294967295 353)⟩, ⟨PyData.keyHash P "ESCAPES", (.str "ESCAPES" 388), (.ref 74)⟩, ⟨PyData.keyHash P "Token", (.str "Token" 445), (.ref 106)⟩, ⟨PyData.keyHash P "number_parts", (.str "number_parts" 459), (.ref 117)⟩, ⟨PyData.keyHash P "escape_at", (.str "escape_at" 469), (.ref 124)⟩, ⟨PyData.keyHash P "literal_values", (.str "literal_values" 482), (.ref 131)⟩, ⟨PyData.keyHash P "literal_octets", (.str "literal_octets" 489), (.ref 138)⟩, ⟨PyData.keyHash P "wide_values", (.str "wide_values" 496), (.ref 145)⟩, ⟨PyData.keyHash P "ALL_BITS", (.str "ALL_BITS" 500), (.int 4294967295 499)⟩, ⟨PyData.keyHash P "TOP_BIT", (.str "TOP_BIT" 502), (.int 2147483648 501)⟩, ⟨PyData.keyHash P "LEVELS", (.str "LEVELS" 557), (.ref 146)⟩, ⟨PyData.keyHash P "SIGNS_AHEAD", (.str "SIGNS_AHEAD" 570), (.ref 148)⟩, ⟨PyData.keyHash P "Value", (.str "Value" 603), (.ref 165)⟩, ⟨PyData.keyHash P "truth", (.str "truth" 611), (.ref 176)⟩, ⟨PyData.keyHash P "quotient", (.str "quotient" 620), (.ref 183)⟩, ⟨PyData.keyHash P "one_sided", (.str "one_sided" 628), (.ref 190)⟩, ⟨PyData.keyHash P "compared", (.str "compared" 637), (.ref 197)⟩, ⟨PyData.keyHash P "two_sided", (.str "two_sided" 651), (.ref 204)⟩, ⟨PyData.keyHash P "chosen", (.str "chosen" 661), (.ref 211)⟩, ⟨PyData.keyHash P "Condition", (.str "Condition" 773), (.ref 291)⟩, ⟨PyData.keyHash P "_law_numbers", (.str "_law_numbers" 788), (.ref 296)⟩, ⟨PyData.keyHash P "_law_signs", (.str "_law_signs" 809), (.ref 297)⟩, ⟨PyData.keyHash P "_law_lack", (.str "_law_lack" 813), (.ref 298)⟩, ⟨PyData.keyHash P "_law_draw", (.str "_law_draw" 825), (.ref 305)⟩, ⟨PyData.keyHash P "_law_pick", (.str "_law_pick" 833), (.ref 312)⟩, ⟨PyData.keyHash P "_law_tree", (.str "_law_tree" 844), (.ref 319)⟩, ⟨PyData.keyHash P "_law_words", (.str "_law_words" 850), (.ref 324)⟩, ⟨PyData.keyHash P "_law_led", (.str "_law_led" 859), (.ref 331)⟩, ⟨PyData.keyHash P "_law_two", (.str "_law_two" 876), (.ref 338)⟩, ⟨PyData.keyHash P "_law_worth", (.str "_law_worth" 882), (.ref 343)⟩, ⟨PyData.keyHash P "_law_right", (.str "_law_right" 896), (.ref 350)⟩, ⟨PyData.keyHash P "law", (.str "law" 902), (.ref 355)⟩] 49), #[]⟩
noncomputable def o12_j (P : Params) : Obj := ⟨.none, none, (.fields #[(.int 1 0), (.int 0 0), (.ref 20), (.int 5 0), (.int 0 0), (.ref 27), (.int 15 0), (.int 0 0), (.ref 54), (.int 25 0), (.int 0 0), (.ref 80), (.int 44 0), (.int 0 0), (.ref 116), (.int 65 0), (.int 0 0), (.ref 123), (.int 80 0), (.int 0 0), (.ref 130), (.int 94 0), (.int 0 0), (.ref 137), (.int 96 0), (.int 0 0), (.ref 144), (.int 103 0), (.int 0 0), (.ref 154), (.int 112 0), (.int 0 0), (.ref 175), (.int 114 0), (.int 0 0), (.ref 182), (.int 117 0), (.int 0 0), (.ref 189), (.int 125 0), (.int 0 0), (.ref 196), (.int 135 0), (.int 0 0), (.ref 203), (.int 165 0), (.int 0 0), (.ref 210), (.int 168 0), (.int 0 0), (.ref 217), (.int 267 0), (.int 0 0), (.ref 304), (.int 274 0), (.int 0 0), (.ref 311), (.int 276 0), (.int 0 0), (.ref 318), (.int 289 0), (.int 0 0), (.ref 323), (.int 296 0), (.int 0 0), (.ref 330), (.int 299 0), (.int 0 0), (.ref 337), (.int 319 0), (.int 0 0), (.ref 342), (.int 336 0), (.int 0 0), (.ref 349), (.int 346 0), (.int 0 0), (.ref 354)]), #[]⟩
noncomputable def o296_j (P : Params) : Obj := ⟨(.type "tuple"), none, (.seq #[(.str "0" 776), (.str "1" 777), (.str "2" 778), (.str "3" 779), (.str "7" 780), (.str "5u" 781), (.str "4294967295" 782), (.str "2147483647" 783), (.str "0x80000000" 784), (.str "0u" 785), (.str "1u" 786), (.str "31" 787)] 0), #[]⟩
noncomputable def o297_j (P : Params) : Obj := ⟨(.type "tuple"), none, (.seq #[(.str "&&" 789), (.str "||" 790), (.str "/" 791), (.str "%" 792), (.str "+" 793), (.str "-" 794), (.str "*" 795), (.str "<" 796), (.str "<=" 797), (.str ">" 798), (.str ">=" 799), (.str "==" 800), (.str "!=" 801), (.str "&" 802), (.str "|" 803), (.str "^" 804), (.str "&&" 805), (.str "||" 806), (.str "<<" 807), (.str ">>" 808)] 0), #[]⟩
noncomputable def o298_j (P : Params) : Obj := ⟨(.type "tuple"), none, (.seq #[(.str "/" 810), (.str "1" 811), (.str "0" 812)] 0), #[]⟩
noncomputable def o299_j (P : Params) : Obj := ⟨(.type "tuple"), none, (.seq #[] 0), #[]⟩
noncomputable def o300_j (P : Params) : Obj := ⟨.none, none, (.fields #[]), #[]⟩
noncomputable def o301_j (P : Params) : Obj := ⟨(.type "tuple"), none, (.seq #[(.str "well" 817), (.str "size" 818), (.str "cells" 819), (.str "spot" 820), (.str "is_there" 821), (.str "cell" 822)] 0), #[]⟩
noncomputable def o302_j (P : Params) : Obj := ⟨(.type "tuple"), none, (.seq #[] 0), #[]⟩
noncomputable def o303_j (P : Params) : Obj := ⟨.none, none, (.func { name := "_law_draw", qualname := "_law_draw", params := pA (D 35), body := .stmts (pB (D 35)), scope := pS (D 35), globals := 0, closure := [], defaults := .none, kwdefaults := .none, doc := .none, pyModule := .none, annotations := none, code := .none, closureTuple := .none, builtins := 0 }), #[]⟩
noncomputable def o304_j (P : Params) : Obj := ⟨(.type "code"), none, (.fields #[(.str "_law_draw" 814), (.str "_law_draw" 815), (.str "/claim/cut.py" 816), (.int 267 0), (.int 2 0), (.int 0 0), (.int 0 0), (.int 3 0), (.ref 299), (.bool true), (.int 181 0), (.ref 300), .none, (.ref 301), (.ref 302), (.ref 303), (.int 823 0), (.int 267 0), (.str "/claim/cut.py" 824)]), #[]⟩
noncomputable def o305_j (P : Params) : Obj := ⟨(.type "function"), none, (.func { name := "_law_draw", qualname := "_law_draw", params := pA (D 35), body := .stmts (pB (D 35)), scope := pS (D 35), globals := 3, closure := [], defaults := .none, kwdefaults := .none, doc := .none, pyModule := (.str "law_on0057_01" 774), annotations := none, code := (.ref 304), closureTuple := .none, builtins := 0 }), #[]⟩
noncomputable def o306_j (P : Params) : Obj := ⟨(.type "tuple"), none, (.seq #[] 0), #[]⟩
noncomputable def o307_j (P : Params) : Obj := ⟨.none, none, (.fields #[]), #[]⟩
noncomputable def o308_j (P : Params) : Obj := ⟨(.type "tuple"), none, (.seq #[(.str "well" 829), (.str "menu" 830)] 0), #[]⟩
noncomputable def o309_j (P : Params) : Obj := ⟨(.type "tuple"), none, (.seq #[] 0), #[]⟩
noncomputable def o310_j (P : Params) : Obj := ⟨.none, none, (.func { name := "_law_pick", qualname := "_law_pick", params := pA (D 36), body := .stmts (pB (D 36)), scope := pS (D 36), globals := 0, closure := [], defaults := .none, kwdefaults := .none, doc := .none, pyModule := .none, annotations := none, code := .none, closureTuple := .none, builtins := 0 }), #[]⟩
noncomputable def o311_j (P : Params) : Obj := ⟨(.type "code"), none, (.fields #[(.str "_law_pick" 826), (.str "_law_pick" 827), (.str "/claim/cut.py" 828), (.int 274 0), (.int 2 0), (.int 0 0), (.int 0 0), (.int 3 0), (.ref 306), (.bool true), (.int 181 0), (.ref 307), .none, (.ref 308), (.ref 309), (.ref 310), (.int 831 0), (.int 274 0), (.str "/claim/cut.py" 832)]), #[]⟩
noncomputable def o312_j (P : Params) : Obj := ⟨(.type "function"), none, (.func { name := "_law_pick", qualname := "_law_pick", params := pA (D 36), body := .stmts (pB (D 36)), scope := pS (D 36), globals := 3, closure := [], defaults := .none, kwdefaults := .none, doc := .none, pyModule := (.str "law_on0057_01" 774), annotations := none, code := (.ref 311), closureTuple := .none, builtins := 0 }), #[]⟩
noncomputable def o313_j (P : Params) : Obj := ⟨(.type "tuple"), none, (.seq #[] 0), #[]⟩
noncomputable def o314_j (P : Params) : Obj := ⟨.none, none, (.fields #[]), #[]⟩
noncomputable def o315_j (P : Params) : Obj := ⟨(.type "tuple"), none, (.seq #[(.str "well" 837), (.str "deep" 838), (.str "way" 839), (.str "mark" 840), (.str "one" 841)] 0), #[]⟩
noncomputable def o316_j (P : Params) : Obj := ⟨(.type "tuple"), none, (.seq #[] 0), #[]⟩
noncomputable def o317_j (P : Params) : Obj := ⟨.none, none, (.func { name := "_law_tree", qualname := "_law_tree", params := pA (D 37), body := .stmts (pB (D 37)), scope := pS (D 37), globals := 0, closure := [], defaults := .none, kwdefaults := .none, doc := .none, pyModule := .none, annotations := none, code := .none, closureTuple := .none, builtins := 0 }), #[]⟩
noncomputable def o318_j (P : Params) : Obj := ⟨(.type "code"), none, (.fields #[(.str "_law_tree" 834), (.str "_law_tree" 835), (.str "/claim/cut.py" 836), (.int 276 0), (.int 2 0), (.int 0 0), (.int 0 0), (.int 3 0), (.ref 313), (.bool true), (.int 181 0), (.ref 314), .none, (.ref 315), (.ref 316), (.ref 317), (.int 842 0), (.int 276 0), (.str "/claim/cut.py" 843)]), #[]⟩
noncomputable def o319_j (P : Params) : Obj := ⟨(.type "function"), none, (.func { name := "_law_tree", qualname := "_law_tree", params := pA (D 37), body := .stmts (pB (D 37)), scope := pS (D 37), globals := 3, closure := [], defaults := .none, kwdefaults := .none, doc := .none, pyModule := (.str "law_on0057_01" 774), annotations := none, code := (.ref 318), closureTuple := .none, builtins := 0 }), #[]⟩
noncomputable def o320_j (P : Params) : Obj := ⟨(.type "tuple"), none, (.seq #[] 0), #[]⟩
noncomputable def o321_j (P : Params) : Obj := ⟨.none, none, (.fields #[]), #[]⟩
noncomputable def o322_j (P : Params) : Obj := ⟨.none, none, (.func { name := "_law_words", qualname := "_law_words", params := pA (D 38), body := .stmts (pB (D 38)), scope := pS (D 38), globals := 0, closure := [], defaults := .none, kwdefaults := .none, doc := .none, pyModule := .none, annotations := none, code := .none, closureTuple := .none, builtins := 0 }), #[]⟩
noncomputable def o323_j (P : Params) : Obj := ⟨(.type "code"), none, (.fields #[(.str "_law_words" 845), (.str "_law_words" 846), (.str "/claim/cut.py" 847), (.int 289 0), (.int 1 0), (.int 0 0), (.int 0 0), (.int 3 0), (.ref 320), (.bool true), (.int 181 0), (.ref 321), .none, .none, .none, (.ref 322), (.int 848 0), (.int 289 0), (.str "/claim/cut.py" 849)]), #[]⟩
noncomputable def o324_j (P : Params) : Obj := ⟨(.type "function"), none, (.func { name := "_law_words", qualname := "_law_words", params := pA (D 38), body := .stmts (pB (D 38)), scope := pS (D 38), globals := 3, closure := [], defaults := .none, kwdefaults := .none, doc := .none, pyModule := (.str "law_on0057_01" 774), annotations := none, code := (.ref 323), closureTuple := .none, builtins := 0 }), #[]⟩
noncomputable def o325_j (P : Params) : Obj := ⟨(.type "tuple"), none, (.seq #[] 0), #[]⟩
noncomputable def o326_j (P : Params) : Obj := ⟨.none, none, (.fields #[]), #[]⟩
noncomputable def o327_j (P : Params) : Obj := ⟨(.type "tuple"), none, (.seq #[(.str "number" 854), (.str "has_none" 855), (.str "low" 856)] 0), #[]⟩
noncomputable def o328_j (P : Params) : Obj := ⟨(.type "tuple"), none, (.seq #[] 0), #[]⟩
noncomputable def o329_j (P : Params) : Obj := ⟨.none, none, (.func { name := "_law_led", qualname := "_law_led", params := pA (D 39), body := .stmts (pB (D 39)), scope := pS (D 39), globals := 0, closure := [], defaults := .none, kwdefaults := .none, doc := .none, pyModule := .none, annotations := none, code := .none, closureTuple := .none, builtins := 0 }), #[]⟩
noncomputable def o330_j (P : Params) : Obj := ⟨(.type "code"), none, (.fields #[(.str "_law_led" 851), (.str "_law_led" 852), (.str "/claim/cut.py" 853), (.int 296 0), (.int 2 0), (.int 0 0), (.int 0 0), (.int 3 0), (.ref 325), (.bool true), (.int 181 0), (.ref 326), .none, (.ref 327), (.ref 328), (.ref 329), (.int 857 0), (.int 296 0), (.str "/claim/cut.py" 858)]), #[]⟩
noncomputable def o331_j (P : Params) : Obj := ⟨(.type "function"), none, (.func { name := "_law_led", qualname := "_law_led", params := pA (D 39), body := .stmts (pB (D 39)), scope := pS (D 39), globals := 3, closure := [], defaults := .none, kwdefaults := .none, doc := .none, pyModule := (.str "law_on0057_01" 774), annotations := none, code := (.ref 330), closureTuple := .none, builtins := 0 }), #[]⟩
noncomputable def o332_j (P : Params) : Obj := ⟨(.type "tuple"), none, (.seq #[] 0), #[]⟩
noncomputable def o333_j (P : Params) : Obj := ⟨.none, none, (.fields #[]), #[]⟩
noncomputable def o334_j (P : Params) : Obj := ⟨(.type "tuple"), none, (.seq #[(.str "mark" 863), (.str "one" 864), (.str "other" 865), (.str "a" 866), (.str "a_none" 867), (.str "b" 868), (.str "b_none" 869), (.str "has_none" 870), (.str "came" 871), (.str "whole" 872), (.str "found" 873)] 0), #[]⟩
noncomputable def o335_j (P : Params) : Obj := ⟨(.type "tuple"), none, (.seq #[] 0), #[]⟩
noncomputable def o336_j (P : Params) : Obj := ⟨.none, none, (.func { name := "_law_two", qualname := "_law_two", params := pA (D 40), body := .stmts (pB (D 40)), scope := pS (D 40), globals := 0, closure := [], defaults := .none, kwdefaults := .none, doc := .none, pyModule := .none, annotations := none, code := .none, closureTuple := .none, builtins := 0 }), #[]⟩
noncomputable def o337_j (P : Params) : Obj := ⟨(.type "code"), none, (.fields #[(.str "_law_two" 860), (.str "_law_two" 861), (.str "/claim/cut.py" 862), (.int 299 0), (.int 3 0), (.int 0 0), (.int 0 0), (.int 3 0), (.ref 332), (.bool true), (.int 181 0), (.ref 333), .none, (.ref 334), (.ref 335), (.ref 336), (.int 874 0), (.int 299 0), (.str "/claim/cut.py" 875)]), #[]⟩
noncomputable def o338_j (P : Params) : Obj := ⟨(.type "function"), none, (.func { name := "_law_two", qualname := "_law_two", params := pA (D 40), body := .stmts (pB (D 40)), scope := pS (D 40), globals := 3, closure := [], defaults := .none, kwdefaults := .none, doc := .none, pyModule := (.str "law_on0057_01" 774), annotations := none, code := (.ref 337), closureTuple := .none, builtins := 0 }), #[]⟩
noncomputable def o339_j (P : Params) : Obj := ⟨(.type "tuple"), none, (.seq #[] 0), #[]⟩
noncomputable def o340_j (P : Params) : Obj := ⟨.none, none, (.fields #[]), #[]⟩
noncomputable def o341_j (P : Params) : Obj := ⟨.none, none, (.func { name := "_law_worth", qualname := "_law_worth", params := pA (D 41), body := .stmts (pB (D 41)), scope := pS (D 41), globals := 0, closure := [], defaults := .none, kwdefaults := .none, doc := .none, pyModule := .none, annotations := none, code := .none, closureTuple := .none, builtins := 0 }), #[]⟩
noncomputable def o342_j (P : Params) : Obj := ⟨(.type "code"), none, (.fields #[(.str "_law_worth" 877), (.str "_law_worth" 878), (.str "/claim/cut.py" 879), (.int 319 0), (.int 1 0), (.int 0 0), (.int 0 0), (.int 3 0), (.ref 339), (.bool true), (.int 181 0), (.ref 340), .none, .none, .none, (.ref 341), (.int 880 0), (.int 319 0), (.str "/claim/cut.py" 881)]), #[]⟩
noncomputable def o343_j (P : Params) : Obj := ⟨(.type "function"), none, (.func { name := "_law_worth", qualname := "_law_worth", params := pA (D 41), body := .stmts (pB (D 41)), scope := pS (D 41), globals := 3, closure := [], defaults := .none, kwdefaults := .none, doc := .none, pyModule := (.str "law_on0057_01" 774), annotations := none, code := (.ref 342), closureTuple := .none, builtins := 0 }), #[]⟩
noncomputable def o344_j (P : Params) : Obj := ⟨(.type "tuple"), none, (.seq #[] 0), #[]⟩
noncomputable def o345_j (P : Params) : Obj := ⟨.none, none, (.fields #[]), #[]⟩
noncomputable def o346_j (P : Params) : Obj := ⟨(.type "tuple"), none, (.seq #[(.str "tree" 886), (.str "line" 887), (.str "place" 888), (.str "tokens" 889), (.str "text" 890), (.str "due" 891), (.str "came" 892), (.str "caught" 893)] 0), #[]⟩
noncomputable def o347_j (P : Params) : Obj := ⟨(.type "tuple"), none, (.seq #[] 0), #[]⟩
noncomputable def o348_j (P : Params) : Obj := ⟨.none, none, (.func { name := "_law_right", qualname := "_law_right", params := pA (D 42), body := .stmts (pB (D 42)), scope := pS (D 42), globals := 0, closure := [], defaults := .none, kwdefaults := .none, doc := .none, pyModule := .none, annotations := none, code := .none, closureTuple := .none, builtins := 0 }), #[]⟩
noncomputable def o349_j (P : Params) : Obj := ⟨(.type "code"), none, (.fields #[(.str "_law_right" 883), (.str "_law_right" 884), (.str "/claim/cut.py" 885), (.int 336 0), (.int 2 0), (.int 0 0), (.int 0 0), (.int 3 0), (.ref 344), (.bool true), (.int 181 0), (.ref 345), .none, (.ref 346), (.ref 347), (.ref 348), (.int 894 0), (.int 336 0), (.str "/claim/cut.py" 895)]), #[]⟩
noncomputable def o350_j (P : Params) : Obj := ⟨(.type "function"), none, (.func { name := "_law_right", qualname := "_law_right", params := pA (D 42), body := .stmts (pB (D 42)), scope := pS (D 42), globals := 3, closure := [], defaults := .none, kwdefaults := .none, doc := .none, pyModule := (.str "law_on0057_01" 774), annotations := none, code := (.ref 349), closureTuple := .none, builtins := 0 }), #[]⟩
noncomputable def o351_j (P : Params) : Obj := ⟨(.type "tuple"), none, (.seq #[] 0), #[]⟩
noncomputable def o352_j (P : Params) : Obj := ⟨.none, none, (.fields #[]), #[]⟩
noncomputable def o353_j (P : Params) : Obj := ⟨.none, none, (.func { name := "law", qualname := "law", params := pA (D 43), body := .stmts (pB (D 43)), scope := pS (D 43), globals := 0, closure := [], defaults := .none, kwdefaults := .none, doc := .none, pyModule := .none, annotations := none, code := .none, closureTuple := .none, builtins := 0 }), #[]⟩
noncomputable def o354_j (P : Params) : Obj := ⟨(.type "code"), none, (.fields #[(.str "law" 897), (.str "law" 898), (.str "/claim/cut.py" 899), (.int 346 0), (.int 1 0), (.int 0 0), (.int 0 0), (.int 3 0), (.ref 351), (.bool true), (.int 181 0), (.ref 352), .none, .none, .none, (.ref 353), (.int 900 0), (.int 346 0), (.str "/claim/cut.py" 901)]), #[]⟩
noncomputable def o355_j (P : Params) : Obj := ⟨(.type "function"), none, (.func { name := "law", qualname := "law", params := pA (D 43), body := .stmts (pB (D 43)), scope := pS (D 43), globals := 3, closure := [], defaults := .none, kwdefaults := .none, doc := .none, pyModule := (.str "law_on0057_01" 774), annotations := none, code := (.ref 354), closureTuple := .none, builtins := 0 }), #[]⟩
noncomputable def T_j (P : Params) : BT := (nd (boot_o_0 P) (nd (boot_o_1 P) (nd (o3_j P) (nd (boot_o_7 P) (nd (o15_a P) (nd (o31_a P) (nd (o63_b P) (nd (o127_g P) (nd (o255_i P) nl nl) nl) (nd (o191_h P) (nd (o319_j P) nl nl) nl)) (nd (o95_f P) (nd (o159_h P) (nd (o287_i P) nl nl) nl) (nd (o223_i P) (nd (o351_j P) nl nl) nl))) (nd (o47_a P) (nd (o79_f P) (nd (o143_g P) (nd (o271_i P) nl nl) nl) (nd (o207_h P) (nd (o335_j P) nl nl) nl)) (nd (o111_g P) (nd (o175_h P) (nd (o303_j P) nl nl) nl) (nd (o239_i P) nl nl)))) (nd (o23_a P) (nd (o39_a P) (nd (o71_d P) (nd (o135_g P) (nd (o263_i P) nl nl) nl) (nd (o199_h P) (nd (o327_j P) nl nl) nl)) (nd (o103_f P) (nd (o167_h P) (nd (o295_i P) nl nl) nl) (nd (o231_i P) nl nl))) (nd (o55_a P) (nd (o87_f P) (nd (o151_h P) (nd (o279_i P) nl nl) nl) (nd (o215_i P) (nd (o343_j P) nl nl) nl)) (nd (o119_g P) (nd (o183_h P) (nd (o311_j P) nl nl) nl) (nd (o247_i P) nl nl))))) (nd (o11_z P) (nd (o19_a P) (nd (o35_a P) (nd (o67_c P) (nd (o131_g P) (nd (o259_i P) nl nl) nl) (nd (o195_h P) (nd (o323_j P) nl nl) nl)) (nd (o99_f P) (nd (o163_h P) (nd (o291_i P) nl nl) nl) (nd (o227_i P) (nd (o355_j P) nl nl) nl))) (nd (o51_a P) (nd (o83_f P) (nd (o147_g P) (nd (o275_i P) nl nl) nl) (nd (o211_h P) (nd (o339_j P) nl nl) nl)) (nd (o115_g P) (nd (o179_h P) (nd (o307_j P) nl nl) nl) (nd (o243_i P) nl nl)))) (nd (o27_a P) (nd (o43_a P) (nd (o75_f P) (nd (o139_g P) (nd (o267_i P) nl nl) nl) (nd (o203_h P) (nd (o331_j P) nl nl) nl)) (nd (o107_f P) (nd (o171_h P) (nd (o299_j P) nl nl) nl) (nd (o235_i P) nl nl))) (nd (o59_a P) (nd (o91_f P) (nd (o155_h P) (nd (o283_i P) nl nl) nl) (nd (o219_i P) (nd (o347_j P) nl nl) nl)) (nd (o123_g P) (nd (o187_h P) (nd (o315_j P) nl nl) nl) (nd (o251_i P) nl nl)))))) (nd (boot_o_5 P) (nd (boot_o_9 P) (nd (o17_a P) (nd (o33_a P) (nd (setH P) (nd (o129_g P) (nd (o257_i P) nl nl) nl) (nd (o193_h P) (nd (o321_j P) nl nl) nl)) (nd (o97_f P) (nd (o161_h P) (nd (o289_i P) nl nl) nl) (nd (o225_i P) (nd (o353_j P) nl nl) nl))) (nd (o49_a P) (nd (o81_f P) (nd (o145_g P) (nd (o273_i P) nl nl) nl) (nd (o209_h P) (nd (o337_j P) nl nl) nl)) (nd (o113_g P) (nd (o177_h P) (nd (o305_j P) nl nl) nl) (nd (o241_i P) nl nl)))) (nd (o25_a P) (nd (o41_a P) (nd (setS P) (nd (o137_g P) (nd (o265_i P) nl nl) nl) (nd (o201_h P) (nd (o329_j P) nl nl) nl)) (nd (o105_f P) (nd (o169_h P) (nd (o297_j P) nl nl) nl) (nd (o233_i P) nl nl))) (nd (o57_a P) (nd (o89_f P) (nd (o153_h P) (nd (o281_i P) nl nl) nl) (nd (o217_i P) (nd (o345_j P) nl nl) nl)) (nd (o121_g P) (nd (o185_h P) (nd (o313_j P) nl nl) nl) (nd (o249_i P) nl nl))))) (nd (o13_z P) (nd (o21_a P) (nd (o37_a P) (nd (setO P) (nd (o133_g P) (nd (o261_i P) nl nl) nl) (nd (o197_h P) (nd (o325_j P) nl nl) nl)) (nd (o101_f P) (nd (o165_h P) (nd (o293_i P) nl nl) nl) (nd (o229_i P) nl nl))) (nd (o53_a P) (nd (o85_f P) (nd (o149_h P) (nd (o277_i P) nl nl) nl) (nd (o213_i P) (nd (o341_j P) nl nl) nl)) (nd (o117_g P) (nd (o181_h P) (nd (o309_j P) nl nl) nl) (nd (o245_i P) nl nl)))) (nd (o29_a P) (nd (o45_a P) (nd (o77_f P) (nd (o141_g P) (nd (o269_i P) nl nl) nl) (nd (o205_h P) (nd (o333_j P) nl nl) nl)) (nd (o109_f P) (nd (o173_h P) (nd (o301_j P) nl nl) nl) (nd (o237_i P) nl nl))) (nd (setD P) (nd (o93_f P) (nd (o157_h P) (nd (o285_i P) nl nl) nl) (nd (o221_i P) (nd (o349_j P) nl nl) nl)) (nd (o125_g P) (nd (o189_h P) (nd (o317_j P) nl nl) nl) (nd (o253_i P) nl nl))))))) (nd (o2_a P) (nd (boot_o_4 P) (nd (boot_o_8 P) (nd (o16_a P) (nd (o32_a P) (nd (o64_b P) (nd (o128_g P) (nd (o256_i P) nl nl) nl) (nd (o192_h P) (nd (o320_j P) nl nl) nl)) (nd (o96_f P) (nd (o160_h P) (nd (o288_i P) nl nl) nl) (nd (o224_i P) (nd (o352_j P) nl nl) nl))) (nd (o48_a P) (nd (o80_f P) (nd (o144_g P) (nd (o272_i P) nl nl) nl) (nd (o208_h P) (nd (o336_j P) nl nl) nl)) (nd (o112_g P) (nd (o176_h P) (nd (o304_j P) nl nl) nl) (nd (o240_i P) nl nl)))) (nd (o24_a P) (nd (o40_a P) (nd (o72_d P) (nd (o136_g P) (nd (o264_i P) nl nl) nl) (nd (o200_h P) (nd (o328_j P) nl nl) nl)) (nd (o104_f P) (nd (o168_h P) (nd (o296_j P) nl nl) nl) (nd (o232_i P) nl nl))) (nd (o56_a P) (nd (o88_f P) (nd (o152_h P) (nd (o280_i P) nl nl) nl) (nd (o216_i P) (nd (o344_j P) nl nl) nl)) (nd (o120_g P) (nd (o184_h P) (nd (o312_j P) nl nl) nl) (nd (o248_i P) nl nl))))) (nd (o12_j P) (nd (o20_a P) (nd (o36_a P) (nd (o68_c P) (nd (o132_g P) (nd (o260_i P) nl nl) nl) (nd (o196_h P) (nd (o324_j P) nl nl) nl)) (nd (o100_f P) (nd (o164_h P) (nd (o292_i P) nl nl) nl) (nd (o228_i P) nl nl))) (nd (o52_a P) (nd (o84_f P) (nd (o148_g P) (nd (o276_i P) nl nl) nl) (nd (o212_i P) (nd (o340_j P) nl nl) nl)) (nd (o116_g P) (nd (o180_h P) (nd (o308_j P) nl nl) nl) (nd (o244_i P) nl nl)))) (nd (o28_a P) (nd (o44_a P) (nd (o76_f P) (nd (o140_g P) (nd (o268_i P) nl nl) nl) (nd (o204_h P) (nd (o332_j P) nl nl) nl)) (nd (o108_f P) (nd (o172_h P) (nd (o300_j P) nl nl) nl) (nd (o236_i P) nl nl))) (nd (o60_a P) (nd (o92_f P) (nd (o156_h P) (nd (o284_i P) nl nl) nl) (nd (o220_i P) (nd (o348_j P) nl nl) nl)) (nd (o124_g P) (nd (o188_h P) (nd (o316_j P) nl nl) nl) (nd (o252_i P) nl nl)))))) (nd (boot_o_6 P) (nd (boot_o_10 P) (nd (o18_a P) (nd (o34_a P) (nd (o66_c P) (nd (o130_g P) (nd (o258_i P) nl nl) nl) (nd (o194_h P) (nd (o322_j P) nl nl) nl)) (nd (o98_f P) (nd (o162_h P) (nd (o290_i P) nl nl) nl) (nd (o226_i P) (nd (o354_j P) nl nl) nl))) (nd (o50_a P) (nd (o82_f P) (nd (o146_g P) (nd (o274_i P) nl nl) nl) (nd (o210_h P) (nd (o338_j P) nl nl) nl)) (nd (o114_g P) (nd (o178_h P) (nd (o306_j P) nl nl) nl) (nd (o242_i P) nl nl)))) (nd (o26_a P) (nd (o42_a P) (nd (o74_f P) (nd (o138_g P) (nd (o266_i P) nl nl) nl) (nd (o202_h P) (nd (o330_j P) nl nl) nl)) (nd (o106_f P) (nd (o170_h P) (nd (o298_j P) nl nl) nl) (nd (o234_i P) nl nl))) (nd (o58_a P) (nd (o90_f P) (nd (o154_h P) (nd (o282_i P) nl nl) nl) (nd (o218_i P) (nd (o346_j P) nl nl) nl)) (nd (o122_g P) (nd (o186_h P) (nd (o314_j P) nl nl) nl) (nd (o250_i P) nl nl))))) (nd (o14_z P) (nd (o22_a P) (nd (o38_a P) (nd (o70_d P) (nd (o134_g P) (nd (o262_i P) nl nl) nl) (nd (o198_h P) (nd (o326_j P) nl nl) nl)) (nd (o102_f P) (nd (o166_h P) (nd (o294_i P) nl nl) nl) (nd (o230_i P) nl nl))) (nd (o54_a P) (nd (o86_f P) (nd (o150_h P) (nd (o278_i P) nl nl) nl) (nd (o214_i P) (nd (o342_j P) nl nl) nl)) (nd (o118_g P) (nd (o182_h P) (nd (o310_j P) nl nl) nl) (nd (o246_i P) nl nl)))) (nd (o30_a P) (nd (o46_a P) (nd (o78_f P) (nd (o142_g P) (nd (o270_i P) nl nl) nl) (nd (o206_h P) (nd (o334_j P) nl nl) nl)) (nd (o110_f P) (nd (o174_h P) (nd (o302_j P) nl nl) nl) (nd (o238_i P) nl nl))) (nd (o62_b P) (nd (o94_f P) (nd (o158_h P) (nd (o286_i P) nl nl) nl) (nd (o222_i P) (nd (o350_j P) nl nl) nl)) (nd (o126_g P) (nd (o190_h P) (nd (o318_j P) nl nl) nl) (nd (o254_i P) nl nl))))))))
noncomputable def S_j (w : World) (os : OsState) : SharedT := ⟨T_j w.params, 356, life0, Array.mk [], boot_drawn, 903, os⟩
end
noncomputable section
open PySem PySem.W PyProof.Rows PySem.Calls
noncomputable def sts_a : List Stmt := (PySem.Challenge.pw_on0057_01.main.body.drop 0).take 5
theorem seg_a (w : World) : (fun os => segRunT treeTable PySem.Challenge.pw_on0057_01 w 11 (some (.ref 6)) 1 524 (S_z w os) (piecesOf sts_a env0 cE ⟨0, 0, 0, 0⟩ topB)) = fun os => some (.next, S_a w os, cE, ⟨17, 0, 17, 8⟩) := by kernel_rfl
noncomputable def sts_f : List Stmt := (PySem.Challenge.pw_on0057_01.main.body.drop 9).take 4
theorem seg_f0 (v : World) : (fun w : World => (fun os => segRunT treeTable PySem.Challenge.pw_on0057_01 w 11 (some (.ref 6)) 1 543 (S_e w os) (piecesOf sts_f env0 cE ⟨21, 0, 21, 8⟩ topB)) = fun os => some (.next, S_f w os, cE, ⟨25, 0, 43, 16⟩)) (v.withFollow "special-get-raises" false) := by kernel_rfl
theorem seg_f1 (v : World) : (fun w : World => (fun os => segRunT treeTable PySem.Challenge.pw_on0057_01 w 11 (some (.ref 6)) 1 543 (S_e w os) (piecesOf sts_f env0 cE ⟨21, 0, 21, 8⟩ topB)) = fun os => some (.next, S_f w os, cE, ⟨25, 0, 43, 16⟩)) (v.withFollow "special-get-raises" true) := by kernel_rfl
theorem seg_f (w : World) : (fun os => segRunT treeTable PySem.Challenge.pw_on0057_01 w 11 (some (.ref 6)) 1 543 (S_e w os) (piecesOf sts_f env0 cE ⟨21, 0, 21, 8⟩ topB)) = fun os => some (.next, S_f w os, cE, ⟨25, 0, 43, 16⟩) := byRow2 "special-get-raises" (P := fun w => (fun os => segRunT treeTable PySem.Challenge.pw_on0057_01 w 11 (some (.ref 6)) 1 543 (S_e w os) (piecesOf sts_f env0 cE ⟨21, 0, 21, 8⟩ topB)) = fun os => some (.next, S_f w os, cE, ⟨25, 0, 43, 16⟩)) seg_f0 seg_f1 w
noncomputable def sts_g : List Stmt := (PySem.Challenge.pw_on0057_01.main.body.drop 13).take 10
theorem seg_g0 (v : World) : (fun w : World => (fun os => segRunT treeTable PySem.Challenge.pw_on0057_01 w 11 (some (.ref 6)) 1 552 (S_f w os) (piecesOf sts_g env0 cE ⟨25, 0, 43, 16⟩ topB)) = fun os => some (.next, S_g w os, cE, ⟨102, 0, 102, 11⟩)) (v.withFollow "special-get-raises" false) := by kernel_rfl
theorem seg_g1 (v : World) : (fun w : World => (fun os => segRunT treeTable PySem.Challenge.pw_on0057_01 w 11 (some (.ref 6)) 1 552 (S_f w os) (piecesOf sts_g env0 cE ⟨25, 0, 43, 16⟩ topB)) = fun os => some (.next, S_g w os, cE, ⟨102, 0, 102, 11⟩)) (v.withFollow "special-get-raises" true) := by kernel_rfl
theorem seg_g (w : World) : (fun os => segRunT treeTable PySem.Challenge.pw_on0057_01 w 11 (some (.ref 6)) 1 552 (S_f w os) (piecesOf sts_g env0 cE ⟨25, 0, 43, 16⟩ topB)) = fun os => some (.next, S_g w os, cE, ⟨102, 0, 102, 11⟩) := byRow2 "special-get-raises" (P := fun w => (fun os => segRunT treeTable PySem.Challenge.pw_on0057_01 w 11 (some (.ref 6)) 1 552 (S_f w os) (piecesOf sts_g env0 cE ⟨25, 0, 43, 16⟩ topB)) = fun os => some (.next, S_g w os, cE, ⟨102, 0, 102, 11⟩)) seg_g0 seg_g1 w
noncomputable def sts_h : List Stmt := (PySem.Challenge.pw_on0057_01.main.body.drop 23).take 7
theorem seg_h (w : World) : (fun os => segRunT treeTable PySem.Challenge.pw_on0057_01 w 11 (some (.ref 6)) 1 417 (S_g w os) (piecesOf sts_h env0 cE ⟨102, 0, 102, 11⟩ topB)) = fun os => some (.next, S_h w os, cE, ⟨165, 0, 167, 91⟩) := by kernel_rfl
noncomputable def sts_i : List Stmt := (PySem.Challenge.pw_on0057_01.main.body.drop 30).take 1
theorem seg_i (w : World) : (fun os => segRunT treeTable PySem.Challenge.pw_on0057_01 w 11 (some (.ref 6)) 1 522 (S_h w os) (piecesOf sts_i env0 cE ⟨165, 0, 167, 91⟩ topB)) = fun os => some (.next, S_i w os, cE, ⟨168, 0, 262, 41⟩) := by kernel_rfl
noncomputable def sts_j : List Stmt := (PySem.Challenge.pw_on0057_01.main.body.drop 31).take 13
theorem seg_j (w : World) : (fun os => segRunT treeTable PySem.Challenge.pw_on0057_01 w 11 (some (.ref 6)) 1 356 (S_i w os) (piecesOf sts_j env0 cE ⟨168, 0, 262, 41⟩ topB)) = fun os => some (.next, S_j w os, cE, ⟨346, 0, 358, 15⟩) := by kernel_rfl
end
section
open PySem PySem.W PyProof.Rows PySem.Calls
section
variable {w : World}
noncomputable abbrev P0 : Program := PySem.Challenge.pw_on0057_01
theorem segGoT_add {tb : String → Option Builtin} {p : Program} {w : World} {n₀ : Nat} {ann : Option Value} {b : Nat} : ∀ {n m : Nat} {s s' : SharedT} {t t' : Thread} {r : SharedT × Thread},
    segGoT tb p w n₀ ann b n s t = some (s', t') → segGoT tb p w n₀ ann b m s' t' = some r → segGoT tb p w n₀ ann b (n + m) s t = some r
  | 0, m, s, s', t, t', r, h, k => by cases h; rw [Nat.zero_add]; exact k
  | n + 1, m, s, s', t, t', r, h, k => by
    rw [show n + 1 + m = n + m + 1 by omega]
    unfold segGoT at h ⊢
    cases he : endAt b t with
    | some f => rw [he] at h; cases h
    | none =>
      rw [he] at h
      cases hk : stepOk n₀ ann t with
      | false => rw [hk] at h; cases h
      | true =>
        rw [hk] at h
        cases hs : stepT (denote tb) p w s t with
        | none => rw [hs] at h; cases h
        | some q => obtain ⟨s₂, t₂⟩ := q; rw [hs] at h; exact segGoT_add h k
theorem segRunT_go {tb : String → Option Builtin} {p : Program} {w : World} {n₀ : Nat} {ann : Option Value} {b : Nat} : ∀ {n m : Nat} {s s' : SharedT} {t t' : Thread} {r : Flow × SharedT × Code × Pos},
    segGoT tb p w n₀ ann b n s t = some (s', t') → segRunT tb p w n₀ ann b m s' t' = some r → segRunT tb p w n₀ ann b (n + m) s t = some r
  | 0, m, s, s', t, t', r, h, k => by cases h; rw [Nat.zero_add]; exact k
  | n + 1, m, s, s', t, t', r, h, k => by
    rw [show n + 1 + m = n + m + 1 by omega]
    unfold segGoT at h
    unfold segRunT
    cases he : endAt b t with
    | some f => rw [he] at h; cases h
    | none =>
      rw [he] at h
      cases hk : stepOk n₀ ann t with
      | false => rw [hk] at h; cases h
      | true =>
        rw [hk] at h
        cases hs : stepT (denote tb) p w s t with
        | none => rw [hs] at h; cases h
        | some q => obtain ⟨s₂, t₂⟩ := q; rw [hs] at h; exact segRunT_go h k
theorem segRunT_mono {tb : String → Option Builtin} {p : Program} {w : World} {n₀ : Nat} {ann : Option Value} {b : Nat} (k : Nat) : ∀ {n : Nat} {s : SharedT} {t : Thread} {r : Flow × SharedT × Code × Pos},
    segRunT tb p w n₀ ann b n s t = some r → segRunT tb p w n₀ ann b (n + k) s t = some r
  | 0, s, t, r, h => by cases h
  | n + 1, s, t, r, h => by
    rw [show n + 1 + k = n + k + 1 by omega]
    unfold segRunT at h ⊢
    cases he : endAt b t with
    | some f => rw [he] at h; exact h
    | none =>
      rw [he] at h
      cases hk : stepOk n₀ ann t with
      | false => rw [hk] at h; cases h
      | true =>
        rw [hk] at h
        cases hs : stepT (denote tb) p w s t with
        | none => rw [hs] at h; cases h
        | some q => obtain ⟨s₂, t₂⟩ := q; rw [hs] at h; exact segRunT_mono k h

noncomputable def Go (w : World) (k : Nat) (s : SharedT) (t : Thread) (s' : SharedT) (t' : Thread) : Prop :=
  ∃ n, n ≤ k ∧ segGoT treeTable P0 w 11 (some (.ref 6)) 1 n s t = some (s', t')
theorem Go.of {n : Nat} {s s' : SharedT} {t t' : Thread} (h : segGoT treeTable P0 w 11 (some (.ref 6)) 1 n s t = some (s', t')) : Go w n s t s' t' := ⟨n, Nat.le_refl _, h⟩
theorem Go.trans {k l : Nat} {s s' s'' : SharedT} {t t' t'' : Thread} (a : Go w k s t s' t') (b : Go w l s' t' s'' t'') : Go w (k + l) s t s'' t'' := by
  obtain ⟨n, hn, h⟩ := a
  obtain ⟨m, hm, h'⟩ := b
  exact ⟨n + m, by omega, segGoT_add h h'⟩
theorem Go.run {k N : Nat} {s s' : SharedT} {t t' : Thread} {r : Flow × SharedT × Code × Pos} (a : Go w k s t s' t') (b : segRunT treeTable P0 w 11 (some (.ref 6)) 1 N s' t' = some r) :
    segRunT treeTable P0 w 11 (some (.ref 6)) 1 (k + N) s t = some r := by
  obtain ⟨n, hn, h⟩ := a
  have := segRunT_mono (k - n) (segRunT_go h b)
  rw [show n + N + (k - n) = k + N by omega] at this
  exact this

noncomputable def Does (w : World) (code : Code) (pos : Pos) (st : List Frame) {α : Type} (k : Nat) (m : Sem α) (s s' : SharedT) (a : α) : Prop :=
  ∀ (K : α → Sem Fin) (H : Value → Sem Fin) (gd : Bool → Bool) (lv : List Value → List Value), Go w k s ⟨m.wrap K H gd lv, code, pos, st⟩ s' ⟨K a, code, pos, st⟩
variable {code : Code} {pos : Pos} {st : List Frame} {α β : Type}
theorem bind_wrap (m : Sem α) (f : α → Sem β) {γ : Type} (K : β → Sem γ) (H : Value → Sem γ) (gd : Bool → Bool) (lv : List Value → List Value) :
    (m >>= f).wrap K H gd lv = m.wrap (fun a => (f a).wrap K H gd lv) H gd lv := by
  show (m.bind f).wrap K H gd lv = _
  induction m <;> simp only [Sem.bind, Sem.wrap, *]
theorem keep_wrap (vs : List Value) (m : Sem α) {γ : Type} (K : α → Sem γ) (H : Value → Sem γ) (gd : Bool → Bool) (lv : List Value → List Value) :
    (m.keep vs).wrap K H gd lv = m.wrap K H gd (fun l => lv (vs ++ l)) := by
  induction m <;> simp only [Sem.keep, Sem.wrap, *]
theorem Does.pure {s : SharedT} {a : α} : Does w code pos st 0 (Pure.pure a : Sem α) s s a := fun K H gd lv => ⟨0, Nat.le_refl _, rfl⟩
theorem Does.bind {k l : Nat} {m : Sem α} {f : α → Sem β} {s s' s'' : SharedT} {a : α} {b : β} (x : Does w code pos st k m s s' a) (y : Does w code pos st l (f a) s' s'' b) :
    Does w code pos st (k + l) (m >>= f) s s'' b := fun K H gd lv => by
  rw [bind_wrap]
  exact (x _ H gd lv).trans (y K H gd lv)
theorem Does.keep {k : Nat} {m : Sem α} {s s' : SharedT} {a : α} {vs : List Value} (x : Does w code pos st k m s s' a) : Does w code pos st k (m.keep vs) s s' a := fun K H gd lv => by
  rw [keep_wrap]; exact x K H gd _
theorem Does.holding {k : Nat} {m : Sem α} {s s' : SharedT} {a : α} {vs : List Value} (x : Does w code pos st k m s s' a) : Does w code pos st k (PySem.holding vs m) s s' a := by
  unfold PySem.holding
  split
  · exact x
  · exact x.keep
theorem Does.le {k l : Nat} {m : Sem α} {s s' : SharedT} {a : α} (x : Does w code pos st k m s s' a) (h : k ≤ l) : Does w code pos st l m s s' a := fun K H gd lv =>
  let ⟨n, hn, e⟩ := x K H gd lv; ⟨n, Nat.le_trans hn h, e⟩
noncomputable def Calm (_ : Code) (_ : Pos) (_ : List Frame) : Prop := True
theorem go1 {s : SharedT} {t : Thread} {s' : SharedT} {t' : Thread} (he : endAt 1 t = none) (hk : stepOk 11 (some (.ref 6)) t = true) (hs : stepT (denote treeTable) P0 w s t = some (s', t')) : Go w 1 s t s' t' :=
  ⟨1, Nat.le_refl _, by unfold segGoT; rw [he, hk, hs]; rfl⟩
theorem Does.rule (hc : Calm code pos st) {tag : String} {s : SharedT} : Does w code pos st 1 (PySem.rule tag) s s () := fun K H gd lv => by
  refine go1 (by unfold endAt; split <;> simp_all [PySem.rule, Sem.wrap]) ?_ ?_
  · simp [stepOk, Thread.calm, Thread.atCollectorCode, Thread.yieldsInsideHandler, PySem.rule, Sem.wrap]
  · obtain ⟨T, n, life, gens, drawn, toks, os⟩ := s; rfl
theorem Does.load (hc : Calm code pos st) {s : SharedT} {a : Addr} {o : Obj} (hlt : Nat.blt a s.n = true) (hg : s.tree.get a = some o) (ha : alive o = some o) : Does w code pos st 1 (PySem.load a) s s o := fun K H gd lv => by
  refine go1 (by unfold endAt; split <;> simp_all [PySem.load, Sem.wrap]) ?_ ?_
  · simp [stepOk, Thread.calm, Thread.atCollectorCode, Thread.yieldsInsideHandler, PySem.load, Sem.wrap]
  · obtain ⟨T, n, life, gens, drawn, toks, os⟩ := s
    simp only at hlt hg
    simp only [PySem.load, Sem.wrap, stepT, hlt, hg, ha]
theorem Does.update (hc : Calm code pos st) {s : SharedT} {a : Addr} {o : Obj} {f : Obj → Obj} (hlt : Nat.blt a s.n = true) (hg : s.tree.get a = some o) (ha : alive o = some o) (hn : Nat.ble 11 a = true) :
    Does w code pos st 1 (PySem.update a f) s { s with tree := s.tree.set a f } () := fun K H gd lv => by
  refine go1 (by unfold endAt; split <;> simp_all [PySem.update, Sem.wrap]) ?_ ?_
  · simp only [stepOk, Thread.calm, Thread.atCollectorCode, Thread.yieldsInsideHandler, PySem.update, Sem.wrap, hn]; rfl
  · obtain ⟨T, n, life, gens, drawn, toks, os⟩ := s
    simp only at hlt hg
    simp only [PySem.update, Sem.wrap, stepT, hlt, hg, ha]
end
end
section
open PySem PySem.W PyProof.Rows PySem.Calls
section
theorem set_const (f : Obj → Obj) : ∀ (T : BT) (a : Nat) (o : Obj), T.get a = some o → T.set a f = T.set a (fun _ => f o)
  | .nil, a, o, h => by cases h
  | .node v l r, a, o, h => by
    rw [BT.get_node] at h
    rw [BT.set_node, BT.set_node]
    by_cases h0 : a = 0
    · simp only [h0, if_true] at h ⊢; cases h; rfl
    · by_cases h1 : a % 2 = 1
      · simp only [h0, h1, if_true, if_false] at h ⊢; rw [set_const f l _ o h]
      · simp only [h0, h1, if_false] at h ⊢; rw [set_const f r _ o h]
theorem set_set (f g : Obj → Obj) : ∀ (T : BT) (a : Nat), (T.set a f).set a g = T.set a (fun o => g (f o))
  | .nil, a => rfl
  | .node v l r, a => by
    rw [BT.set_node, BT.set_node]
    by_cases h0 : a = 0
    · simp only [h0, if_true]; rw [BT.set_node]; simp
    · by_cases h1 : a % 2 = 1
      · simp only [h0, h1, if_true, if_false]; rw [BT.set_node]; simp only [h0, h1, if_true, if_false]; rw [set_set f g l]
      · simp only [h0, h1, if_false]; rw [BT.set_node]; simp only [h0, h1, if_false]; rw [set_set f g r]

theorem insertAt_perm {α : Type} (xs : Array α) (p : Nat) (x : α) : (SetTable.insertAt xs p x).toList.Perm (x :: xs.toList) := by
  unfold SetTable.insertAt
  simp only [Array.toList_append, Array.toList_push, Array.toList_extract]
  have e : (xs.toList.extract 0 p ++ [x]) ++ xs.toList.extract p xs.size = xs.toList.take p ++ x :: xs.toList.drop p := by
    simp [List.extract_eq_take_drop, List.append_assoc]
    rw [List.take_of_length_le (by simp)]
  rw [e]
  exact (List.perm_middle).trans (by rw [List.take_append_drop])
theorem standIn_fits (t : SetTable) (n : Nat) : (t.standIn n).place.size = n ∧ (t.standIn n).fill ≤ (t.standIn n).mask := by
  constructor
  · simp [SetTable.standIn]
  · simp [SetTable.standIn, SetTable.fill]; omega
theorem orStandIn_fits (t : SetTable) (n : Nat) : (t.orStandIn n).place.size = n ∧ (t.orStandIn n).fill ≤ (t.orStandIn n).mask := by
  unfold SetTable.orStandIn
  split
  · rename_i h
    simp only [SetTable.fits, Bool.and_eq_true, beq_iff_eq, decide_eq_true_eq] at h
    exact h
  · exact standIn_fits t n
theorem layNew_fits (t : SetTable) (es : Array (Int × Value)) (h : Int) (x : Value) :
    ((layNew t es h x).2.1.place.size = (layNew t es h x).1.size ∧ (layNew t es h x).2.1.fill ≤ (layNew t es h x).2.1.mask) ∧ (layNew t es h x).1.toList.Perm ((h, x) :: es.toList) := by
  unfold layNew
  split
  · exact ⟨orStandIn_fits _ _, insertAt_perm _ _ _⟩
  · refine ⟨?_, ?_⟩
    · have := standIn_fits t (es.size + 1)
      simpa using this
    · simp
theorem filterMap_rangeL {α : Type} : ∀ l : List α, (List.range l.length).filterMap (fun i => l[i]?) = l
  | [] => rfl
  | a :: l => by
    rw [List.length_cons, List.range_succ_eq_map, List.filterMap_cons]
    simp only [List.getElem?_cons_zero, List.filterMap_map]
    congr 1
    exact filterMap_rangeL l
theorem filterMap_range {α : Type} (es : Array α) : (List.range es.size).filterMap (fun i => es[i]?) = es.toList := by
  have := filterMap_rangeL es.toList
  simpa using this
theorem relayAll_fits (t : SetTable) (es : Array (Int × Value)) (n : Nat) :
    ((relayAll t es n).2.1.place.size = (relayAll t es n).1.size ∧ (relayAll t es n).2.1.fill ≤ (relayAll t es n).2.1.mask) ∧ (relayAll t es n).1.toList.Perm es.toList := by
  unfold relayAll
  split
  · rename_i t' order hq
    dsimp only
    split
    · rename_i hc
      simp only [Bool.and_eq_true, SetTable.fits, beq_iff_eq, decide_eq_true_eq, coversAll, List.isPerm_iff] at hc
      refine ⟨hc.2, ?_⟩
      have := hc.1.filterMap (fun i => es[i]?)
      rw [filterMap_range] at this
      simpa using this
    · exact ⟨standIn_fits _ _, List.Perm.refl _⟩
  · exact ⟨standIn_fits _ _, List.Perm.refl _⟩

structure Inv (s : Array (Int × Value) × Nat × SetTable) (cs : List (Str × Nat)) : Prop where
  size : s.2.2.place.size = s.1.size
  fill : s.2.2.fill ≤ s.2.2.mask
  perm : (s.1.toList.map (·.2)).Perm (cs.map fun c => Value.str c.1 c.2)
theorem inv_start (P : Params) : Inv (start0 P) [] := ⟨rfl, by simp [start0, SetTable.fresh, SetTable.fill], by simp [start0]⟩
theorem inv_add {s : Array (Int × Value) × Nat × SetTable} {cs : List (Str × Nat)} (I : Inv s cs) (h : Int) (c : Str × Nat) : Inv (addT s h (.str c.1 c.2)) (c :: cs) := by
  obtain ⟨⟨a1, a2⟩, a3⟩ := layNew_fits s.2.2 s.1 h (.str c.1 c.2)
  have hp : (((layNew s.2.2 s.1 h (.str c.1 c.2)).1.toList).map (·.2)).Perm ((c :: cs).map fun c => Value.str c.1 c.2) := by
    refine (a3.map _).trans ?_
    simp only [List.map_cons]
    exact I.perm.cons _
  unfold addT
  dsimp only
  split
  · obtain ⟨⟨b1, b2⟩, b3⟩ := relayAll_fits { (layNew s.2.2 s.1 h (.str c.1 c.2)).2.1 with plain := false } (layNew s.2.2 s.1 h (.str c.1 c.2)).1 (SetTable.grown (layNew s.2.2 s.1 h (.str c.1 c.2)).1.size)
    exact ⟨b1, b2, (b3.map _).trans hp⟩
  · exact ⟨a1, a2, hp⟩
theorem Inv.size_eq {s : Array (Int × Value) × Nat × SetTable} {cs : List (Str × Nat)} (I : Inv s cs) : s.1.size = cs.length := by
  have := I.perm.length_eq
  simpa using this
theorem Inv.mem {s : Array (Int × Value) × Nat × SetTable} {cs : List (Str × Nat)} (I : Inv s cs) {e : Int × Value} (he : e ∈ s.1) : ∃ c ∈ cs, e.2 = .str c.1 c.2 := by
  have : e.2 ∈ s.1.toList.map (·.2) := List.mem_map.mpr ⟨e, Array.mem_toList_iff.mpr he, rfl⟩
  obtain ⟨c, hc, h⟩ := List.mem_map.mp (I.perm.mem_iff.mp this)
  exact ⟨c, hc, h.symm⟩
theorem Inv.exact {s : Array (Int × Value) × Nat × SetTable} {cs : List (Str × Nat)} (I : Inv s cs) : s.1.all (fun e => isExactStrKey e.2) = true := by
  rw [Array.all_eq_true']
  intro e he
  obtain ⟨c, _, h⟩ := I.mem he
  rw [h]; rfl
theorem Inv.scan {s : Array (Int × Value) × Nat × SetTable} {cs : List (Str × Nat)} (I : Inv s cs) (hl : cs.length ≤ 1000) {x : Value} (hx : x.scannable = true) : byScan x s.1 = true := by
  unfold byScan
  rw [hx]
  have hz := I.size_eq
  have : s.1.all (fun e => e.2.scannable) = true := by
    rw [Array.all_eq_true']
    intro e he
    obtain ⟨c, _, h⟩ := I.mem he
    rw [h]; rfl
  rw [this]
  simp only [Bool.true_and, Bool.and_true, decide_eq_true_eq]
  unfold scanBound; omega
theorem Inv.absent {s : Array (Int × Value) × Nat × SetTable} {cs : List (Str × Nat)} (I : Inv s cs) {c : Str} {k : Nat} (hc : ∀ d ∈ cs, d.1 ≠ c) {a : Addr} {h : Int} {b : Bool} :
    setScan a (.str c k) h b s.1 = pure .absent := by
  unfold setScan
  dsimp only
  rw [I.exact, if_pos rfl]
  unfold setScanStrs
  have : s.1.findIdx? (fun e => e.2.isStr c) = none := by
    rw [Array.findIdx?_eq_none_iff]
    intro e he
    obtain ⟨d, hd, q⟩ := I.mem he
    rw [q]
    simp only [Value.isStr, beq_eq_false_iff_ne]
    exact hc d hd
  rw [this]
end
variable {w : World} {code : Code} {pos : Pos} {st : List Frame}
noncomputable def putAt (S : SharedT) (a : Addr) (s : Array (Int × Value) × Nat × SetTable) : SharedT := { S with tree := S.tree.set a (fun _ => setObj s) }
theorem putAt_get {S : SharedT} {a : Addr} {s s' : Array (Int × Value) × Nat × SetTable} (hg : S.tree.get a = some (setObj s)) : (putAt S a s').tree.get a = some (setObj s') := by
  show (S.tree.set a _).get a = _
  rw [BT.get_set, if_pos rfl, hg]; rfl
theorem putAt_putAt (S : SharedT) (a : Addr) (s s' : Array (Int × Value) × Nat × SetTable) : putAt (putAt S a s) a s' = putAt S a s' := by
  show ({ S with tree := (S.tree.set a _).set a _ } : SharedT) = _
  rw [set_set]; rfl
theorem does_state (hc : Calm code pos st) {S : SharedT} {a : Addr} {s : Array (Int × Value) × Nat × SetTable} (hlt : Nat.blt a S.n = true) (hg : S.tree.get a = some (setObj s))
    (h1 : s.2.2.place.size = s.1.size) (h2 : s.2.2.fill ≤ s.2.2.mask) : Does w code pos st 1 (setState a) S S s := by
  unfold setState
  refine Does.bind (k := 1) (l := 0) (Does.load hc hlt hg rfl) ?_
  show Does w code pos st 0 (if (s.2.2.place.size != s.1.size || decide (s.2.2.fill > s.2.2.mask)) = true then _ else _) S S s
  rw [if_neg (by simp [h1]; exact h2)]
  exact Does.pure
theorem does_store (hc : Calm code pos st) {S : SharedT} {a : Addr} {s : Array (Int × Value) × Nat × SetTable} {es : Array (Int × Value)} {t : SetTable} (hlt : Nat.blt a S.n = true) (hn : Nat.ble 11 a = true)
    (hg : S.tree.get a = some (setObj s)) (hz : es.size ≤ sizeLine) : Does w code pos st 2 (storeSet a es t) S (putAt S a (es, s.2.1 + 1, t)) () := by
  unfold storeSet
  refine Does.bind (k := 1) (l := 1) (Does.load hc hlt hg rfl) ?_
  show Does w code pos st 1 (if es.size > sizeLine then _ else _) S _ ()
  rw [if_neg (by omega)]
  have := Does.update (w := w) (f := Obj.putSet es t) hc hlt hg rfl hn
  rw [set_const _ _ _ _ hg] at this
  exact this
theorem does_gave (hc : Calm code pos st) {S : SharedT} {m : Sem Unit} {b : Bool} (h1 : b = true → m = PySem.rule "set.scan.the-table-gave-way") (h2 : b = false → m = pure ()) : Does w code pos st 1 m S S () := by
  cases b with
  | true => rw [h1 rfl]; exact Does.rule hc
  | false => rw [h2 rfl]; exact Does.pure.le (by omega)
theorem sizeLine_big : 2000 ≤ sizeLine := by decide
theorem does_add (hc : Calm code pos st) {S : SharedT} {a : Addr} {s : Array (Int × Value) × Nat × SetTable} {cs : List (Str × Nat)} {c : Str × Nat} {h : Int} (I : Inv s cs) (hl : cs.length ≤ 1000) (hd : ∀ d ∈ cs, d.1 ≠ c.1)
    (hlt : Nat.blt a S.n = true) (hn : Nat.ble 11 a = true) (hg : S.tree.get a = some (setObj s)) :
    Does w code pos st 8 (setAddHashed a (.str c.1 c.2) h) S (putAt S a (addT s h (.str c.1 c.2))) true := by
  unfold setAddHashed
  refine Does.holding ?_
  unfold setAddHashedIn
  refine Does.bind (k := 1) (l := 7) (does_state hc hlt hg I.size I.fill) ?_
  dsimp only
  rw [if_pos (I.scan hl rfl)]
  refine Does.bind (k := 7) (l := 0) (a := some true) ?_ Does.pure
  unfold setAddByScan
  rw [I.absent hd]
  refine Does.bind (k := 1) (l := 6) (Does.rule hc) ?_
  refine Does.bind (k := 0) (l := 6) Does.pure ?_
  dsimp only
  have I' := inv_add I h c
  obtain ⟨⟨a1, a2⟩, a3⟩ := layNew_fits s.2.2 s.1 h (.str c.1 c.2)
  have hz1 : (layNew s.2.2 s.1 h (.str c.1 c.2)).1.size ≤ sizeLine := by
    have := a3.length_eq
    simp only [Array.length_toList, List.length_cons] at this
    have e := I.size_eq
    have := sizeLine_big
    omega
  unfold addT
  dsimp only
  generalize layNew s.2.2 s.1 h (.str c.1 c.2) = r at a1 a2 hz1 ⊢
  obtain ⟨es1, t1, wd, gv⟩ := r
  dsimp only at a1 a2 hz1 ⊢
  refine Does.bind (k := 1) (l := 5) (does_gave (b := gv) hc (fun e => by subst e; rfl) (fun e => by subst e; rfl)) ?_
  have key : ∀ (t : SetTable), t = { t1 with plain := false } → Does w code pos st 5 (do
      storeSet a es1 t
      if (!wd && t.tooFull) = true then do
        (match (relayAll t es1 (SetTable.grown es1.size)).2.2 with | true => PySem.rule "set.scan.the-table-gave-way" | false => pure ())
        storeSet a (relayAll t es1 (SetTable.grown es1.size)).1 (relayAll t es1 (SetTable.grown es1.size)).2.1
        pure (some true)
      else pure (some true)) S
      (putAt S a (match !wd && SetTable.tooFull { t1 with plain := false } with
        | true => ((relayAll { t1 with plain := false } es1 (SetTable.grown es1.size)).1, s.2.1 + 1 + 1, (relayAll { t1 with plain := false } es1 (SetTable.grown es1.size)).2.1)
        | false => (es1, s.2.1 + 1, { t1 with plain := false }))) (some true) := by
    intro t ht
    subst ht
    refine Does.bind (k := 2) (l := 3) (does_store hc hlt hn hg hz1) ?_
    cases hb : (!wd && SetTable.tooFull { t1 with plain := false }) with
    | false => rw [if_neg (by simp)]; exact Does.pure.le (by omega)
    | true =>
      rw [if_pos rfl]
      dsimp only
      obtain ⟨_, b3⟩ := relayAll_fits { t1 with plain := false } es1 (SetTable.grown es1.size)
      have hz2 : (relayAll { t1 with plain := false } es1 (SetTable.grown es1.size)).1.size ≤ sizeLine := by
        have := b3.length_eq
        simp only [Array.length_toList] at this
        omega
      generalize relayAll { t1 with plain := false } es1 (SetTable.grown es1.size) = r2 at hz2 ⊢
      refine Does.bind (k := 1) (l := 2) (does_gave (b := r2.2.2) hc (fun e => by rw [e]) (fun e => by rw [e])) ?_
      refine Does.bind (k := 2) (l := 0) (a := ()) ?_ Does.pure
      have := does_store (w := w) (S := putAt S a (es1, s.2.1 + 1, { t1 with plain := false })) (es := r2.1) (t := r2.2.1) hc hlt hn (putAt_get hg) hz2
      rw [putAt_putAt] at this
      exact this
  cases hp : t1.plain with
  | true =>
    rw [if_pos rfl]
    refine Does.bind (k := 0) (l := 5) Does.pure ?_
    exact key _ (by simp)
  | false =>
    rw [if_neg (by simp)]
    refine Does.bind (k := 0) (l := 5) Does.pure ?_
    exact key t1 (by cases t1; simp only at hp; subst hp; rfl)
end
noncomputable section
open PySem PySem.W PyProof.Rows PySem.Calls
noncomputable def Lst (T : BT) (n : Nat) (a b : Addr) (o it : Obj) (k : Nat) (os : OsState) : SharedT := ⟨(T.ins a o).ins b it, n, life0, Array.mk [], boot_drawn, k, os⟩
noncomputable def itO (txt : Str) (tok : Nat) (i : Int) : Obj := ⟨.type "str_ascii_iterator", none, .fields #[.str txt tok, .int i 0], #[]⟩
noncomputable def fr0 : Frame := topFrame ⟨0, 0, 0, 0⟩
theorem wrap_id {α : Type} (m : Sem α) : m.wrap .pure .raise id id = m := by
  induction m with
  | await a t d l k ih => simp only [Sem.wrap, ih]; rfl
  | _ => simp only [Sem.wrap, id, *]
theorem inv_addS {s : Array (Int × Value) × Nat × SetTable} {cs : List (Str × Nat)} (I : Inv s cs) (P : Params) (c : Str × Nat) : Inv (addS P s c) (c :: cs) := inv_add I _ c
theorem turn {w : World} {a b : Addr} {pos : Pos} {st : List Frame} {S S1 : SharedT} {s : Array (Int × Value) × Nat × SetTable} {cs : List (Str × Nat)} {c : Str × Nat}
    (hc : Calm (.builtin "set.update.loop" ⟨[.ref a, .ref b], []⟩) pos st)
    (nx : Does w (.builtin "set.update.loop" ⟨[.ref a, .ref b], []⟩) pos st 10 (pyNext (.ref b)) S S1 (some (.str c.1 c.2)))
    (hh : Does w (.builtin "set.update.loop" ⟨[.ref a, .ref b], []⟩) pos st 7 (pyHash (.str c.1 c.2)) S1 { S1 with toks := S1.toks + 1 } (PyData.keyHash w.params c.1))
    (ag : ∀ S : SharedT, Go w 1 S ⟨.pure (.again (.builtin "set.update.loop" ⟨[.ref a, .ref b], []⟩)), .builtin "set.update.loop" ⟨[.ref a, .ref b], []⟩, pos, st⟩ S ⟨Builtin.«set.update.loop» ⟨[.ref a, .ref b], []⟩, .builtin "set.update.loop" ⟨[.ref a, .ref b], []⟩, pos, st⟩)
    (I : Inv s cs) (hl : cs.length ≤ 1000) (hd : ∀ d ∈ cs, d.1 ≠ c.1) (hlt : Nat.blt a S1.n = true) (hn : Nat.ble 11 a = true) (hg : S1.tree.get a = some (setObj s)) :
    Go w 26 S ⟨Builtin.«set.update.loop» ⟨[.ref a, .ref b], []⟩, .builtin "set.update.loop" ⟨[.ref a, .ref b], []⟩, pos, st⟩
      (putAt { S1 with toks := S1.toks + 1 } a (addS w.params s c)) ⟨Builtin.«set.update.loop» ⟨[.ref a, .ref b], []⟩, .builtin "set.update.loop" ⟨[.ref a, .ref b], []⟩, pos, st⟩ := by
  have add := does_add (w := w) (S := { S1 with toks := S1.toks + 1 }) (h := PyData.keyHash w.params c.1) hc I hl hd hlt hn hg
  have sa : Does w (.builtin "set.update.loop" ⟨[.ref a, .ref b], []⟩) pos st (7 + 8) (PySem.holding [.str c.1 c.2] (setAdd a (.str c.1 c.2))) S1 (putAt { S1 with toks := S1.toks + 1 } a (addS w.params s c)) true :=
    Does.holding (Does.holding (Does.bind hh add))
  have all := Does.bind nx (f := fun x => match x with
      | some x => (do let _ ← PySem.holding [x] (setAdd a x); PySem.again (.builtin "set.update.loop" ⟨[.ref a, .ref b], []⟩) : Sem PySem.Fin)
      | _ => ret .none) (Does.bind sa (Does.pure (a := Fin.again (.builtin "set.update.loop" ⟨[.ref a, .ref b], []⟩))))
  have g := all .pure .raise id id
  rw [wrap_id] at g
  have e : Builtin.«set.update.loop» ⟨[.ref a, .ref b], []⟩ = (pyNext (.ref b) >>= fun x => match x with
      | some x => (do let _ ← PySem.holding [x] (setAdd a x); PySem.again (.builtin "set.update.loop" ⟨[.ref a, .ref b], []⟩) : Sem PySem.Fin)
      | _ => ret .none) := by
    unfold Builtin.«set.update.loop»; dsimp only; rfl
  have h := g.trans (ag _)
  rw [← e] at h
  exact h

noncomputable def ix : Int → List (Str × Nat) → List (Int × Str × Nat)
  | _, [] => []
  | i, c :: r => (i, c) :: ix (i + 1) r
noncomputable def okL : List Str → Nat → List (Str × Nat) → Bool
  | _, _, [] => true
  | seen, k, c :: r => c.2 == k && !(seen.any (· == c.1)) && okL (c.1 :: seen) (k + 2) r
theorem loop_gen {α : Type} {w : World} {L : Obj → Int → Nat → SharedT} {T : Thread} {F G : Int × Str × Nat → α}
    (tn : ∀ {s : Array (Int × Value) × Nat × SetTable} {cs : List (Str × Nat)} (i : Int) (c : Str × Nat), F (i, c) = G (i, c) → Inv s cs → cs.length ≤ 1000 → (∀ d ∈ cs, d.1 ≠ c.1) → Go w 26 (L (setObj s) i c.2) T (L (setObj (addS w.params s c)) (i + 1) (c.2 + 2)) T) :
    ∀ (l : List (Str × Nat)) (i : Int) (k : Nat) (s : Array (Int × Value) × Nat × SetTable) (cs : List (Str × Nat)), Inv s cs → (ix i l).map F = (ix i l).map G → okL (cs.map (·.1)) k l = true → cs.length + l.length ≤ 1000 →
      Go w (26 * l.length) (L (setObj s) i k) T (L (setObj (l.foldl (addS w.params) s)) (i + l.length) (k + 2 * l.length)) T := by
  intro l
  induction l with
  | nil => intro i k s cs I e ok hl; exact (Int.add_zero i).symm ▸ ⟨0, Nat.le_refl _, rfl⟩
  | cons c r ih =>
    intro i k s cs I e ok hl
    simp only [ix, List.map_cons, List.cons.injEq] at e
    simp only [okL, Bool.and_eq_true, beq_iff_eq] at ok
    obtain ⟨⟨hk, hd⟩, ok⟩ := ok
    simp only [List.length_cons] at hl
    have hd' : ∀ d ∈ cs, d.1 ≠ c.1 := fun d hm q => by
      rw [List.any_eq_true.mpr ⟨d.1, List.mem_map.mpr ⟨d, hm, rfl⟩, by rw [q]; exact beq_self_eq_true _⟩] at hd
      exact absurd hd (by decide)
    have g := tn i c e.1 I (by omega) hd'
    have I' := inv_addS I w.params c
    have g2 := ih (i + 1) (k + 2) _ (c :: cs) I' e.2 ok (by simp only [List.length_cons]; omega)
    rw [hk] at g
    have g3 := g.trans g2
    have e1 : 26 + 26 * r.length = 26 * (c :: r).length := by simp only [List.length_cons]; omega
    have e2 : i + 1 + (r.length : Int) = i + ((c :: r).length : Int) := by simp only [List.length_cons]; omega
    have e3 : k + 2 + 2 * r.length = k + 2 * (c :: r).length := by simp only [List.length_cons]; omega
    rw [e1, e2, e3] at g3
    exact g3
noncomputable def stkOf (p : Option (SharedT × Thread)) : List Frame := match p with
  | some (_, t) => t.stack
  | none => []
noncomputable def sts_b : List Stmt := (PySem.Challenge.pw_on0057_01.main.body.drop 5).take 1
noncomputable def pre_b (w : World) (os : OsState) : Option (SharedT × Thread) := segGoT treeTable P0 w 11 (some (.ref 6)) 1 28 (S_a w os) (piecesOf sts_b env0 cE ⟨17, 0, 17, 8⟩ topB)
noncomputable def stk_b (w : World) (os : OsState) : List Frame := stkOf (pre_b w os)
noncomputable def L_b (w : World) (os : OsState) (o : Obj) (i : Int) (k : Nat) : SharedT := Lst (T_a w.params) 63 61 62 o (itO "0123456789" 254 i) k os
theorem pre_b_eq0 (w : World) : (fun os => pre_b w os) = fun os => some (L_b w os (setObj (start0 w.params)) 0 255, ⟨Builtin.«set.update.loop» ⟨[.ref 61, .ref 62], []⟩, (.builtin "set.update.loop" ⟨[.ref 61, .ref 62], []⟩ : Code), ⟨18, 9, 18, 26⟩, (stk_b w os).headD fr0 :: (stk_b w os).tail.headD fr0 :: (stk_b w os).tail.tail⟩) :=
  byRow2 "special-get-raises" (P := fun w => (fun os => pre_b w os) = fun os => some (L_b w os (setObj (start0 w.params)) 0 255, ⟨Builtin.«set.update.loop» ⟨[.ref 61, .ref 62], []⟩, (.builtin "set.update.loop" ⟨[.ref 61, .ref 62], []⟩ : Code), ⟨18, 9, 18, 26⟩, (stk_b w os).headD fr0 :: (stk_b w os).tail.headD fr0 :: (stk_b w os).tail.tail⟩)) (fun w => by kernel_rfl) (fun w => by kernel_rfl) w
theorem stk_b_eq (w : World) : (fun os => stk_b w os) = fun os => (stk_b w os).headD fr0 :: (stk_b w os).tail.headD fr0 :: (stk_b w os).tail.tail := funext fun os => by
  exact congrArg stkOf (congrFun (pre_b_eq0 w) os)
theorem pre_b_eq (w : World) : (fun os => pre_b w os) = fun os => some (L_b w os (setObj (start0 w.params)) 0 255, ⟨Builtin.«set.update.loop» ⟨[.ref 61, .ref 62], []⟩, (.builtin "set.update.loop" ⟨[.ref 61, .ref 62], []⟩ : Code), ⟨18, 9, 18, 26⟩, stk_b w os⟩) :=
  funext fun os => (congrFun (pre_b_eq0 w) os).trans (congrArg (fun st : List Frame => (some (L_b w os (setObj (start0 w.params)) 0 255, (⟨Builtin.«set.update.loop» ⟨[.ref 61, .ref 62], []⟩, (.builtin "set.update.loop" ⟨[.ref 61, .ref 62], []⟩ : Code), ⟨18, 9, 18, 26⟩, st⟩ : Thread)) : Option (SharedT × Thread))) (congrFun (stk_b_eq w) os).symm)
theorem hash_b (w : World) : (fun (T : BT) (n : Nat) (life : Life) (gens : Array GenState) (drawn : Drawn) (toks : Nat) (os : OsState) (s : Str) (tk : Nat) (f1 f2 : Frame) (st : List Frame) (K : Int → Sem PySem.Fin) (H : Value → Sem PySem.Fin) (gd : Bool → Bool) (lv : List Value → List Value) =>
    segGoT treeTable P0 w 11 (some (.ref 6)) 1 7 ⟨T, n, life, gens, drawn, toks, os⟩ ⟨(pyHash (.str s tk)).wrap K H gd lv, (.builtin "set.update.loop" ⟨[.ref 61, .ref 62], []⟩ : Code), ⟨18, 9, 18, 26⟩, f1 :: f2 :: st⟩) =
    fun T n life gens drawn toks os s tk f1 f2 st K H gd lv => some (⟨T, n, life, gens, drawn, toks + 1, os⟩, ⟨K (PyData.keyHash w.params s), (.builtin "set.update.loop" ⟨[.ref 61, .ref 62], []⟩ : Code), ⟨18, 9, 18, 26⟩, f1 :: f2 :: st⟩) :=
  byRow2 "special-get-raises" (P := fun w => (fun (T : BT) (n : Nat) (life : Life) (gens : Array GenState) (drawn : Drawn) (toks : Nat) (os : OsState) (s : Str) (tk : Nat) (f1 f2 : Frame) (st : List Frame) (K : Int → Sem PySem.Fin) (H : Value → Sem PySem.Fin) (gd : Bool → Bool) (lv : List Value → List Value) =>
    segGoT treeTable P0 w 11 (some (.ref 6)) 1 7 ⟨T, n, life, gens, drawn, toks, os⟩ ⟨(pyHash (.str s tk)).wrap K H gd lv, (.builtin "set.update.loop" ⟨[.ref 61, .ref 62], []⟩ : Code), ⟨18, 9, 18, 26⟩, f1 :: f2 :: st⟩) =
    fun T n life gens drawn toks os s tk f1 f2 st K H gd lv => some (⟨T, n, life, gens, drawn, toks + 1, os⟩, ⟨K (PyData.keyHash w.params s), (.builtin "set.update.loop" ⟨[.ref 61, .ref 62], []⟩ : Code), ⟨18, 9, 18, 26⟩, f1 :: f2 :: st⟩)) (fun w => by kernel_rfl) (fun w => by kernel_rfl) w
theorem again_b (w : World) : (fun (T : BT) (n : Nat) (life : Life) (gens : Array GenState) (drawn : Drawn) (toks : Nat) (os : OsState) (f1 f2 : Frame) (st : List Frame) =>
    segGoT treeTable P0 w 11 (some (.ref 6)) 1 1 ⟨T, n, life, gens, drawn, toks, os⟩ ⟨.pure (.again (.builtin "set.update.loop" ⟨[.ref 61, .ref 62], []⟩ : Code)), (.builtin "set.update.loop" ⟨[.ref 61, .ref 62], []⟩ : Code), ⟨18, 9, 18, 26⟩, f1 :: f2 :: st⟩) =
    fun T n life gens drawn toks os f1 f2 st => some (⟨T, n, life, gens, drawn, toks, os⟩, ⟨Builtin.«set.update.loop» ⟨[.ref 61, .ref 62], []⟩, (.builtin "set.update.loop" ⟨[.ref 61, .ref 62], []⟩ : Code), ⟨18, 9, 18, 26⟩, f1 :: f2 :: st⟩) := by kernel_rfl
theorem put_b (w : World) : (fun (os : OsState) (o o' : Obj) (i : Int) (k : Nat) => ({ L_b w os o i k with toks := k + 1, tree := (L_b w os o i k).tree.set 61 (fun _ => o') } : SharedT)) = fun os o o' i k => L_b w os o' i (k + 1) := by kernel_rfl
theorem get_b (w : World) : (fun (os : OsState) (o : Obj) (i : Int) (k : Nat) => (L_b w os o i k).tree.get 61) = fun os o i k => some o := by kernel_rfl
theorem calm_b (f1 f2 : Frame) (st : List Frame) : Calm (.builtin "set.update.loop" ⟨[.ref 61, .ref 62], []⟩ : Code) ⟨18, 9, 18, 26⟩ (f1 :: f2 :: st) := trivial
theorem turn_b {w : World} {os : OsState} {f1 f2 : Frame} {st : List Frame} {s : Array (Int × Value) × Nat × SetTable} {cs : List (Str × Nat)} {c : Str × Nat} {i i' : Int} {k k' k'' : Nat}
    (nx : Does w (.builtin "set.update.loop" ⟨[.ref 61, .ref 62], []⟩ : Code) ⟨18, 9, 18, 26⟩ (f1 :: f2 :: st) 10 (pyNext (.ref 62)) (L_b w os (setObj s) i k) (L_b w os (setObj s) i' k') (some (.str c.1 c.2)))
    (I : Inv s cs) (hl : cs.length ≤ 1000) (hd : ∀ d ∈ cs, d.1 ≠ c.1) (hk : k'' = k' + 1) :
    Go w 26 (L_b w os (setObj s) i k) ⟨Builtin.«set.update.loop» ⟨[.ref 61, .ref 62], []⟩, (.builtin "set.update.loop" ⟨[.ref 61, .ref 62], []⟩ : Code), ⟨18, 9, 18, 26⟩, f1 :: f2 :: st⟩ (L_b w os (setObj (addS w.params s c)) i' k'') ⟨Builtin.«set.update.loop» ⟨[.ref 61, .ref 62], []⟩, (.builtin "set.update.loop" ⟨[.ref 61, .ref 62], []⟩ : Code), ⟨18, 9, 18, 26⟩, f1 :: f2 :: st⟩ := by
  subst hk
  have g := turn (w := w) (calm_b f1 f2 st) nx (fun K H gd lv => Go.of (congrFun (congrFun (congrFun (congrFun (congrFun (congrFun (congrFun (congrFun (congrFun (congrFun (congrFun (congrFun (congrFun (congrFun (congrFun (congrFun (hash_b w) _) _) _) _) _) _) _) _) _) _) _) _) K) H) gd) lv))
    (fun S => Go.of (congrFun (congrFun (congrFun (congrFun (congrFun (congrFun (congrFun (congrFun (congrFun (congrFun (again_b w) S.tree) S.n) S.life) S.gens) S.drawn) S.toks) S.os) f1) f2) st)) I hl hd rfl rfl (congrFun (congrFun (congrFun (congrFun (get_b w) os) (setObj s)) i') k')
  have e := congrFun (congrFun (congrFun (congrFun (congrFun (put_b w) os) (setObj s)) (setObj (addS w.params s c))) i') k'
  exact e ▸ g
noncomputable def nxF_b (w : World) (c : Int × Str × Nat) : OsState → Obj → Frame → Frame → List Frame → (Option Value → Sem PySem.Fin) → (Value → Sem PySem.Fin) → (Bool → Bool) → (List Value → List Value) → Option (SharedT × Thread) := fun (os : OsState) (o : Obj) (f1 f2 : Frame) (st : List Frame) (K : Option Value → Sem PySem.Fin) (H : Value → Sem PySem.Fin) (gd : Bool → Bool) (lv : List Value → List Value) => segGoT treeTable P0 w 11 (some (.ref 6)) 1 10 (L_b w os o c.1 c.2.2) ⟨(pyNext (.ref 62)).wrap K H gd lv, (.builtin "set.update.loop" ⟨[.ref 61, .ref 62], []⟩ : Code), ⟨18, 9, 18, 26⟩, f1 :: f2 :: st⟩
noncomputable def nxG_b (w : World) (c : Int × Str × Nat) : OsState → Obj → Frame → Frame → List Frame → (Option Value → Sem PySem.Fin) → (Value → Sem PySem.Fin) → (Bool → Bool) → (List Value → List Value) → Option (SharedT × Thread) := fun os o f1 f2 st K H gd lv => some (L_b w os o (c.1 + 1) (c.2.2 + 1), ⟨K (some (.str c.2.1 c.2.2)), (.builtin "set.update.loop" ⟨[.ref 61, .ref 62], []⟩ : Code), ⟨18, 9, 18, 26⟩, f1 :: f2 :: st⟩)
theorem nx_b (w : World) : (ix 0 csD).map (nxF_b w) = (ix 0 csD).map (nxG_b w) := by kernel_rfl
theorem loop_b (w : World) (os : OsState) (f1 f2 : Frame) (st : List Frame) : Go w 260 (L_b w os (setObj (start0 w.params)) 0 255) ⟨Builtin.«set.update.loop» ⟨[.ref 61, .ref 62], []⟩, (.builtin "set.update.loop" ⟨[.ref 61, .ref 62], []⟩ : Code), ⟨18, 9, 18, 26⟩, f1 :: f2 :: st⟩
    (L_b w os (setObj (addsOf w.params csD)) 10 275) ⟨Builtin.«set.update.loop» ⟨[.ref 61, .ref 62], []⟩, (.builtin "set.update.loop" ⟨[.ref 61, .ref 62], []⟩ : Code), ⟨18, 9, 18, 26⟩, f1 :: f2 :: st⟩ :=
  loop_gen (L := L_b w os) (T := ⟨Builtin.«set.update.loop» ⟨[.ref 61, .ref 62], []⟩, (.builtin "set.update.loop" ⟨[.ref 61, .ref 62], []⟩ : Code), ⟨18, 9, 18, 26⟩, f1 :: f2 :: st⟩) (F := nxF_b w) (G := nxG_b w)
    (fun i c e I hl hd => turn_b (i := i) (i' := i + 1) (k := c.2) (k' := c.2 + 1) (k'' := c.2 + 2) (fun K H gd lv => Go.of (congrFun (congrFun (congrFun (congrFun (congrFun (congrFun (congrFun (congrFun (congrFun e os) _) f1) f2) st) K) H) gd) lv)) I hl hd rfl)
    csD 0 255 _ [] (inv_start _) (nx_b w) (by decide +kernel) (by decide)
theorem post_b (w : World) : (fun os => segRunT treeTable P0 w 11 (some (.ref 6)) 1 60 (L_b w os (setObj (addsOf w.params csD)) 10 275) ⟨Builtin.«set.update.loop» ⟨[.ref 61, .ref 62], []⟩, (.builtin "set.update.loop" ⟨[.ref 61, .ref 62], []⟩ : Code), ⟨18, 9, 18, 26⟩, stk_b w os⟩) = fun os => some (.next, S_b w os, cE, ⟨18, 0, 18, 6⟩) :=
  byRow2 "special-get-raises" (P := fun w => (fun os => segRunT treeTable P0 w 11 (some (.ref 6)) 1 60 (L_b w os (setObj (addsOf w.params csD)) 10 275) ⟨Builtin.«set.update.loop» ⟨[.ref 61, .ref 62], []⟩, (.builtin "set.update.loop" ⟨[.ref 61, .ref 62], []⟩ : Code), ⟨18, 9, 18, 26⟩, stk_b w os⟩) = fun os => some (.next, S_b w os, cE, ⟨18, 0, 18, 6⟩)) (fun w => by kernel_rfl) (fun w => by kernel_rfl) w
theorem seg_b (w : World) : (fun os => segRunT treeTable PySem.Challenge.pw_on0057_01 w 11 (some (.ref 6)) 1 (28 + 260 + 60) (S_a w os) (piecesOf sts_b env0 cE ⟨17, 0, 17, 8⟩ topB)) = fun os => some (.next, S_b w os, cE, ⟨18, 0, 18, 6⟩) := by
  funext os
  have g := (Go.of (congrFun (pre_b_eq w) os)).trans (by
    have h := loop_b w os ((stk_b w os).headD fr0) ((stk_b w os).tail.headD fr0) (stk_b w os).tail.tail
    rw [← congrFun (stk_b_eq w) os] at h
    exact h)
  exact g.run (congrFun (post_b w) os)
noncomputable def sts_c : List Stmt := (PySem.Challenge.pw_on0057_01.main.body.drop 6).take 1
noncomputable def pre_c (w : World) (os : OsState) : Option (SharedT × Thread) := segGoT treeTable P0 w 11 (some (.ref 6)) 1 28 (S_b w os) (piecesOf sts_c env0 cE ⟨18, 0, 18, 6⟩ topB)
noncomputable def stk_c (w : World) (os : OsState) : List Frame := stkOf (pre_c w os)
noncomputable def L_c (w : World) (os : OsState) (o : Obj) (i : Int) (k : Nat) : SharedT := Lst (T_b w.params) 67 65 66 o (itO "0123456789abcdefABCDEF" 276 i) k os
theorem pre_c_eq0 (w : World) : (fun os => pre_c w os) = fun os => some (L_c w os (setObj (start0 w.params)) 0 277, ⟨Builtin.«set.update.loop» ⟨[.ref 65, .ref 66], []⟩, (.builtin "set.update.loop" ⟨[.ref 65, .ref 66], []⟩ : Code), ⟨19, 13, 19, 42⟩, (stk_c w os).headD fr0 :: (stk_c w os).tail.headD fr0 :: (stk_c w os).tail.tail⟩) :=
  byRow2 "special-get-raises" (P := fun w => (fun os => pre_c w os) = fun os => some (L_c w os (setObj (start0 w.params)) 0 277, ⟨Builtin.«set.update.loop» ⟨[.ref 65, .ref 66], []⟩, (.builtin "set.update.loop" ⟨[.ref 65, .ref 66], []⟩ : Code), ⟨19, 13, 19, 42⟩, (stk_c w os).headD fr0 :: (stk_c w os).tail.headD fr0 :: (stk_c w os).tail.tail⟩)) (fun w => by kernel_rfl) (fun w => by kernel_rfl) w
theorem stk_c_eq (w : World) : (fun os => stk_c w os) = fun os => (stk_c w os).headD fr0 :: (stk_c w os).tail.headD fr0 :: (stk_c w os).tail.tail := funext fun os => by
  exact congrArg stkOf (congrFun (pre_c_eq0 w) os)
theorem pre_c_eq (w : World) : (fun os => pre_c w os) = fun os => some (L_c w os (setObj (start0 w.params)) 0 277, ⟨Builtin.«set.update.loop» ⟨[.ref 65, .ref 66], []⟩, (.builtin "set.update.loop" ⟨[.ref 65, .ref 66], []⟩ : Code), ⟨19, 13, 19, 42⟩, stk_c w os⟩) :=
  funext fun os => (congrFun (pre_c_eq0 w) os).trans (congrArg (fun st : List Frame => (some (L_c w os (setObj (start0 w.params)) 0 277, (⟨Builtin.«set.update.loop» ⟨[.ref 65, .ref 66], []⟩, (.builtin "set.update.loop" ⟨[.ref 65, .ref 66], []⟩ : Code), ⟨19, 13, 19, 42⟩, st⟩ : Thread)) : Option (SharedT × Thread))) (congrFun (stk_c_eq w) os).symm)
theorem hash_c (w : World) : (fun (T : BT) (n : Nat) (life : Life) (gens : Array GenState) (drawn : Drawn) (toks : Nat) (os : OsState) (s : Str) (tk : Nat) (f1 f2 : Frame) (st : List Frame) (K : Int → Sem PySem.Fin) (H : Value → Sem PySem.Fin) (gd : Bool → Bool) (lv : List Value → List Value) =>
    segGoT treeTable P0 w 11 (some (.ref 6)) 1 7 ⟨T, n, life, gens, drawn, toks, os⟩ ⟨(pyHash (.str s tk)).wrap K H gd lv, (.builtin "set.update.loop" ⟨[.ref 65, .ref 66], []⟩ : Code), ⟨19, 13, 19, 42⟩, f1 :: f2 :: st⟩) =
    fun T n life gens drawn toks os s tk f1 f2 st K H gd lv => some (⟨T, n, life, gens, drawn, toks + 1, os⟩, ⟨K (PyData.keyHash w.params s), (.builtin "set.update.loop" ⟨[.ref 65, .ref 66], []⟩ : Code), ⟨19, 13, 19, 42⟩, f1 :: f2 :: st⟩) :=
  byRow2 "special-get-raises" (P := fun w => (fun (T : BT) (n : Nat) (life : Life) (gens : Array GenState) (drawn : Drawn) (toks : Nat) (os : OsState) (s : Str) (tk : Nat) (f1 f2 : Frame) (st : List Frame) (K : Int → Sem PySem.Fin) (H : Value → Sem PySem.Fin) (gd : Bool → Bool) (lv : List Value → List Value) =>
    segGoT treeTable P0 w 11 (some (.ref 6)) 1 7 ⟨T, n, life, gens, drawn, toks, os⟩ ⟨(pyHash (.str s tk)).wrap K H gd lv, (.builtin "set.update.loop" ⟨[.ref 65, .ref 66], []⟩ : Code), ⟨19, 13, 19, 42⟩, f1 :: f2 :: st⟩) =
    fun T n life gens drawn toks os s tk f1 f2 st K H gd lv => some (⟨T, n, life, gens, drawn, toks + 1, os⟩, ⟨K (PyData.keyHash w.params s), (.builtin "set.update.loop" ⟨[.ref 65, .ref 66], []⟩ : Code), ⟨19, 13, 19, 42⟩, f1 :: f2 :: st⟩)) (fun w => by kernel_rfl) (fun w => by kernel_rfl) w
theorem again_c (w : World) : (fun (T : BT) (n : Nat) (life : Life) (gens : Array GenState) (drawn : Drawn) (toks : Nat) (os : OsState) (f1 f2 : Frame) (st : List Frame) =>
    segGoT treeTable P0 w 11 (some (.ref 6)) 1 1 ⟨T, n, life, gens, drawn, toks, os⟩ ⟨.pure (.again (.builtin "set.update.loop" ⟨[.ref 65, .ref 66], []⟩ : Code)), (.builtin "set.update.loop" ⟨[.ref 65, .ref 66], []⟩ : Code), ⟨19, 13, 19, 42⟩, f1 :: f2 :: st⟩) =
    fun T n life gens drawn toks os f1 f2 st => some (⟨T, n, life, gens, drawn, toks, os⟩, ⟨Builtin.«set.update.loop» ⟨[.ref 65, .ref 66], []⟩, (.builtin "set.update.loop" ⟨[.ref 65, .ref 66], []⟩ : Code), ⟨19, 13, 19, 42⟩, f1 :: f2 :: st⟩) := by kernel_rfl
theorem put_c (w : World) : (fun (os : OsState) (o o' : Obj) (i : Int) (k : Nat) => ({ L_c w os o i k with toks := k + 1, tree := (L_c w os o i k).tree.set 65 (fun _ => o') } : SharedT)) = fun os o o' i k => L_c w os o' i (k + 1) := by kernel_rfl
theorem get_c (w : World) : (fun (os : OsState) (o : Obj) (i : Int) (k : Nat) => (L_c w os o i k).tree.get 65) = fun os o i k => some o := by kernel_rfl
theorem calm_c (f1 f2 : Frame) (st : List Frame) : Calm (.builtin "set.update.loop" ⟨[.ref 65, .ref 66], []⟩ : Code) ⟨19, 13, 19, 42⟩ (f1 :: f2 :: st) := trivial
theorem turn_c {w : World} {os : OsState} {f1 f2 : Frame} {st : List Frame} {s : Array (Int × Value) × Nat × SetTable} {cs : List (Str × Nat)} {c : Str × Nat} {i i' : Int} {k k' k'' : Nat}
    (nx : Does w (.builtin "set.update.loop" ⟨[.ref 65, .ref 66], []⟩ : Code) ⟨19, 13, 19, 42⟩ (f1 :: f2 :: st) 10 (pyNext (.ref 66)) (L_c w os (setObj s) i k) (L_c w os (setObj s) i' k') (some (.str c.1 c.2)))
    (I : Inv s cs) (hl : cs.length ≤ 1000) (hd : ∀ d ∈ cs, d.1 ≠ c.1) (hk : k'' = k' + 1) :
    Go w 26 (L_c w os (setObj s) i k) ⟨Builtin.«set.update.loop» ⟨[.ref 65, .ref 66], []⟩, (.builtin "set.update.loop" ⟨[.ref 65, .ref 66], []⟩ : Code), ⟨19, 13, 19, 42⟩, f1 :: f2 :: st⟩ (L_c w os (setObj (addS w.params s c)) i' k'') ⟨Builtin.«set.update.loop» ⟨[.ref 65, .ref 66], []⟩, (.builtin "set.update.loop" ⟨[.ref 65, .ref 66], []⟩ : Code), ⟨19, 13, 19, 42⟩, f1 :: f2 :: st⟩ := by
  subst hk
  have g := turn (w := w) (calm_c f1 f2 st) nx (fun K H gd lv => Go.of (congrFun (congrFun (congrFun (congrFun (congrFun (congrFun (congrFun (congrFun (congrFun (congrFun (congrFun (congrFun (congrFun (congrFun (congrFun (congrFun (hash_c w) _) _) _) _) _) _) _) _) _) _) _) _) K) H) gd) lv))
    (fun S => Go.of (congrFun (congrFun (congrFun (congrFun (congrFun (congrFun (congrFun (congrFun (congrFun (congrFun (again_c w) S.tree) S.n) S.life) S.gens) S.drawn) S.toks) S.os) f1) f2) st)) I hl hd rfl rfl (congrFun (congrFun (congrFun (congrFun (get_c w) os) (setObj s)) i') k')
  have e := congrFun (congrFun (congrFun (congrFun (congrFun (put_c w) os) (setObj s)) (setObj (addS w.params s c))) i') k'
  exact e ▸ g
noncomputable def nxF_c (w : World) (c : Int × Str × Nat) : OsState → Obj → Frame → Frame → List Frame → (Option Value → Sem PySem.Fin) → (Value → Sem PySem.Fin) → (Bool → Bool) → (List Value → List Value) → Option (SharedT × Thread) := fun (os : OsState) (o : Obj) (f1 f2 : Frame) (st : List Frame) (K : Option Value → Sem PySem.Fin) (H : Value → Sem PySem.Fin) (gd : Bool → Bool) (lv : List Value → List Value) => segGoT treeTable P0 w 11 (some (.ref 6)) 1 10 (L_c w os o c.1 c.2.2) ⟨(pyNext (.ref 66)).wrap K H gd lv, (.builtin "set.update.loop" ⟨[.ref 65, .ref 66], []⟩ : Code), ⟨19, 13, 19, 42⟩, f1 :: f2 :: st⟩
noncomputable def nxG_c (w : World) (c : Int × Str × Nat) : OsState → Obj → Frame → Frame → List Frame → (Option Value → Sem PySem.Fin) → (Value → Sem PySem.Fin) → (Bool → Bool) → (List Value → List Value) → Option (SharedT × Thread) := fun os o f1 f2 st K H gd lv => some (L_c w os o (c.1 + 1) (c.2.2 + 1), ⟨K (some (.str c.2.1 c.2.2)), (.builtin "set.update.loop" ⟨[.ref 65, .ref 66], []⟩ : Code), ⟨19, 13, 19, 42⟩, f1 :: f2 :: st⟩)
theorem nx_c (w : World) : (ix 0 csH).map (nxF_c w) = (ix 0 csH).map (nxG_c w) := by kernel_rfl
theorem loop_c (w : World) (os : OsState) (f1 f2 : Frame) (st : List Frame) : Go w 572 (L_c w os (setObj (start0 w.params)) 0 277) ⟨Builtin.«set.update.loop» ⟨[.ref 65, .ref 66], []⟩, (.builtin "set.update.loop" ⟨[.ref 65, .ref 66], []⟩ : Code), ⟨19, 13, 19, 42⟩, f1 :: f2 :: st⟩
    (L_c w os (setObj (addsOf w.params csH)) 22 321) ⟨Builtin.«set.update.loop» ⟨[.ref 65, .ref 66], []⟩, (.builtin "set.update.loop" ⟨[.ref 65, .ref 66], []⟩ : Code), ⟨19, 13, 19, 42⟩, f1 :: f2 :: st⟩ :=
  loop_gen (L := L_c w os) (T := ⟨Builtin.«set.update.loop» ⟨[.ref 65, .ref 66], []⟩, (.builtin "set.update.loop" ⟨[.ref 65, .ref 66], []⟩ : Code), ⟨19, 13, 19, 42⟩, f1 :: f2 :: st⟩) (F := nxF_c w) (G := nxG_c w)
    (fun i c e I hl hd => turn_c (i := i) (i' := i + 1) (k := c.2) (k' := c.2 + 1) (k'' := c.2 + 2) (fun K H gd lv => Go.of (congrFun (congrFun (congrFun (congrFun (congrFun (congrFun (congrFun (congrFun (congrFun e os) _) f1) f2) st) K) H) gd) lv)) I hl hd rfl)
    csH 0 277 _ [] (inv_start _) (nx_c w) (by decide +kernel) (by decide)
theorem post_c (w : World) : (fun os => segRunT treeTable P0 w 11 (some (.ref 6)) 1 60 (L_c w os (setObj (addsOf w.params csH)) 22 321) ⟨Builtin.«set.update.loop» ⟨[.ref 65, .ref 66], []⟩, (.builtin "set.update.loop" ⟨[.ref 65, .ref 66], []⟩ : Code), ⟨19, 13, 19, 42⟩, stk_c w os⟩) = fun os => some (.next, S_c w os, cE, ⟨19, 0, 19, 10⟩) :=
  byRow2 "special-get-raises" (P := fun w => (fun os => segRunT treeTable P0 w 11 (some (.ref 6)) 1 60 (L_c w os (setObj (addsOf w.params csH)) 22 321) ⟨Builtin.«set.update.loop» ⟨[.ref 65, .ref 66], []⟩, (.builtin "set.update.loop" ⟨[.ref 65, .ref 66], []⟩ : Code), ⟨19, 13, 19, 42⟩, stk_c w os⟩) = fun os => some (.next, S_c w os, cE, ⟨19, 0, 19, 10⟩)) (fun w => by kernel_rfl) (fun w => by kernel_rfl) w
theorem seg_c (w : World) : (fun os => segRunT treeTable PySem.Challenge.pw_on0057_01 w 11 (some (.ref 6)) 1 (28 + 572 + 60) (S_b w os) (piecesOf sts_c env0 cE ⟨18, 0, 18, 6⟩ topB)) = fun os => some (.next, S_c w os, cE, ⟨19, 0, 19, 10⟩) := by
  funext os
  have g := (Go.of (congrFun (pre_c_eq w) os)).trans (by
    have h := loop_c w os ((stk_c w os).headD fr0) ((stk_c w os).tail.headD fr0) (stk_c w os).tail.tail
    rw [← congrFun (stk_c_eq w) os] at h
    exact h)
  exact g.run (congrFun (post_c w) os)
noncomputable def sts_d : List Stmt := (PySem.Challenge.pw_on0057_01.main.body.drop 7).take 1
noncomputable def pre_d (w : World) (os : OsState) : Option (SharedT × Thread) := segGoT treeTable P0 w 11 (some (.ref 6)) 1 28 (S_c w os) (piecesOf sts_d env0 cE ⟨19, 0, 19, 10⟩ topB)
noncomputable def stk_d (w : World) (os : OsState) : List Frame := stkOf (pre_d w os)
noncomputable def L_d (w : World) (os : OsState) (o : Obj) (i : Int) (k : Nat) : SharedT := Lst (T_c w.params) 71 69 70 o (itO "01234567" 322 i) k os
theorem pre_d_eq0 (w : World) : (fun os => pre_d w os) = fun os => some (L_d w os (setObj (start0 w.params)) 0 323, ⟨Builtin.«set.update.loop» ⟨[.ref 69, .ref 70], []⟩, (.builtin "set.update.loop" ⟨[.ref 69, .ref 70], []⟩ : Code), ⟨20, 15, 20, 30⟩, (stk_d w os).headD fr0 :: (stk_d w os).tail.headD fr0 :: (stk_d w os).tail.tail⟩) :=
  byRow2 "special-get-raises" (P := fun w => (fun os => pre_d w os) = fun os => some (L_d w os (setObj (start0 w.params)) 0 323, ⟨Builtin.«set.update.loop» ⟨[.ref 69, .ref 70], []⟩, (.builtin "set.update.loop" ⟨[.ref 69, .ref 70], []⟩ : Code), ⟨20, 15, 20, 30⟩, (stk_d w os).headD fr0 :: (stk_d w os).tail.headD fr0 :: (stk_d w os).tail.tail⟩)) (fun w => by kernel_rfl) (fun w => by kernel_rfl) w
theorem stk_d_eq (w : World) : (fun os => stk_d w os) = fun os => (stk_d w os).headD fr0 :: (stk_d w os).tail.headD fr0 :: (stk_d w os).tail.tail := funext fun os => by
  exact congrArg stkOf (congrFun (pre_d_eq0 w) os)
theorem pre_d_eq (w : World) : (fun os => pre_d w os) = fun os => some (L_d w os (setObj (start0 w.params)) 0 323, ⟨Builtin.«set.update.loop» ⟨[.ref 69, .ref 70], []⟩, (.builtin "set.update.loop" ⟨[.ref 69, .ref 70], []⟩ : Code), ⟨20, 15, 20, 30⟩, stk_d w os⟩) :=
  funext fun os => (congrFun (pre_d_eq0 w) os).trans (congrArg (fun st : List Frame => (some (L_d w os (setObj (start0 w.params)) 0 323, (⟨Builtin.«set.update.loop» ⟨[.ref 69, .ref 70], []⟩, (.builtin "set.update.loop" ⟨[.ref 69, .ref 70], []⟩ : Code), ⟨20, 15, 20, 30⟩, st⟩ : Thread)) : Option (SharedT × Thread))) (congrFun (stk_d_eq w) os).symm)
theorem hash_d (w : World) : (fun (T : BT) (n : Nat) (life : Life) (gens : Array GenState) (drawn : Drawn) (toks : Nat) (os : OsState) (s : Str) (tk : Nat) (f1 f2 : Frame) (st : List Frame) (K : Int → Sem PySem.Fin) (H : Value → Sem PySem.Fin) (gd : Bool → Bool) (lv : List Value → List Value) =>
    segGoT treeTable P0 w 11 (some (.ref 6)) 1 7 ⟨T, n, life, gens, drawn, toks, os⟩ ⟨(pyHash (.str s tk)).wrap K H gd lv, (.builtin "set.update.loop" ⟨[.ref 69, .ref 70], []⟩ : Code), ⟨20, 15, 20, 30⟩, f1 :: f2 :: st⟩) =
    fun T n life gens drawn toks os s tk f1 f2 st K H gd lv => some (⟨T, n, life, gens, drawn, toks + 1, os⟩, ⟨K (PyData.keyHash w.params s), (.builtin "set.update.loop" ⟨[.ref 69, .ref 70], []⟩ : Code), ⟨20, 15, 20, 30⟩, f1 :: f2 :: st⟩) :=
  byRow2 "special-get-raises" (P := fun w => (fun (T : BT) (n : Nat) (life : Life) (gens : Array GenState) (drawn : Drawn) (toks : Nat) (os : OsState) (s : Str) (tk : Nat) (f1 f2 : Frame) (st : List Frame) (K : Int → Sem PySem.Fin) (H : Value → Sem PySem.Fin) (gd : Bool → Bool) (lv : List Value → List Value) =>
    segGoT treeTable P0 w 11 (some (.ref 6)) 1 7 ⟨T, n, life, gens, drawn, toks, os⟩ ⟨(pyHash (.str s tk)).wrap K H gd lv, (.builtin "set.update.loop" ⟨[.ref 69, .ref 70], []⟩ : Code), ⟨20, 15, 20, 30⟩, f1 :: f2 :: st⟩) =
    fun T n life gens drawn toks os s tk f1 f2 st K H gd lv => some (⟨T, n, life, gens, drawn, toks + 1, os⟩, ⟨K (PyData.keyHash w.params s), (.builtin "set.update.loop" ⟨[.ref 69, .ref 70], []⟩ : Code), ⟨20, 15, 20, 30⟩, f1 :: f2 :: st⟩)) (fun w => by kernel_rfl) (fun w => by kernel_rfl) w
theorem again_d (w : World) : (fun (T : BT) (n : Nat) (life : Life) (gens : Array GenState) (drawn : Drawn) (toks : Nat) (os : OsState) (f1 f2 : Frame) (st : List Frame) =>
    segGoT treeTable P0 w 11 (some (.ref 6)) 1 1 ⟨T, n, life, gens, drawn, toks, os⟩ ⟨.pure (.again (.builtin "set.update.loop" ⟨[.ref 69, .ref 70], []⟩ : Code)), (.builtin "set.update.loop" ⟨[.ref 69, .ref 70], []⟩ : Code), ⟨20, 15, 20, 30⟩, f1 :: f2 :: st⟩) =
    fun T n life gens drawn toks os f1 f2 st => some (⟨T, n, life, gens, drawn, toks, os⟩, ⟨Builtin.«set.update.loop» ⟨[.ref 69, .ref 70], []⟩, (.builtin "set.update.loop" ⟨[.ref 69, .ref 70], []⟩ : Code), ⟨20, 15, 20, 30⟩, f1 :: f2 :: st⟩) := by kernel_rfl
theorem put_d (w : World) : (fun (os : OsState) (o o' : Obj) (i : Int) (k : Nat) => ({ L_d w os o i k with toks := k + 1, tree := (L_d w os o i k).tree.set 69 (fun _ => o') } : SharedT)) = fun os o o' i k => L_d w os o' i (k + 1) := by kernel_rfl
theorem get_d (w : World) : (fun (os : OsState) (o : Obj) (i : Int) (k : Nat) => (L_d w os o i k).tree.get 69) = fun os o i k => some o := by kernel_rfl
theorem calm_d (f1 f2 : Frame) (st : List Frame) : Calm (.builtin "set.update.loop" ⟨[.ref 69, .ref 70], []⟩ : Code) ⟨20, 15, 20, 30⟩ (f1 :: f2 :: st) := trivial
theorem turn_d {w : World} {os : OsState} {f1 f2 : Frame} {st : List Frame} {s : Array (Int × Value) × Nat × SetTable} {cs : List (Str × Nat)} {c : Str × Nat} {i i' : Int} {k k' k'' : Nat}
    (nx : Does w (.builtin "set.update.loop" ⟨[.ref 69, .ref 70], []⟩ : Code) ⟨20, 15, 20, 30⟩ (f1 :: f2 :: st) 10 (pyNext (.ref 70)) (L_d w os (setObj s) i k) (L_d w os (setObj s) i' k') (some (.str c.1 c.2)))
    (I : Inv s cs) (hl : cs.length ≤ 1000) (hd : ∀ d ∈ cs, d.1 ≠ c.1) (hk : k'' = k' + 1) :
    Go w 26 (L_d w os (setObj s) i k) ⟨Builtin.«set.update.loop» ⟨[.ref 69, .ref 70], []⟩, (.builtin "set.update.loop" ⟨[.ref 69, .ref 70], []⟩ : Code), ⟨20, 15, 20, 30⟩, f1 :: f2 :: st⟩ (L_d w os (setObj (addS w.params s c)) i' k'') ⟨Builtin.«set.update.loop» ⟨[.ref 69, .ref 70], []⟩, (.builtin "set.update.loop" ⟨[.ref 69, .ref 70], []⟩ : Code), ⟨20, 15, 20, 30⟩, f1 :: f2 :: st⟩ := by
  subst hk
  have g := turn (w := w) (calm_d f1 f2 st) nx (fun K H gd lv => Go.of (congrFun (congrFun (congrFun (congrFun (congrFun (congrFun (congrFun (congrFun (congrFun (congrFun (congrFun (congrFun (congrFun (congrFun (congrFun (congrFun (hash_d w) _) _) _) _) _) _) _) _) _) _) _) _) K) H) gd) lv))
    (fun S => Go.of (congrFun (congrFun (congrFun (congrFun (congrFun (congrFun (congrFun (congrFun (congrFun (congrFun (again_d w) S.tree) S.n) S.life) S.gens) S.drawn) S.toks) S.os) f1) f2) st)) I hl hd rfl rfl (congrFun (congrFun (congrFun (congrFun (get_d w) os) (setObj s)) i') k')
  have e := congrFun (congrFun (congrFun (congrFun (congrFun (put_d w) os) (setObj s)) (setObj (addS w.params s c))) i') k'
  exact e ▸ g
noncomputable def nxF_d (w : World) (c : Int × Str × Nat) : OsState → Obj → Frame → Frame → List Frame → (Option Value → Sem PySem.Fin) → (Value → Sem PySem.Fin) → (Bool → Bool) → (List Value → List Value) → Option (SharedT × Thread) := fun (os : OsState) (o : Obj) (f1 f2 : Frame) (st : List Frame) (K : Option Value → Sem PySem.Fin) (H : Value → Sem PySem.Fin) (gd : Bool → Bool) (lv : List Value → List Value) => segGoT treeTable P0 w 11 (some (.ref 6)) 1 10 (L_d w os o c.1 c.2.2) ⟨(pyNext (.ref 70)).wrap K H gd lv, (.builtin "set.update.loop" ⟨[.ref 69, .ref 70], []⟩ : Code), ⟨20, 15, 20, 30⟩, f1 :: f2 :: st⟩
noncomputable def nxG_d (w : World) (c : Int × Str × Nat) : OsState → Obj → Frame → Frame → List Frame → (Option Value → Sem PySem.Fin) → (Value → Sem PySem.Fin) → (Bool → Bool) → (List Value → List Value) → Option (SharedT × Thread) := fun os o f1 f2 st K H gd lv => some (L_d w os o (c.1 + 1) (c.2.2 + 1), ⟨K (some (.str c.2.1 c.2.2)), (.builtin "set.update.loop" ⟨[.ref 69, .ref 70], []⟩ : Code), ⟨20, 15, 20, 30⟩, f1 :: f2 :: st⟩)
theorem nx_d (w : World) : (ix 0 csO).map (nxF_d w) = (ix 0 csO).map (nxG_d w) := by kernel_rfl
theorem loop_d (w : World) (os : OsState) (f1 f2 : Frame) (st : List Frame) : Go w 208 (L_d w os (setObj (start0 w.params)) 0 323) ⟨Builtin.«set.update.loop» ⟨[.ref 69, .ref 70], []⟩, (.builtin "set.update.loop" ⟨[.ref 69, .ref 70], []⟩ : Code), ⟨20, 15, 20, 30⟩, f1 :: f2 :: st⟩
    (L_d w os (setObj (addsOf w.params csO)) 8 339) ⟨Builtin.«set.update.loop» ⟨[.ref 69, .ref 70], []⟩, (.builtin "set.update.loop" ⟨[.ref 69, .ref 70], []⟩ : Code), ⟨20, 15, 20, 30⟩, f1 :: f2 :: st⟩ :=
  loop_gen (L := L_d w os) (T := ⟨Builtin.«set.update.loop» ⟨[.ref 69, .ref 70], []⟩, (.builtin "set.update.loop" ⟨[.ref 69, .ref 70], []⟩ : Code), ⟨20, 15, 20, 30⟩, f1 :: f2 :: st⟩) (F := nxF_d w) (G := nxG_d w)
    (fun i c e I hl hd => turn_d (i := i) (i' := i + 1) (k := c.2) (k' := c.2 + 1) (k'' := c.2 + 2) (fun K H gd lv => Go.of (congrFun (congrFun (congrFun (congrFun (congrFun (congrFun (congrFun (congrFun (congrFun e os) _) f1) f2) st) K) H) gd) lv)) I hl hd rfl)
    csO 0 323 _ [] (inv_start _) (nx_d w) (by decide +kernel) (by decide)
theorem post_d (w : World) : (fun os => segRunT treeTable P0 w 11 (some (.ref 6)) 1 60 (L_d w os (setObj (addsOf w.params csO)) 8 339) ⟨Builtin.«set.update.loop» ⟨[.ref 69, .ref 70], []⟩, (.builtin "set.update.loop" ⟨[.ref 69, .ref 70], []⟩ : Code), ⟨20, 15, 20, 30⟩, stk_d w os⟩) = fun os => some (.next, S_d w os, cE, ⟨20, 0, 20, 12⟩) :=
  byRow2 "special-get-raises" (P := fun w => (fun os => segRunT treeTable P0 w 11 (some (.ref 6)) 1 60 (L_d w os (setObj (addsOf w.params csO)) 8 339) ⟨Builtin.«set.update.loop» ⟨[.ref 69, .ref 70], []⟩, (.builtin "set.update.loop" ⟨[.ref 69, .ref 70], []⟩ : Code), ⟨20, 15, 20, 30⟩, stk_d w os⟩) = fun os => some (.next, S_d w os, cE, ⟨20, 0, 20, 12⟩)) (fun w => by kernel_rfl) (fun w => by kernel_rfl) w
theorem seg_d (w : World) : (fun os => segRunT treeTable PySem.Challenge.pw_on0057_01 w 11 (some (.ref 6)) 1 (28 + 208 + 60) (S_c w os) (piecesOf sts_d env0 cE ⟨19, 0, 19, 10⟩ topB)) = fun os => some (.next, S_d w os, cE, ⟨20, 0, 20, 12⟩) := by
  funext os
  have g := (Go.of (congrFun (pre_d_eq w) os)).trans (by
    have h := loop_d w os ((stk_d w os).headD fr0) ((stk_d w os).tail.headD fr0) (stk_d w os).tail.tail
    rw [← congrFun (stk_d_eq w) os] at h
    exact h)
  exact g.run (congrFun (post_d w) os)
end
noncomputable section
open PySem PySem.W PyProof.Rows PySem.Calls
noncomputable def p21 : Pos := ⟨21, 11, 21, 37⟩
noncomputable def sts_e : List Stmt := (PySem.Challenge.pw_on0057_01.main.body.drop 8).take 1
noncomputable def tgts8 : List PySem.Expr := match D 8 with
  | .Assign ts _ _ => ts
  | _ => []
noncomputable def val8 : PySem.Expr := match D 8 with
  | .Assign _ v _ => v
  | _ => .Constant .none 0 ⟨0, 0, 0, 0⟩
noncomputable def el8 : List (Bool × Sem Value) := match val8 with
  | .Set es _ pos => (starEach es env0).map fun x => match x with | (star, t) => (star, do let v ← t; standAt pos; pure v)
  | _ => []
noncomputable def F8 (v : Value) : Sem Flow := swappedStores tgts8 val8 env0 >>= fun sw => assignStores env0 v sw ((assignEach tgts8 env0).map (·.2))
noncomputable def G8 (f : Flow) : Sem Flow := match f with
  | .next => execs [] env0
  | f => pure f
noncomputable def L8 (w : World) (os : OsState) (o : Obj) (k : Nat) : SharedT := ⟨(T_d w.params).ins 73 o, 74, life0, Array.mk [], boot_drawn, k, os⟩
theorem pre_e (w : World) : (fun os => segGoT treeTable P0 w 11 (some (.ref 6)) 1 4 (S_d w os) (piecesOf sts_e env0 cE ⟨20, 0, 20, 12⟩ topB)) =
    fun os => some (S_d w os, ⟨((setDisplay .unsure true el8 >>= F8) >>= G8).wrap doneF deadEnd id id, cE, p21, topB⟩) := by kernel_rfl
theorem new_e (w : World) : (fun (os : OsState) (K : Value → Sem PySem.Fin) (H : Value → Sem PySem.Fin) (gd : Bool → Bool) (lv : List Value → List Value) => segGoT treeTable P0 w 11 (some (.ref 6)) 1 2 (S_d w os) ⟨(newSet (.type "set")).wrap K H gd lv, cE, p21, topB⟩) =
    fun os K H gd lv => some (L8 w os (setObj (start0 w.params)) 340, ⟨K (.ref 73), cE, p21, topB⟩) := by kernel_rfl
theorem all_e (w : World) : (fun (T : BT) (n : Nat) (life : Life) (gens : Array GenState) (drawn : Drawn) (os : OsState) (K : List Value → Sem PySem.Fin) (H : Value → Sem PySem.Fin) (gd : Bool → Bool) (lv : List Value → List Value) =>
    segGoT treeTable P0 w 11 (some (.ref 6)) 1 10 ⟨T, n, life, gens, drawn, 340, os⟩ ⟨(evalAll (List.map (fun x => x.snd) (List.take (if el8.length > 30 then 0 else (List.findIdx? (fun x => x.fst) el8).getD el8.length) el8))).wrap K H gd lv, cE, p21, topB⟩) =
    fun T n life gens drawn os K H gd lv => some (⟨T, n, life, gens, drawn, 345, os⟩, ⟨K [.str "" 340, .str "u" 341, .str "l" 342, .str "ul" 343, .str "lu" 344], cE, p21, topB⟩) := by kernel_rfl
theorem drop_e : List.drop (if el8.length > 30 then 0 else (List.findIdx? (fun x => x.fst) el8).getD el8.length) el8 = [] := by kernel_rfl
theorem hash_e (w : World) : (fun (T : BT) (n : Nat) (life : Life) (gens : Array GenState) (drawn : Drawn) (toks : Nat) (os : OsState) (s : Str) (tk : Nat) (K : Int → Sem PySem.Fin) (H : Value → Sem PySem.Fin) (gd : Bool → Bool) (lv : List Value → List Value) => segGoT treeTable P0 w 11 (some (.ref 6)) 1 7 ⟨T, n, life, gens, drawn, toks, os⟩ ⟨(pyHash (.str s tk)).wrap K H gd lv, cE, p21, topB⟩) = fun T n life gens drawn toks os s tk K H gd lv => some (⟨T, n, life, gens, drawn, toks + 1, os⟩, ⟨K (PyData.keyHash w.params s), cE, p21, topB⟩) :=
  byRow2 "special-get-raises" (P := fun w => (fun (T : BT) (n : Nat) (life : Life) (gens : Array GenState) (drawn : Drawn) (toks : Nat) (os : OsState) (s : Str) (tk : Nat) (K : Int → Sem PySem.Fin) (H : Value → Sem PySem.Fin) (gd : Bool → Bool) (lv : List Value → List Value) => segGoT treeTable P0 w 11 (some (.ref 6)) 1 7 ⟨T, n, life, gens, drawn, toks, os⟩ ⟨(pyHash (.str s tk)).wrap K H gd lv, cE, p21, topB⟩) = fun T n life gens drawn toks os s tk K H gd lv => some (⟨T, n, life, gens, drawn, toks + 1, os⟩, ⟨K (PyData.keyHash w.params s), cE, p21, topB⟩)) (fun w => by kernel_rfl) (fun w => by kernel_rfl) w
theorem put_e (w : World) : (fun (os : OsState) (o o' : Obj) (k : Nat) => ({ L8 w os o k with toks := k + 1, tree := (L8 w os o k).tree.set 73 (fun _ => o') } : SharedT)) = fun os o o' k => L8 w os o' (k + 1) := by kernel_rfl
theorem put_e2 (w : World) : (fun (os : OsState) (o o' : Obj) (k : Nat) => ({ L8 w os o k with tree := (L8 w os o k).tree.set 73 (fun _ => o') } : SharedT)) = fun os o o' k => L8 w os o' k := by kernel_rfl
theorem get_e (w : World) : (fun (os : OsState) (o : Obj) (k : Nat) => (L8 w os o k).tree.get 73) = fun os o k => some o := by kernel_rfl
theorem add_e {w : World} {os : OsState} {s : Array (Int × Value) × Nat × SetTable} {cs : List (Str × Nat)} {c : Str × Nat} {k : Nat} (I : Inv s cs) (hl : cs.length ≤ 1000) (hd : ∀ d ∈ cs, d.1 ≠ c.1) :
    Does w cE p21 topB (7 + 8) (setAdd 73 (.str c.1 c.2)) (L8 w os (setObj s) k) (L8 w os (setObj (addS w.params s c)) (k + 1)) true := by
  have hh : Does w cE p21 topB 7 (pyHash (.str c.1 c.2)) (L8 w os (setObj s) k) { L8 w os (setObj s) k with toks := k + 1 } (PyData.keyHash w.params c.1) := fun K H gd lv =>
    Go.of (congrFun (congrFun (congrFun (congrFun (congrFun (congrFun (congrFun (congrFun (congrFun (congrFun (congrFun (congrFun (congrFun (hash_e w) _) _) _) _) _) _) _) _) _) K) H) gd) lv)
  have hg := congrFun (congrFun (congrFun (get_e w) os) (setObj s)) k
  have add := does_add (w := w) (code := cE) (pos := p21) (st := topB) (S := { L8 w os (setObj s) k with toks := k + 1 }) (h := PyData.keyHash w.params c.1) trivial I hl hd rfl rfl hg
  have e := congrFun (congrFun (congrFun (congrFun (put_e w) os) (setObj s)) (setObj (addS w.params s c))) k
  have all := Does.holding (vs := [.str c.1 c.2]) (Does.bind hh add)
  unfold setAdd
  exact e ▸ all
theorem for_cons {w : World} {code : Code} {pos : Pos} {st : List Frame} {k l : Nat} {a : Addr} {x : Value} {r : List Value} {s s' s'' : SharedT} {b : Bool}
    (h : Does w code pos st k (setAdd a x) s s' b) (h' : Does w code pos st l (forIn r PUnit.unit fun x _ => do let _ ← setAdd a x; pure (ForInStep.yield PUnit.unit)) s' s'' PUnit.unit) :
    Does w code pos st (k + l) (forIn (x :: r) PUnit.unit fun x _ => do let _ ← setAdd a x; pure (ForInStep.yield PUnit.unit)) s s'' PUnit.unit := by
  rw [List.forIn_cons]
  refine Does.bind (k := k) (l := l) (a := ForInStep.yield PUnit.unit) (Does.bind (k := k) (l := 0) (a := b) h Does.pure) ?_
  exact h'
theorem for_nil {w : World} {code : Code} {pos : Pos} {st : List Frame} {a : Addr} {s : SharedT} :
    Does w code pos st 0 (forIn ([] : List Value) PUnit.unit fun x _ => do let _ ← setAdd a x; pure (ForInStep.yield PUnit.unit)) s s PUnit.unit := Does.pure
theorem does_unled {w : World} {code : Code} {pos : Pos} {st : List Frame} {S : SharedT} {a : Addr} {s : Array (Int × Value) × Nat × SetTable} (hlt : Nat.blt a S.n = true) (hn : Nat.ble 11 a = true) (hg : S.tree.get a = some (setObj s))
    (h1 : s.2.2.place.size = s.1.size) (h2 : s.2.2.fill ≤ s.2.2.mask) (hz : s.1.size ≤ sizeLine) : Does w code pos st (1 + 2) (setUnled a) S (putAt S a (s.1, s.2.1 + 1, { s.2.2 with led := false })) () := by
  obtain ⟨es, n, t⟩ := s
  unfold setUnled
  refine Does.bind (k := 1) (l := 2) (does_state trivial hlt hg h1 h2) ?_
  exact does_store trivial hlt hn hg hz
theorem display_e (w : World) (os : OsState) : Does w cE p21 topB 200 (setDisplay .unsure true el8) (S_d w os) (L8 w os (setS w.params) 350) (.ref 73) := by
  have I0 := inv_start w.params
  have I1 := inv_addS I0 w.params ("", 340)
  have I2 := inv_addS I1 w.params ("u", 341)
  have I3 := inv_addS I2 w.params ("l", 342)
  have I4 := inv_addS I3 w.params ("ul", 343)
  have I5 := inv_addS I4 w.params ("lu", 344)
  have e : addsOf w.params csS = addS w.params (addS w.params (addS w.params (addS w.params (addS w.params (start0 w.params) ("", 340)) ("u", 341)) ("l", 342)) ("ul", 343)) ("lu", 344) := by kernel_rfl
  rw [← e] at I5
  have a1 := add_e (w := w) (os := os) (c := ("", 340)) (k := 345) I0 (by decide) (by decide)
  have a2 := add_e (w := w) (os := os) (c := ("u", 341)) (k := 346) I1 (by decide) (by decide)
  have a3 := add_e (w := w) (os := os) (c := ("l", 342)) (k := 347) I2 (by decide) (by decide)
  have a4 := add_e (w := w) (os := os) (c := ("ul", 343)) (k := 348) I3 (by decide) (by decide)
  have a5 := add_e (w := w) (os := os) (c := ("lu", 344)) (k := 349) I4 (by decide) (by decide)
  rw [← e] at a5
  have hn : Does w cE p21 topB 2 (newSet (.type "set")) (S_d w os) (L8 w os (setObj (start0 w.params)) 340) (.ref 73) := fun K H gd lv => Go.of (congrFun (congrFun (congrFun (congrFun (congrFun (new_e w) os) K) H) gd) lv)
  have ha : Does w cE p21 topB 10 (evalAll (List.map (fun x => x.snd) (List.take (if el8.length > 30 then 0 else (List.findIdx? (fun x => x.fst) el8).getD el8.length) el8))) (L8 w os (setObj (start0 w.params)) 340) (L8 w os (setObj (start0 w.params)) 345)
      [.str "" 340, .str "u" 341, .str "l" 342, .str "ul" 343, .str "lu" 344] := fun K H gd lv => Go.of (congrFun (congrFun (congrFun (congrFun (congrFun (congrFun (congrFun (congrFun (congrFun (congrFun (all_e w) _) _) _) _) _) _) K) H) gd) lv)
  have hg := congrFun (congrFun (congrFun (get_e w) os) (setObj (addsOf w.params csS))) 350
  have hu : Does w cE p21 topB (1 + 2) (setUnled 73) (L8 w os (setObj (addsOf w.params csS)) 350) (L8 w os (setS w.params) 350) () := by
    have st := does_unled (w := w) (code := cE) (pos := p21) (st := topB) (S := L8 w os (setObj (addsOf w.params csS)) 350) rfl rfl hg I5.size I5.fill (by rw [I5.size_eq]; exact Nat.le_trans (by decide) sizeLine_big)
    have e2 : putAt (L8 w os (setObj (addsOf w.params csS)) 350) 73 ((addsOf w.params csS).1, (addsOf w.params csS).2.1 + 1, { (addsOf w.params csS).2.2 with led := false }) = L8 w os (setS w.params) 350 :=
      congrFun (congrFun (congrFun (congrFun (put_e2 w) os) (setObj (addsOf w.params csS))) (setObj (setSx w.params))) 350
    rw [e2] at st
    exact st
  have hf := for_cons a1 (for_cons a2 (for_cons a3 (for_cons a4 (for_cons a5 for_nil))))
  unfold setDisplay
  rw [if_neg (by decide)]
  refine Does.le (Does.bind (k := 2) (l := 100) hn ?_) (by omega)
  dsimp only
  refine Does.bind (k := 100) (l := 0) (a := ()) ?_ Does.pure
  refine Does.holding (Does.le (Does.bind (k := 10) (l := 90) ha ?_) (by omega))
  refine Does.bind (k := 90) (l := 0) (a := ()) (s' := L8 w os (setS w.params) 350) ?_ ?_
  · refine Does.holding (Does.le (Does.bind hf ?_) (by omega : 75 + 5 ≤ 90))
    rw [if_pos (by decide)]
    exact Does.le (Does.bind (Does.rule trivial) hu) (by omega)
  · rw [drop_e]
    exact Does.bind (k := 0) (l := 0) (a := PUnit.unit) Does.pure Does.pure
theorem post_e (w : World) : (fun os => segRunT treeTable P0 w 11 (some (.ref 6)) 1 20 (L8 w os (setS w.params) 350) ⟨((F8 (.ref 73)) >>= G8).wrap doneF deadEnd id id, cE, p21, topB⟩) = fun os => some (.next, S_e w os, cE, ⟨21, 0, 21, 8⟩) := by kernel_rfl
theorem seg_e (w : World) : (fun os => segRunT treeTable PySem.Challenge.pw_on0057_01 w 11 (some (.ref 6)) 1 (4 + 200 + 20) (S_d w os) (piecesOf sts_e env0 cE ⟨20, 0, 20, 12⟩ topB)) = fun os => some (.next, S_e w os, cE, ⟨21, 0, 21, 8⟩) := by
  funext os
  have g := display_e w os
  have h := g (fun v => ((F8 v) >>= G8).wrap doneF deadEnd id id) deadEnd id id
  have e : (setDisplay .unsure true el8).wrap (fun v => ((F8 v) >>= G8).wrap doneF deadEnd id id) deadEnd id id = ((setDisplay .unsure true el8 >>= F8) >>= G8).wrap doneF deadEnd id id := by
    rw [bind_wrap, bind_wrap]
    congr 1
    funext v
    rw [bind_wrap]
  rw [e] at h
  exact ((Go.of (congrFun (pre_e w) os)).trans h).run (congrFun (post_e w) os)
end
noncomputable section
open PySem PySem.W PyProof.Rows PySem.Calls
theorem pre0 (w : World) : (fun os => topGo treeTable PySem.Challenge.pw_on0057_01 w 11 (some (.ref 6)) 12 ⟨boot_heap w.params, Array.mk [], boot_drawn, boot_toks, os⟩ (topStub PySem.Challenge.pw_on0057_01)) =
    fun os => some ((S_z w os).abs, ⟨denote treeTable cE, cE, ⟨0, 0, 0, 0⟩, topB⟩) := by kernel_rfl
theorem blk0 (w : World) : (fun os => segRun treeTable PySem.Challenge.pw_on0057_01 w 11 (some (.ref 6)) 1 1 (S_z w os).abs (blockOf bE env0 cE ⟨0, 0, 0, 0⟩ topB)) =
    fun os => some (.next, (S_z w os).abs, cE, ⟨0, 0, 0, 0⟩) := by kernel_rfl
theorem fin0 (w : World) : (fun os => topRun treeTable PySem.Challenge.pw_on0057_01 w 11 (some (.ref 6)) 2 (S_j w os).abs ⟨doneF .next, cE, ⟨346, 0, 358, 15⟩, topB⟩) = fun os => some (S_j w os).abs := by kernel_rfl
theorem bE_eq : bE = sts_a ++ (sts_b ++ (sts_c ++ (sts_d ++ (sts_e ++ (sts_f ++ (sts_g ++ (sts_h ++ (sts_i ++ (sts_j ++ []))))))))) := by kernel_rfl
theorem run0 (w : World) (os : OsState) : topRun treeTable PySem.Challenge.pw_on0057_01 w 11 (some (.ref 6)) (12 + (1 + (524 + ((28 + 260 + 60) + ((28 + 572 + 60) + ((28 + 208 + 60) + ((4 + 200 + 20) + (543 + (552 + (417 + (522 + (356 + 2)))))))))))) ⟨boot_heap w.params, Array.mk [], boot_drawn, boot_toks, os⟩ (topStub PySem.Challenge.pw_on0057_01) =
    some (S_j w os).abs := by
  have h := piece_app (segRun_of (congrFun (seg_a w) os)) (piece_app (segRun_of (congrFun (seg_b w) os)) (piece_app (segRun_of (congrFun (seg_c w) os)) (piece_app (segRun_of (congrFun (seg_d w) os)) (piece_app (segRun_of (congrFun (seg_e w) os))
    (piece_app (segRun_of (congrFun (seg_f w) os)) (piece_app (segRun_of (congrFun (seg_g w) os)) (piece_app (segRun_of (congrFun (seg_h w) os)) (piece_app (segRun_of (congrFun (seg_i w) os)) (piece_app (segRun_of (congrFun (seg_j w) os))
      (piece_nil (congrFun (fin0 w) os)))))))))))
  rw [← bE_eq] at h
  exact go_top (congrFun (pre0 w) os) (piece_block (congrFun (blk0 w) os) h)
noncomputable def viewQ : Program := { PySem.Challenge.pw_on0057_01 with main := { PySem.Challenge.pw_on0057_01.main with body := [D 43] } }
noncomputable def looseQ : List Str := [Str.ofString "_wall", Str.ofString "CompileFault", Str.ofString "DirectiveFault", Str.ofString "DIGITS", Str.ofString "HEX_DIGITS", Str.ofString "OCTAL_DIGITS", Str.ofString "SUFFIXES", Str.ofString "MOST_OCTET", Str.ofString "MOST_WIDE", Str.ofString "ESCAPES", Str.ofString "Token", Str.ofString "number_parts", Str.ofString "escape_at", Str.ofString "literal_values", Str.ofString "literal_octets", Str.ofString "wide_values", Str.ofString "ALL_BITS", Str.ofString "TOP_BIT", Str.ofString "LEVELS", Str.ofString "SIGNS_AHEAD", Str.ofString "Value", Str.ofString "truth", Str.ofString "quotient", Str.ofString "one_sided", Str.ofString "compared", Str.ofString "two_sided", Str.ofString "chosen", Str.ofString "Condition", Str.ofString "_law_numbers", Str.ofString "_law_signs", Str.ofString "_law_lack", Str.ofString "_law_draw", Str.ofString "_law_pick", Str.ofString "_law_tree", Str.ofString "_law_words", Str.ofString "_law_led", Str.ofString "_law_two", Str.ofString "_law_worth", Str.ofString "_law_right"]
theorem open0 : ∀ w : World, (fencedOpening treeTable PySem.Challenge.pw_on0057_01 w 9000).map (fun s => (s.heap, s.gens, s.drawn, s.toks)) = some (boot_heap w.params, Array.mk [], boot_drawn, boot_toks) :=
  boot_open (by kernel_rfl) (by decide) (fun s => by kernel_rfl)
theorem size0 (w : World) : ((boot_heap w.params).isNs mainGlobals && (Array.mk [] : Array GenState).size == 0, (boot_heap w.params).objs.size, (boot_heap w.params).nsMap mainGlobals "__annotations__") = (true, 11, some (.ref 6)) := by kernel_rfl
noncomputable def Hfin (P : Params) : Heap := absHeap (T_j P) 356 life0
noncomputable def XtQ : Shared → Bool := fun s => xlAt viewQ [] s && recOk (RowW.records PySem.Challenge.rw_on0057_01.row.toRowW) s
theorem look1 (w : World) : (fun (os : OsState) => (staticsOk (importedModules PySem.Challenge.pw_on0057_01.main.body) (boot_heap w.params) (Hfin w.params) && namesBound PySem.Challenge.pw_on0057_01 (Hfin w.params) && gensDone ⟨Hfin w.params, Array.mk [], boot_drawn, 903, os⟩ && laidKept (boot_heap w.params) (Hfin w.params))) = fun _ => true := by kernel_rfl
theorem look2 (w : World) : (fun (os : OsState) => openSeen viewQ looseQ (importedModules PySem.Challenge.pw_on0057_01.main.body) XtQ true ⟨Hfin w.params, Array.mk [], boot_drawn, 903, os⟩) = fun _ => openGood viewQ looseQ := by kernel_rfl
end
noncomputable section
open PySem PySem.W PyProof.Rows PySem.Calls
noncomputable def KQ : Params → Frag := fun P => (nat_lit 2, o2_a P) :: (nat_lit 3, o3_j P) :: (nat_lit 15, o15_a P) :: (nat_lit 17, o17_a P) :: (nat_lit 18, o18_a P) :: (nat_lit 20, o20_a P) :: (nat_lit 21, o21_a P) :: (nat_lit 22, o22_a P) :: (nat_lit 29, o29_a P) :: (nat_lit 31, o31_a P) :: (nat_lit 32, o32_a P) :: (nat_lit 34, o34_a P) :: (nat_lit 35, o35_a P) :: (nat_lit 36, o36_a P) :: (nat_lit 38, o38_a P) :: (nat_lit 39, o39_a P) :: (nat_lit 41, o41_a P) :: (nat_lit 42, o42_a P) :: (nat_lit 43, o43_a P) :: (nat_lit 44, o44_a P) :: (nat_lit 45, o45_a P) :: (nat_lit 46, o46_a P) :: (nat_lit 49, o49_a P) :: (nat_lit 56, o56_a P) :: (nat_lit 57, o57_a P) :: (nat_lit 58, o58_a P) :: (nat_lit 74, o74_f P) :: (nat_lit 82, o82_f P) :: (nat_lit 83, o83_f P) :: (nat_lit 85, o85_f P) :: (nat_lit 86, o86_f P) :: (nat_lit 88, o88_f P) :: (nat_lit 89, o89_f P) :: (nat_lit 90, o90_f P) :: (nat_lit 92, o92_f P) :: (nat_lit 93, o93_f P) :: (nat_lit 95, o95_f P) :: (nat_lit 96, o96_f P) :: (nat_lit 97, o97_f P) :: (nat_lit 99, o99_f P) :: (nat_lit 100, o100_f P) :: (nat_lit 102, o102_f P) :: (nat_lit 103, o103_f P) :: (nat_lit 104, o104_f P) :: (nat_lit 105, o105_f P) :: (nat_lit 106, o106_f P) :: (nat_lit 107, o107_f P) :: (nat_lit 108, o108_f P) :: (nat_lit 111, o111_g P) :: (nat_lit 113, o113_g P) :: (nat_lit 114, o114_g P) :: (nat_lit 116, o116_g P) :: (nat_lit 117, o117_g P) :: (nat_lit 118, o118_g P) :: (nat_lit 120, o120_g P) :: (nat_lit 121, o121_g P) :: (nat_lit 123, o123_g P) :: (nat_lit 124, o124_g P) :: (nat_lit 125, o125_g P) :: (nat_lit 127, o127_g P) :: (nat_lit 128, o128_g P) :: (nat_lit 130, o130_g P) :: (nat_lit 131, o131_g P) :: (nat_lit 132, o132_g P) :: (nat_lit 134, o134_g P) :: (nat_lit 135, o135_g P) :: (nat_lit 137, o137_g P) :: (nat_lit 138, o138_g P) :: (nat_lit 139, o139_g P) :: (nat_lit 141, o141_g P) :: (nat_lit 142, o142_g P) :: (nat_lit 144, o144_g P) :: (nat_lit 145, o145_g P) :: (nat_lit 146, o146_g P) :: (nat_lit 148, o148_g P) :: (nat_lit 156, o156_h P) :: (nat_lit 158, o158_h P) :: (nat_lit 159, o159_h P) :: (nat_lit 161, o161_h P) :: (nat_lit 162, o162_h P) :: (nat_lit 163, o163_h P) :: (nat_lit 164, o164_h P) :: (nat_lit 165, o165_h P) :: (nat_lit 166, o166_h P) :: (nat_lit 167, o167_h P) :: (nat_lit 170, o170_h P) :: (nat_lit 172, o172_h P) :: (nat_lit 173, o173_h P) :: (nat_lit 175, o175_h P) :: (nat_lit 176, o176_h P) :: (nat_lit 177, o177_h P) :: (nat_lit 179, o179_h P) :: (nat_lit 180, o180_h P) :: (nat_lit 182, o182_h P) :: (nat_lit 183, o183_h P) :: (nat_lit 184, o184_h P) :: (nat_lit 186, o186_h P) :: (nat_lit 187, o187_h P) :: (nat_lit 189, o189_h P) :: (nat_lit 190, o190_h P) :: (nat_lit 191, o191_h P) :: (nat_lit 193, o193_h P) :: (nat_lit 194, o194_h P) :: (nat_lit 196, o196_h P) :: (nat_lit 197, o197_h P) :: (nat_lit 198, o198_h P) :: (nat_lit 200, o200_h P) :: (nat_lit 201, o201_h P) :: (nat_lit 203, o203_h P) :: (nat_lit 204, o204_h P) :: (nat_lit 205, o205_h P) :: (nat_lit 207, o207_h P) :: (nat_lit 208, o208_h P) :: (nat_lit 210, o210_h P) :: (nat_lit 211, o211_h P) :: (nat_lit 219, o219_i P) :: (nat_lit 221, o221_i P) :: (nat_lit 222, o222_i P) :: (nat_lit 224, o224_i P) :: (nat_lit 225, o225_i P) :: (nat_lit 226, o226_i P) :: (nat_lit 228, o228_i P) :: (nat_lit 229, o229_i P) :: (nat_lit 231, o231_i P) :: (nat_lit 232, o232_i P) :: (nat_lit 233, o233_i P) :: (nat_lit 235, o235_i P) :: (nat_lit 236, o236_i P) :: (nat_lit 238, o238_i P) :: (nat_lit 239, o239_i P) :: (nat_lit 240, o240_i P) :: (nat_lit 242, o242_i P) :: (nat_lit 243, o243_i P) :: (nat_lit 245, o245_i P) :: (nat_lit 246, o246_i P) :: (nat_lit 247, o247_i P) :: (nat_lit 249, o249_i P) :: (nat_lit 250, o250_i P) :: (nat_lit 252, o252_i P) :: (nat_lit 253, o253_i P) :: (nat_lit 254, o254_i P) :: (nat_lit 256, o256_i P) :: (nat_lit 257, o257_i P) :: (nat_lit 259, o259_i P) :: (nat_lit 260, o260_i P) :: (nat_lit 261, o261_i P) :: (nat_lit 263, o263_i P) :: (nat_lit 264, o264_i P) :: (nat_lit 266, o266_i P) :: (nat_lit 267, o267_i P) :: (nat_lit 268, o268_i P) :: (nat_lit 270, o270_i P) :: (nat_lit 271, o271_i P) :: (nat_lit 273, o273_i P) :: (nat_lit 274, o274_i P) :: (nat_lit 275, o275_i P) :: (nat_lit 277, o277_i P) :: (nat_lit 278, o278_i P) :: (nat_lit 280, o280_i P) :: (nat_lit 281, o281_i P) :: (nat_lit 282, o282_i P) :: (nat_lit 284, o284_i P) :: (nat_lit 285, o285_i P) :: (nat_lit 287, o287_i P) :: (nat_lit 288, o288_i P) :: (nat_lit 289, o289_i P) :: (nat_lit 290, o290_i P) :: (nat_lit 291, o291_i P) :: (nat_lit 292, o292_i P) :: (nat_lit 293, o293_i P) :: (nat_lit 296, o296_j P) :: (nat_lit 297, o297_j P) :: (nat_lit 298, o298_j P) :: (nat_lit 299, o299_j P) :: (nat_lit 301, o301_j P) :: (nat_lit 302, o302_j P) :: (nat_lit 304, o304_j P) :: (nat_lit 305, o305_j P) :: (nat_lit 306, o306_j P) :: (nat_lit 308, o308_j P) :: (nat_lit 309, o309_j P) :: (nat_lit 311, o311_j P) :: (nat_lit 312, o312_j P) :: (nat_lit 313, o313_j P) :: (nat_lit 315, o315_j P) :: (nat_lit 316, o316_j P) :: (nat_lit 318, o318_j P) :: (nat_lit 319, o319_j P) :: (nat_lit 320, o320_j P) :: (nat_lit 323, o323_j P) :: (nat_lit 324, o324_j P) :: (nat_lit 325, o325_j P) :: (nat_lit 327, o327_j P) :: (nat_lit 328, o328_j P) :: (nat_lit 330, o330_j P) :: (nat_lit 331, o331_j P) :: (nat_lit 332, o332_j P) :: (nat_lit 334, o334_j P) :: (nat_lit 335, o335_j P) :: (nat_lit 337, o337_j P) :: (nat_lit 338, o338_j P) :: (nat_lit 339, o339_j P) :: (nat_lit 342, o342_j P) :: (nat_lit 343, o343_j P) :: (nat_lit 344, o344_j P) :: (nat_lit 346, o346_j P) :: (nat_lit 347, o347_j P) :: (nat_lit 349, o349_j P) :: (nat_lit 350, o350_j P) :: (nat_lit 351, o351_j P) :: (nat_lit 354, o354_j P) :: (nat_lit 355, o355_j P) :: []
noncomputable def asQ : List Addr := [2, 3, 15, 17, 18, 20, 21, 22, 29, 31, 32, 34, 35, 36, 38, 39, 41, 42, 43, 44, 45, 46, 49, 56, 57, 58, 74, 82, 83, 85, 86, 88, 89, 90, 92, 93, 95, 96, 97, 99, 100, 102, 103, 104, 105, 106, 107, 108, 111, 113, 114, 116, 117, 118, 120, 121, 123, 124, 125, 127, 128, 130, 131, 132, 134, 135, 137, 138, 139, 141, 142, 144, 145, 146, 148, 156, 158, 159, 161, 162, 163, 164, 165, 166, 167, 170, 172, 173, 175, 176, 177, 179, 180, 182, 183, 184, 186, 187, 189, 190, 191, 193, 194, 196, 197, 198, 200, 201, 203, 204, 205, 207, 208, 210, 211, 219, 221, 222, 224, 225, 226, 228, 229, 231, 232, 233, 235, 236, 238, 239, 240, 242, 243, 245, 246, 247, 249, 250, 252, 253, 254, 256, 257, 259, 260, 261, 263, 264, 266, 267, 268, 270, 271, 273, 274, 275, 277, 278, 280, 281, 282, 284, 285, 287, 288, 289, 290, 291, 292, 293, 296, 297, 298, 299, 301, 302, 304, 305, 306, 308, 309, 311, 312, 313, 315, 316, 318, 319, 320, 323, 324, 325, 327, 328, 330, 331, 332, 334, 335, 337, 338, 339, 342, 343, 344, 346, 347, 349, 350, 351, 354, 355]
theorem as_eq (P : Params) : asQ = (KQ P).map (·.1) := by kernel_rfl
structure SetsAt (w : World) (h : Heap) : Prop where
  digits : h.get? 61 = some (setD w.params)
  hexs : h.get? 65 = some (setH w.params)
  octs : h.get? 69 = some (setO w.params)
  sufs : h.get? 73 = some (setS w.params)
theorem SetsAt.keeps {w : World} {h h' : Heap} (x : SetsAt w h) (k : ∀ b o, h.get? b = some o → h'.get? b = some o) : SetsAt w h' := ⟨k _ _ x.digits, k _ _ x.hexs, k _ _ x.octs, k _ _ x.sufs⟩
noncomputable def myHook : Hook :=
  ⟨List (Option Obj) × List (Option Obj), fun s => (asQ.map s.heap.get?, [s.heap.get? 61, s.heap.get? 65, s.heap.get? 69, s.heap.get? 73]),
   fun w => ((KQ w.params).map fun p => some p.2, [some (setD w.params), some (setH w.params), some (setO w.params), some (setS w.params)]),
   fun w h => InK KQ w h ∧ SetsAt w h,
   fun w s e => by
     obtain ⟨e1, e2⟩ := Prod.mk.inj e
     simp only [List.cons.injEq, and_true] at e2
     exact ⟨InK.of as_eq w s e1, e2.1, e2.2.1, e2.2.2.1, e2.2.2.2⟩,
   fun w h h' x k => ⟨InK.keeps w h h' x.1 k, x.2.keeps k⟩⟩
theorem look3 (w : World) : (fun (os : OsState) => myHook.obs ⟨Hfin w.params, Array.mk [], boot_drawn, 903, os⟩) = fun _ => myHook.val w := by kernel_rfl
theorem left0 : LeftO PySem.Challenge.pw_on0057_01 viewQ looseQ XtQ myHook.obs myHook.val 9000 true :=
  LeftO.of_pieces (H₀ := boot_heap) (H₁ := Hfin) (gs₀ := Array.mk []) (gs₁ := Array.mk []) (d₀ := boot_drawn) (d₁ := boot_drawn) (k₀ := boot_toks) (k₁ := 903) (m₀ := 11) (ann := some (.ref 6)) open0 size0
    (fun w os => run0 w os) (by decide) fun w => by
      funext os
      exact looks_pair (congrFun (look1 w) os) (looks_pair (congrFun (look2 w) os) (congrFun (look3 w) os))
noncomputable def pP : Stmt → Pos
  | .FunctionDef _ _ _ _ _ _ _ _ _ p => p
  | _ => ⟨0, 0, 0, 0⟩
noncomputable def dL : DefRec := ⟨"law", pA (D 43), pB (D 43), pS (D 43), pP (D 43)⟩
theorem top_law (hw : PySem.Challenge.rw_on0057_01.row.toRowW.promised) (walk : WalkO viewQ looseQ (XL viewQ []) myHook.says PySem.Challenge.rw_on0057_01.row.toRowW dL [] fun f vs => PySem.call f vs) : PySem.Challenge.rw_on0057_01.Holds := by
  refine holds_law (by kernel_rfl) fun said => ?_
  exact PySem.W.holds_open (q := viewQ) (loose := looseQ) (Xt := XtQ) (XP := XL viewQ []) (Yf := myHook.obs) (Ya := myHook.val) (YP := myHook.says) (N := 9000) left0 myHook.of myHook.keeps
    (fun s e => xl_of s (Bool.and_eq_true_iff.mp e).1) XL.keeps (by kernel_rfl) (by kernel_rfl) (by kernel_rfl) (fun s e => recFacts_of (Bool.and_eq_true_iff.mp e).2) (by rfl) (by assumption) (by decide +kernel) ⟨rfl, rfl, rfl, rfl, rfl, by decide +kernel⟩ hw walk
end
section
open PySem PySem.W PyProof.Rows PySem.Calls PySem.Spec
noncomputable abbrev MQ (w : World) : Model := model PySem.Challenge.rw_on0057_01.prog w
noncomputable abbrev fld (w : World) (k : Str) (tk : Tok) (v : Value) : DictEntry := ⟨PyData.keyHash w.params k, .str k tk, v⟩
noncomputable def led32 (n : Int) (u : Bool) : Int := if n % 4294967296 > 2147483647 ∧ u = false then n % 4294967296 - 4294967296 else n % 4294967296
noncomputable abbrev vdict (w : World) (n : Int) (u b : Bool) (k1 k2 k3 t : Tok) : Obj := dictOf [fld w "number" k1 (.int n t), fld w "is_unsigned" k2 (.bool u), fld w "is_bad" k3 (.bool b)] 3
theorem gen_toks {M : Model} {A : Around} {α : Type} {t : Sem α} {Q : α → Shared → Prop} {E : Value → Shared → Prop} {h : Heap} {g : Array GenState} {d : Drawn} {o : OsState} {a b : Nat} (k : ∀ tk, wpAny M A t Q E ⟨h, g, d, tk, o⟩) : wpAny M A t Q E ⟨h, g, d, a + b, o⟩ := k _
end
section
open PySem PySem.W PyProof.Rows PySem.Calls PySem.Spec
section
theorem room0 {d a n : Nat} (h : d + a < n) : d < n := Nat.lt_of_le_of_lt (Nat.le_add_right d a) h
theorem room1 {d a b n : Nat} (h : d + a < n) (e : Nat.ble b a = true) : d + b < n := Nat.lt_of_le_of_lt (Nat.add_le_add_left (Nat.le_of_ble_eq_true e) d) h
theorem room2 {d a b c n : Nat} (h : d + a < n) (e : Nat.ble (b + c) a = true) : d + b + c < n := by
  rw [Nat.add_assoc]; exact room1 h e
theorem room3 {d a b c f n : Nat} (h : d + a < n) (e : Nat.ble (b + c + f) a = true) : d + b + c + f < n := by
  rw [Nat.add_assoc, Nat.add_assoc, ← Nat.add_assoc b c f]; exact room1 h e
theorem roomM {d k M a b x c n : Nat} (h : d + k * (M + 1) + a < n) (hx : x ≤ M) (e : Nat.ble (b + c) (k + a) = true) : d + b + k * x + c < n := by
  have h1 : k * x ≤ k * M := Nat.mul_le_mul_left k hx
  have h2 := Nat.le_of_ble_eq_true e
  rw [Nat.mul_add, Nat.mul_one] at h
  omega
theorem roomM2 {d k M a b c n : Nat} (h : d + k * M + a < n) (e : Nat.ble (b + c) a = true) : d + b + c < n := by
  have h2 := Nat.le_of_ble_eq_true e
  omega
theorem roomM0 {d k M a n : Nat} (h : d + k * M + a < n) : d < n := by omega
theorem le_m1 {x y z : Nat} : y ≤ max x (max y z) := Nat.le_trans (Nat.le_max_left _ _) (Nat.le_max_right _ _)
theorem le_m2 {x y z : Nat} : z ≤ max x (max y z) := Nat.le_trans (Nat.le_max_right _ _) (Nat.le_max_right _ _)
theorem iteT {A B : Prop} {i : Decidable (true = true)} (h : A) : @ite Prop (true = true) i A B := by rw [if_pos rfl]; exact h
theorem iteF {A B : Prop} {i : Decidable (false = true)} (h : B) : @ite Prop (false = true) i A B := by rw [if_neg Bool.false_ne_true]; exact h
noncomputable def QN (M : Model) (A : Around) (E : Value → Shared → Prop) (env : Env) (rest : List Stmt) (Q : Flow → Shared → Prop) (f : Flow) (s : Shared) : Prop := match f with
  | .next => wpAny M A (execs rest env) Q E s
  | f => Q f s
section
variable {M : Model} {A : Around} {E : Value → Shared → Prop} {env : Env} {rest : List Stmt} {Q : Flow → Shared → Prop} {s : Shared} {st : Stmt} {v : Value}
theorem execsN (h : wpAny M A (exec st env) (QN M A E env rest Q) E s) : wpAny M A (execs (st :: rest) env) Q E s :=
  wpAny_execs_cons (wpAny_mono h (fun f s' h' => by cases f <;> exact h') fun _ _ x => x)
end
structure PC where
  w : World
  A : Around
  env : Env
  E : Value → Shared → Prop
  h : Heap
  g : Array GenState
  d : Drawn
  o : OsState
@[reducible] def PC.st (c : PC) (tk : Nat) : Shared := ⟨c.h, c.g, c.d, tk, c.o⟩
noncomputable def Lo (c : PC) (cs : Scope) (m : Str → Option Value) (news : List (Addr × Obj)) : Prop :=
  cs.kind = .function ∧ ∃ (h₀ : Heap) (L : Addr), Fr h₀ L c.h m ∧ News h₀ L c.h news ∧ (KQ c.w.params).In h₀ ∧ ∃ (cn : Str) (a : Addr) (ccd : Value) (cl : List (Str × Addr)), c.env = envX cn cs L a ccd cl
structure GV (c : PC) (e : Expr) (v : Value) : Prop where
  out : ∀ (Q : Value → Shared → Prop) (tk : Nat), (∀ tk', Q v (c.st tk')) → wpAny (MQ c.w) c.A (eval e c.env) Q c.E (c.st tk)
structure GA (c : PC) (e : Expr) (f : Tok → Value) : Prop where
  out : ∀ (Q : Value → Shared → Prop) (tk : Nat), (∀ t tk', Q (f t) (c.st tk')) → wpAny (MQ c.w) c.A (eval e c.env) Q c.E (c.st tk)
noncomputable abbrev GI (c : PC) (e : Expr) (i : Int) : Prop := GA c e (fun t => .int i t)
noncomputable abbrev GS (c : PC) (e : Expr) (x : Str) : Prop := GA c e (fun t => .str x t)
structure GC (c : PC) (l : Expr) (op : CmpOp) (r : Expr) (b : Bool) : Prop where
  out : ∀ (Q : Value → Shared → Prop) (tk : Nat), (∀ tk', Q (.bool b) (c.st tk')) →
    wpAny (MQ c.w) c.A (eval l c.env) (fun x s₁ => wpAny (MQ c.w) c.A (eval r c.env) (fun y s₂ => wpAny (MQ c.w) c.A (compareOp op x y) Q c.E s₂) c.E s₁) c.E (c.st tk)
structure GT (c : PC) (e : Expr) (b : Bool) : Prop where
  out : ∀ (Q : Bool → Shared → Prop) (tk : Nat), (∀ tk', Q b (c.st tk')) → wpAny (MQ c.w) c.A (isTrue e c.env (eval e c.env)) Q c.E (c.st tk)
noncomputable def ownOk (K : Frag) (C : Addr) (f : Str) : Bool := plainGet K C f && hasDictIn K C && (match findIn K (.ref C) f with | some a => noGet K a | none => false)
noncomputable def NL (cs : Scope) (x : Str) : Prop := cs.names.lookup x = some .local ∧ (x == ("__debug__" : Str)) = false
noncomputable def NG (cs : Scope) (x : Str) : Prop := cs.names.lookup x = some .globalImplicit ∧ (x == ("__debug__" : Str)) = false
noncomputable def GF (x : Str) (fa : Value) : Prop := ∀ P, nsIn (KQ P) mainGlobals x = some (some fa) ∧ keepIn (KQ P) fa = true
noncomputable def plainArg : Expr → Bool
  | .Starred _ _ => false
  | _ => true
theorem each_plain {e : Expr} {r : List Expr} {env : Env} (h : plainArg e = true) : starEach (e :: r) env = (false, eval e env) :: starEach r env := by
  cases e <;> first | rfl | cases h
theorem any_plain {pos : Pos} {env : Env} : ∀ {r : List Expr}, r.all plainArg = true → (backTo pos (starEach r env)).any (·.1) = false
  | [], _ => rfl
  | e :: r, h => by
    rw [List.all_cons, Bool.and_eq_true] at h
    rw [each_plain h.1]
    exact any_plain h.2
variable {c : PC} {cs : Scope} {m : Str → Option Value} {news : List (Addr × Obj)} {x y f : Str} {pos xp : Pos} {v : Value} {i j : Int} {e l r : Expr} {b b' : Bool} {t : Tok} {F : Tok → Value}
theorem GV.name (P : Lo c cs m news) (hv : m x = some v) (hx : NL cs x) : GV c (.Name x pos) v := by
  obtain ⟨hk, h₀, L, F, N, X, cn, a, ccd, cl, he⟩ := P
  constructor
  intro Q tk k
  rw [he]
  exact nameX_L (s := c.st tk) F hv (k tk) hk hx.1 hx.2
theorem GV.attr {q C dx : Addr} {es : List DictEntry} {n : Nat} (P : Lo c cs m news) (hv : m x = some (.ref q)) (hx : NL cs x)
    (h1 : (q, instObj C dx) ∈ news) (h2 : (dx, dictOf es n) ∈ news) (ho : ∀ P, ownOk (KQ P) C f = true) (hl : getL f es = some (some v)) (hh : handedIn v = true) : GV c (.Attribute (.Name x xp) f pos) v := by
  obtain ⟨hk, h₀, L, F, N, X, cn, a, ccd, cl, he⟩ := P
  constructor
  intro Q tk k
  rw [he]
  replace ho := ho c.w.params
  simp only [ownOk, Bool.and_eq_true] at ho
  obtain ⟨⟨o1, o2⟩, o3⟩ := ho
  split at o3
  · rename_i at_ hat
    refine Attribute_Name_ (nameX_L (s := c.st tk) F hv ?_ hk hx.1 hx.2)
    exact get_own F X (InstAt.of_news N h1 h2) o1 o2 hat o3 hl hh (k _)
  · cases o3
theorem GV.bool {kk} : GV c (.Constant (.bool b) kk pos) (.bool b) := ⟨fun Q tk k => Constant_bool (k tk)⟩
theorem GV.none {kk} : GV c (.Constant .none kk pos) .none := ⟨fun Q tk k => Constant_none (k tk)⟩
theorem GV.toI (h : GV c e (.int i t)) : GI c e i := ⟨fun Q tk k => h.out Q tk (fun tk' => k t tk')⟩
theorem GV.toS (h : GV c e (.str x t)) : GS c e x := ⟨fun Q tk k => h.out Q tk (fun tk' => k t tk')⟩
theorem GV.toA (h : GV c e v) : GA c e (fun _ => v) := ⟨fun Q tk k => h.out Q tk (fun tk' => k 0 tk')⟩
theorem GI.const {k} : GI c (.Constant (.int i) k pos) i := ⟨fun Q tk k => wpAny_Constant_int (k _ _)⟩
theorem GS.const {k} : GS c (.Constant (.str x) k pos) x := ⟨fun Q tk k => PySem.Calls.Constant_str (k _ _)⟩
theorem GI.add (h1 : GI c l i) (h2 : GI c r j) : GI c (.BinOp l .Add r pos) (i + j) := ⟨fun Q tk k => wpAny_BinOp (h1.out _ _ fun t tk => h2.out _ _ fun t' tk' => add_int (k _ _))⟩
theorem GI.sub (h1 : GI c l i) (h2 : GI c r j) : GI c (.BinOp l .Sub r pos) (i - j) := ⟨fun Q tk k => wpAny_BinOp (h1.out _ _ fun t tk => h2.out _ _ fun t' tk' => sub_int (k _ _))⟩
theorem GI.band (h1 : GI c l i) (h2 : GI c r j) : GI c (.BinOp l .BitAnd r pos) (Builtin.bitAnd i j) := ⟨fun Q tk k => wpAny_BinOp (h1.out _ _ fun t tk => h2.out _ _ fun t' tk' => and_int (k _ _))⟩
theorem GC.eqS (h1 : GS c l x) (h2 : GS c r y) : GC c l .Eq r (x == y) := ⟨fun Q tk k => h1.out _ _ fun t tk => h2.out _ _ fun t' tk' => eq_str (k _)⟩
theorem GC.eqI (h1 : GI c l i) (h2 : GI c r j) : GC c l .Eq r (i == j) := ⟨fun Q tk k => h1.out _ _ fun t tk => h2.out _ _ fun t' tk' => eq_int (k _)⟩
theorem GC.neI (h1 : GI c l i) (h2 : GI c r j) : GC c l .NotEq r (i != j) := ⟨fun Q tk k => h1.out _ _ fun t tk => h2.out _ _ fun t' tk' => ne_int (k _)⟩
theorem GC.ltI (h1 : GI c l i) (h2 : GI c r j) : GC c l .Lt r (decide (i < j)) := ⟨fun Q tk k => h1.out _ _ fun t tk => h2.out _ _ fun t' tk' => lt_int (k _)⟩
theorem GC.leI (h1 : GI c l i) (h2 : GI c r j) : GC c l .LtE r (decide (i ≤ j)) := ⟨fun Q tk k => h1.out _ _ fun t tk => h2.out _ _ fun t' tk' => le_int (k _)⟩
theorem GC.toV {op : CmpOp} (h : GC c l op r b) (hm : behindInMarks op r = false) : GV c (.Compare l [op] [r] pos) (.bool b) := ⟨fun Q tk k => wpAny_Compare1 (h.out _ _ k) hm⟩
theorem GC.toT {op : CmpOp} (h : GC c l op r b) (hm : behindInMarks op r = false) : GT c (.Compare l [op] [r] pos) b := ⟨fun Q tk k => wpAny_isTrue_Compare1 (h.out _ _ fun tk' => wpAny_truthy_bool (k tk')) hm⟩
theorem GV.and2 {p q : Bool} {e1 e2 : Expr} (h1 : GV c e1 (.bool p)) (h2 : GV c e2 (.bool q)) : GV c (.BoolOp .And [e1, e2] pos) (.bool (p && q)) := ⟨fun Q tk k => BoolOp_and (h1.out _ _ fun tk1 => wpAny_truthy_bool (by
  cases p
  · exact k tk1
  · exact BoolOp_one (h2.out _ _ k)))⟩
theorem GV.or2 {p q : Bool} {e1 e2 : Expr} (h1 : GV c e1 (.bool p)) (h2 : GV c e2 (.bool q)) : GV c (.BoolOp .Or [e1, e2] pos) (.bool (p || q)) := ⟨fun Q tk k => BoolOp_or (h1.out _ _ fun tk1 => wpAny_truthy_bool (by
  cases p
  · exact BoolOp_one (h2.out _ _ k)
  · exact k tk1))⟩
end
section
variable {w : World} {A : Around} {E : Value → Shared → Prop} {h : Heap} {g : Array GenState} {d : Drawn} {o : OsState} {tk : Nat} {h₀ : Heap} {L a : Addr} {cn : Str} {cs : Scope} {ccd : Value} {cl : List (Str × Addr)} {m : Str → Option Value} {news : List (Addr × Obj)} {pos fp : Pos} {e test : Expr} {body orelse : List Stmt} {b : Bool} {f f1 f2 f3 f4 : Tok → Value} {e1 e2 e3 e4 : Expr} {x : Str} {env : Env}
theorem Lo.mk {env : Env} (F : Fr h₀ L h m) (N : News h₀ L h news) (X : (KQ w.params).In h₀) (hk : cs.kind = .function) (he : env = envX cn cs L a ccd cl) : Lo ⟨w, A, env, E, h, g, d, o⟩ cs m news := ⟨hk, h₀, L, F, N, X, cn, a, ccd, cl, he⟩
theorem ifP {Q : Flow → Shared → Prop} (F : Fr h₀ L h m) (N : News h₀ L h news) (X : (KQ w.params).In h₀) (hk : cs.kind = .function) (he : env = envX cn cs L a ccd cl) (t : ∀ c, Lo c cs m news → GT c test b)
    (k : ∀ tk, if b = true then wpAny (MQ w) A (execs body env) Q E ⟨h, g, d, tk, o⟩ else wpAny (MQ w) A (execs orelse env) Q E ⟨h, g, d, tk, o⟩) :
    wpAny (MQ w) A (exec (.If test body orelse pos) env) Q E ⟨h, g, d, tk, o⟩ :=
  wpAny_If ((t _ (Lo.mk F N X hk he)).out _ _ fun tk' => k tk')
theorem retP {Q : Flow → Shared → Prop} (F : Fr h₀ L h m) (N : News h₀ L h news) (X : (KQ w.params).In h₀) (hk : cs.kind = .function) (he : env = envX cn cs L a ccd cl) (t : ∀ c, Lo c cs m news → GA c e f)
    (k : ∀ t tk, Q (.ret (f t)) ⟨h, g, d, tk, o⟩) : wpAny (MQ w) A (exec (.Return (some e) pos) env) Q E ⟨h, g, d, tk, o⟩ :=
  wpAny_Return_some ((t _ (Lo.mk F N X hk he)).out (fun v => Q (.ret v)) _ k)
variable {viewP : Program} {loose : List Str} {mean : ExcName → Option Value} {mg mb : Str → Option Value} {fa : Value} {Q : Value → Shared → Prop}
theorem callHead {r : Expr} {rs : List Expr} (F : Fr h₀ L h m) (X : (KQ w.params).In h₀) (T : Top viewP loose mean mg mb h₀) (hk : cs.kind = .function) (he : env = envX cn cs L a ccd cl) (hf : GF x fa) (hx : NG cs x) (hp : (r :: rs).all plainArg = true)
    (k : wpAny (MQ w) A (spliced (backTo pos (starEach (r :: rs) env))) (fun vs s₁ => (KQ w.params).In s₁.heap ∧ wpAny (MQ w) A (call fa ([] ++ vs)) Q E s₁) E ⟨h, g, d, tk, o⟩) :
    wpAny (MQ w) A (eval (.Call (.Name x fp) (r :: rs) [] pos) env) Q E ⟨h, g, d, tk, o⟩ := by
  rw [List.all_cons, Bool.and_eq_true] at hp
  subst he
  exact Call_ (nameX_K (s := ⟨h, g, d, tk, o⟩) F X (topRead_of T) (hf w.params).1 (callWith_K X (hf w.params).2 k (each_plain hp.1) (any_plain hp.2)) hk hx.1 hx.2)
theorem allP {l : List Expr} (h : l.all plainArg = true) (i : Nat) {e : Expr} (he : l[i]? = some e) : plainArg e = true := List.all_eq_true.mp h e (List.mem_of_getElem? he)
theorem callP2 (F : Fr h₀ L h m) (N : News h₀ L h news) (X : (KQ w.params).In h₀) (T : Top viewP loose mean mg mb h₀) (hk : cs.kind = .function) (he : env = envX cn cs L a ccd cl) (hf : GF x fa) (hx : NG cs x) (hp : [e1, e2].all plainArg = true) (t1 : ∀ c, Lo c cs m news → GA c e1 f1) (t2 : ∀ c, Lo c cs m news → GA c e2 f2)
    (k : ∀ u1 u2 tk, wpAny (MQ w) A (call fa [f1 u1, f2 u2]) Q E ⟨h, g, d, tk, o⟩) : wpAny (MQ w) A (eval (.Call (.Name x fp) [e1, e2] [] pos) env) Q E ⟨h, g, d, tk, o⟩ :=
  callHead F X T hk he hf hx hp (args_cons ((t1 _ (Lo.mk F N X hk he)).out _ _ fun u1 tk1 => args_cons ((t2 _ (Lo.mk F N X hk he)).out _ _ fun u2 tk2 => args_nil ⟨X.keeps F.keep, k u1 u2 tk2⟩) (each_plain (allP hp 1 rfl))) (each_plain (allP hp 0 rfl)))
theorem callP3 (F : Fr h₀ L h m) (N : News h₀ L h news) (X : (KQ w.params).In h₀) (T : Top viewP loose mean mg mb h₀) (hk : cs.kind = .function) (he : env = envX cn cs L a ccd cl) (hf : GF x fa) (hx : NG cs x) (hp : [e1, e2, e3].all plainArg = true) (t1 : ∀ c, Lo c cs m news → GA c e1 f1) (t2 : ∀ c, Lo c cs m news → GA c e2 f2) (t3 : ∀ c, Lo c cs m news → GA c e3 f3)
    (k : ∀ u1 u2 u3 tk, wpAny (MQ w) A (call fa [f1 u1, f2 u2, f3 u3]) Q E ⟨h, g, d, tk, o⟩) : wpAny (MQ w) A (eval (.Call (.Name x fp) [e1, e2, e3] [] pos) env) Q E ⟨h, g, d, tk, o⟩ :=
  callHead F X T hk he hf hx hp (args_cons ((t1 _ (Lo.mk F N X hk he)).out _ _ fun u1 tk1 => args_cons ((t2 _ (Lo.mk F N X hk he)).out _ _ fun u2 tk2 => args_cons ((t3 _ (Lo.mk F N X hk he)).out _ _ fun u3 tk3 => args_nil ⟨X.keeps F.keep, k u1 u2 u3 tk3⟩) (each_plain (allP hp 2 rfl))) (each_plain (allP hp 1 rfl))) (each_plain (allP hp 0 rfl)))
theorem subL {value slice : Expr} {l : Addr} {vs : List Value} {n : Nat} {dd : Option Addr} {sl : Array (Option Value)} {i : Int} {t : Tok} {v : Value} {s : Shared} (N : News h₀ L s.heap news) (hm : (l, ({ cls := .type "list", dict := dd, data := .seq vs.toArray n, slots := sl } : Obj)) ∈ news) (hi : decide (0 ≤ i ∧ i < 2 ^ 63) = true) (hx : vs[i.toNat]? = some v) (h : Q v s)
    (hs : subscripted slice false (.ref l) (.int i t) = operate [.ref l, .int i t] (getItem (.ref l) (.int i t))) : wpAny (MQ w) A (subscriptTail value slice (.ref l) (.int i t)) Q E s :=
  have hl : s.heap.IsList l vs.toArray := ⟨_, (N _ hm).1, rfl, n, rfl⟩
  tail_any hl.typeIs slot_list_getitem.lookup (wpAny_getItem_list hl (of_decide_eq_true hi).1 (of_decide_eq_true hi).2 (by simpa using hx) h) hs
theorem subT {value slice : Expr} {l : Addr} {vs : List Value} {n : Nat} {dd : Option Addr} {sl : Array (Option Value)} {i : Int} {t : Tok} {v : Value} {s : Shared} (N : News h₀ L s.heap news) (hm : (l, ({ cls := .type "tuple", dict := dd, data := .seq vs.toArray n, slots := sl } : Obj)) ∈ news) (hi : decide (0 ≤ i ∧ i < 2 ^ 63) = true) (hx : vs[i.toNat]? = some v) (h : Q v s)
    (hs : subscripted slice false (.ref l) (.int i t) = operate [.ref l, .int i t] (getItem (.ref l) (.int i t))) : wpAny (MQ w) A (subscriptTail value slice (.ref l) (.int i t)) Q E s := by
  obtain ⟨a1, a2⟩ := of_decide_eq_true hi
  have hlt : i.toNat < vs.length := (List.getElem?_eq_some_iff.mp hx).1
  refine item_tupleT (j := i.toNat) (News.isTup N hm) (by omega) a2 ?_ hx h hs
  unfold seqIndex?
  have hn : ¬ i < 0 := by omega
  simp only [if_neg hn]
  exact if_pos (by simp; omega)
theorem own0 : ∀ P, ownOk (KQ P) 165 (Str.ofString "number") = true := fun P => by kernel_rfl
theorem own1 : ∀ P, ownOk (KQ P) 165 (Str.ofString "is_unsigned") = true := fun P => by kernel_rfl
theorem own2 : ∀ P, ownOk (KQ P) 165 (Str.ofString "is_bad") = true := fun P => by kernel_rfl
theorem gf0 : GF (Str.ofString "Value") (.ref 165) := fun P => ⟨by kernel_rfl, by kernel_rfl⟩
theorem gf1 : GF (Str.ofString "truth") (.ref 176) := fun P => ⟨by kernel_rfl, by kernel_rfl⟩
theorem gf2 : GF (Str.ofString "quotient") (.ref 183) := fun P => ⟨by kernel_rfl, by kernel_rfl⟩
theorem gf4 : GF (Str.ofString "compared") (.ref 197) := fun P => ⟨by kernel_rfl, by kernel_rfl⟩
theorem gf12 : GF (Str.ofString "_law_led") (.ref 331) := fun P => ⟨by kernel_rfl, by kernel_rfl⟩
end
end
section
open PySem PySem.W PyProof.Rows PySem.Calls PySem.Spec
section
structure Ext (h h' : Heap) : Prop where
  fr : ∀ {h₀ : Heap} {L : Addr} {m : Str → Option Value}, Fr h₀ L h m → Fr h₀ L h' m
  nw : ∀ {h₀ : Heap} {L : Addr} {news : List (Addr × Obj)}, News h₀ L h news → News h₀ L h' news
theorem Ext.refl (h : Heap) : Ext h h := ⟨id, id⟩
theorem Ext.trans {h h' h'' : Heap} (a : Ext h h') (b : Ext h' h'') : Ext h h'' := ⟨fun F => b.fr (a.fr F), fun N => b.nw (a.nw N)⟩
theorem Ext.push (h : Heap) (o : Obj) : Ext h (h.push o) := ⟨fun F => F.push o, fun N p hp => ⟨Heap.get?_push_of_some _ (N p hp).1, (N p hp).2⟩⟩
@[reducible] def PC.at (c : PC) (h : Heap) : PC := { c with h := h }
variable {c : PC} {cs : Scope} {m : Str → Option Value} {news : List (Addr × Obj)} {h' : Heap}
theorem Lo.ext (P : Lo c cs m news) (e : Ext c.h h') : Lo (c.at h') cs m news := by
  obtain ⟨hk, h₀, L, F, N, X, q⟩ := P
  exact ⟨hk, h₀, L, e.fr F, e.nw N, X, q⟩
structure XA (c : PC) (e : Expr) (f : Tok → Value) : Prop where
  out : ∀ (Q : Value → Shared → Prop) (tk : Nat), (∀ h' t tk', Ext c.h h' → Q (f t) ((c.at h').st tk')) → wpAny (MQ c.w) c.A (eval e c.env) Q c.E (c.st tk)
structure XC (c : PC) (l : Expr) (op : CmpOp) (r : Expr) (b : Bool) : Prop where
  out : ∀ (Q : Value → Shared → Prop) (tk : Nat), (∀ h' tk', Ext c.h h' → Q (.bool b) ((c.at h').st tk')) →
    wpAny (MQ c.w) c.A (eval l c.env) (fun x s₁ => wpAny (MQ c.w) c.A (eval r c.env) (fun y s₂ => wpAny (MQ c.w) c.A (compareOp op x y) Q c.E s₂) c.E s₁) c.E (c.st tk)
structure XT (c : PC) (e : Expr) (b : Bool) : Prop where
  out : ∀ (Q : Bool → Shared → Prop) (tk : Nat), (∀ h' tk', Ext c.h h' → Q b ((c.at h').st tk')) → wpAny (MQ c.w) c.A (isTrue e c.env (eval e c.env)) Q c.E (c.st tk)
structure XLs (c : PC) (op : BoolOp) (es : List Expr) (b : Bool) : Prop where
  out : ∀ (pos : Pos) (whole : Sem Value) (Q : Bool → Shared → Prop) (tk : Nat), (∀ h' tk', Ext c.h h' → Q b ((c.at h').st tk')) → wpAny (MQ c.w) c.A (isTrue (.BoolOp op es pos) c.env whole) Q c.E (c.st tk)
structure JA (cs : Scope) (m : Str → Option Value) (news : List (Addr × Obj)) (e : Expr) (f : Tok → Value) : Prop where
  out : ∀ c, Lo c cs m news → XA c e f
structure JC (cs : Scope) (m : Str → Option Value) (news : List (Addr × Obj)) (l : Expr) (op : CmpOp) (r : Expr) (b : Bool) : Prop where
  out : ∀ c, Lo c cs m news → XC c l op r b
structure JT (cs : Scope) (m : Str → Option Value) (news : List (Addr × Obj)) (e : Expr) (b : Bool) : Prop where
  out : ∀ c, Lo c cs m news → XT c e b
structure JL (cs : Scope) (m : Str → Option Value) (news : List (Addr × Obj)) (op : BoolOp) (es : List Expr) (b : Bool) : Prop where
  out : ∀ c, Lo c cs m news → XLs c op es b
variable {x y f : Str} {pos xp : Pos} {v : Value} {i j : Int} {e l r : Expr} {es : List Expr} {b p q : Bool} {t : Tok} {f1 f2 : Tok → Value} {k : Nat}
theorem GA.toX (h : GA c e f1) : XA c e f1 := ⟨fun Q tk k => h.out Q tk fun t tk' => k c.h t tk' (Ext.refl _)⟩
theorem JA.name (hv : m x = some v) (hx : NL cs x) : JA cs m news (.Name x pos) (fun _ => v) := ⟨fun c P => (GV.toA (GV.name P hv hx)).toX⟩
theorem JA.bool : JA cs m news (.Constant (.bool b) k pos) (fun _ => .bool b) := ⟨fun c P => (GV.toA GV.bool).toX⟩
theorem JA.none : JA cs m news (.Constant .none k pos) (fun _ => .none) := ⟨fun c P => (GV.toA GV.none).toX⟩
theorem JA.int : JA cs m news (.Constant (.int i) k pos) (fun t => .int i t) := ⟨fun c P => GA.toX GI.const⟩
theorem XC.two {op : CmpOp} (P : Lo c cs m news) (h1 : JA cs m news l f1) (h2 : JA cs m news r f2) (ho : ∀ t1 t2 (Q : Value → Shared → Prop) (s : Shared), Q (.bool b) s → wpAny (MQ c.w) c.A (compareOp op (f1 t1) (f2 t2)) Q c.E s) : XC c l op r b :=
  ⟨fun Q tk k => (h1.out c P).out _ _ fun h' t tk' e => ((h2.out _ (P.ext e)).out _ _ fun h'' t' tk'' e' => ho t t' _ _ (k h'' tk'' (e.trans e')))⟩
theorem JC.eqI (h1 : JA cs m news l (fun t => .int i t)) (h2 : JA cs m news r (fun t => .int j t)) : JC cs m news l .Eq r (i == j) := ⟨fun c P => XC.two P h1 h2 fun _ _ _ _ => eq_int⟩
theorem JC.isF (h1 : JA cs m news l f1) (hv : ∀ t, f1 t ≠ .none) : JC cs m news l .Is (.Constant .none k xp) false := ⟨fun c P => XC.two P h1 JA.none fun _ _ _ _ => is_none_ne (hv _)⟩
theorem JC.isT (h1 : JA cs m news l (fun _ => .none)) : JC cs m news l .Is (.Constant .none k xp) true := ⟨fun c P => XC.two P h1 JA.none fun _ _ _ _ => is_none_none⟩
noncomputable def strOf : Expr → Option Str
  | .Constant k _ _ => (match k with | .str x => some x | _ => Option.none)
  | _ => Option.none
noncomputable def strsOf : List Expr → Option (List Str)
  | [] => some []
  | e :: r => (strOf e).bind fun x => (strsOf r).map (x :: ·)
theorem strOf_is {e : Expr} {x : Str} (h : strOf e = some x) : ∃ k p, e = .Constant (.str x) k p := by
  unfold strOf at h
  split at h
  · split at h
    · cases h; exact ⟨_, _, rfl⟩
    · cases h
  · cases h
theorem strs_spliced {env : Env} {A : Around} {w : World} {E : Value → Shared → Prop} {h : Heap} {g : Array GenState} {d : Drawn} {o : OsState} {pos : Pos} (es : List Expr) : ∀ (xs : List Str), strsOf es = some xs → ∀ (Q : List Value → Shared → Prop) (tk : Nat),
    (∀ vs tk', StrsAre vs xs → Q vs ⟨h, g, d, tk', o⟩) → wpAny (MQ w) A (spliced (backTo pos (starEach es env))) Q E ⟨h, g, d, tk, o⟩ := by
  induction es with
  | nil => intro xs e Q tk k; cases e; exact args_nil (k [] tk .nil)
  | cons e r ih =>
    intro xs e Q tk k
    unfold strsOf at e
    obtain ⟨x, hx, e⟩ := Option.bind_eq_some_iff.1 e
    obtain ⟨ys, hy, rfl⟩ := Option.map_eq_some_iff.1 e
    obtain ⟨_, _, rfl⟩ := strOf_is hx
    exact args_cons (PySem.Calls.Constant_str (ih ys hy _ _ fun vs tk' hv => k _ tk' (.cons _ _ hv)))
theorem strs_len {vs : List Value} {xs : List Str} (h : StrsAre vs xs) : vs.length = xs.length := by
  induction h with
  | nil => rfl
  | cons _ _ _ ih => simp only [List.length_cons, ih]
theorem tup_strs {ys : List Str} {Q : Value → Shared → Prop} {tk : Nat} (hs : strsOf es = some ys) (hz : ys.length ≤ 100) (k' : ∀ (t : Addr) (items : Array Value) h' tk', Ext c.h h' → IsTup h' t items → StrsAre items.toList ys → Q (.ref t) ((c.at h').st tk')) :
    wpAny (MQ c.w) c.A (eval (.Tuple es k pos) c.env) Q c.E (c.st tk) := by
  refine Tuple_ (strs_spliced es ys hs _ _ fun vs tk' hv => ?_)
  refine wpAny_newTuple (k' _ vs.toArray _ _ (Ext.push _ _) ⟨_, Heap.get?_push_size _ rfl, rfl, _, rfl⟩ hv) ?_
  rw [strs_len hv]
  exact Nat.le_trans hz (by decide)
theorem JC.inT {ys : List Str} (h1 : JA cs m news l (fun t => .str x t)) (hs : strsOf es = some ys) (hz : ys.length ≤ 100) (e : ys.any (· == x) = b) : JC cs m news l .In (.Tuple es k pos) b :=
  ⟨fun c P => ⟨fun Q tk k => (h1.out c P).out _ _ fun h' t tk' e1 => tup_strs (c := c.at h') hs hz fun T items h'' tk'' e2 ht hi => in_tuple_strs ht hi (by rw [e]; exact k h'' tk'' (e1.trans e2))⟩⟩
theorem JC.toT {op : CmpOp} (h : JC cs m news l op r b) (hm : behindInMarks op r = false) : JT cs m news (.Compare l [op] [r] pos) b :=
  ⟨fun c P => ⟨fun Q tk k => wpAny_isTrue_Compare1 ((h.out c P).out _ _ fun h' tk' e => wpAny_truthy_bool (k h' tk' e)) hm⟩⟩
theorem JL.one {op : BoolOp} (h : JT cs m news e b) : JL cs m news op [e] b := ⟨fun c P => ⟨fun pos whole Q tk k => by
  cases op
  · refine isTrue_and ((h.out c P).out _ _ fun h' tk' x => ?_)
    cases b
    · exact k h' tk' x
    · exact isTrue_and_nil (k h' tk' x)
  · refine isTrue_or ((h.out c P).out _ _ fun h' tk' x => ?_)
    cases b
    · exact isTrue_or_nil (k h' tk' x)
    · exact k h' tk' x⟩⟩
theorem JL.andF (h : JT cs m news e false) : JL cs m news .And (e :: es) false := ⟨fun c P => ⟨fun pos whole Q tk k => isTrue_and ((h.out c P).out _ _ fun h' tk' e => k h' tk' e)⟩⟩
theorem JL.orT (h : JT cs m news e true) : JL cs m news .Or (e :: es) true := ⟨fun c P => ⟨fun pos whole Q tk k => isTrue_or ((h.out c P).out _ _ fun h' tk' e => k h' tk' e)⟩⟩
theorem JL.andT (h : JT cs m news e true) (h2 : JL cs m news .And es b) : JL cs m news .And (e :: es) b :=
  ⟨fun c P => ⟨fun pos whole Q tk k => isTrue_and ((h.out c P).out _ _ fun h' tk' e => (h2.out _ (P.ext e)).out _ _ _ _ fun h'' tk'' e' => k h'' tk'' (e.trans e'))⟩⟩
theorem JL.orF (h : JT cs m news e false) (h2 : JL cs m news .Or es b) : JL cs m news .Or (e :: es) b :=
  ⟨fun c P => ⟨fun pos whole Q tk k => isTrue_or ((h.out c P).out _ _ fun h' tk' e => (h2.out _ (P.ext e)).out _ _ _ _ fun h'' tk'' e' => k h'' tk'' (e.trans e'))⟩⟩
theorem JL.toT {op : BoolOp} (h : JL cs m news op es b) : JT cs m news (.BoolOp op es pos) b := ⟨fun c P => ⟨fun Q tk k => (h.out c P).out _ _ _ _ k⟩⟩
theorem JA.or2 {e1 e2 : Expr} (h1 : JA cs m news e1 (fun _ => .bool p)) (h2 : JA cs m news e2 (fun _ => .bool q)) : JA cs m news (.BoolOp .Or [e1, e2] pos) (fun _ => .bool (p || q)) :=
  ⟨fun c P => ⟨fun Q tk k => BoolOp_or ((h1.out c P).out _ _ fun h' t tk' e => wpAny_truthy_bool (by
    cases p
    · exact BoolOp_one ((h2.out _ (P.ext e)).out _ _ fun h'' t' tk'' e' => k h'' t' tk'' (e.trans e'))
    · exact k h' t tk' e))⟩⟩
theorem JA.ifT {e1 e2 : Expr} (h : JT cs m news e true) (h1 : JA cs m news e1 f1) : JA cs m news (.IfExp e e1 e2 pos) f1 :=
  ⟨fun c P => ⟨fun Q tk k => IfExp_ ((h.out c P).out _ _ fun h' tk' e => (h1.out _ (P.ext e)).out _ _ fun h'' t' tk'' e' => k h'' t' tk'' (e.trans e'))⟩⟩
theorem JA.ifF {e1 e2 : Expr} (h : JT cs m news e false) (h1 : JA cs m news e2 f1) : JA cs m news (.IfExp e e1 e2 pos) f1 :=
  ⟨fun c P => ⟨fun Q tk k => IfExp_ ((h.out c P).out _ _ fun h' tk' e => (h1.out _ (P.ext e)).out _ _ fun h'' t' tk'' e' => k h'' t' tk'' (e.trans e'))⟩⟩
theorem JA.fix (h : JA cs m news e (fun _ => .int i t)) : JA cs m news e (fun t => .int i t) := ⟨fun c P => ⟨fun Q tk k => (h.out c P).out _ _ fun h' _ tk' e => k h' t tk' e⟩⟩
theorem JA.fixS (h : JA cs m news e (fun _ => .str x t)) : JA cs m news e (fun t => .str x t) := ⟨fun c P => ⟨fun Q tk k => (h.out c P).out _ _ fun h' _ tk' e => k h' t tk' e⟩⟩
end
section
variable {w : World} {A : Around} {E : Value → Shared → Prop} {h : Heap} {g : Array GenState} {d : Drawn} {o : OsState} {tk : Nat} {h₀ : Heap} {L a : Addr} {cn : Str} {cs : Scope} {ccd : Value} {cl : List (Str × Addr)} {m : Str → Option Value} {news : List (Addr × Obj)} {pos fp : Pos} {e test : Expr} {body orelse : List Stmt} {b : Bool} {f f1 f2 f3 f4 : Tok → Value} {e1 e2 e3 e4 : Expr} {x : Str} {env : Env}
theorem ifX {Q : Flow → Shared → Prop} (F : Fr h₀ L h m) (N : News h₀ L h news) (X : (KQ w.params).In h₀) (hk : cs.kind = .function) (he : env = envX cn cs L a ccd cl) (t : JT cs m news test b)
    (k : ∀ h' tk, Fr h₀ L h' m → News h₀ L h' news → if b = true then wpAny (MQ w) A (execs body env) Q E ⟨h', g, d, tk, o⟩ else wpAny (MQ w) A (execs orelse env) Q E ⟨h', g, d, tk, o⟩) :
    wpAny (MQ w) A (exec (.If test body orelse pos) env) Q E ⟨h, g, d, tk, o⟩ :=
  wpAny_If ((t.out _ (Lo.mk F N X hk he)).out _ _ fun h' tk' x => k h' tk' (x.fr F) (x.nw N))
theorem ifXT {Q : Flow → Shared → Prop} (F : Fr h₀ L h m) (N : News h₀ L h news) (X : (KQ w.params).In h₀) (hk : cs.kind = .function) (he : env = envX cn cs L a ccd cl) (t : JT cs m news test true)
    (k : ∀ h' tk, Fr h₀ L h' m → News h₀ L h' news → wpAny (MQ w) A (execs body env) Q E ⟨h', g, d, tk, o⟩) :
    wpAny (MQ w) A (exec (.If test body orelse pos) env) Q E ⟨h, g, d, tk, o⟩ := ifX F N X hk he t k
theorem ifXF {Q : Flow → Shared → Prop} (F : Fr h₀ L h m) (N : News h₀ L h news) (X : (KQ w.params).In h₀) (hk : cs.kind = .function) (he : env = envX cn cs L a ccd cl) (t : JT cs m news test false)
    (k : ∀ h' tk, Fr h₀ L h' m → News h₀ L h' news → wpAny (MQ w) A (execs orelse env) Q E ⟨h', g, d, tk, o⟩) :
    wpAny (MQ w) A (exec (.If test body orelse pos) env) Q E ⟨h, g, d, tk, o⟩ := ifX F N X hk he t k
theorem ifXF0 {st : List Stmt} {Q : Flow → Shared → Prop} (F : Fr h₀ L h m) (N : News h₀ L h news) (X : (KQ w.params).In h₀) (hk : cs.kind = .function) (he : env = envX cn cs L a ccd cl) (t : JT cs m news test false)
    (k : ∀ h' tk, Fr h₀ L h' m → News h₀ L h' news → wpAny (MQ w) A (execs st env) Q E ⟨h', g, d, tk, o⟩) :
    wpAny (MQ w) A (execs (.If test body [] pos :: st) env) Q E ⟨h, g, d, tk, o⟩ := execsN (ifXF F N X hk he t fun h' tk' F' N' => wpAny_execs_nil (k h' tk' F' N'))
theorem retX2 {kk : Nat} {Q : Flow → Shared → Prop} (F : Fr h₀ L h m) (N : News h₀ L h news) (X : (KQ w.params).In h₀) (hk : cs.kind = .function) (he : env = envX cn cs L a ccd cl) (hp : [e1, e2].all plainArg = true) (t1 : JA cs m news e1 f1) (t2 : JA cs m news e2 f2)
    (k : ∀ D h' u1 u2 tk, Fr h₀ L h' m → News h₀ L h' ((D, ({ cls := .type "tuple", data := .seq [f1 u1, f2 u2].toArray } : Obj)) :: news) → (∀ p ∈ news, p.1 < D) → Q (.ret (.ref D)) ⟨h', g, d, tk, o⟩) :
    wpAny (MQ w) A (exec (.Return (some (.Tuple [e1, e2] kk fp)) pos) env) Q E ⟨h, g, d, tk, o⟩ :=
  wpAny_Return_some (Tuple_ (args_cons ((t1.out _ (Lo.mk F N X hk he)).out _ _ fun h1 u1 tk1 x1 => args_cons ((t2.out _ ((Lo.mk F N X hk he).ext x1)).out _ _ fun h2 u2 tk2 x2 => args_nil (kup_newTuple (s := ⟨h2, g, d, tk2, o⟩) (x2.fr (x1.fr F)) (x2.nw (x1.nw N)) (fun D h' F' N' l => k D h' u1 u2 tk2 F' N' l) (show (2 : Nat) ≤ sizeLine from by decide))) (each_plain (allP hp 1 rfl))) (each_plain (allP hp 0 rfl))))
theorem asgX {Q : Flow → Shared → Prop} (F : Fr h₀ L h m) (N : News h₀ L h news) (X : (KQ w.params).In h₀) (hk : cs.kind = .function) (he : env = envX cn cs L a ccd cl) (t : JA cs m news e f) (hx : cs.names.lookup x = some .local) (hs : swapsWith e (some (.Name x fp)) pos.line env = pure false)
    (k : ∀ t h' tk, Fr h₀ L h' (fun y => if y = x then some (f t) else m y) → News h₀ L h' news → Q .next ⟨h', g, d, tk, o⟩) : wpAny (MQ w) A (exec (.Assign [.Name x fp] e pos) env) Q E ⟨h, g, d, tk, o⟩ :=
  wpAny_Assign_Name ((t.out _ (Lo.mk F N X hk he)).out _ _ fun h1 u tk' x1 => by
    subst he
    exact storeX_L (s := ⟨h1, g, d, tk', o⟩) (x1.fr F) (x1.nw N) (fun h' F' N' => k u h' _ F' N') hk hx) hs
variable {viewP : Program} {loose : List Str} {mean : ExcName → Option Value} {mg mb : Str → Option Value} {fa : Value} {Q : Value → Shared → Prop}
end
end
section
open PySem PySem.W PyProof.Rows PySem.Calls PySem.Spec
section
noncomputable abbrev fnQ (d : Stmt) (name qual pm : Str) (tk : Nat) (cd : Addr) : FuncData := fnOf name qual (pA d) (pB d) (pS d) .none .none .none (.str pm tk) none (.ref cd) .none
structure Fd (f : Addr) (d : Stmt) (name qual pm : Str) (tk : Nat) (cd : Addr) : Prop where
  lk : ∀ P, (KQ P).lookup f = some ⟨.type "function", none, .func (fnQ d name qual pm tk cd), List.nil.toArray⟩
  code : ∀ P, codeIn (KQ P) (.ref cd) qual = true
  co : (pS d).isCoroutine = false
  gen : (pS d).isGenerator = false
  kd : (pS d).kind = .function
  cell : ∀ x ∈ (pS d).names, x.2 ≠ .cell
  loc : ((pA d).args.map (·.arg)).all (fun n => decide ((pS d).names.lookup n = some .local)) = true
theorem pad1 {p : Prop} (h : Unit → p) : p := h ()
theorem pad2 {p : Prop} (h : Unit → Unit → p) : p := h () ()
theorem pad4 {p : Prop} (h : Unit → Unit → Unit → Unit → p) : p := h () () () ()
theorem pad8 {p : Prop} (h : Unit → Unit → Unit → Unit → Unit → Unit → Unit → Unit → p) : p := h () () () () () () () ()
noncomputable def Fd.Body (f : Addr) (d : Stmt) (qual : Str) (cd : Addr) (w : World) (mean : ExcName → Option Value) (mg mb : Str → Option Value) (A : Around) (env : Env) (outer : List Env) (base h₀ : Heap) (L : Addr) (m : Str → Option Value) (news : List (Addr × Obj)) (s : Shared) (Q E : Value → Shared → Prop) (bs : List (Str × Value)) : Prop :=
  ∀ (g : Heap) (L' : Addr) (h₁ : Heap), Fr h₀ L g m → Fr g L' h₁ (fun y => List.lookup y bs.reverse) → News g L' h₁ news → Below A base (env :: outer) g → (KQ w.params).In g → Top viewQ looseQ mean mg mb g → ∀ tk : Nat,
    let qk : Flow → Shared → Prop := fun fl s' => LeaveK h₀ L m g (fun r s' => match r with | .ok (.ret v) => Q v s' | .ok _ => False | .error e => E e s') (match fl with | .ret v => v | _ => .none) s'
    let ek : Value → Shared → Prop := fun e s' => wpAny (MQ w) (A.deeper (envOf qual (pS d) L' f (.ref cd))) (leaving (envOf qual (pS d) L' f (.ref cd)) e) (fun _ s'' => E e s'') (fun e' s'' => E e' s'') s'
    wpAny (MQ w) (A.deeper (envOf qual (pS d) L' f (.ref cd))) (execs (pB d) (envOf qual (pS d) L' f (.ref cd))) qk ek { s with heap := h₁, toks := tk }
theorem enterK {f cd : Addr} {d : Stmt} {name qual pm : Str} {tk : Nat} (fd : Fd f d name qual pm tk cd)
    {w : World} {mean : ExcName → Option Value} {mg mb : Str → Option Value} {dp un : Nat} {gd : Option (List Code)} {cn : Str} {cs : Scope} {a : Addr} {ccd : Value} {cl : List (Str × Addr)} {outer : List Env} {A₀ : Around} {base h₀ : Heap} {L : Addr} {m : Str → Option Value} {news : List (Addr × Obj)} {s : Shared} {Q E : Value → Shared → Prop} {vs : List Value} {bs : List (Str × Value)}
    (bd : bindArgs (fnQ d name qual pm tk cd) ⟨vs, []⟩ = pure bs) (hn : bs.map (·.1) = (pA d).args.map (·.arg))
    (B : Below A₀ base outer h₀) (F : Fr h₀ L s.heap m) (X : (KQ w.params).In h₀) (N : News h₀ L s.heap news) (T : Top viewQ looseQ mean mg mb h₀) (hk : cs.kind = .function) (hr : dp < recursionLimit)
    (k : Fd.Body f d qual cd w mean mg mb (ktrTop dp un gd cn cs L a ccd cl outer) (envX cn cs L a ccd cl) outer base h₀ L m news s Q E bs) :
    wpAny (MQ w) (ktrTop dp un gd cn cs L a ccd cl outer) (call (.ref f) vs) Q E s := by
  refine wpAny_call ?_
  refine code_def (binds := bs) B F X N T rfl rfl hk (fd.lk w.params) (fd.code w.params) hr (BindsTo.of_eq bd) (fun y hy => of_decide_eq_true (List.all_eq_true.mp fd.loc y.1 (hn ▸ List.mem_map.mpr ⟨y, hy, rfl⟩))) ?_ fd.co fd.gen fd.kd fd.cell
  intro g L' h₁ FG F' N' B' X' T'
  exact k g L' h₁ FG F' N' B' X' T' _
theorem fd117 : Fd 117 (D 13) (Str.ofString "number_parts") (Str.ofString "number_parts") (Str.ofString "corecc.scanner") 252 116 := ⟨fun P => by kernel_rfl, fun P => by kernel_rfl, by kernel_rfl, by kernel_rfl, by kernel_rfl, by decide, by kernel_rfl⟩
theorem fd176 : Fd 176 (D 24) (Str.ofString "truth") (Str.ofString "truth") (Str.ofString "corecc.preprocess") 497 175 := ⟨fun P => by kernel_rfl, fun P => by kernel_rfl, by kernel_rfl, by kernel_rfl, by kernel_rfl, by decide, by kernel_rfl⟩
theorem fd183 : Fd 183 (D 25) (Str.ofString "quotient") (Str.ofString "quotient") (Str.ofString "corecc.preprocess") 497 182 := ⟨fun P => by kernel_rfl, fun P => by kernel_rfl, by kernel_rfl, by kernel_rfl, by kernel_rfl, by decide, by kernel_rfl⟩
theorem fd190 : Fd 190 (D 26) (Str.ofString "one_sided") (Str.ofString "one_sided") (Str.ofString "corecc.preprocess") 497 189 := ⟨fun P => by kernel_rfl, fun P => by kernel_rfl, by kernel_rfl, by kernel_rfl, by kernel_rfl, by decide, by kernel_rfl⟩
theorem fd197 : Fd 197 (D 27) (Str.ofString "compared") (Str.ofString "compared") (Str.ofString "corecc.preprocess") 497 196 := ⟨fun P => by kernel_rfl, fun P => by kernel_rfl, by kernel_rfl, by kernel_rfl, by kernel_rfl, by decide, by kernel_rfl⟩
theorem fd204 : Fd 204 (D 28) (Str.ofString "two_sided") (Str.ofString "two_sided") (Str.ofString "corecc.preprocess") 497 203 := ⟨fun P => by kernel_rfl, fun P => by kernel_rfl, by kernel_rfl, by kernel_rfl, by kernel_rfl, by decide, by kernel_rfl⟩
theorem fd211 : Fd 211 (D 29) (Str.ofString "chosen") (Str.ofString "chosen") (Str.ofString "corecc.preprocess") 497 210 := ⟨fun P => by kernel_rfl, fun P => by kernel_rfl, by kernel_rfl, by kernel_rfl, by kernel_rfl, by decide, by kernel_rfl⟩
theorem fd232 : Fd 232 (M 30 1) (Str.ofString "fault") (Str.ofString "Condition.fault") (Str.ofString "corecc.preprocess") 497 231 := ⟨fun P => by kernel_rfl, fun P => by kernel_rfl, by kernel_rfl, by kernel_rfl, by kernel_rfl, by decide, by kernel_rfl⟩
theorem fd239 : Fd 239 (M 30 2) (Str.ofString "operand") (Str.ofString "Condition.operand") (Str.ofString "corecc.preprocess") 497 238 := ⟨fun P => by kernel_rfl, fun P => by kernel_rfl, by kernel_rfl, by kernel_rfl, by kernel_rfl, by decide, by kernel_rfl⟩
theorem fd253 : Fd 253 (M 30 4) (Str.ofString "reduce") (Str.ofString "Condition.reduce") (Str.ofString "corecc.preprocess") 497 252 := ⟨fun P => by kernel_rfl, fun P => by kernel_rfl, by kernel_rfl, by kernel_rfl, by kernel_rfl, by decide, by kernel_rfl⟩
theorem fd260 : Fd 260 (M 30 5) (Str.ofString "level") (Str.ofString "Condition.level") (Str.ofString "corecc.preprocess") 497 259 := ⟨fun P => by kernel_rfl, fun P => by kernel_rfl, by kernel_rfl, by kernel_rfl, by kernel_rfl, by decide, by kernel_rfl⟩
theorem fd267 : Fd 267 (M 30 6) (Str.ofString "reduce_to") (Str.ofString "Condition.reduce_to") (Str.ofString "corecc.preprocess") 497 266 := ⟨fun P => by kernel_rfl, fun P => by kernel_rfl, by kernel_rfl, by kernel_rfl, by kernel_rfl, by decide, by kernel_rfl⟩
theorem fd274 : Fd 274 (M 30 7) (Str.ofString "begin") (Str.ofString "Condition.begin") (Str.ofString "corecc.preprocess") 497 273 := ⟨fun P => by kernel_rfl, fun P => by kernel_rfl, by kernel_rfl, by kernel_rfl, by kernel_rfl, by decide, by kernel_rfl⟩
theorem fd281 : Fd 281 (M 30 8) (Str.ofString "go_on") (Str.ofString "Condition.go_on") (Str.ofString "corecc.preprocess") 497 280 := ⟨fun P => by kernel_rfl, fun P => by kernel_rfl, by kernel_rfl, by kernel_rfl, by kernel_rfl, by decide, by kernel_rfl⟩
theorem fd288 : Fd 288 (M 30 9) (Str.ofString "is_so") (Str.ofString "Condition.is_so") (Str.ofString "corecc.preprocess") 497 287 := ⟨fun P => by kernel_rfl, fun P => by kernel_rfl, by kernel_rfl, by kernel_rfl, by kernel_rfl, by decide, by kernel_rfl⟩
theorem fd305 : Fd 305 (D 35) (Str.ofString "_law_draw") (Str.ofString "_law_draw") (Str.ofString "law_on0057_01") 774 304 := ⟨fun P => by kernel_rfl, fun P => by kernel_rfl, by kernel_rfl, by kernel_rfl, by kernel_rfl, by decide, by kernel_rfl⟩
theorem fd312 : Fd 312 (D 36) (Str.ofString "_law_pick") (Str.ofString "_law_pick") (Str.ofString "law_on0057_01") 774 311 := ⟨fun P => by kernel_rfl, fun P => by kernel_rfl, by kernel_rfl, by kernel_rfl, by kernel_rfl, by decide, by kernel_rfl⟩
theorem fd319 : Fd 319 (D 37) (Str.ofString "_law_tree") (Str.ofString "_law_tree") (Str.ofString "law_on0057_01") 774 318 := ⟨fun P => by kernel_rfl, fun P => by kernel_rfl, by kernel_rfl, by kernel_rfl, by kernel_rfl, by decide, by kernel_rfl⟩
theorem fd324 : Fd 324 (D 38) (Str.ofString "_law_words") (Str.ofString "_law_words") (Str.ofString "law_on0057_01") 774 323 := ⟨fun P => by kernel_rfl, fun P => by kernel_rfl, by kernel_rfl, by kernel_rfl, by kernel_rfl, by decide, by kernel_rfl⟩
theorem fd331 : Fd 331 (D 39) (Str.ofString "_law_led") (Str.ofString "_law_led") (Str.ofString "law_on0057_01") 774 330 := ⟨fun P => by kernel_rfl, fun P => by kernel_rfl, by kernel_rfl, by kernel_rfl, by kernel_rfl, by decide, by kernel_rfl⟩
theorem fd338 : Fd 338 (D 40) (Str.ofString "_law_two") (Str.ofString "_law_two") (Str.ofString "law_on0057_01") 774 337 := ⟨fun P => by kernel_rfl, fun P => by kernel_rfl, by kernel_rfl, by kernel_rfl, by kernel_rfl, by decide, by kernel_rfl⟩
theorem fd343 : Fd 343 (D 41) (Str.ofString "_law_worth") (Str.ofString "_law_worth") (Str.ofString "law_on0057_01") 774 342 := ⟨fun P => by kernel_rfl, fun P => by kernel_rfl, by kernel_rfl, by kernel_rfl, by kernel_rfl, by decide, by kernel_rfl⟩
end
end
section
open PySem PySem.W PyProof.Rows PySem.Calls PySem.Spec PySem.Builtin PySem.Builtin.ObjectAttr
section
noncomputable abbrev excObj (C t : Addr) (dd : Option Addr) : Obj := { cls := .ref C, dict := dd, data := .fields #[.ref t, .none, .none, .none, .bool false, .none] }
noncomputable def isTy (v : Value) (n : String) : Bool := match v with | .type a => a == n | _ => false
noncomputable def isRf (v : Value) : Bool := match v with | .ref _ => true | _ => false
theorem isTy_is {v : Value} {n : String} (h : isTy v n = true) : v = .type n := by
  unfold isTy at h
  split at h
  · rw [eq_of_beq h]
  · cases h
theorem isRf_is {v : Value} (h : isRf v = true) : ∃ c, v = .ref c := by
  unfold isRf at h
  split at h
  · exact ⟨_, rfl⟩
  · cases h
noncomputable def excEnd (l : List Value) : Bool := l.length == 3 && l.head?.any (isTy · "Exception") && l.tail.head?.any (isTy · "BaseException") && l.tail.tail.head?.any (isTy · "object")
theorem excEnd_is {l : List Value} (h : excEnd l = true) : l = [.type "Exception", .type "BaseException", .type "object"] := by
  unfold excEnd at h
  simp only [Bool.and_eq_true, beq_iff_eq] at h
  obtain ⟨⟨⟨h, a⟩, b⟩, c⟩ := h
  cases l with
  | nil => cases h
  | cons v l => cases l with
    | nil => cases h
    | cons v2 l => cases l with
      | nil => cases h
      | cons v3 l =>
        cases List.length_eq_zero_iff.1 (Nat.add_right_cancel (m := 3) (k := 0) h)
        rw [isTy_is a, isTy_is b, isTy_is c]
noncomputable def onlyExc : List Value → Bool
  | [] => false
  | v :: r => if isRf v then onlyExc r else excEnd (v :: r)
theorem onlyExc_is {l : List Value} (h : onlyExc l = true) : ∃ cs : List Addr, l = cs.map Value.ref ++ [.type "Exception", .type "BaseException", .type "object"] := by
  induction l with
  | nil => cases h
  | cons v r ih =>
    unfold onlyExc at h
    cases q : isRf v with
    | false => rw [q] at h; exact ⟨[], excEnd_is h⟩
    | true => rw [q] at h; obtain ⟨c, e⟩ := isRf_is q; obtain ⟨cs, e2⟩ := ih h; exact ⟨c :: cs, by rw [e, e2]; rfl⟩
theorem onlyExc_refuse (self : Value) {l : List Value} (h : onlyExc l = true) : refuseLoop self "__setattr__" l = pure () := by
  obtain ⟨cs, e⟩ := onlyExc_is h
  rw [e]
  clear e
  induction cs with
  | nil => exact PySem.F.store_Exception.passes self
  | cons c r ih => rw [List.map_cons, List.cons_append, refuseLoop_ref, ih]
theorem onlyExc_obj {l : List Value} (h : onlyExc l = true) : l.contains (.type "object") = true := by
  obtain ⟨cs, e⟩ := onlyExc_is h
  rw [e]
  clear e
  induction cs with
  | nil => decide
  | cons c r ih => rw [List.map_cons, List.cons_append, List.contains_cons, ih, Bool.or_true]
variable {prog : Program} {w : World} {A : Around} {E : Value → Shared → Prop} {s : Shared} {K : Frag} {x C t L d : Addr} {h₀ : Heap} {m : Str → Option Value} {news : List (Addr × Obj)} {name : Str} {v : Value} {R : Result → Shared → Prop}
theorem exc_store_open {ox : Obj} {od : Option Obj} {tk : Tok} (X : K.In s.heap) (I : InstAt s.heap x ox C od) (hp : (clsIn K C).any (fun cd => onlyExc cd.mro) = true) (ht : takerIn K C name = some none)
    (h : ∀ b, wpAny (model prog w) A.in1 (storeInOwnDict (.ref x) (.ref C) (.str name tk) name v b)
      (fun fin s' => match fin with | .done f => R (.ok f) s' | .again c' => c'.quiet = true ∧ codeAny (model prog w) A c' R s') (fun e s' => R (.error e) s') s) :
    codeAny (model prog w) A (.call (.builtin "object.__setattr__") ⟨[.ref x, .str name tk, v], []⟩) R s := by
  have SF := PySem.F.store_object
  obtain ⟨cd, hc, ho⟩ := any_some hp
  have ne : cd.mro.isEmpty = false := by cases q : cd.mro with | nil => rw [q] at ho; cases ho | cons _ _ => rfl
  have sub : Looks (model prog w) s.heap (isInstance (.ref x) (.type "object")) true := I.type.andThen (looks_mroIn X (by unfold mroIn; rw [hc, Option.bind_some, if_neg (by rw [ne]; decide), onlyExc_obj ho]))
  refine codeAny_call_builtin SF.slot.plain SF.entry (@check_slot (model prog w) _ _ s "object.__setattr__" "object" "__setattr__" (.ref x) [.str name tk, v] [] _ SF.kind SF.split sub (SF.args (.ref x) (.str name tk) v) ?_)
  obtain ⟨attr, ha, hr⟩ := Option.bind_eq_some_iff.mp ht
  have hm : Looks (model prog w) s.heap (mroOf (.ref C)) cd.mro := (looks_clsIn X hc).andThen .now
  have L3 : Looks (model prog w) s.heap (storeTaker? attr) none := by
    cases attr with
    | none => exact .now
    | some a =>
      obtain ⟨b, hb, e⟩ := Option.map_eq_some_iff.mp hr
      cases b with
      | true => cases e
      | false => exact (looks_takesIn X hb).andThen .now
  rw [osa_eq, refuse_eq]
  refine wpAny_bind (wpAny_bind (I.type.here (wpAny_bind (hm.here ?_))))
  rw [onlyExc_refuse _ ho]
  refine wpAny_pure (wpAny_bind (I.type.here (wpAny_bind ((looks_findIn X ha).here (wpAny_bind (L3.here ?_))))))
  exact h _
theorem exc_set_new {Q : Unit → Shared → Prop} (F : Fr h₀ L s.heap m) (X₀ : K.In h₀) (N : News h₀ L s.heap ((x, excObj C t none) :: news)) (hx : ∀ p ∈ news, p.1 ≠ x)
    (hs : findIn K (.ref C) "__setattr__" = some (some (.builtin "object.__setattr__"))) (hp : (clsIn K C).any (fun cd => onlyExc cd.mro) = true) (ht : takerIn K C name = some none) (hh : hasDictIn K C = true)
    (h : ∀ d h', Fr h₀ L h' m → News h₀ L h' ((x, excObj C t (some d)) :: (d, dictOf [⟨PyData.keyHash w.params name, .str name (s.toks + 1), v⟩] 1) :: news) → (∀ p ∈ news, p.1 ≠ d) → x ≠ d → Q () { s with heap := h', toks := s.toks + 2 }) :
    wpAny (model prog w) A (setAttr (.ref x) name v) Q E s := by
  have X := X₀.keeps F.keep
  have hX := (N _ (.head _)).1
  have I : InstAt s.heap x (excObj C t none) C none := ⟨hX, rfl, rfl, trivial⟩
  refine set_plain X I hs (exc_store_open (s := { s with toks := s.toks + 1 }) X I hp ht fun b => ?_)
  obtain ⟨cd, hc, hd'⟩ := any_some hh
  refine wpAny_bind (wpAny_pure (wpAny_bind (wpAny_bind (wpAny_loadPart hX (wpAny_bind (looks_clsIn X hc _ _ _ _ (fun _ _ e => e) ?_))))))
  rw [hd']
  have below : ∀ p ∈ ((x, excObj C t none) :: news), p.1 < s.heap.objs.size := fun p hp => Heap.lt_size (N p hp).1
  have F1 := F.push { cls := .type "dict", data := .dict #[] }
  have N1 := News.push F N { cls := .type "dict", data := .dict #[] }
  have ne1 : x ≠ s.heap.objs.size := Nat.ne_of_lt (below _ (.head _))
  have ne2 : ∀ p ∈ news, p.1 ≠ s.heap.objs.size := fun p hp => Nat.ne_of_lt (below p (.tail _ hp))
  obtain ⟨F2, N2⟩ := news_upd (d := x) (o := excObj C t none) (o' := excObj C t (some s.heap.objs.size)) (f := fun o => { o with dict := some s.heap.objs.size }) (pre := [(s.heap.objs.size, { cls := .type "dict", data := .dict #[] })]) (post := news) F1 N1
    (fun p hp => by rw [List.mem_singleton.mp hp]; exact ne1.symm) hx rfl rfl
  have hx1 := Heap.get?_push_of_some { cls := .type "dict", data := .dict #[] } hX
  obtain ⟨F3, N3⟩ := news_upd (d := s.heap.objs.size) (pre := []) (o' := dictOf [⟨PyData.keyHash w.params name, .str name (s.toks + 1), v⟩] 1) (f := Obj.putName name (PyData.keyHash w.params name) (.str name (s.toks + 1)) v) F2 N2 (fun p hp => nomatch hp)
    (fun p hp => by
      rcases List.mem_cons.mp hp with rfl | hp
      · exact ne1
      · exact ne2 p hp) (putName_dict name _ _ v [] 0) rfl
  have D2 := (N2 _ (.head _)).1
  have D3 := (N3 _ (.head _)).1
  refine wpAny_bind (wpAny_alloc (wpAny_bind (wpAny_update hx1 (wpAny_pure ?_))))
  refine wpAny_bind (wpAny_pure (wpAny_bind ?_))
  unfold nsSet
  refine wpAny_bind (wpAny_bind (wpAny_askSetting (wpAny_pure (wpAny_bind (wpAny_mkText (wpAny_bind (wpAny_loadPart D2 ?_)))))))
  refine wpAny_updatePart D2 ?_
  refine wpAny_bind (wpAny_lookBehind D3 (by exact pastItsLine_dict (by rw [List.size_toArray, sizeLine_eq]; exact Nat.le_of_ble_eq_true rfl)) ?_)
  refine wpAny_pure (h _ _ F3 (fun p hp => N3 p ?_) ne2 ne1)
  rcases List.mem_cons.mp hp with rfl | hp
  · exact .tail _ (.head _)
  · rcases List.mem_cons.mp hp with rfl | hp
    · exact .head _
    · exact .tail _ (.tail _ hp)
theorem exc_set_more {Q : Unit → Shared → Prop} {es : List DictEntry} {n : Nat} (F : Fr h₀ L s.heap m) (X₀ : K.In h₀) (N : News h₀ L s.heap ((x, excObj C t (some d)) :: (d, dictOf es n) :: news)) (hx : ∀ p ∈ news, p.1 ≠ d) (hxd : x ≠ d)
    (hs : findIn K (.ref C) "__setattr__" = some (some (.builtin "object.__setattr__"))) (hp : (clsIn K C).any (fun cd => onlyExc cd.mro) = true) (ht : takerIn K C name = some none) (hh : hasDictIn K C = true)
    (hl : (getL name es).isSome = true) (hz : es.length < 900)
    (h : ∀ h', Fr h₀ L h' m → News h₀ L h' ((x, excObj C t (some d)) :: (d, dictOf (putL name (PyData.keyHash w.params name) (.str name (s.toks + 1)) v es) (putN name es n)) :: news) → Q () { s with heap := h', toks := s.toks + 2 }) :
    wpAny (model prog w) A (setAttr (.ref x) name v) Q E s := by
  have X := X₀.keeps F.keep
  have hX := (N _ (.head _)).1
  have D := (N _ (.tail _ (.head _))).1
  have I : InstAt s.heap x (excObj C t (some d)) C (some (dictOf es n)) := ⟨hX, rfl, rfl, D⟩
  refine set_plain X I hs (exc_store_open (s := { s with toks := s.toks + 1 }) X I hp ht fun b => ?_)
  obtain ⟨cd, hc, hd'⟩ := any_some hh
  obtain ⟨U1, U2⟩ := news_upd (d := d) (pre := [(x, excObj C t (some d))]) (post := news) (f := Obj.putName name (PyData.keyHash w.params name) (.str name (s.toks + 1)) v) F N
    (fun p hp => by rw [List.mem_singleton.mp hp]; exact hxd) hx (putName_dict name _ _ v es n) rfl
  have D' := (U2 _ (.tail _ (.head _))).1
  refine wpAny_bind (wpAny_pure (wpAny_bind (wpAny_bind (wpAny_loadPart hX (wpAny_bind (looks_clsIn X hc _ _ _ _ (fun _ _ e => e) ?_))))))
  rw [hd']
  refine wpAny_pure (a := some d) (wpAny_bind (wpAny_pure (wpAny_bind ?_)))
  unfold nsSet
  refine wpAny_bind (wpAny_bind (wpAny_askSetting (wpAny_pure (wpAny_bind (wpAny_mkText (wpAny_bind (wpAny_loadPart D ?_)))))))
  have c : aRefKeyMayBeTheName name es.toArray = false := by
    rw [aRefKeyMayBeTheName_at, ← Array.any_toList, ← Array.any_toList]
    unfold getL at hl
    split at hl
    · rename_i en he
      rw [List.any_eq_true.mpr ⟨en, List.mem_of_find?_eq_some he, List.find?_some he⟩]; rfl
    · split at hl
      · cases hl
      · rename_i z; rw [Bool.not_eq_true] at z; rw [z, Bool.and_false]
  show wpAny _ _ (if aRefKeyMayBeTheName name es.toArray = true then _ else _) _ _ _
  rw [c]
  refine wpAny_updatePart D ?_
  refine wpAny_bind (wpAny_lookBehind D' (by
    refine pastItsLine_dict ?_
    rw [List.size_toArray, sizeLine_eq]
    have : ∀ (a : Str) b c e (l : List DictEntry), (putL a b c e l).length ≤ l.length + 1 := by
      intro a b c e l
      induction l with
      | nil => exact Nat.le_refl _
      | cons y r ih => unfold putL; split <;> simp only [List.length_cons] <;> omega
    have := this name (PyData.keyHash w.params name) (.str name (s.toks + 1)) v es
    omega) ?_)
  exact wpAny_pure (h _ U1 U2)
theorem exc_base_init {Q : Value → Shared → Prop} (F : Fr h₀ L s.heap m) (X₀ : K.In h₀) (N : News h₀ L s.heap ((x, excObj C t none) :: news)) (hx : ∀ p ∈ news, p.1 ≠ x) (hb : ktsIn K C "Exception" = true)
    (h : ∀ d h', Fr h₀ L h' m → News h₀ L h' ((x, excObj C d none) :: news) → Q .none { s with heap := h' }) :
    wpAny (model prog w) A (call (.builtin "Exception.__init__") [.ref x, v]) Q E s := by
  have FE := PySem.F.excBase_Exception
  have hshort := FE.noStar
  have X := X₀.keeps F.keep
  have hX := (N _ (.head _)).1
  obtain ⟨nm, qn, NS, bs, bm, hdct, sn, sub, ab, col, dd, k0, k1, k2, k3, k5, newId, hC, hbase, hbT⟩ := kts_cls X hb
  have hcB : (Value.ref C :: bm).contains (.type "Exception") = true := by rw [List.contains_cons, hbT, Bool.or_true]
  have F1 := F.push (({ cls := .type "tuple", data := .seq #[v] } : Obj))
  have N1 := News.push F N (({ cls := .type "tuple", data := .seq #[v] } : Obj))
  have ne2 : ∀ p ∈ ((x, excObj C t none) :: news), p.1 ≠ s.heap.objs.size := fun p hp => Nat.ne_of_lt (Heap.lt_size (N p hp).1)
  have hx1 := Heap.get?_push_of_some (({ cls := .type "tuple", data := .seq #[v] } : Obj)) hX
  obtain ⟨F2, N2⟩ := news_upd (d := x) (o := excObj C t none) (o' := excObj C s.heap.objs.size none) (f := Obj.mapFields (·.setIfInBounds 0 (.ref s.heap.objs.size))) (pre := [(s.heap.objs.size, ({ cls := .type "tuple", data := .seq #[v] } : Obj))]) (post := news) F1 N1
    (fun p hp => by rw [List.mem_singleton.mp hp]; exact (ne2 _ (.head _)).symm) hx rfl rfl
  refine wpAny_call (codeAny_call_builtin FE.init.plain FE.initEntry ?_)
  simp only [checkBuiltinCall, FE.initKind, FE.initSplit, FE.initRow]
  repeat (first | with_reducible refine wpAny_loadPart_at hX ?_ | with_reducible refine wpAny_loadPart_at hC ?_ | (with_reducible refine wpAny_isSubtype_exc hC ?_; rw [hcB]) | wp_step)
  exact h _ _ F2 (fun q hq => N2 q (.tail _ hq))
theorem exc_get {Q : Value → Shared → Prop} {expr : Bool} {es : List DictEntry} {n : Nat} {ox : Obj} (X : K.In s.heap) (I : InstAt s.heap x ox C (some (dictOf es n)))
    (hg : findIn K (.ref C) "__getattribute__" = some (some (.builtin "BaseException.__getattribute__"))) (hk : findIn K (.ref C) "__getattr__" = some none) (hb : mroIn K C (.type "BaseException") = some true)
    (hf : findObj K C (some (dictOf es n)) name = some (.value v)) (hv : handedIn v = true) (h : Q v { s with toks := s.toks + 1 }) :
    wpAny (model prog w) A (getAttr (.ref x) name expr) Q E s := by
  obtain ⟨hh, g, dr, tk, os⟩ := s
  have L0 := I.type (M := model prog w)
  have L1 := looks_findIn (M := model prog w) X hg
  have L2 := looks_findIn (M := model prog w) X hk
  have L3 := looks_find (M := model prog w) X I hf
  have sub : Looks (model prog w) hh (isInstance (.ref x) (.type "BaseException")) true := L0.andThen (looks_mroIn X hb)
  have hx0 : (expr && onTheHeap (Value.builtin "BaseException.__getattribute__")) = false := by cases expr <;> rfl
  have hx2 : (onTheHeap (Value.ref C) && Value.builtin "BaseException.__getattribute__" == Value.builtin "object.__getattribute__") = false := by
    rw [show (Value.builtin "BaseException.__getattribute__" == Value.builtin "object.__getattribute__") = false by decide +kernel]; rfl
  have sg : Slot _ "__getattribute__" "BaseException.__getattribute__" := PySem.F.excAttr_ValueError.ga
  unfold getAttr getAttrBy
  refine wpAny_bind (wpAny_mkText (wpAny_holding (wpAny_bind (L0.at (wpAny_bind (L1.at ?_))))))
  dsimp only
  rw [hx2]
  show wpAny _ _ (getAttrByItsOwn _ _ _ _ _ _) _ _ _
  unfold getAttrByItsOwn
  refine wpAny_bind (L2.at ?_)
  refine wpAny_bind (wpAny_attempt (wpAny_holding ?_))
  unfold callGetattribute
  rw [hx0]
  show wpAny _ _ (boundAndCalled _ _ _) _ _ _
  unfold boundAndCalled
  rw [sg.bind]
  refine wpAny_bind (wpAny_pure (wpAny_call ?_))
  refine codeAny_call_builtin sg.plain PySem.F.entry_bexc_ga (@check_slot (model prog w) _ _ _ "BaseException.__getattribute__" "BaseException" "__getattribute__" (.ref x) [.str name tk] [] _ (by decide +kernel) (by decide +kernel) sub (PySem.F.args_bexc_ga (.ref x) (.str name tk)) ?_)
  unfold Builtin.«object.__getattribute__»
  refine wpAny_bind (wpAny_pure (wpAny_bind (wpAny_pure (wpAny_bind (L0.at (wpAny_bind (L3.at ?_)))))))
  refine wpAny_pure ?_
  show wpAny _ _ (handedOut v) _ _ _
  rw [handedOut_of hv]; exact wpAny_pure h
end
end
section
open PySem PySem.W PyProof.Rows PySem.Calls PySem.Spec
section
noncomputable abbrev excNew (C t : Addr) : Obj := { cls := .ref C, data := .fields #[.ref t, .none, .none, .none, .bool false, .none] }
noncomputable abbrev tupNew (l : List Value) : Obj := { cls := .type "tuple", data := .seq l.toArray }
section
variable {prog : Program} {w : World} {A : Around} {E : Value → Shared → Prop} {R : Result → Shared → Prop} {h : Heap} {g : Array GenState} {d : Drawn} {t : Nat} {os : OsState}
variable {nm q : Str} {C N : Addr} {bs bm : List Value} {hdct : Bool} {sn : List Str} {sub : List Value} {ab : Bool} {col : Option Bool} {dd : Option Addr} {k0 k1 k2 k3 k5 : Option Value} {rest : List Value}
theorem exc_check {M : Model} {Q : Unit → Shared → Prop} (hb : (Value.ref C :: bm).contains (.type "Exception") = true) (hC : h.get? C = some (excClassObj nm q C N bs bm hdct sn sub ab col dd k0 k1 k2 k3 k5 "Exception.__new__"))
    (hq : Q () ⟨h, g, d, t, os⟩) : wpAny M A (checkBuiltinCall "Exception.__new__" ⟨.ref C :: rest, []⟩) Q E ⟨h, g, d, t, os⟩ := by
  have F := F.excBase_Exception
  have hstar := F.noStar
  simp only [checkBuiltinCall, F.newKind, F.newSplit, F.newRow]
  repeat (first | refine wpAny_loadPart_at hC ?_ | (refine wpAny_isSubtype_exc hC ?_; rw [hb]) | refine wpAny_staticBase_exc hC ?_ | refine wpAny_madeBy_exc hC ?_ | simp only [bne_self_eq_false, Bool.false_eq_true, if_false] | wp_step)
  exact hq
theorem exc_run (hb : (Value.ref C :: bm).contains (.type "Exception") = true) (ha : (Value.ref C :: bm).contains (.type "AttributeError") = false) (hn : (Value.ref C :: bm).contains (.type "NameError") = false)
    (hC : h.get? C = some (excClassObj nm q C N bs bm hdct sn sub ab col dd k0 k1 k2 k3 k5 "Exception.__new__"))
    (hq : R (.ok (.ret (.ref (h.objs.size + 1)))) ⟨(h.push (tupNew rest)).push (excNew C h.objs.size), g, d, t, os⟩) (hrest : rest.length ≤ sizeLine := by size_fits) :
    codeAny (model prog w) A (.builtin "Exception.__new__" ⟨.ref C :: rest, []⟩) R ⟨h, g, d, t, os⟩ := by
  have F := F.excBase_Exception
  have hends := F.ends
  refine PySem.codeAny_builtinAt F.entry ?_
  unfold Builtin.«BaseException.__new__»
  refine PySem.wpAt_bind ?_
  show PySem.wpAt _ _ _ (stack >>= _) _ _ _
  refine PySem.wpAt_bind (PySem.wpAt_stack fun p below => PySem.wpAt_of_wpAny ?_)
  wp_walk
  refine PySem.wpAt_of_wpAny ?_
  rw [F.owner]
  repeat (first | with_reducible refine wpAny_madeHere_exc F.canon hC ?_ | with_reducible refine wpAny_loadPart_at hC ?_ | (with_reducible refine wpAny_isSubtype_exc hC ?_; first | rw [hb] | rw [ha] | rw [hn]) | wp_step)
  show R _ _
  rw [Heap.size_push]
  exact hq
end
end
end
section
open PySem PySem.W PyProof.Rows PySem.Calls PySem.Spec
section
variable {prog : Program} {w : World} {A : Around} {E : Value → Shared → Prop} {R : Result → Shared → Prop} {h : Heap} {g : Array GenState} {d : Drawn} {t : Nat} {os : OsState} {K : Frag}
variable {nm q : Str} {C N fI : Addr} {bs bm : List Value} {hdct : Bool} {sn : List Str} {sub : List Value} {ab : Bool} {col : Option Bool} {dd : Option Addr} {k0 k1 k2 k3 k5 : Option Value} {rest : List Value}
theorem exc_make (X : K.In h) (hb : (Value.ref C :: bm).contains (.type "Exception") = true) (ha : (Value.ref C :: bm).contains (.type "AttributeError") = false) (hn : (Value.ref C :: bm).contains (.type "NameError") = false)
    (hC : h.get? C = some (excClassObj nm q C N bs bm hdct sn sub ab col dd k0 k1 k2 k3 k5 "Exception.__new__"))
    (hcl : specialIn K (.ref C) "__call__" = some (some (.builtin "type.__call__"))) (hty : instIn K (.ref C) (.type "type") = some true)
    (hself : mroIn K C (.ref C) = some true) (hi : findIn K (.ref C) "__init__" = some (some (.ref fI))) (hf : typeIn K (.ref fI) = some (.type "function"))
    (hq : codeAny (model prog w) (A.under (.builtin "type.__call__" ⟨.ref C :: rest, []⟩)) (.call (.ref fI) ⟨.ref (h.objs.size + 1) :: rest, []⟩) (InitBack (h.objs.size + 1) R) ⟨(h.push (tupNew rest)).push (excNew C h.objs.size), g, d, t, os⟩)
    (hrest : rest.length ≤ sizeLine := by size_fits) :
    codeAny (model prog w) A (.call (.ref C) ⟨rest, []⟩) R ⟨h, g, d, t, os⟩ := by
  have F := F.excBase_Exception
  have call : Looks (model prog w) h (specialOf (.ref C) "__call__") (some (.builtin "type.__call__")) := looks_specialIn X hcl
  have typ : Looks (model prog w) h (isInstance (.ref C) (.type "type")) true := looks_instIn X hty
  refine codeAny_of_tree ?_
  show wpAny _ _ (callAny (.ref C) _) _ _ _
  refine nd_load hC ?_
  show wpAny _ _ (callAny.viaDunder (.ref C) _) _ _ _
  unfold callAny.viaDunder
  refine wpAny_bind (call.at ?_)
  dsimp only
  rw [tc_bind]
  refine wpAny_bind (wpAny_pure (wpAny_bind (wpAny_pure ?_)))
  refine wpAny_pure (a := Fin.again (.call (.builtin "type.__call__") ⟨.ref C :: rest, []⟩)) (And.intro rfl ?_)
  refine codeAny_call_builtin_at (Code.quiet_builtin _ (by decide +kernel)) entry_typeCall (check_slot tc_kind tc_split typ (tc_args _ _ _) ?_)
  repeat (first | with_reducible refine wpAny_loadPart_at hC ?_ | with_reducible refine wpAny_madeBy_exc hC ?_ | wp_step)
  refine codeAny_call_builtin_code (Code.quiet_builtin _ F.quiet) (exc_check hb hC ?_)
  refine exc_run hb ha hn hC ?_ hrest
  show wpAny _ _ _ _ _ _
  have k : ∀ b o, h.get? b = some o → ((h.push (tupNew rest)).push (excNew C h.objs.size)).get? b = some o := fun b o e => Heap.get?_push_of_some _ (Heap.get?_push_of_some _ e)
  have hx : ((h.push (tupNew rest)).push (excNew C h.objs.size)).get? (h.objs.size + 1) = some (excNew C h.objs.size) := by heap_get
  have t1 : Looks (model prog w) ((h.push (tupNew rest)).push (excNew C h.objs.size)) (typeOf (.ref (h.objs.size + 1))) (.ref C) := (Looks.ld hx).andThen .now
  have s1 : Looks (model prog w) ((h.push (tupNew rest)).push (excNew C h.objs.size)) (isSubtype (.ref C) (.ref C)) true := (looks_mroIn X hself).keeps k
  have i1 : Looks (model prog w) ((h.push (tupNew rest)).push (excNew C h.objs.size)) (typeLookup (.ref C) "__init__") (some (.ref fI)) := (looks_findIn X hi).keeps k
  have b1 := (bind_fn (M := model prog w) X (.ref (h.objs.size + 1)) hf).keeps k
  unfold isInstance callSpecial? specialOf
  repeat (first | with_reducible refine wpAny_call ?_ | lk)
  refine codeAny_mono hq fun r s' z => ?_
  rcases r with e | (v | _ | _ | _) <;> first | exact z | exact z.elim | skip
  obtain ⟨rfl, z⟩ := z
  exact wpAny_pure (wpAny_pure z)
end
end
section
open PySem PySem.W PyProof.Rows PySem.Calls PySem.Spec PySem.Builtin PySem.Builtin.ObjectAttr
section
noncomputable def isRfC (C : Addr) (v : Value) : Bool := match v with | .ref c => c == C | _ => false
noncomputable def isBi (n : String) (v : Option Value) : Bool := match v with | some (.builtin m) => m == n | _ => false
noncomputable def clsData (d : Data) : Option ClassData := match d with | .cls cd => some cd | _ => none
theorem isRfC_is {C : Addr} {v : Value} (h : isRfC C v = true) : v = .ref C := by
  unfold isRfC at h
  split at h
  · rw [eq_of_beq h]
  · cases h
theorem isBi_is {n : String} {v : Option Value} (h : isBi n v = true) : v = some (.builtin n) := by
  unfold isBi at h
  split at h
  · rw [eq_of_beq h]
  · cases h
theorem clsData_is {d : Data} {cd : ClassData} (h : clsData d = some cd) : d = .cls cd := by
  unfold clsData at h
  split at h
  · cases h; rfl
  · cases h
noncomputable def newExcB (C : Addr) (o : Obj) (cd : ClassData) : Bool := isTy o.cls "type" && o.slots.toList.length == 6 && (o.slots.toList[4]?).any (isBi "Exception.__new__") && cd.mro.head?.any (isRfC C) && !cd.hasDel && (Value.ref C :: cd.mro.tail).contains (.type "Exception") && !(Value.ref C :: cd.mro.tail).contains (.type "AttributeError") && !(Value.ref C :: cd.mro.tail).contains (.type "NameError")
noncomputable def newExcIn (K : Frag) (C : Addr) : Bool := (K.lookup C).any fun o => (clsData o.data).any fun cd => newExcB C o cd
theorem six_of {α : Type} {l : List α} (h : l.length = 6) : ∃ a b c d e f, l = [a, b, c, d, e, f] := by
  cases l with
  | nil => cases h
  | cons a l => cases l with
    | nil => cases h
    | cons b l => cases l with
      | nil => cases h
      | cons c l => cases l with
        | nil => cases h
        | cons d l => cases l with
          | nil => cases h
          | cons e l => cases l with
            | nil => cases h
            | cons f l => cases List.length_eq_zero_iff.1 (Nat.add_right_cancel (m := 6) (k := 0) h); exact ⟨a, b, c, d, e, f, rfl⟩
theorem head_is {l : List Value} {p : Value → Bool} (h : l.head?.any p = true) : ∃ v, p v = true ∧ l = v :: l.tail := by
  cases l with
  | nil => cases h
  | cons v r => exact ⟨v, h, rfl⟩
theorem cls_obj {o : Obj} {cd : ClassData} {C : Addr} {bm : List Value} {k0 k1 k2 k3 k4 k5 : Option Value} (h1 : o.cls = .type "type") (h2 : o.data = .cls cd) (h3 : o.slots.toList = [k0, k1, k2, k3, k4, k5]) (h4 : cd.mro = .ref C :: bm) (h5 : cd.hasDel = false) (h6 : k4 = some (.builtin "Exception.__new__")) :
    o = excClassObj cd.name cd.qualname C cd.ns cd.bases bm cd.hasDict cd.slotNames cd.subclasses cd.abstract cd.collection o.dict k0 k1 k2 k3 k5 "Exception.__new__" := by
  cases o with
  | mk cls dict data slots => cases cd with
    | mk nm bs mro ns qn hd sn sub ab col del => cases slots with
      | mk l => cases h1; cases h2; cases h3; cases h4; cases h5; cases h6; rfl
theorem newExc_cls {K : Frag} {h : Heap} {C : Addr} (X : K.In h) (q : newExcIn K C = true) : ∃ nm qn N bs bm hdct sn sub ab col dd k0 k1 k2 k3 k5,
    h.get? C = some (excClassObj nm qn C N bs bm hdct sn sub ab col dd k0 k1 k2 k3 k5 "Exception.__new__") ∧ (Value.ref C :: bm).contains (.type "Exception") = true ∧ (Value.ref C :: bm).contains (.type "AttributeError") = false ∧ (Value.ref C :: bm).contains (.type "NameError") = false := by
  obtain ⟨o, ho, q⟩ := any_some q
  obtain ⟨cd, hd, q⟩ := any_some q
  unfold newExcB at q
  simp only [Bool.and_eq_true, beq_iff_eq, Bool.not_eq_true'] at q
  obtain ⟨⟨⟨⟨⟨⟨⟨a1, a2⟩, a3⟩, a4⟩, a5⟩, h1⟩, h2⟩, h3⟩ := q
  obtain ⟨k0, k1, k2, k3, k4, k5, e⟩ := six_of a2
  obtain ⟨v, hv, ev⟩ := head_is a4
  rw [isRfC_is hv] at ev
  rw [e] at a3
  exact ⟨_, _, _, _, _, _, _, _, _, _, _, _, _, _, _, _, (X _ _ ho).trans (congrArg some (cls_obj (isTy_is a1) (clsData_is hd) e ev a5 (isBi_is a3))), h1, h2, h3⟩
variable {prog : Program} {w : World} {A : Around} {E : Value → Shared → Prop} {s : Shared} {K : Frag} {C L : Addr} {h₀ : Heap} {m : Str → Option Value} {news : List (Addr × Obj)}
theorem exc_cls {pos : List Value} {fI : Addr} {Q : Value → Shared → Prop} (F : Fr h₀ L s.heap m) (X₀ : K.In h₀) (N : News h₀ L s.heap news) (hc : newExcIn K C = true)
    (hcl : specialIn K (.ref C) "__call__" = some (some (.builtin "type.__call__"))) (hty : instIn K (.ref C) (.type "type") = some true)
    (hself : mroIn K C (.ref C) = some true) (hi : findIn K (.ref C) "__init__" = some (some (.ref fI))) (hf : typeIn K (.ref fI) = some (.type "function"))
    (h : ∀ x tp h', Fr h₀ L h' m → News h₀ L h' ((x, excObj C tp none) :: (tp, tupNew pos) :: news) → (∀ p ∈ news, p.1 < tp) → tp < x →
      codeAny (model prog w) (A.under (.builtin "type.__call__" ⟨.ref C :: pos, []⟩)) (.call (.ref fI) ⟨.ref x :: pos, []⟩) (InitBack x fun r s' => match r with | .ok (.ret v) => Q v s' | .ok _ => False | .error e => E e s') { s with heap := h' })
    (hrest : pos.length ≤ sizeLine) :
    wpAny (model prog w) A (call (.ref C) pos []) Q E s := by
  have X := X₀.keeps F.keep
  obtain ⟨nm, qn, NS, bs, bm, hdct, sn, sub, ab, col, dd, k0, k1, k2, k3, k5, hC, h1, h2, h3⟩ := newExc_cls X hc
  have F1 := F.push (tupNew pos)
  have N1 := News.push F N (tupNew pos)
  have F2 := F1.push (excObj C s.heap.objs.size none)
  have N2 := News.push F1 N1 (excObj C s.heap.objs.size none)
  rw [Heap.size_push] at N2
  refine wpAny_call (exc_make X h1 h2 h3 hC hcl hty hself hi hf ?_ hrest)
  exact h _ _ _ F2 N2 (fun p hp => Heap.lt_size (N p hp).1) (Nat.lt_succ_self _)
end
end
section
open PySem PySem.W PyProof.Rows PySem.Calls PySem.Spec PySem.Builtin PySem.Builtin.ObjectAttr
section
noncomputable abbrev hotObj (C d : Addr) (vs : Array Value) : Obj := { cls := .ref C, dict := some d, data := .fields vs }
noncomputable def HotAt (h base : Heap) (e C d : Addr) (fl : Value) : Prop :=
  ∃ vs T oT ts, h.get? e = some (hotObj C d vs) ∧ vs[1]? = some (.ref T) ∧ base.get? T = none ∧ T ≠ e ∧ h.get? T = some oT ∧ oT.data = .fields ts ∧ ts[3]? = some fl
noncomputable def HotD (base : Heap) (l : List Env) (e C d : Addr) (fl : Value) (h : Heap) : Prop :=
  base.StaysIn h ∧ base.get? e = none ∧ h.FunFrames base l ∧ HotAt h base e C d fl
variable {M : Model} {A : Around} {E : Value → Shared → Prop} {s : Shared} {base : Heap} {env : Env} {outer : List Env} {L e C d : Addr} {Q : Unit → Shared → Prop}
theorem mem_set1 (vs : Array Value) (v : Value) (h : 1 < vs.size) : (vs.setIfInBounds 1 v)[1]? = some v := by simp [h]
theorem entryD {vs : Array Value} {head : Value} {hadNext : Bool} (hfr : A.frames = some (env :: outer)) (hl : s.heap.FunFrames base (env :: outer)) (hf : env.frame = some L)
    (he : s.heap.get? e = some (hotObj C d vs)) (hkb : base.StaysIn s.heap) (hen : base.get? e = none) (hsz : 1 < vs.size)
    (h : ∀ h', HotD base (env :: outer) e C d (rawInt L) h' → s.heap.UpToSlots h' → Q () { s with heap := h' }) :
    wpAny M A (do let a ← frameOf env; let pl ← entryPlaceOf L hadNext; let b ← EntryCells.newEntry head a .none (rawInt L) .none pl; setField (.ref e) 1 b) Q E s := by
  have nofields : ∀ b o, s.heap.get? b = some o → (∀ ws, o.data ≠ .fields ws) → b ≠ e := fun b o hb hn z => by
    subst z; rw [he] at hb; cases hb; exact hn vs rfl
  have notframe : e ∉ (env :: outer).filterMap (·.frame) := fun hm => by
    obtain ⟨_, o, ho, hn⟩ := hl.mem hm
    exact nofields e o ho hn rfl
  refine wpAny_bind (wpAny_frameOf_fun hfr hl hf fun h₁ S => wpAny_bind (wpAny_entryPlaceOf fun pl hpl => ?_))
  unfold EntryCells.newEntry newFields
  refine wpAny_bind (wpAny_newObj_type ?_ (hpl.sizeOk5 _ _ _ _ _))
  have e1 : h₁.get? e = some (hotObj C d vs) := (S.2.1 e notframe).trans he
  have e2 := Heap.get?_push_of_some { cls := .type "traceback", dict := none, data := .fields ([head, .ref L, .none, rawInt L, .none] ++ (if pl.isEmpty then List.replicate 6 Value.none else pl)).toArray } e1
  have tne : h₁.objs.size ≠ e := Nat.ne_of_gt (Heap.lt_size e1)
  refine wpAny_setField e2 rfl hsz (h _ ?_ ?_)
  · have k1 : base.StaysIn h₁ := fun b o hb => (S.2.1 b fun hm => by rw [(hl.mem hm).1] at hb; cases hb).trans (hkb b o hb)
    have keep : ∀ b o, b ≠ e → h₁.get? b = some o → ((h₁.push { cls := .type "traceback", dict := none, data := .fields ([head, .ref L, .none, rawInt L, .none] ++ (if pl.isEmpty then List.replicate 6 Value.none else pl)).toArray }).update e (Obj.mapFields (·.setIfInBounds 1 (Value.ref h₁.objs.size)))).get? b = some o := fun b o hb q => by
      rw [Heap.get?_update_other _ _ (Ne.symm hb)]; exact Heap.get?_push_of_some _ q
    refine ⟨fun b o hb => keep b o (fun z => by rw [z, hen] at hb; cases hb) (k1 b o hb), hen, hl.of_keeps fun b o hb hn => ?_, ?_⟩
    · obtain ⟨sl, hs⟩ := S.2.2 b o hb
      exact ⟨_, keep b _ (nofields b o hb hn) hs, rfl⟩
    · refine ⟨vs.setIfInBounds 1 (.ref h₁.objs.size), h₁.objs.size, _, _, Heap.get?_update_self _ e2 rfl, mem_set1 _ _ hsz, k1.fresh, tne, (Heap.get?_update_other _ _ (Ne.symm tne)).trans (Heap.get?_push_size h₁ rfl), rfl, ?_⟩
      · first | (simp; done) | (rcases hpl with rfl | ⟨_, _, _, _, _, _, _, rfl⟩ <;> simp)
  · intro b o hb hn
    obtain ⟨sl, hs⟩ := S.2.2 b o hb
    refine ⟨sl, ?_⟩
    rw [Heap.get?_update_other _ _ (Ne.symm (nofields b o hb hn))]
    exact Heap.get?_push_of_some _ hs
theorem landD {l : List Env} {fl : Value} (hh : HotD base l e C d fl s.heap) (h : ∀ h', HotD base l e C d .none h' → s.heap.UpToSlots h' → Q () { s with heap := h' }) : wpAny M A (setFlight (.ref e) none) Q E s := by
  obtain ⟨f1, f2, f3, vs, T, oT, ts, he, h1, hT, hTe, hoT, hd, h3⟩ := hh
  have sz : 3 < ts.size := (Array.getElem?_eq_some_iff.mp h3).1
  unfold setFlight
  refine wpAny_bind (wpAny_field he rfl h1 ?_)
  rw [if_pos (show (Value.ref T != Value.none) = true from by simp)]
  have other : ∀ b, b ≠ T → (s.heap.update T (Obj.mapFields (·.setIfInBounds 3 ((none : Option Addr).elim Value.none fun f => rawInt f)))).get? b = s.heap.get? b := fun b hb => Heap.get?_update_other _ _ (Ne.symm hb)
  have nof : ∀ b o, s.heap.get? b = some o → (∀ ws, o.data ≠ .fields ws) → b ≠ T := fun b o hb hn z => by
    subst z; rw [hoT] at hb; cases hb; exact hn ts hd
  refine wpAny_setField hoT hd sz (h _ ⟨fun b o hb => (other b fun z => by rw [z, hT] at hb; cases hb).trans (f1 b o hb), f2, f3.of_keeps fun b o hb hn => ⟨o, (other b (nof b o hb hn)).trans hb, rfl⟩, ?_⟩ fun b o hb hn => ⟨o.slots, (other b (nof b o hb hn)).trans hb⟩)
  exact ⟨vs, T, _, _, (other e (Ne.symm hTe)).trans he, h1, hT, hTe, Heap.get?_update_self _ hoT (Obj.isFreed_of_fields (Obj.data_mapFields hd _)), Obj.data_mapFields hd _, by simp [sz]⟩
theorem leaveD {t : Addr} (hfr : A.frames = some (env :: outer)) (hl : s.heap.FunFrames base (env :: outer)) (hf : env.frame = some L) (he : s.heap.get? e = some (excObj C t (some d))) (hkb : base.StaysIn s.heap) (hen : base.get? e = none)
    (h : ∀ h', HotD base outer e C d .none h' → s.heap.UpToSlots h' → Q () { s with heap := h' }) : wpAny M A (leaving env (.ref e)) Q E s := by
  unfold leaving noteFrame
  simp only [hf]
  refine wpAny_bind (wpAny_bind (wpAny_field (x := .none) he rfl rfl ?_))
  rw [if_neg (by decide)]
  refine entryD hfr hl hf he hkb hen (Nat.le_of_ble_eq_true rfl) fun h' H U => ?_
  refine landD H fun h'' H' U' => ?_
  obtain ⟨k1, k2, ⟨_, _, k3⟩, k4⟩ := H'
  exact h h'' ⟨k1, k2, k3, k4⟩ (U.trans U')
theorem lookD (hfr : A.frames = some (env :: outer)) (hf : env.frame = some L) (hh : HotD base (env :: outer) e C d .none s.heap)
    (h : ∀ h', HotD base (env :: outer) e C d (rawInt L) h' → s.heap.UpToSlots h' → Q () { s with heap := h' }) : wpAny M A (noteFrame (.ref e) env) Q E s := by
  obtain ⟨f1, f2, f3, vs, T, oT, ts, he, h1, hT, hTe, hoT, hd, h3⟩ := hh
  have sz : 3 < ts.size := (Array.getElem?_eq_some_iff.mp h3).1
  unfold noteFrame
  simp only [hf]
  refine wpAny_bind (wpAny_field he rfl h1 ?_)
  rw [if_pos (show (Value.ref T != Value.none) = true from by simp)]
  refine wpAny_bind (wpAny_field hoT hd h3 ?_)
  rw [if_neg (show ¬ ((Value.none == rawInt L) = true) from by simp [rawInt])]
  refine wpAny_bind (wpAny_setField hoT hd sz ?_)
  have other : ∀ b, b ≠ T → (s.heap.update T (Obj.mapFields (·.setIfInBounds 3 Value.none))).get? b = s.heap.get? b := fun b hb => Heap.get?_update_other _ _ (Ne.symm hb)
  have nof : ∀ b o, s.heap.get? b = some o → (∀ ws, o.data ≠ .fields ws) → b ≠ T := fun b o hb hn z => by
    subst z; rw [hoT] at hb; cases hb; exact hn ts hd
  refine entryD hfr (f3.of_keeps fun b o hb hn => ⟨o, (other b (nof b o hb hn)).trans hb, rfl⟩) hf ((other e (Ne.symm hTe)).trans he) (fun b o hb => (other b fun z => by rw [z, hT] at hb; cases hb).trans (f1 b o hb)) f2
    (Array.getElem?_eq_some_iff.mp h1).1 fun h' H U => h h' H fun b o hb hn => U b o ((other b (nof b o hb hn)).trans hb) hn
end
end
section
open PySem PySem.W PyProof.Rows PySem.Calls PySem.Spec PySem.Builtin PySem.Builtin.ObjectAttr
section
noncomputable def RaisedD (base G : Heap) (l : List Env) (e C d : Addr) (news : List (Addr × Obj)) (h : Heap) : Prop :=
  ∃ B, base.StaysIn B ∧ (∀ b o, G.get? b = some o → b ∉ l.filterMap (·.frame) → B.get? b = some o) ∧ (∀ q ∈ news, B.get? q.1 = some q.2 ∧ G.get? q.1 = none ∧ base.get? q.1 = none) ∧ G.get? e = none ∧ HotD B l e C d .none h
section
variable {M : Model} {A : Around} {E : Value → Shared → Prop} {s' : Shared} {base g : Heap} {outer : List Env} {L a e t C d : Addr} {m : Str → Option Value} {name : Str} {scope : Scope} {cd : Value} {Q : Unit → Shared → Prop} {news : List (Addr × Obj)}
theorem leave_raiseD (K : Below A base outer g) (F : Fr g L s'.heap m) (N : News g L s'.heap ((e, excObj C t (some d)) :: news)) (ne : ∀ q ∈ news, q.1 ≠ e)
    (hQ : ∀ h', RaisedD base g outer e C d news h' → g.UpToSlots h' → Q () { s' with heap := h' }) (hk : scope.kind = .function := by rfl) :
    wpAny M (A.deeper (envOf name scope L a cd)) (leaving (envOf name scope L a cd) (.ref e)) Q E s' := by
  have K' := K.push (name := name) (a := a) (cd := cd) F hk
  have he := N _ (.head _)
  have noframe : ∀ b o, s'.heap.get? b = some o → b ∈ (envOf name scope L a cd :: outer).filterMap (·.frame) → ∀ ws, o.data ≠ .fields ws := fun b o hb hm ws q => by
    obtain ⟨_, o', ho', hn⟩ := K'.frames.mem hm
    rw [hb] at ho'; cases ho'; exact hn ws q
  have hin : ∀ env ∈ (envOf name scope L a cd :: outer), ∀ b, env.frame = some b → b ∈ e :: (envOf name scope L a cd :: outer).filterMap (·.frame) := fun env he b hb => .tail _ (List.mem_filterMap.mpr ⟨env, he, hb⟩)
  have st : base.StaysIn (hideAll s'.heap (e :: (envOf name scope L a cd :: outer).filterMap (·.frame))) := fun b o q => hideAll_get _ (K'.stays b o q) fun hm => by
    rcases List.mem_cons.mp hm with rfl | hm
    · have := fresh_of_stays K.stays he.2.2
      rw [this] at q; cases q
    · rw [(K'.frames.mem hm).1] at q; cases q
  have sg : ∀ b o, g.get? b = some o → b ∉ outer.filterMap (·.frame) → (hideAll s'.heap (e :: (envOf name scope L a cd :: outer).filterMap (·.frame))).get? b = some o := fun b o q nm => hideAll_get _ (F.keep b o q) fun hm => by
    rcases List.mem_cons.mp hm with rfl | hm
    · rw [he.2.2] at q; cases q
    · rcases kts_mem hm with z | z
      · rw [z, kts_self F] at q; cases q
      · exact nm z
  have hl : ∀ q ∈ news, (hideAll s'.heap (e :: (envOf name scope L a cd :: outer).filterMap (·.frame))).get? q.1 = some q.2 ∧ g.get? q.1 = none ∧ base.get? q.1 = none := fun q hq => by
    have Nq := N q (.tail _ hq)
    refine ⟨hideAll_get _ Nq.1 fun hm => ?_, Nq.2.2, fresh_of_stays K.stays Nq.2.2⟩
    rcases List.mem_cons.mp hm with z | hm
    · exact ne q hq z
    · rcases kts_mem hm with z | z
      · exact Nq.2.1 z
      · obtain ⟨o, ho, _⟩ := (K.frames.mem z).2
        rw [Nq.2.2] at ho; cases ho
  refine leaveD (base := hideAll s'.heap (e :: (envOf name scope L a cd :: outer).filterMap (·.frame))) K'.stack (funFrames_hide K'.frames hin) rfl he.1 (fun b o q => of_hideAll _ q) (hideAll_none _ (.head _)) fun h' H U => ?_
  exact hQ h' ⟨_, st, sg, hl, he.2.2, H⟩ ((Heap.UpToSlots.of_keeps F.keep).trans U)
end
section
variable {prog : Program} {w : World} {A₀ : Around} {E : Value → Shared → Prop} {s' : Shared} {base g g₀ G : Heap} {outer : List Env} {L a e C d : Addr} {m : Str → Option Value} {name : Str} {scope : Scope} {cd : Value}
  {n : Str} {b₀ : Stmt} {suite : List Stmt} {pos np : Pos} {rest : List ExceptHandler} {Q : Flow → Shared → Prop} {news : List (Addr × Obj)} {KF : Frag}
  {p : Program} {loose : List Str} {mean : ExcName → Option Value} {mg mb : Str → Option Value} {x : Str}
theorem caughtD (R : RaisedD base G (envOf name scope L a cd :: outer) e C d news s'.heap) (F : Fr g L G m) (K : Below A₀ base outer g) (hsm : G.UpToSlots s'.heap) (XB : KF.In base) (TB : Top p loose mean mg mb base)
    (D : KtsDicts (outer.filterMap (·.frame)) g) (T0 : KtsTurn (outer.filterMap (·.frame)) g₀ g)
    (ex : nsIn KF mainGlobals x = some (some (.ref C))) (q : ktsIn KF C "BaseException" = true)
    (k : ∀ h' g' vs tk, KtsTurn (outer.filterMap (·.frame)) g₀ g' → Fr g' L h' (fun y => if y = n then some (.ref e) else m y) → News g' L h' ((e, hotObj C d vs) :: news) → Below A₀ base outer g' → KF.In g' → Top p loose mean mg mb g' → KtsDicts (outer.filterMap (·.frame)) g' →
      wpAny (model prog w) ((A₀.deeper (envOf name scope L a cd)).mark (some (.ref e))) (execs (b₀ :: suite) (envOf name scope L a cd))
        (fun f s₄ => wpAny (model prog w) (A₀.deeper (envOf name scope L a cd)) (do bindName (envOf name scope L a cd) n .none; unbindBehindTheSuite (envOf name scope L a cd) n pos) (fun _ s₅ => Q f s₅) E s₄)
        (AsSuiteRaised (model prog w) ((A₀.deeper (envOf name scope L a cd)).mark (some (.ref e))) (envOf name scope L a cd) n pos (notedBy (model prog w) ((A₀.deeper (envOf name scope L a cd)).mark (some (.ref e))) (envOf name scope L a cd) (cameBackBy (model prog w) (A₀.deeper (envOf name scope L a cd)) (envOf name scope L a cd) E)))
        { s' with heap := h', toks := tk })
    (hk : scope.kind = .function := by rfl) (hlo : (envOf name scope L a cd).kindOf n = some .local := by rfl) (hx : (envOf name scope L a cd).kindOf x = some .globalImplicit := by rfl) (hd : (x == ("__debug__" : Str)) = false := by decide) :
    wpAny (model prog w) (A₀.deeper (envOf name scope L a cd)) (noteFrame (.ref e) (envOf name scope L a cd))
      (fun _ s₂ => wpAny (model prog w) (A₀.deeper (envOf name scope L a cd)) (setFlight (.ref e) none) (fun _ s₃ =>
        wpAny (model prog w) (A₀.deeper (envOf name scope L a cd)) (handleBy (.ref e) (envOf name scope L a cd) (.ExceptHandler (some (.Name x np)) (some n) (b₀ :: suite) pos :: rest)) Q E s₃) E s₂) E s' := by
  obtain ⟨B, hB, hBG, hl, hGe, hfl⟩ := R
  have hL : B.get? L = none := by
    obtain ⟨_, ⟨L', _, hf, hn', _⟩, _⟩ := hfl.2.2.1
    obtain rfl : L = L' := Option.some.inj hf
    exact hn'
  refine lookD (Around.frames_deeper K.stack) rfl hfl fun h₄ H₄ U₄ => ?_
  refine landD H₄ fun h₅ H₅ U₅ => ?_
  have U₅' := hsm.trans (U₄.trans U₅)
  obtain ⟨g₅, T₅, F₅, K₅⟩ := kts_ground K F hBG H₅.1 U₅'
  have X₅ : KF.In g₅ := XB.keeps K₅.stays
  have P₅ : TopRead p loose mg mb g₅ := topRead_of (TB.keeps K₅.stays)
  obtain ⟨vs₅, _, _, _, hob, _⟩ := H₅.2.2.2
  obtain ⟨nm, q', N, bs, bm, hdct, sn, sub, ab, col, dd, k0, k1, k2, k3, k5, newId, hC, hbase, hbT⟩ := kts_cls X₅ q
  have hC₅ := F₅.keep _ _ hC
  refine wpAny_handleBy_cons (codeAny_handlers_test (name_K F₅ X₅ P₅ ex ?_ hk hx hd)) (by intro q; cases q)
  refine wpAny_excMatches_sub_self hC₅ hob rfl hbase (codeAny_handlers_suite_as ?_)
  refine landD H₅ fun h₆ H₆ U₆ => ?_
  obtain ⟨g₆, T₆, F₆, K₆⟩ := kts_ground K F hBG H₆.1 (U₅'.trans U₆)
  obtain ⟨vs₆, _, _, _, he₆, _⟩ := H₆.2.2.2
  have ne₆ : g₆.get? e = none := T₆.none_ _ (kts_none F.keep hGe)
  have N₆ := News.more F₆ News.nil he₆ (fun es n q => by cases q) ne₆
  have Nl : News g₆ L h₆ news := fun q hq => ⟨H₆.1 _ _ (hl q hq).1, (fun z => by have := (hl q hq).1; rw [z, hL] at this; cases this), T₆.none_ _ (kts_none F.keep (hl q hq).2.1)⟩
  have X₆ : KF.In g₆ := XB.keeps K₆.stays
  have P₆ : Top p loose mean mg mb g₆ := TB.keeps K₆.stays
  have D₆ : KtsDicts (outer.filterMap (·.frame)) g₆ := D.turn T₆
  refine stN F₆ (news := (e, hotObj C d vs₆) :: news) (fun q hq => ?_) (fun h₇ F₇ N₇ => ?_) hk hlo
  · rcases List.mem_cons.mp hq with rfl | hq
    · exact N₆ _ (.head _)
    · exact Nl q hq
  · exact k h₇ g₆ _ _ (T0.trans T₆) F₇ N₇ K₆ X₆ P₆ D₆
end
end
end
section
open PySem PySem.W PyProof.Rows PySem.Calls PySem.Spec
local macro_rules | `(tactic| k_room) => `(tactic| ktr_room)
local macro_rules | `(tactic| k_units) => `(tactic| ktr_units)
local macro_rules | `(tactic| k_all) => `(tactic| assumption)
local macro_rules | `(tactic| walk_at "execs cons") => `(tactic| (with_reducible refine gen_toks ?_; intro tk))
local macro_rules | `(tactic| walk_at "execs nil") => `(tactic| (with_reducible refine gen_toks ?_; intro tk))
local macro_rules | `(tactic| ktr_room) => `(tactic| first | exact room2 (by assumption) rfl | exact room1 (by assumption) rfl | exact room0 (by assumption) | exact room3 (by assumption) rfl | exact roomM (by assumption) (by first | exact Nat.le_refl _ | exact Nat.le_max_left _ _ | exact Nat.le_max_right _ _ | exact le_m1 | exact le_m2) rfl | exact roomM2 (by assumption) rfl | exact roomM1 (by assumption) rfl | exact roomM0 (by assumption) | fail)
local macro_rules | `(tactic| ktr_units) => `(tactic| ktr_room)
local macro_rules | `(tactic| units_room) => `(tactic| ktr_room)
local macro_rules | `(tactic| k_ne) => `(tactic| (refine neN ?_; (try dsimp only); first | (apply Nat.ne_of_lt; (first | assumption | (apply And.left; assumption) | (apply And.left; apply And.right; assumption) | (apply And.left; apply And.right; apply And.right; assumption) | (apply And.left; apply And.right; apply And.right; apply And.right; assumption) | (apply And.left; apply And.right; apply And.right; apply And.right; apply And.right; assumption) | (apply And.left; apply And.right; apply And.right; apply And.right; apply And.right; apply And.right; assumption) | (apply And.left; apply And.right; apply And.right; apply And.right; apply And.right; apply And.right; apply And.right; assumption) | (apply And.left; apply And.right; apply And.right; apply And.right; apply And.right; apply And.right; apply And.right; apply And.right; assumption) | fail)) | (apply Nat.ne_of_gt; (first | assumption | (apply And.left; assumption) | (apply And.left; apply And.right; assumption) | (apply And.left; apply And.right; apply And.right; assumption) | (apply And.left; apply And.right; apply And.right; apply And.right; assumption) | (apply And.left; apply And.right; apply And.right; apply And.right; apply And.right; assumption) | (apply And.left; apply And.right; apply And.right; apply And.right; apply And.right; apply And.right; assumption) | (apply And.left; apply And.right; apply And.right; apply And.right; apply And.right; apply And.right; apply And.right; assumption) | (apply And.left; apply And.right; apply And.right; apply And.right; apply And.right; apply And.right; apply And.right; apply And.right; assumption) | fail)) | fail))
local macro_rules | `(tactic| walk_at "ite") => `(tactic| first | with_reducible refine iteT ?_ | with_reducible refine iteF ?_ | fail)
local macro_rules | `(tactic| walk_at "eval Name") => `(tactic| (k_dflt (refine' nameX_L ?F ?v ?_ ?a ?b; (case F => k_asm); (case a => rfl); (case b => rfl); (case v => rfl); k_whole)))
local macro_rules | `(tactic| walk_at $s:str) => `(tactic| k_extra $s)
local macro_rules | `(tactic| walk_at "exec While") => `(tactic| (k_here; k_dflt (refine whl_start 100 ?_)))
local macro_rules | `(tactic| walk_at "subscriptTail Attribute") => `(tactic| (k_here; k_dflt (refine kba_turn (value' := PySem.Expr.Name (PySem.Str.ofString "_") ⟨0, 0, 0, 0⟩) (fun _ => rfl) ?_)))
section
open PySem PySem.W PyProof.Rows PySem.Calls PySem.Spec
theorem kw19 : True := by
  k_with_none
  (k_with "pv" => first | (apply GV.name P; exact rfl; exact ⟨rfl, rfl⟩) | (apply GV.attr P; exact rfl; exact ⟨rfl, rfl⟩; (first | k_mem | assumption); (first | k_mem | assumption); (with_reducible first | exact own0 | exact own1 | exact own2 | exact own3 | exact own4 | exact own5 | exact own6 | exact own7 | exact own8 | exact own9 | exact own10); k_get; k_handed) | apply GV.bool | apply GV.none | (apply GC.toV; k_extra "pc"; exact rfl) | (apply GV.and2; k_extra "pv"; k_extra "pv") | (apply GV.or2; k_extra "pv"; k_extra "pv"))
  (k_with "pi" => first | apply GI.const | (apply GV.toI; k_extra "pv") | (apply GI.add; k_extra "pi"; k_extra "pi") | (apply GI.sub; k_extra "pi"; k_extra "pi") | (apply GI.band; k_extra "pi"; k_extra "pi"))
  (k_with "ps" => first | apply GS.const | (apply GV.toS; k_extra "pv"))
  (k_with "pc" => first | (apply GC.eqS; k_extra "ps"; k_extra "ps") | (apply GC.eqI; k_extra "pi"; k_extra "pi") | (apply GC.neS; k_extra "ps"; k_extra "ps") | (apply GC.neI; k_extra "pi"; k_extra "pi") | (apply GC.ltI; k_extra "pi"; k_extra "pi") | (apply GC.leI; k_extra "pi"; k_extra "pi") | (apply GC.gtI; k_extra "pi"; k_extra "pi") | (apply GC.geI; k_extra "pi"; k_extra "pi"))
  (k_with "pt" => first | (apply GC.toT; k_extra "pc"; exact rfl) | (apply GT.not; k_extra "pt") | (apply GV.toT; k_extra "pv"; exact rfl))
  (k_with "pa" => first | apply GI.const | apply GS.const | (apply GV.toA; k_extra "pv") | (apply GI.add; k_extra "pi"; k_extra "pi") | (apply GI.sub; k_extra "pi"; k_extra "pi") | (apply GI.band; k_extra "pi"; k_extra "pi"))
  (k_with "exec If" => ((with_reducible show wpAny _ _ (exec (Stmt.If _ _ _ _) _) _ _ _); k_dflt (refine ifP (by k_asm) (by k_asm) (by k_asm) (by first | exact rfl | assumption) rfl (by intro c P; k_extra "pt") ?_; k_whole); intro tk))
  (k_with "exec Return some" => ((with_reducible show wpAny _ _ (exec (Stmt.Return (some _) _) _) _ _ _); k_dflt (refine retP (by k_asm) (by k_asm) (by k_asm) (by first | exact rfl | assumption) rfl (by intro c P; k_extra "pa") ?_; k_whole); intro t tk))
  (k_with "exec Assign" => ((with_reducible show wpAny _ _ (exec (Stmt.Assign [Expr.Name _ _] _ _) _) _ _ _); k_dflt (refine asgP (by k_asm) (by k_asm) (by k_asm) (by first | exact rfl | assumption) rfl (by intro c P; k_extra "pa") (by exact ⟨rfl, rfl⟩) (by exact rfl) ?_; k_whole); intro t h' tk F' N'))
  (k_with "eval Call" => ((with_reducible show wpAny _ _ (eval (Expr.Call (Expr.Name _ _) (_ :: _) [] _) _) _ _ _); k_dflt (first | ((with_reducible show wpAny _ _ (eval (Expr.Call _ [_] [] _) _) _ _ _); refine callP1 (by k_asm) (by k_asm) (by k_asm) (by k_asm) (by first | exact rfl | assumption) rfl (by with_reducible first | exact gf0 | exact gf1 | exact gf2 | exact gf3 | exact gf4 | exact gf5 | exact gf6 | exact gf7 | exact gf8 | exact gf9 | exact gf10 | exact gf11 | exact gf12 | exact gf13 | exact gf14 | exact gf15) (by exact ⟨rfl, rfl⟩) (by exact rfl) (by intro c P; k_extra "pa") ?_; k_whole; intro u1 tk) | ((with_reducible show wpAny _ _ (eval (Expr.Call _ [_, _] [] _) _) _ _ _); refine callP2 (by k_asm) (by k_asm) (by k_asm) (by k_asm) (by first | exact rfl | assumption) rfl (by with_reducible first | exact gf0 | exact gf1 | exact gf2 | exact gf3 | exact gf4 | exact gf5 | exact gf6 | exact gf7 | exact gf8 | exact gf9 | exact gf10 | exact gf11 | exact gf12 | exact gf13 | exact gf14 | exact gf15) (by exact ⟨rfl, rfl⟩) (by exact rfl) (by intro c P; k_extra "pa") (by intro c P; k_extra "pa") ?_; k_whole; intro u1 u2 tk) | ((with_reducible show wpAny _ _ (eval (Expr.Call _ [_, _, _] [] _) _) _ _ _); refine callP3 (by k_asm) (by k_asm) (by k_asm) (by k_asm) (by first | exact rfl | assumption) rfl (by with_reducible first | exact gf0 | exact gf1 | exact gf2 | exact gf3 | exact gf4 | exact gf5 | exact gf6 | exact gf7 | exact gf8 | exact gf9 | exact gf10 | exact gf11 | exact gf12 | exact gf13 | exact gf14 | exact gf15) (by exact ⟨rfl, rfl⟩) (by exact rfl) (by intro c P; k_extra "pa") (by intro c P; k_extra "pa") (by intro c P; k_extra "pa") ?_; k_whole; intro u1 u2 u3 tk) | ((with_reducible show wpAny _ _ (eval (Expr.Call _ [_, _, _, _] [] _) _) _ _ _); refine callP4 (by k_asm) (by k_asm) (by k_asm) (by k_asm) (by first | exact rfl | assumption) rfl (by with_reducible first | exact gf0 | exact gf1 | exact gf2 | exact gf3 | exact gf4 | exact gf5 | exact gf6 | exact gf7 | exact gf8 | exact gf9 | exact gf10 | exact gf11 | exact gf12 | exact gf13 | exact gf14 | exact gf15) (by exact ⟨rfl, rfl⟩) (by exact rfl) (by intro c P; k_extra "pa") (by intro c P; k_extra "pa") (by intro c P; k_extra "pa") (by intro c P; k_extra "pa") ?_; k_whole; intro u1 u2 u3 u4 tk))))
  trivial
theorem fillW1 : (PySem.Challenge.rw_on0057_01, KQ) = (PySem.Challenge.rw_on0057_01, KQ) := by
  k_fill
  rfl

theorem top_bit {y : Int} (h0 : 0 ≤ y) (h1 : y < 4294967296) : Builtin.bitAnd y 2147483648 = if y > 2147483647 then 2147483648 else 0 := by
  obtain ⟨n, rfl⟩ := Int.eq_ofNat_of_zero_le h0
  unfold Builtin.bitAnd
  rw [decide_eq_true h0, decide_eq_true (by decide : (0 : Int) ≤ 2147483648)]
  have e : ((2147483648 : Int).toNat) = 2 ^ 31 := by decide
  show ((((n : Int).toNat &&& (2147483648 : Int).toNat : Nat)) : Int) = _
  rw [e, Int.toNat_natCast]
  have hb : n.testBit 31 = decide (n / 2 ^ 31 % 2 = 1) := Nat.testBit_eq_decide_div_mod_eq
  split
  · have q : n &&& 2 ^ 31 = 2 ^ 31 := by
      apply Nat.eq_of_testBit_eq
      intro i
      rw [Nat.testBit_and, Nat.testBit_two_pow]
      by_cases hi : 31 = i
      · subst hi; rw [hb, decide_eq_true (by omega)]; rfl
      · rw [decide_eq_false hi, Bool.and_false]
    rw [q]; rfl
  · have q : n &&& 2 ^ 31 = 0 := by
      apply Nat.eq_of_testBit_eq
      intro i
      rw [Nat.testBit_and, Nat.testBit_two_pow, Nat.zero_testBit]
      by_cases hi : 31 = i
      · subst hi; rw [hb, decide_eq_false (by omega)]; rfl
      · rw [decide_eq_false hi, Bool.and_false]
    rw [q]; rfl
theorem led_a {n : Int} {u : Bool} (h : u = true) : Builtin.bitAnd n 4294967295 = led32 n u := by
  rw [PyProof.Rows.bitAnd_m32]; unfold led32; rw [if_neg (by simp [h])]
theorem led_b {n : Int} {u : Bool} (h : u = false) (h2 : Builtin.bitAnd (Builtin.bitAnd n 4294967295) 2147483648 ≠ 0) : Builtin.bitAnd n 4294967295 - (4294967295 + 1) = led32 n u := by
  rw [PyProof.Rows.bitAnd_m32] at h2 ⊢
  rw [top_bit (Int.emod_nonneg _ (by decide)) (Int.emod_lt_of_pos _ (by decide))] at h2
  unfold led32
  split at h2
  · rw [if_pos ⟨by assumption, h⟩]; rfl
  · exact absurd rfl h2
theorem led_c {n : Int} {u : Bool} (h2 : Builtin.bitAnd (Builtin.bitAnd n 4294967295) 2147483648 = 0) : Builtin.bitAnd n 4294967295 = led32 n u := by
  rw [PyProof.Rows.bitAnd_m32] at h2 ⊢
  rw [top_bit (Int.emod_nonneg _ (by decide)) (Int.emod_lt_of_pos _ (by decide))] at h2
  unfold led32
  split at h2
  · exact absurd h2 (by decide)
  · rw [if_neg (by intro q; omega)]
section
variable {w : World} {mean : ExcName → Option Value} {mg mb : Str → Option Value} {dp un : Nat} {gd : Option (List Code)} {cn : Str} {cs : Scope} {a : Addr} {ccd : Value} {cl : List (Str × Addr)} {outer : List Env} {A₀ : Around} {base h₀ : Heap} {L : Addr} {m : Str → Option Value} {news : List (Addr × Obj)} {s : Shared} {Q E : Value → Shared → Prop}
noncomputable abbrev VRet (w : World) (h₀ : Heap) (L : Addr) (m : Str → Option Value) (news : List (Addr × Obj)) (s : Shared) (Q : Value → Shared → Prop) (n : Int) (u b : Bool) : Prop :=
  ∀ (x dx : Addr) (k1 k2 k3 t : Tok) (y : Int) (u' b' : Bool) (h' : Heap) (tk' : Nat), y = n → u' = u → b' = b → Fr h₀ L h' m → News h₀ L h' ((x, instObj 165 dx) :: (dx, vdict w y u' b' k1 k2 k3 t) :: news) → AllLt dx news → dx < x → Q (.ref x) { s with heap := h', toks := tk' }
noncomputable abbrev IRet (h₀ : Heap) (L : Addr) (m : Str → Option Value) (news : List (Addr × Obj)) (s : Shared) (Q : Value → Shared → Prop) (n : Int) : Prop :=
  ∀ (t : Tok) (y : Int) (h' : Heap) (tk' : Nat), y = n → Fr h₀ L h' m → News h₀ L h' news → Q (.int y t) { s with heap := h', toks := tk' }
noncomputable abbrev BRet (h₀ : Heap) (L : Addr) (m : Str → Option Value) (news : List (Addr × Obj)) (s : Shared) (Q : Value → Shared → Prop) (n : Bool) : Prop :=
  ∀ (y : Bool) (h' : Heap) (tk' : Nat), y = n → Fr h₀ L h' m → News h₀ L h' news → Q (.bool y) { s with heap := h', toks := tk' }
theorem VRet.of {n : Int} {u b : Bool} (h : ∀ (x dx : Addr) (k1 k2 k3 t : Tok) (h' : Heap) (tk' : Nat), Fr h₀ L h' m → News h₀ L h' ((x, instObj 165 dx) :: (dx, vdict w n u b k1 k2 k3 t) :: news) → AllLt dx news → dx < x → Q (.ref x) { s with heap := h', toks := tk' }) : VRet w h₀ L m news s Q n u b :=
  fun x dx k1 k2 k3 t y u' b' h' tk' e1 e2 e3 F N l1 l2 => by subst e1; subst e2; subst e3; exact h x dx k1 k2 k3 t h' tk' F N l1 l2
theorem IRet.of {n : Int} (h : ∀ (t : Tok) (h' : Heap) (tk' : Nat), Fr h₀ L h' m → News h₀ L h' news → Q (.int n t) { s with heap := h', toks := tk' }) : IRet h₀ L m news s Q n :=
  fun t y h' tk' e F N => by subst e; exact h t h' tk' F N
theorem BRet.of {n : Bool} (h : ∀ (h' : Heap) (tk' : Nat), Fr h₀ L h' m → News h₀ L h' news → Q (.bool n) { s with heap := h', toks := tk' }) : BRet h₀ L m news s Q n :=
  fun y h' tk' e F N => by subst e; exact h h' tk' F N
theorem mkval (n : Int) (t1 : Tok) (u b : Bool) (B : Below A₀ base outer h₀) (F : Fr h₀ L s.heap m) (X : (KQ w.params).In h₀) (N : News h₀ L s.heap news) (T : Top viewQ looseQ mean mg mb h₀) (hk : cs.kind = .function) 
    (hd : dp + 2 < recursionLimit) (hu : un + 16 < cLine)
    (ret : VRet w h₀ L m news s Q (led32 n u) u b) :
    wpAny (MQ w) (ktrTop dp un gd cn cs L a ccd cl outer) (call (.ref 165) [.int n t1, .bool u, .bool b]) Q E s := by
  (k_dflt (refine' call_cls ?k1 ?k2 ?k3 ?k4 ?k5 ?k6 ?_; (case k1 => k_asm); (case k2 => k_asm); (case k3 => k_asm); (case k4 => k_is); (case k5 => k_is); (case k6 => k_is); k_whole; intro x' d' h' F' N' l1 l2; (try k_lt l1); (try k_lt2 l2); (try k_sweep)))
  (k_dflt (refine' code_def (binds := [(Str.ofString "self", .ref x'), (Str.ofString "number", .int n t1), (Str.ofString "is_unsigned", .bool u), (Str.ofString "is_bad", .bool b)]) ?k1 ?k2 ?k3 ?k4 ?k5 ?kA ?kF ?kK ?k6 ?k7 ?k8 ?k9 ?kB ?_ ?c2 ?c3 ?c4 ?c5; (case kA | kF => exact rfl); (case kK => first | exact rfl | assumption); (case k1 | k2 | k3 | k4 | k5 => k_asm); (case k6 | k7 => k_is); (case k8 => ktr_room); (case k9 => exact BindsTo.of_eq rfl); (case c5 => decide); (case kB => exact locs rfl); (case c2 | c3 | c4 => exact rfl); k_whole; intro g' L' h' FG' F' N' B' X' T'; (try dsimp only); (try k_lift B'); (try k_fold)))
  k_steps
  all_goals first
    | exact ret _ _ _ _ _ _ _ _ _ _ _ (led_a (by assumption)) rfl rfl (by assumption) (by assumption) (by first | assumption | exact allLt_of (by assumption)) (by assumption)
    | exact ret _ _ _ _ _ _ _ _ _ _ _ (led_b (by assumption) (by assumption)) rfl rfl (by assumption) (by assumption) (by first | assumption | exact allLt_of (by assumption)) (by assumption)
    | exact ret _ _ _ _ _ _ _ _ _ _ _ (led_c (by assumption)) rfl rfl (by assumption) (by assumption) (by first | assumption | exact allLt_of (by assumption)) (by assumption)
theorem kw20 : True := by
  (k_with "call ref" => ((with_reducible show wpAny _ _ (call (Value.ref 165) [Value.int _ _, Value.bool _, Value.bool _]) _ _ _); k_dflt (refine' mkval _ _ _ _ (by k_asm) (by k_asm) (by k_asm) (by k_asm) (by k_asm) (by first | exact rfl | assumption) (by ktr_room) (by ktr_units) (VRet.of ?_); k_whole; intro x' dx' ka' kb' kc' kt' h' tk' F' N' l1 l2); (try simp only [AllLt, and_true] at l1); (try dsimp only); (try k_fold)))
  trivial
theorem truthC (p b : Bool) (B : Below A₀ base outer h₀) (F : Fr h₀ L s.heap m) (X : (KQ w.params).In h₀) (N : News h₀ L s.heap news) (T : Top viewQ looseQ mean mg mb h₀) (hk : cs.kind = .function) 
    (hd : dp + 6 < recursionLimit) (hu : un + 40 < cLine)
    (ret : VRet w h₀ L m news s Q (if p then 1 else 0) false b) :
    wpAny (MQ w) (ktrTop dp un gd cn cs L a ccd cl outer) (call (.ref 176) [.bool p, .bool b]) Q E s := by
  (k_dflt (refine enterK fd176 (bs := [(Str.ofString "is_so", .bool p), (Str.ofString "is_bad", .bool b)]) (by exact rfl) (by exact rfl) (by k_asm) (by k_asm) (by k_asm) (by k_asm) (by k_asm) (by first | exact rfl | assumption) (by ktr_room) ?_; k_whole); intro g' L' h' FG' F' N' B' X' T' tk' qk ek; (try k_lift B'))
  k_steps
  all_goals (refine ret _ _ _ _ _ _ _ _ _ _ _ ?_ (by first | rfl | assumption) (by first | rfl | assumption) (by assumption) (by assumption) (by assumption) (by assumption); simp_all; try decide)
theorem log_small {n : Nat} (h : n < 2 ^ 34) : n.log2 < 9000 := by
  by_cases z : n = 0
  · subst z; decide
  · exact Nat.lt_trans ((Nat.log2_lt z).mpr h) (by decide)
noncomputable def In33 (n : Int) : Prop := -4294967296 ≤ n ∧ n ≤ 4294967296
theorem quot_is {n k : Int} (hz : k ≠ 0) : (Int.fdiv (if n < 0 then -n else n) (if k < 0 then -k else k)) = if (n < 0 ↔ k < 0) then Int.tdiv n k else -(Int.tdiv n k) := by
  have h1 : (if n < 0 then -n else n) = (n.natAbs : Int) := by split <;> omega
  have h2 : (if k < 0 then -k else k) = (k.natAbs : Int) := by split <;> omega
  rw [h1, h2, Int.fdiv_eq_ediv_of_nonneg _ (Int.natCast_nonneg _)]
  rcases Int.natAbs_eq n with e1 | e1 <;> rcases Int.natAbs_eq k with e2 | e2 <;> rw [e1, e2] <;> simp only [Int.natAbs_neg, Int.natAbs_natCast, Int.neg_tdiv, Int.tdiv_neg, Int.neg_neg]
  all_goals (rw [Int.tdiv_eq_ediv_of_nonneg (Int.natCast_nonneg _)])
  all_goals (have hp : (0 : Int) ≤ (n.natAbs : Int) / (k.natAbs : Int) := Int.ediv_nonneg (Int.natCast_nonneg _) (Int.natCast_nonneg _))
  all_goals split <;> first | rfl | (rw [Int.neg_neg]; done) | skip
  all_goals (have : n.natAbs = 0 := by omega)
  all_goals (rw [this]; simp)
theorem kw21 : True := by
  (k_with "binaryOp FloorDiv int int" => ((with_reducible refine floordiv_int (by assumption) ?_ (Or.inl (PyProof.noPylong_of_log2 (by assumption))))))
  trivial
theorem quotC (n k : Int) (t1 t2 : Tok) (B : Below A₀ base outer h₀) (F : Fr h₀ L s.heap m) (X : (KQ w.params).In h₀) (N : News h₀ L s.heap news) (T : Top viewQ looseQ mean mg mb h₀) (hk : cs.kind = .function) (hz : k ≠ 0) (hb : In33 k)
    (hd : dp + 6 < recursionLimit) (hu : un + 40 < cLine)
    (ret : IRet h₀ L m news s Q (Int.tdiv n k)) :
    wpAny (MQ w) (ktrTop dp un gd cn cs L a ccd cl outer) (call (.ref 183) [.int n t1, .int k t2]) Q E s := by
  (k_dflt (refine enterK fd183 (bs := [(Str.ofString "one", .int n t1), (Str.ofString "two", .int k t2)]) (by exact rfl) (by exact rfl) (by k_asm) (by k_asm) (by k_asm) (by k_asm) (by k_asm) (by first | exact rfl | assumption) (by ktr_room) ?_; k_whole); intro g' L' h' FG' F' N' B' X' T' tk' qk ek; (try k_lift B'))
  have hz' : (if k < 0 then -k else k) ≠ 0 := by split <;> omega
  have hl' : (if k < 0 then -k else k).natAbs.log2 < 9000 := log_small (by unfold In33 at hb; split <;> omega)
  k_steps
  all_goals (refine ret _ _ _ _ ?_ (by assumption) (by assumption); rw [quot_is hz]; simp_all; done)
end
end
section
open PySem PySem.W PyProof.Rows PySem.Calls PySem.Spec
theorem kw22 : True := by
  k_with_none
  (k_with "pv" => first | (apply GV.name P; exact rfl; exact ⟨rfl, rfl⟩) | (apply GV.attr P; exact rfl; exact ⟨rfl, rfl⟩; (first | k_mem | assumption); (first | k_mem | assumption); (with_reducible first | exact own0 | exact own1 | exact own2 | exact own3 | exact own4 | exact own5 | exact own6 | exact own7 | exact own8 | exact own9 | exact own10); k_get; k_handed) | apply GV.bool | apply GV.none | (apply GC.toV; k_extra "pc"; exact rfl) | (apply GV.and2; k_extra "pv"; k_extra "pv") | (apply GV.or2; k_extra "pv"; k_extra "pv"))
  (k_with "pi" => first | apply GI.const | (apply GV.toI; k_extra "pv") | (apply GI.add; k_extra "pi"; k_extra "pi") | (apply GI.sub; k_extra "pi"; k_extra "pi") | (apply GI.band; k_extra "pi"; k_extra "pi"))
  (k_with "ps" => first | apply GS.const | (apply GV.toS; k_extra "pv"))
  (k_with "pc" => first | (apply GC.eqS; k_extra "ps"; k_extra "ps") | (apply GC.eqI; k_extra "pi"; k_extra "pi") | (apply GC.neS; k_extra "ps"; k_extra "ps") | (apply GC.neI; k_extra "pi"; k_extra "pi") | (apply GC.ltI; k_extra "pi"; k_extra "pi") | (apply GC.leI; k_extra "pi"; k_extra "pi") | (apply GC.gtI; k_extra "pi"; k_extra "pi") | (apply GC.geI; k_extra "pi"; k_extra "pi"))
  (k_with "pt" => first | (apply GC.toT; k_extra "pc"; exact rfl) | (apply GT.not; k_extra "pt") | (apply GV.toT; k_extra "pv"; exact rfl))
  (k_with "pa" => first | apply GI.const | apply GS.const | (apply GV.toA; k_extra "pv") | (apply GI.add; k_extra "pi"; k_extra "pi") | (apply GI.sub; k_extra "pi"; k_extra "pi") | (apply GI.band; k_extra "pi"; k_extra "pi"))
  (k_with "exec If" => ((with_reducible show wpAny _ _ (exec (Stmt.If _ _ _ _) _) _ _ _); k_dflt (refine ifP (by k_asm) (by k_asm) (by k_asm) (by first | exact rfl | assumption) rfl (by intro c P; k_extra "pt") ?_; k_whole); intro tk))
  (k_with "exec Return some" => ((with_reducible show wpAny _ _ (exec (Stmt.Return (some _) _) _) _ _ _); k_dflt (refine retP (by k_asm) (by k_asm) (by k_asm) (by first | exact rfl | assumption) rfl (by intro c P; k_extra "pa") ?_; k_whole); intro t tk))
  (k_with "exec Assign" => ((with_reducible show wpAny _ _ (exec (Stmt.Assign [Expr.Name _ _] _ _) _) _ _ _); k_dflt (refine asgP (by k_asm) (by k_asm) (by k_asm) (by first | exact rfl | assumption) rfl (by intro c P; k_extra "pa") (by exact ⟨rfl, rfl⟩) (by exact rfl) ?_; k_whole); intro t h' tk F' N'))
  (k_with "eval Call" => ((with_reducible show wpAny _ _ (eval (Expr.Call (Expr.Name _ _) (_ :: _) [] _) _) _ _ _); k_dflt (first | ((with_reducible show wpAny _ _ (eval (Expr.Call _ [_] [] _) _) _ _ _); refine callP1 (by k_asm) (by k_asm) (by k_asm) (by k_asm) (by first | exact rfl | assumption) rfl (by with_reducible first | exact gf0 | exact gf1 | exact gf2 | exact gf3 | exact gf4 | exact gf5 | exact gf6 | exact gf7 | exact gf8 | exact gf9 | exact gf10 | exact gf11 | exact gf12 | exact gf13 | exact gf14 | exact gf15) (by exact ⟨rfl, rfl⟩) (by exact rfl) (by intro c P; k_extra "pa") ?_; k_whole; intro u1 tk) | ((with_reducible show wpAny _ _ (eval (Expr.Call _ [_, _] [] _) _) _ _ _); refine callP2 (by k_asm) (by k_asm) (by k_asm) (by k_asm) (by first | exact rfl | assumption) rfl (by with_reducible first | exact gf0 | exact gf1 | exact gf2 | exact gf3 | exact gf4 | exact gf5 | exact gf6 | exact gf7 | exact gf8 | exact gf9 | exact gf10 | exact gf11 | exact gf12 | exact gf13 | exact gf14 | exact gf15) (by exact ⟨rfl, rfl⟩) (by exact rfl) (by intro c P; k_extra "pa") (by intro c P; k_extra "pa") ?_; k_whole; intro u1 u2 tk) | ((with_reducible show wpAny _ _ (eval (Expr.Call _ [_, _, _] [] _) _) _ _ _); refine callP3 (by k_asm) (by k_asm) (by k_asm) (by k_asm) (by first | exact rfl | assumption) rfl (by with_reducible first | exact gf0 | exact gf1 | exact gf2 | exact gf3 | exact gf4 | exact gf5 | exact gf6 | exact gf7 | exact gf8 | exact gf9 | exact gf10 | exact gf11 | exact gf12 | exact gf13 | exact gf14 | exact gf15) (by exact ⟨rfl, rfl⟩) (by exact rfl) (by intro c P; k_extra "pa") (by intro c P; k_extra "pa") (by intro c P; k_extra "pa") ?_; k_whole; intro u1 u2 u3 tk) | ((with_reducible show wpAny _ _ (eval (Expr.Call _ [_, _, _, _] [] _) _) _ _ _); refine callP4 (by k_asm) (by k_asm) (by k_asm) (by k_asm) (by first | exact rfl | assumption) rfl (by with_reducible first | exact gf0 | exact gf1 | exact gf2 | exact gf3 | exact gf4 | exact gf5 | exact gf6 | exact gf7 | exact gf8 | exact gf9 | exact gf10 | exact gf11 | exact gf12 | exact gf13 | exact gf14 | exact gf15) (by exact ⟨rfl, rfl⟩) (by exact rfl) (by intro c P; k_extra "pa") (by intro c P; k_extra "pa") (by intro c P; k_extra "pa") (by intro c P; k_extra "pa") ?_; k_whole; intro u1 u2 u3 u4 tk))))
  trivial
inductive Bop where
  | and
  | or
  | div
  | mod
  | add
  | sub
  | mul
  | lt
  | le
  | gt
  | ge
  | eq
  | ne
  | band
  | bor
  | bxor
  | shl
  | shr

noncomputable def Bop.txt : Bop → Str
  | .and => "&&"
  | .or => "||"
  | .div => "/"
  | .mod => "%"
  | .add => "+"
  | .sub => "-"
  | .mul => "*"
  | .lt => "<"
  | .le => "<="
  | .gt => ">"
  | .ge => ">="
  | .eq => "=="
  | .ne => "!="
  | .band => "&"
  | .bor => "|"
  | .bxor => "^"
  | .shl => "<<"
  | .shr => ">>"

noncomputable def Bop.lev : Bop → Int
  | .and => 2
  | .or => 1
  | .div => 10
  | .mod => 10
  | .add => 9
  | .sub => 9
  | .mul => 10
  | .lt => 7
  | .le => 7
  | .gt => 7
  | .ge => 7
  | .eq => 6
  | .ne => 6
  | .band => 5
  | .bor => 3
  | .bxor => 4
  | .shl => 8
  | .shr => 8

noncomputable def Bop.ltk (P : Params) (o : Bop) : Tok := match nsIn (KQ P) 146 o.txt with
  | some (some (.int _ t)) => t
  | _ => 0
theorem lev_at (P : Params) (o : Bop) : nsIn (KQ P) 146 o.txt = some (some (.int o.lev (o.ltk P))) := by
  cases o <;> kernel_rfl
structure V where
  n : Int
  u : Bool
  b : Bool
noncomputable def V.mk' (n : Int) (u b : Bool) : V := ⟨led32 n u, u, b⟩
noncomputable def cmpS (wd : Str) (x y : Int) : Bool :=
  if wd == "==" then x == y else if wd == "!=" then x != y else if wd == "<" then decide (x < y) else if wd == "<=" then decide (x ≤ y) else if wd == ">" then decide (y < x) else decide (y ≤ x)
noncomputable def twoB (o : Bop) (x y : V) : V :=
  if o.txt == "&&" then ⟨if x.n != 0 && y.n != 0 then 1 else 0, false, x.b || (x.n != 0 && y.b)⟩
  else if o.txt == "||" then ⟨if x.n != 0 || y.n != 0 then 1 else 0, false, x.b || (x.n == 0 && y.b)⟩
  else if o.txt == "<<" then V.mk' (x.n * 2 ^ (Builtin.bitAnd y.n 31).toNat) x.u (x.b || y.b)
  else if o.txt == ">>" then V.mk' (x.n.fdiv (2 ^ (Builtin.bitAnd y.n 31).toNat)) x.u (x.b || y.b)
  else if ([6, 7].any fun x => x == o.lev) then ⟨if cmpS o.txt (led32 x.n (x.u || y.u)) (led32 y.n (x.u || y.u)) then 1 else 0, false, x.b || y.b⟩
  else if o.txt == "*" then V.mk' (led32 x.n (x.u || y.u) * led32 y.n (x.u || y.u)) (x.u || y.u) (x.b || y.b)
  else if o.txt == "+" then V.mk' (led32 x.n (x.u || y.u) + led32 y.n (x.u || y.u)) (x.u || y.u) (x.b || y.b)
  else if o.txt == "-" then V.mk' (led32 x.n (x.u || y.u) - led32 y.n (x.u || y.u)) (x.u || y.u) (x.b || y.b)
  else if o.txt == "&" then V.mk' (Builtin.bitAnd (led32 x.n (x.u || y.u)) (led32 y.n (x.u || y.u))) (x.u || y.u) (x.b || y.b)
  else if o.txt == "^" then V.mk' (Builtin.bitXor (led32 x.n (x.u || y.u)) (led32 y.n (x.u || y.u))) (x.u || y.u) (x.b || y.b)
  else if o.txt == "|" then V.mk' (Builtin.bitOr (led32 x.n (x.u || y.u)) (led32 y.n (x.u || y.u))) (x.u || y.u) (x.b || y.b)
  else if led32 y.n (x.u || y.u) == 0 then V.mk' 0 (x.u || y.u) true
  else if o.txt == "/" then V.mk' (Int.tdiv (led32 x.n (x.u || y.u)) (led32 y.n (x.u || y.u))) (x.u || y.u) (x.b || y.b)
  else V.mk' (led32 x.n (x.u || y.u) - Int.tdiv (led32 x.n (x.u || y.u)) (led32 y.n (x.u || y.u)) * led32 y.n (x.u || y.u)) (x.u || y.u) (x.b || y.b)
noncomputable def ValAt (w : World) (news : List (Addr × Obj)) (v : Value) (x : V) : Prop :=
  ∃ (a da : Addr) (k1 k2 k3 t : Tok), v = .ref a ∧ (a, instObj 165 da) ∈ news ∧ (da, vdict w x.n x.u x.b k1 k2 k3 t) ∈ news
theorem News.dup {h₀ h : Heap} {L : Addr} {news : List (Addr × Obj)} {p : Addr × Obj} (N : News h₀ L h news) (hp : p ∈ news) : News h₀ L h (p :: news) := fun q hq => by
  rcases List.mem_cons.mp hq with rfl | hq
  · exact N _ hp
  · exact N q hq
theorem led_in (n : Int) (u : Bool) : In33 (led32 n u) := by unfold led32 In33; split <;> omega
theorem and31 (n : Int) : 0 ≤ Builtin.bitAnd n 31 ∧ Builtin.bitAnd n 31 ≤ 31 := PyProof.Rows.bitAnd_range n (by decide)
theorem or_join {M : Model} {A : Around} {E : Value → Shared → Prop} {s : Shared} {env : Env} {e1 e2 : PySem.Expr} {pos : Pos} {p q : Bool} {Q : Value → Shared → Prop}
    (h : wpAny M A (eval e1 env) (fun v s₁ => v = .bool p ∧ (wpAny M A (eval e2 env) (fun v₂ s₂ => v₂ = .bool q ∧ ∃ tk, s₂ = { s₁ with toks := tk }) E s₁ ∧ ∀ tk, Q (.bool (p || q)) { s₁ with toks := tk })) E s) :
    wpAny M A (eval (.BoolOp .Or [e1, e2] pos) env) Q E s := by
  refine BoolOp_or (wpAny_mono h (fun v s₁ h₁ => ?_) fun _ _ x => x)
  obtain ⟨rfl, h2, h3⟩ := h₁
  refine wpAny_truthy_bool ?_
  cases p with
  | true => exact h3 s₁.toks
  | false =>
    refine BoolOp_one (wpAny_mono h2 (fun v s2 e => ?_) fun _ _ x => x)
    obtain ⟨rfl, tk, rfl⟩ := e
    simpa using h3 tk
theorem mul_ok (a b : Int) (u v : Bool) : IntMulOk (led32 a u) (led32 b v) := by
  refine IntMulOk.of_left ?_
  have h := led_in a u
  unfold In33 at h
  exact intBits_le_64 (by omega) (by omega)
theorem tdiv_ok (a b c : Int) (u v v' : Bool) : IntMulOk (Int.tdiv (led32 a u) (led32 b v)) (led32 c v') := by
  refine IntMulOk.of_right ?_
  have h := led_in c v'
  unfold In33 at h
  exact intBits_le_64 (by omega) (by omega)
structure JoinOr (p q p2 q2 : Bool) : Prop where
theorem or_bad {M : Model} {A : Around} {E : Value → Shared → Prop} {s : Shared} {env : Env} {e1 e2 : PySem.Expr} {pos : Pos} {p q p2 q2 : Bool} {Q : Value → Shared → Prop} (_ : JoinOr p q p2 q2)
    (h : wpAny M A (eval e1 env) (fun v s₁ => v = .bool p ∧ (wpAny M A (eval e2 env) (fun v₂ s₂ => v₂ = .bool q ∧ ∃ tk, s₂ = { s₁ with toks := tk }) E s₁ ∧ ∀ tk, Q (.bool (p || q)) { s₁ with toks := tk })) E s) :
    wpAny M A (eval (.BoolOp .Or [e1, e2] pos) env) Q E s := or_join h
theorem or_uns {M : Model} {A : Around} {E : Value → Shared → Prop} {s : Shared} {env : Env} {e1 e2 : PySem.Expr} {pos : Pos} {p q p2 q2 : Bool} {Q : Value → Shared → Prop} (_ : JoinOr p q p2 q2)
    (h : wpAny M A (eval e1 env) (fun v s₁ => v = .bool p2 ∧ (wpAny M A (eval e2 env) (fun v₂ s₂ => v₂ = .bool q2 ∧ ∃ tk, s₂ = { s₁ with toks := tk }) E s₁ ∧ ∀ tk, Q (.bool (p2 || q2)) { s₁ with toks := tk })) E s) :
    wpAny M A (eval (.BoolOp .Or [e1, e2] pos) env) Q E s := or_join h
section
variable {w : World} {mean : ExcName → Option Value} {mg mb : Str → Option Value} {dp un : Nat} {gd : Option (List Code)} {cn : Str} {cs : Scope} {a : Addr} {ccd : Value} {cl : List (Str × Addr)} {outer : List Env} {A₀ : Around} {base h₀ : Heap} {L : Addr} {m : Str → Option Value} {news : List (Addr × Obj)} {s : Shared} {Q E : Value → Shared → Prop}
theorem kw23 : True := by
  (k_with "eval BoolOp" => first
 | ((with_reducible show wpAny _ _ (eval (Expr.BoolOp BoolOp.Or [Expr.Attribute (Expr.Name _ _) (Str.ofString "is_bad") _, Expr.Attribute (Expr.Name _ _) (Str.ofString "is_bad") _] _) _) _ _ _); refine or_bad (by assumption) ?_)
 | ((with_reducible show wpAny _ _ (eval (Expr.BoolOp BoolOp.Or [Expr.Attribute (Expr.Name _ _) (Str.ofString "is_unsigned") _, Expr.Attribute (Expr.Name _ _) (Str.ofString "is_unsigned") _] _) _) _ _ _); refine or_uns (by assumption) ?_))
  (k_with "And" => first | k_dflt (exact ⟨rfl, ⟨_, rfl⟩⟩) | (refine ⟨rfl, ?_, fun tk => ?_⟩ <;> (try dsimp only)))
  (k_with "binaryOp Mult int int" => (first | (with_reducible refine mul_int ?_ (mul_ok _ _ _ _)) | (with_reducible refine mul_int ?_ (tdiv_ok _ _ _ _ _ _))))
  (k_with "subscriptTail" => ((with_reducible show wpAny _ _ (subscriptTail _ _ (Value.ref 146) (Value.str (Bop.txt _) _)) _ _ _); k_dflt (refine' topItem_K (by k_asm) (by k_asm) (by k_is) (by k_keys) (lev_at _ _) ?_)))
  (k_with "call ref" => ((with_reducible show wpAny _ _ (call (Value.ref 165) [Value.int _ _, Value.bool _, Value.bool _]) _ _ _); k_dflt (refine' mkval _ _ _ _ (by k_asm) (by k_asm) (by k_asm) (by k_asm) (by k_asm) (by first | exact rfl | assumption) (by ktr_room) (by ktr_units) (VRet.of ?_); k_whole; intro x' dx' ka' kb' kc' kt' h' tk' F' N' l1 l2); (have l1b := l1); (try simp only [AllLt, and_true] at l1); (try dsimp only); (try k_fold)))
  (k_with "call ref" => ((with_reducible show wpAny _ _ (call (Value.ref 176) [Value.bool _, Value.bool _]) _ _ _); k_dflt (refine' truthC _ _ (by k_asm) (by k_asm) (by k_asm) (by k_asm) (by k_asm) (by first | exact rfl | assumption) (by ktr_room) (by ktr_units) (VRet.of ?_); k_whole; intro x' dx' ka' kb' kc' kt' h' tk' F' N' l1 l2); (have l1b := l1); (try simp only [AllLt, and_true] at l1); (try dsimp only); (try k_fold)))
  (k_with "call ref" => ((with_reducible show wpAny _ _ (call (Value.ref 183) [Value.int _ _, Value.int _ _]) _ _ _); k_dflt (refine' quotC _ _ _ _ (by k_asm) (by k_asm) (by k_asm) (by k_asm) (by k_asm) (by first | exact rfl | assumption) (by assumption) (by exact led_in _ _) (by ktr_room) (by ktr_units) (IRet.of ?_); k_whole; intro t' h' tk' F' N'); (try dsimp only); (try k_fold)))
  trivial
theorem cmpC (wd : Str) (n k : Int) (t0 t1 t2 : Tok) (B : Below A₀ base outer h₀) (F : Fr h₀ L s.heap m) (X : (KQ w.params).In h₀) (N : News h₀ L s.heap news) (T : Top viewQ looseQ mean mg mb h₀) (hk : cs.kind = .function) 
    (hd : dp + 6 < recursionLimit) (hu : un + 40 < cLine)
    (ret : BRet h₀ L m news s Q (cmpS wd n k)) :
    wpAny (MQ w) (ktrTop dp un gd cn cs L a ccd cl outer) (call (.ref 197) [.str wd t0, .int n t1, .int k t2]) Q E s := by
  (k_dflt (refine enterK fd197 (bs := [(Str.ofString "word", .str wd t0), (Str.ofString "one", .int n t1), (Str.ofString "two", .int k t2)]) (by exact rfl) (by exact rfl) (by k_asm) (by k_asm) (by k_asm) (by k_asm) (by k_asm) (by first | exact rfl | assumption) (by ktr_room) ?_; k_whole); intro g' L' h' FG' F' N' B' X' T' tk' qk ek; (try k_lift B'))
  k_steps
  all_goals (refine ret _ _ _ ?_ (by assumption) (by assumption); simp only [cmpS, if_true, if_false, Bool.false_eq_true, *]; done)
theorem kw24 : True := by
  (k_with "call ref" => ((with_reducible show wpAny _ _ (call (Value.ref 197) [Value.str _ _, Value.int _ _, Value.int _ _]) _ _ _); k_dflt (refine' cmpC _ _ _ _ _ _ (by k_asm) (by k_asm) (by k_asm) (by k_asm) (by k_asm) (by first | exact rfl | assumption) (by ktr_room) (by ktr_units) (BRet.of ?_); k_whole; intro h' tk' F' N'); (try dsimp only); (try k_fold)))
  (k_with "binaryOp LShift int int" => ((with_reducible refine lshift_int_small (by exact (and31 _).1) (by exact Int.le_trans (and31 _).2 (by decide)) (by assumption) ?_)))
  (k_with "binaryOp RShift int int" => ((with_reducible refine rshift_int (by exact (and31 _).1) ?_)))
  trivial
theorem vdrop {h₀ h : Heap} {L : Addr} {p q : Addr × Obj} {rest news : List (Addr × Obj)} (N : News h₀ L h (p :: q :: rest)) (hs : ∀ r ∈ news, r ∈ rest) : News h₀ L h (p :: q :: news) :=
  cb_drop N fun r hr => by
    rcases List.mem_cons.mp hr with rfl | hr
    · exact .head _
    · rcases List.mem_cons.mp hr with rfl | hr
      · exact .tail _ (.head _)
      · exact .tail _ (.tail _ (hs r hr))
theorem altsub {d : Addr} {rest news : List (Addr × Obj)} (h : AllLt d rest) (hs : ∀ r ∈ news, r ∈ rest) : AllLt d news := allLt_of fun p hp => ktn_ltOf h p (hs p hp)
end
end
section
open PySem PySem.W PyProof.Rows PySem.Calls PySem.Spec
section

theorem kw25 : True := by
  k_with_none
  (k_with "pv" => first | (apply GV.name P; exact rfl; exact ⟨rfl, rfl⟩) | (apply GV.attr P; exact rfl; exact ⟨rfl, rfl⟩; (first | k_mem | assumption); (first | k_mem | assumption); (with_reducible first | exact own0 | exact own1 | exact own2 | exact own3 | exact own4 | exact own5 | exact own6 | exact own7 | exact own8 | exact own9 | exact own10); k_get; k_handed) | apply GV.bool | apply GV.none | (apply GC.toV; k_extra "pc"; exact rfl) | (apply GV.and2; k_extra "pv"; k_extra "pv") | (apply GV.or2; k_extra "pv"; k_extra "pv"))
  (k_with "pi" => first | apply GI.const | (apply GV.toI; k_extra "pv") | (apply GI.add; k_extra "pi"; k_extra "pi") | (apply GI.sub; k_extra "pi"; k_extra "pi") | (apply GI.band; k_extra "pi"; k_extra "pi"))
  (k_with "ps" => first | apply GS.const | (apply GV.toS; k_extra "pv"))
  (k_with "pc" => first | (apply GC.eqS; k_extra "ps"; k_extra "ps") | (apply GC.eqI; k_extra "pi"; k_extra "pi") | (apply GC.neS; k_extra "ps"; k_extra "ps") | (apply GC.neI; k_extra "pi"; k_extra "pi") | (apply GC.ltI; k_extra "pi"; k_extra "pi") | (apply GC.leI; k_extra "pi"; k_extra "pi") | (apply GC.gtI; k_extra "pi"; k_extra "pi") | (apply GC.geI; k_extra "pi"; k_extra "pi"))
  (k_with "pt" => first | (apply GC.toT; k_extra "pc"; exact rfl) | (apply GT.not; k_extra "pt") | (apply GV.toT; k_extra "pv"; exact rfl))
  (k_with "pa" => first | apply GI.const | apply GS.const | (apply GV.toA; k_extra "pv") | (apply GI.add; k_extra "pi"; k_extra "pi") | (apply GI.sub; k_extra "pi"; k_extra "pi") | (apply GI.band; k_extra "pi"; k_extra "pi"))
  (k_with "exec If" => ((with_reducible show wpAny _ _ (exec (Stmt.If _ _ _ _) _) _ _ _); k_dflt (refine ifP (by k_asm) (by k_asm) (by k_asm) (by first | exact rfl | assumption) rfl (by intro c P; k_extra "pt") ?_; k_whole); intro tk))
  (k_with "exec Return some" => ((with_reducible show wpAny _ _ (exec (Stmt.Return (some _) _) _) _ _ _); k_dflt (refine retP (by k_asm) (by k_asm) (by k_asm) (by first | exact rfl | assumption) rfl (by intro c P; k_extra "pa") ?_; k_whole); intro t tk))
  (k_with "exec Assign" => ((with_reducible show wpAny _ _ (exec (Stmt.Assign [Expr.Name _ _] _ _) _) _ _ _); k_dflt (refine asgP (by k_asm) (by k_asm) (by k_asm) (by first | exact rfl | assumption) rfl (by intro c P; k_extra "pa") (by exact ⟨rfl, rfl⟩) (by exact rfl) ?_; k_whole); intro t h' tk F' N'))
  (k_with "eval Call" => ((with_reducible show wpAny _ _ (eval (Expr.Call (Expr.Name _ _) (_ :: _) [] _) _) _ _ _); k_dflt (first | ((with_reducible show wpAny _ _ (eval (Expr.Call _ [_] [] _) _) _ _ _); refine callP1 (by k_asm) (by k_asm) (by k_asm) (by k_asm) (by first | exact rfl | assumption) rfl (by with_reducible first | exact gf0 | exact gf1 | exact gf2 | exact gf3 | exact gf4 | exact gf5 | exact gf6 | exact gf7 | exact gf8 | exact gf9 | exact gf10 | exact gf11 | exact gf12 | exact gf13 | exact gf14 | exact gf15) (by exact ⟨rfl, rfl⟩) (by exact rfl) (by intro c P; k_extra "pa") ?_; k_whole; intro u1 tk) | ((with_reducible show wpAny _ _ (eval (Expr.Call _ [_, _] [] _) _) _ _ _); refine callP2 (by k_asm) (by k_asm) (by k_asm) (by k_asm) (by first | exact rfl | assumption) rfl (by with_reducible first | exact gf0 | exact gf1 | exact gf2 | exact gf3 | exact gf4 | exact gf5 | exact gf6 | exact gf7 | exact gf8 | exact gf9 | exact gf10 | exact gf11 | exact gf12 | exact gf13 | exact gf14 | exact gf15) (by exact ⟨rfl, rfl⟩) (by exact rfl) (by intro c P; k_extra "pa") (by intro c P; k_extra "pa") ?_; k_whole; intro u1 u2 tk) | ((with_reducible show wpAny _ _ (eval (Expr.Call _ [_, _, _] [] _) _) _ _ _); refine callP3 (by k_asm) (by k_asm) (by k_asm) (by k_asm) (by first | exact rfl | assumption) rfl (by with_reducible first | exact gf0 | exact gf1 | exact gf2 | exact gf3 | exact gf4 | exact gf5 | exact gf6 | exact gf7 | exact gf8 | exact gf9 | exact gf10 | exact gf11 | exact gf12 | exact gf13 | exact gf14 | exact gf15) (by exact ⟨rfl, rfl⟩) (by exact rfl) (by intro c P; k_extra "pa") (by intro c P; k_extra "pa") (by intro c P; k_extra "pa") ?_; k_whole; intro u1 u2 u3 tk) | ((with_reducible show wpAny _ _ (eval (Expr.Call _ [_, _, _, _] [] _) _) _ _ _); refine callP4 (by k_asm) (by k_asm) (by k_asm) (by k_asm) (by first | exact rfl | assumption) rfl (by with_reducible first | exact gf0 | exact gf1 | exact gf2 | exact gf3 | exact gf4 | exact gf5 | exact gf6 | exact gf7 | exact gf8 | exact gf9 | exact gf10 | exact gf11 | exact gf12 | exact gf13 | exact gf14 | exact gf15) (by exact ⟨rfl, rfl⟩) (by exact rfl) (by intro c P; k_extra "pa") (by intro c P; k_extra "pa") (by intro c P; k_extra "pa") (by intro c P; k_extra "pa") ?_; k_whole; intro u1 u2 u3 u4 tk))))
  trivial
noncomputable abbrev tw12 (o : Bop) (x y : V) : V := if o.txt == "/" then V.mk' (Int.tdiv (led32 x.n (x.u || y.u)) (led32 y.n (x.u || y.u))) (x.u || y.u) (x.b || y.b) else V.mk' (led32 x.n (x.u || y.u) - Int.tdiv (led32 x.n (x.u || y.u)) (led32 y.n (x.u || y.u)) * led32 y.n (x.u || y.u)) (x.u || y.u) (x.b || y.b)
noncomputable abbrev tw11 (o : Bop) (x y : V) : V := if led32 y.n (x.u || y.u) == 0 then V.mk' 0 (x.u || y.u) true else tw12 o x y
noncomputable abbrev tw10 (o : Bop) (x y : V) : V := if o.txt == "|" then V.mk' (Builtin.bitOr (led32 x.n (x.u || y.u)) (led32 y.n (x.u || y.u))) (x.u || y.u) (x.b || y.b) else tw11 o x y
noncomputable abbrev tw9 (o : Bop) (x y : V) : V := if o.txt == "^" then V.mk' (Builtin.bitXor (led32 x.n (x.u || y.u)) (led32 y.n (x.u || y.u))) (x.u || y.u) (x.b || y.b) else tw10 o x y
noncomputable abbrev tw8 (o : Bop) (x y : V) : V := if o.txt == "&" then V.mk' (Builtin.bitAnd (led32 x.n (x.u || y.u)) (led32 y.n (x.u || y.u))) (x.u || y.u) (x.b || y.b) else tw9 o x y
noncomputable abbrev tw7 (o : Bop) (x y : V) : V := if o.txt == "-" then V.mk' (led32 x.n (x.u || y.u) - led32 y.n (x.u || y.u)) (x.u || y.u) (x.b || y.b) else tw8 o x y
noncomputable abbrev tw6 (o : Bop) (x y : V) : V := if o.txt == "+" then V.mk' (led32 x.n (x.u || y.u) + led32 y.n (x.u || y.u)) (x.u || y.u) (x.b || y.b) else tw7 o x y
noncomputable abbrev tw5 (o : Bop) (x y : V) : V := if o.txt == "*" then V.mk' (led32 x.n (x.u || y.u) * led32 y.n (x.u || y.u)) (x.u || y.u) (x.b || y.b) else tw6 o x y
noncomputable abbrev tw4 (o : Bop) (x y : V) : V := if ([6, 7].any fun x => x == o.lev) then ⟨if cmpS o.txt (led32 x.n (x.u || y.u)) (led32 y.n (x.u || y.u)) then 1 else 0, false, x.b || y.b⟩ else tw5 o x y
noncomputable abbrev tw3 (o : Bop) (x y : V) : V := if o.txt == ">>" then V.mk' (x.n.fdiv (2 ^ (Builtin.bitAnd y.n 31).toNat)) x.u (x.b || y.b) else tw4 o x y
noncomputable abbrev tw2 (o : Bop) (x y : V) : V := if o.txt == "<<" then V.mk' (x.n * 2 ^ (Builtin.bitAnd y.n 31).toNat) x.u (x.b || y.b) else tw3 o x y
noncomputable abbrev tw1 (o : Bop) (x y : V) : V := if o.txt == "||" then ⟨if x.n != 0 || y.n != 0 then 1 else 0, false, x.b || (x.n == 0 && y.b)⟩ else tw2 o x y
noncomputable abbrev tw0 (o : Bop) (x y : V) : V := if o.txt == "&&" then ⟨if x.n != 0 && y.n != 0 then 1 else 0, false, x.b || (x.n != 0 && y.b)⟩ else tw1 o x y
noncomputable def RetV (w : World) (h₀ : Heap) (L : Addr) (m : Str → Option Value) (news : List (Addr × Obj)) (s : Shared) (Q : Value → Shared → Prop) (v : V) : Prop := VRet w h₀ L m news s Q v.n v.u v.b
theorem split_ret {w : World} {h₀ : Heap} {L : Addr} {m : Str → Option Value} {news : List (Addr × Obj)} {s : Shared} {Q : Value → Shared → Prop} {v1 v2 : V} {k : Bool} {P P' : Prop} (r : RetV w h₀ L m news s Q (if k = true then v1 else v2)) (ht : k = true → RetV w h₀ L m news s Q v1 → P) (hf : k = false → RetV w h₀ L m news s Q v2 → P') : if k = true then P else P' := by
  cases k with
  | true => exact ht rfl r
  | false => exact hf rfl r
theorem int_ne0 {k : Int} (h : (k == 0) = false) : k ≠ 0 := fun e => Bool.false_ne_true (h.symm.trans (beq_iff_eq.2 e))
variable {w : World} {mean : ExcName → Option Value} {mg mb : Str → Option Value} {dp un : Nat} {gd : Option (List Code)} {cn : Str} {cs : Scope} {a : Addr} {ccd : Value} {cl : List (Str × Addr)} {outer : List Env} {A₀ : Around} {base h₀ : Heap} {L : Addr} {m : Str → Option Value} {news : List (Addr × Obj)} {s : Shared} {Q E : Value → Shared → Prop}
theorem kw26 : True := by
  (k_with "ite" => ((with_reducible refine split_ret (by assumption) ?_ ?_) <;> (intro hc hM; (try have hz := int_ne0 hc))))
  (k_with "eval BoolOp" => first
 | ((with_reducible show wpAny _ _ (eval (Expr.BoolOp BoolOp.Or [Expr.Attribute (Expr.Name _ _) (Str.ofString "is_bad") _, Expr.Attribute (Expr.Name _ _) (Str.ofString "is_bad") _] _) _) _ _ _); refine or_bad (by assumption) ?_)
 | ((with_reducible show wpAny _ _ (eval (Expr.BoolOp BoolOp.Or [Expr.Attribute (Expr.Name _ _) (Str.ofString "is_unsigned") _, Expr.Attribute (Expr.Name _ _) (Str.ofString "is_unsigned") _] _) _) _ _ _); refine or_uns (by assumption) ?_))
  (k_with "And" => first | k_dflt (exact ⟨rfl, ⟨_, rfl⟩⟩) | (refine ⟨rfl, ?_, fun tk => ?_⟩ <;> (try dsimp only)))
  (k_with "binaryOp Mult int int" => (first | (with_reducible refine mul_int ?_ (mul_ok _ _ _ _)) | (with_reducible refine mul_int ?_ (tdiv_ok _ _ _ _ _ _))))
  (k_with "subscriptTail" => ((with_reducible show wpAny _ _ (subscriptTail _ _ (Value.ref 146) (Value.str (Bop.txt _) _)) _ _ _); k_dflt (refine' topItem_K (by k_asm) (by k_asm) (by k_is) (by k_keys) (lev_at _ _) ?_)))
  (k_with "call ref" => ((with_reducible show wpAny _ _ (call (Value.ref 165) [Value.int _ _, Value.bool _, Value.bool _]) _ _ _); k_dflt (refine' mkval _ _ _ _ (by k_asm) (by k_asm) (by k_asm) (by k_asm) (by k_asm) (by first | exact rfl | assumption) (by ktr_room) (by ktr_units) (VRet.of ?_); k_whole; intro x' dx' ka' kb' kc' kt' h' tk' F' N' l1 l2); (have l1b := l1); (try simp only [AllLt, and_true] at l1); (try dsimp only); (try k_fold)))
  (k_with "call ref" => ((with_reducible show wpAny _ _ (call (Value.ref 176) [Value.bool _, Value.bool _]) _ _ _); k_dflt (refine' truthC _ _ (by k_asm) (by k_asm) (by k_asm) (by k_asm) (by k_asm) (by first | exact rfl | assumption) (by ktr_room) (by ktr_units) (VRet.of ?_); k_whole; intro x' dx' ka' kb' kc' kt' h' tk' F' N' l1 l2); (have l1b := l1); (try simp only [AllLt, and_true] at l1); (try dsimp only); (try k_fold)))
  (k_with "call ref" => ((with_reducible show wpAny _ _ (call (Value.ref 183) [Value.int _ _, Value.int _ _]) _ _ _); k_dflt (refine' quotC _ _ _ _ (by k_asm) (by k_asm) (by k_asm) (by k_asm) (by k_asm) (by first | exact rfl | assumption) (by assumption) (by exact led_in _ _) (by ktr_room) (by ktr_units) (IRet.of ?_); k_whole; intro t' h' tk' F' N'); (try dsimp only); (try k_fold)))
  (k_with "call ref" => ((with_reducible show wpAny _ _ (call (Value.ref 197) [Value.str _ _, Value.int _ _, Value.int _ _]) _ _ _); k_dflt (refine' cmpC _ _ _ _ _ _ (by k_asm) (by k_asm) (by k_asm) (by k_asm) (by k_asm) (by first | exact rfl | assumption) (by ktr_room) (by ktr_units) (BRet.of ?_); k_whole; intro h' tk' F' N'); (try dsimp only); (try k_fold)))
  (k_with "binaryOp LShift int int" => ((with_reducible refine lshift_int_small (by exact (and31 _).1) (by exact Int.le_trans (and31 _).2 (by decide)) (by assumption) ?_)))
  (k_with "binaryOp RShift int int" => ((with_reducible refine rshift_int (by exact (and31 _).1) ?_)))
  trivial
theorem twoC (o : Bop) (va vb : Value) (x y : V) (t0 : Tok) (B : Below A₀ base outer h₀) (F : Fr h₀ L s.heap m) (X : (KQ w.params).In h₀) (N : News h₀ L s.heap news) (T : Top viewQ looseQ mean mg mb h₀) (hk : cs.kind = .function) (ha : ValAt w news va x) (hb : ValAt w news vb y) (hx : In33 x.n) (hy : In33 y.n)
    (hd : dp + 12 < recursionLimit) (hu : un + 120 < cLine)
    (ret : VRet w h₀ L m news s Q (twoB o x y).n (twoB o x y).u (twoB o x y).b) :
    wpAny (MQ w) (ktrTop dp un gd cn cs L a ccd cl outer) (call (.ref 204) [.str o.txt t0, va, vb]) Q E s := by
  obtain ⟨xa, da, ka1, ka2, ka3, ta, rfl, ma1, ma2⟩ := ha
  obtain ⟨xb, db, kb1, kb2, kb3, tb, rfl, mb1, mb2⟩ := hb
  have N2 := News.dup (News.dup (News.dup (News.dup N mb2) (.tail _ mb1)) (.tail _ (.tail _ ma2))) (.tail _ (.tail _ (.tail _ ma1)))
  have hJ : JoinOr x.b y.b x.u y.u := JoinOr.mk
  have hx2 : x.n.natAbs < 2 ^ 64 := by unfold In33 at hx; omega
  replace ret : RetV w h₀ L m news s Q (tw0 o x y) := ret
  (k_dflt (refine enterK fd204 (bs := [(Str.ofString "word", .str o.txt t0), (Str.ofString "a", .ref xa), (Str.ofString "b", .ref xb)]) (by exact rfl) (by exact rfl) (by k_asm) (by k_asm) (by k_asm) (by k_asm) (by k_asm) (by first | exact rfl | assumption) (by ktr_room) ?_; k_whole); intro g' L' h' FG' F' N' B' X' T' tk' qk ek; (try k_lift B'))
  k_steps
  all_goals first
    | (k_dflt (exact rfl))
    | ((rename RetV _ _ _ _ _ _ _ _ => rM); refine rM _ _ _ _ _ _ _ _ _ _ _ ?_ ?_ ?_ (by assumption) (by first | assumption | (exact vdrop (by assumption) (by intro p hp; simp only [List.mem_cons, hp, or_true, true_or]))) (by first | assumption | (exact altsub (by assumption) (by intro p hp; simp only [List.mem_cons, hp, or_true, true_or]))) (by assumption))
  all_goals first
    | rfl
    | (simp only [V.mk', if_true, if_false, Bool.false_eq_true, *]; done)
    | contradiction
    | (simp [V.mk', *]; done)
end
end
section
open PySem PySem.W PyProof.Rows PySem.Calls PySem.Spec
section

theorem kw27 : True := by
  k_with_none
  (k_with "pv" => first | (apply GV.name P; exact rfl; exact ⟨rfl, rfl⟩) | (apply GV.attr P; exact rfl; exact ⟨rfl, rfl⟩; (first | k_mem | assumption); (first | k_mem | assumption); (with_reducible first | exact own0 | exact own1 | exact own2 | exact own3 | exact own4 | exact own5 | exact own6 | exact own7 | exact own8 | exact own9 | exact own10); k_get; k_handed) | apply GV.bool | apply GV.none | (apply GC.toV; k_extra "pc"; exact rfl) | (apply GV.and2; k_extra "pv"; k_extra "pv") | (apply GV.or2; k_extra "pv"; k_extra "pv"))
  (k_with "pi" => first | apply GI.const | (apply GV.toI; k_extra "pv") | (apply GI.add; k_extra "pi"; k_extra "pi") | (apply GI.sub; k_extra "pi"; k_extra "pi") | (apply GI.band; k_extra "pi"; k_extra "pi"))
  (k_with "ps" => first | apply GS.const | (apply GV.toS; k_extra "pv"))
  (k_with "pc" => first | (apply GC.eqS; k_extra "ps"; k_extra "ps") | (apply GC.eqI; k_extra "pi"; k_extra "pi") | (apply GC.neS; k_extra "ps"; k_extra "ps") | (apply GC.neI; k_extra "pi"; k_extra "pi") | (apply GC.ltI; k_extra "pi"; k_extra "pi") | (apply GC.leI; k_extra "pi"; k_extra "pi") | (apply GC.gtI; k_extra "pi"; k_extra "pi") | (apply GC.geI; k_extra "pi"; k_extra "pi"))
  (k_with "pt" => first | (apply GC.toT; k_extra "pc"; exact rfl) | (apply GT.not; k_extra "pt") | (apply GV.toT; k_extra "pv"; exact rfl))
  (k_with "pa" => first | apply GI.const | apply GS.const | (apply GV.toA; k_extra "pv") | (apply GI.add; k_extra "pi"; k_extra "pi") | (apply GI.sub; k_extra "pi"; k_extra "pi") | (apply GI.band; k_extra "pi"; k_extra "pi"))
  (k_with "exec If" => ((with_reducible show wpAny _ _ (exec (Stmt.If _ _ _ _) _) _ _ _); k_dflt (refine ifP (by k_asm) (by k_asm) (by k_asm) (by first | exact rfl | assumption) rfl (by intro c P; k_extra "pt") ?_; k_whole); intro tk))
  (k_with "exec Return some" => ((with_reducible show wpAny _ _ (exec (Stmt.Return (some _) _) _) _ _ _); k_dflt (refine retP (by k_asm) (by k_asm) (by k_asm) (by first | exact rfl | assumption) rfl (by intro c P; k_extra "pa") ?_; k_whole); intro t tk))
  (k_with "exec Assign" => ((with_reducible show wpAny _ _ (exec (Stmt.Assign [Expr.Name _ _] _ _) _) _ _ _); k_dflt (refine asgP (by k_asm) (by k_asm) (by k_asm) (by first | exact rfl | assumption) rfl (by intro c P; k_extra "pa") (by exact ⟨rfl, rfl⟩) (by exact rfl) ?_; k_whole); intro t h' tk F' N'))
  (k_with "eval Call" => ((with_reducible show wpAny _ _ (eval (Expr.Call (Expr.Name _ _) (_ :: _) [] _) _) _ _ _); k_dflt (first | ((with_reducible show wpAny _ _ (eval (Expr.Call _ [_] [] _) _) _ _ _); refine callP1 (by k_asm) (by k_asm) (by k_asm) (by k_asm) (by first | exact rfl | assumption) rfl (by with_reducible first | exact gf0 | exact gf1 | exact gf2 | exact gf3 | exact gf4 | exact gf5 | exact gf6 | exact gf7 | exact gf8 | exact gf9 | exact gf10 | exact gf11 | exact gf12 | exact gf13 | exact gf14 | exact gf15) (by exact ⟨rfl, rfl⟩) (by exact rfl) (by intro c P; k_extra "pa") ?_; k_whole; intro u1 tk) | ((with_reducible show wpAny _ _ (eval (Expr.Call _ [_, _] [] _) _) _ _ _); refine callP2 (by k_asm) (by k_asm) (by k_asm) (by k_asm) (by first | exact rfl | assumption) rfl (by with_reducible first | exact gf0 | exact gf1 | exact gf2 | exact gf3 | exact gf4 | exact gf5 | exact gf6 | exact gf7 | exact gf8 | exact gf9 | exact gf10 | exact gf11 | exact gf12 | exact gf13 | exact gf14 | exact gf15) (by exact ⟨rfl, rfl⟩) (by exact rfl) (by intro c P; k_extra "pa") (by intro c P; k_extra "pa") ?_; k_whole; intro u1 u2 tk) | ((with_reducible show wpAny _ _ (eval (Expr.Call _ [_, _, _] [] _) _) _ _ _); refine callP3 (by k_asm) (by k_asm) (by k_asm) (by k_asm) (by first | exact rfl | assumption) rfl (by with_reducible first | exact gf0 | exact gf1 | exact gf2 | exact gf3 | exact gf4 | exact gf5 | exact gf6 | exact gf7 | exact gf8 | exact gf9 | exact gf10 | exact gf11 | exact gf12 | exact gf13 | exact gf14 | exact gf15) (by exact ⟨rfl, rfl⟩) (by exact rfl) (by intro c P; k_extra "pa") (by intro c P; k_extra "pa") (by intro c P; k_extra "pa") ?_; k_whole; intro u1 u2 u3 tk) | ((with_reducible show wpAny _ _ (eval (Expr.Call _ [_, _, _, _] [] _) _) _ _ _); refine callP4 (by k_asm) (by k_asm) (by k_asm) (by k_asm) (by first | exact rfl | assumption) rfl (by with_reducible first | exact gf0 | exact gf1 | exact gf2 | exact gf3 | exact gf4 | exact gf5 | exact gf6 | exact gf7 | exact gf8 | exact gf9 | exact gf10 | exact gf11 | exact gf12 | exact gf13 | exact gf14 | exact gf15) (by exact ⟨rfl, rfl⟩) (by exact rfl) (by intro c P; k_extra "pa") (by intro c P; k_extra "pa") (by intro c P; k_extra "pa") (by intro c P; k_extra "pa") ?_; k_whole; intro u1 u2 u3 u4 tk))))
  trivial
theorem reordG {h₀ h : Heap} {L : Addr} {p q : Addr × Obj} {fr r : List (Addr × Obj)} (N : News h₀ L h (p :: q :: (fr ++ r))) : News h₀ L h (fr ++ (p :: q :: r)) :=
  cb_drop N fun x hx => by
    rcases List.mem_append.mp hx with hx | hx
    · exact .tail _ (.tail _ (List.mem_append_left _ hx))
    · rcases List.mem_cons.mp hx with rfl | hx
      · exact .head _
      · rcases List.mem_cons.mp hx with rfl | hx
        · exact .tail _ (.head _)
        · exact .tail _ (.tail _ (List.mem_append_right _ hx))
theorem reord4 {h₀ h : Heap} {L : Addr} {p q : Addr × Obj} {q0 q1 q2 q3 : Addr × Obj} {r : List (Addr × Obj)} (N : News h₀ L h (p :: q :: q0 :: q1 :: q2 :: q3 :: r)) : News h₀ L h (q0 :: q1 :: q2 :: q3 :: p :: q :: r) := reordG (fr := [q0, q1, q2, q3]) N
theorem reord5 {h₀ h : Heap} {L : Addr} {p q : Addr × Obj} {q0 q1 q2 q3 q4 : Addr × Obj} {r : List (Addr × Obj)} (N : News h₀ L h (p :: q :: q0 :: q1 :: q2 :: q3 :: q4 :: r)) : News h₀ L h (q0 :: q1 :: q2 :: q3 :: q4 :: p :: q :: r) := reordG (fr := [q0, q1, q2, q3, q4]) N
theorem reord6 {h₀ h : Heap} {L : Addr} {p q : Addr × Obj} {q0 q1 q2 q3 q4 q5 : Addr × Obj} {r : List (Addr × Obj)} (N : News h₀ L h (p :: q :: q0 :: q1 :: q2 :: q3 :: q4 :: q5 :: r)) : News h₀ L h (q0 :: q1 :: q2 :: q3 :: q4 :: q5 :: p :: q :: r) := reordG (fr := [q0, q1, q2, q3, q4, q5]) N
inductive Uop where
  | neg | not | inv | pos
noncomputable def Uop.word : Uop → Str
  | .neg => "minus"
  | .not => "not"
  | .inv => "turned"
  | .pos => "plus"
noncomputable def Uop.sign : Uop → Str
  | .neg => "-"
  | .not => "!"
  | .inv => "~"
  | .pos => "+"
noncomputable def oneB (o : Uop) (x : V) : V := match o with
  | .neg => V.mk' (-x.n) x.u x.b
  | .not => ⟨if x.n == 0 then 1 else 0, false, x.b⟩
  | .inv => V.mk' (Builtin.bitNot x.n) x.u x.b
  | .pos => x
noncomputable def chosenB (t x y : V) : V := V.mk' (if t.n != 0 then x.n else y.n) (x.u || y.u) (t.b || (if t.n != 0 then x.b else y.b))
section
variable {h₀ h : Heap} {L sl el : Addr} {news : List (Addr × Obj)} {prog : Program} {w : World} {A : Around} {E : Value → Shared → Prop} {s : Shared} {Q : Value → Shared → Prop} {ps : List Value} {x : Value} {n k : Nat} {ts : List Str}
theorem strs_carried : ∀ {vs : List Value} {ss : List Str}, StrsAre vs ss → CarriedAll vs (ss.map PyData.str)
  | _, _, .nil => .nil
  | _, _, .cons _ t r => .cons (.str _ t) (strs_carried r)
theorem strs_canLayAll0 : ∀ ns : List Str, (∀ t ∈ ns, PyData.strOk t = true) → PyData.canLayAll0 (ns.map PyData.str) = true
  | [], _ => rfl
  | a :: r, h => by simp [PyData.canLayAll0, PyData.canLay0, h a (.head _), strs_canLayAll0 r fun t ht => h t (.tail _ ht)]
theorem strs_depthAll : ∀ ns : List Str, PyData.depthAll (ns.map PyData.str) = 0
  | [] => rfl
  | _ :: r => by simp [PyData.depthAll, PyData.depth, strs_depthAll r]
theorem strs_shaped (ns : List Str) (h : ∀ t ∈ ns, PyData.strOk t = true) : SeqAt.shaped (.list (ns.map PyData.str)) = true := by
  simp [SeqAt.shaped, PyData.canLay0, PyData.depth, strs_canLayAll0 ns h, strs_depthAll]
noncomputable def Strs (vs : List Value) (ss : List Str) : Prop := StrsAre vs ss ∧ ∀ t ∈ ss, PyData.strOk t = true
theorem strs_eqv_nil : ∀ ts : List Str, ts ≠ [] → PyData.eqv (.list (ts.map PyData.str)) (.list []) = false
  | [], h => absurd rfl h
  | _ :: _, _ => by simp [PyData.eqv, PyData.eqvAll]
theorem strs_ne_nil (hs : StrsAre (ps ++ [x]) ts) : ts ≠ [] := by
  intro e; subst e; cases ps <;> cases hs
theorem some_eq_nil (N : News h₀ L s.heap news) (h1 : (sl, listOf (ps ++ [x]).toArray n) ∈ news) (h2 : (el, listOf [].toArray k) ∈ news) (hs : Strs (ps ++ [x]) ts) (hu : A.units + 64 < cLine) (h : Q (.bool false) s) :
    wpAny (model prog w) A (compareOp .Eq (.ref sl) (.ref el)) Q E s :=
  eq_dataH (reads_newData (PySem.IsL.isList (News.get N h1)) (strs_carried hs.1)) (reads_newData (PySem.IsL.isList (News.get N h2)) .nil) (strs_shaped _ hs.2) rfl hu (by rw [strs_eqv_nil _ (strs_ne_nil hs.1)]; exact h)
theorem some_ne_nil (N : News h₀ L s.heap news) (h1 : (sl, listOf (ps ++ [x]).toArray n) ∈ news) (h2 : (el, listOf [].toArray k) ∈ news) (hs : Strs (ps ++ [x]) ts) (hu : A.units + 64 < cLine) (h : Q (.bool true) s) :
    wpAny (model prog w) A (compareOp .NotEq (.ref sl) (.ref el)) Q E s :=
  ne_dataH (reads_newData (PySem.IsL.isList (News.get N h1)) (strs_carried hs.1)) (reads_newData (PySem.IsL.isList (News.get N h2)) .nil) (strs_shaped _ hs.2) rfl hu (by rw [strs_eqv_nil _ (strs_ne_nil hs.1)]; exact h)
theorem last_item {value slice : PySem.Expr} {u : Tok} (N : News h₀ L s.heap news) (h1 : (sl, listOf (ps ++ [x]).toArray n) ∈ news) (h : Q x s)
    (hs : subscripted slice false (.ref sl) (.int (-1) u) = operate [.ref sl, .int (-1) u] (getItem (.ref sl) (.int (-1) u)) := by with_unfolding_all rfl) (hg : ∀ r, letTemporaryGo value (.ref sl) r = pure () := by intro _; with_unfolding_all rfl) :
    wpAny (model prog w) A (subscriptTail value slice (.ref sl) (.int (-1) u)) Q E s :=
by
  have e : ((-1 : Int) + ((ps ++ [x]).length : Int)).toNat = ps.length := by rw [List.length_append]; show ((-1 : Int) + ((ps.length + 1 : Nat) : Int)).toNat = _; omega
  exact kim_back N h1 rfl rfl (by decide) (by rw [List.length_append]; show -((ps.length + 1 : Nat) : Int) ≤ -1; omega) (by decide) (by rw [e]; simp) h hs hg
end
section
variable {w : World} {mean : ExcName → Option Value} {mg mb : Str → Option Value} {dp un : Nat} {gd : Option (List Code)} {cn : Str} {cs : Scope} {a : Addr} {ccd : Value} {cl : List (Str × Addr)} {outer : List Env} {A₀ : Around} {base h₀ : Heap} {L : Addr} {m : Str → Option Value} {news : List (Addr × Obj)} {s : Shared} {Q E : Value → Shared → Prop}
theorem kw28 : True := by
  (k_with "call ref" => ((with_reducible show wpAny _ _ (call (Value.ref 165) [Value.int _ _, Value.bool _, Value.bool _]) _ _ _); k_dflt (refine' mkval _ _ _ _ (by k_asm) (by k_asm) (by k_asm) (by k_asm) (by k_asm) (by first | exact rfl | assumption) (by ktr_room) (by ktr_units) (VRet.of ?_); k_whole; intro x' dx' ka' kb' kc' kt' h' tk' F' N' l1 l2); (have l1b := l1); (try simp only [AllLt, and_true] at l1); (try dsimp only); (try k_fold)))
  (k_with "call ref" => ((with_reducible show wpAny _ _ (call (Value.ref 176) [Value.bool _, Value.bool _]) _ _ _); k_dflt (refine' truthC _ _ (by k_asm) (by k_asm) (by k_asm) (by k_asm) (by k_asm) (by first | exact rfl | assumption) (by ktr_room) (by ktr_units) (VRet.of ?_); k_whole; intro x' dx' ka' kb' kc' kt' h' tk' F' N' l1 l2); (have l1b := l1); (try simp only [AllLt, and_true] at l1); (try dsimp only); (try k_fold)))
  trivial
theorem oneC (o : Uop) (va : Value) (x : V) (t0 : Tok) (ho : o ≠ .pos) (B : Below A₀ base outer h₀) (F : Fr h₀ L s.heap m) (X : (KQ w.params).In h₀) (N : News h₀ L s.heap news) (T : Top viewQ looseQ mean mg mb h₀) (hk : cs.kind = .function) (ha : ValAt w news va x)
    (hd : dp + 12 < recursionLimit) (hu : un + 120 < cLine)
    (ret : VRet w h₀ L m news s Q (oneB o x).n (oneB o x).u (oneB o x).b) :
    wpAny (MQ w) (ktrTop dp un gd cn cs L a ccd cl outer) (call (.ref 190) [.str o.word t0, va]) Q E s := by
  obtain ⟨xa, da, ka1, ka2, ka3, ta, rfl, ma1, ma2⟩ := ha
  have N2 := News.dup (News.dup N ma2) (.tail _ ma1)
  cases o with
  | pos => exact absurd rfl ho
  | not =>
    (k_dflt (refine enterK fd190 (bs := [(Str.ofString "word", .str (Str.ofString "not") t0), (Str.ofString "a", .ref xa)]) (by exact rfl) (by exact rfl) (by k_asm) (by k_asm) (by k_asm) (by k_asm) (by k_asm) (by first | exact rfl | assumption) (by ktr_room) ?_; k_whole); intro g' L' h' FG' F' N' B' X' T' tk' qk ek; (try k_lift B'))
    k_steps
    all_goals (refine ret _ _ _ _ _ _ _ _ _ _ _ ?_ ?_ ?_ (by assumption) (by first | assumption | (exact vdrop (by assumption) (by intro p hp; simp only [List.mem_cons, hp, or_true, true_or]))) (by first | assumption | (exact altsub (by assumption) (by intro p hp; simp only [List.mem_cons, hp, or_true, true_or]))) (by assumption) <;> simp [oneB, V.mk', *]; done)
  | neg =>
    (k_dflt (refine enterK fd190 (bs := [(Str.ofString "word", .str (Str.ofString "minus") t0), (Str.ofString "a", .ref xa)]) (by exact rfl) (by exact rfl) (by k_asm) (by k_asm) (by k_asm) (by k_asm) (by k_asm) (by first | exact rfl | assumption) (by ktr_room) ?_; k_whole); intro g' L' h' FG' F' N' B' X' T' tk' qk ek; (try k_lift B'))
    k_steps
    all_goals (refine ret _ _ _ _ _ _ _ _ _ _ _ ?_ ?_ ?_ (by assumption) (by first | assumption | (exact vdrop (by assumption) (by intro p hp; simp only [List.mem_cons, hp, or_true, true_or]))) (by first | assumption | (exact altsub (by assumption) (by intro p hp; simp only [List.mem_cons, hp, or_true, true_or]))) (by assumption) <;> simp [oneB, V.mk', *]; done)
  | inv =>
    (k_dflt (refine enterK fd190 (bs := [(Str.ofString "word", .str (Str.ofString "turned") t0), (Str.ofString "a", .ref xa)]) (by exact rfl) (by exact rfl) (by k_asm) (by k_asm) (by k_asm) (by k_asm) (by k_asm) (by first | exact rfl | assumption) (by ktr_room) ?_; k_whole); intro g' L' h' FG' F' N' B' X' T' tk' qk ek; (try k_lift B'))
    k_steps
    all_goals (refine ret _ _ _ _ _ _ _ _ _ _ _ ?_ ?_ ?_ (by assumption) (by first | assumption | (exact vdrop (by assumption) (by intro p hp; simp only [List.mem_cons, hp, or_true, true_or]))) (by first | assumption | (exact altsub (by assumption) (by intro p hp; simp only [List.mem_cons, hp, or_true, true_or]))) (by assumption) <;> simp [oneB, V.mk', *]; done)
theorem plusC (va : Value) (x : V) (t0 : Tok) (B : Below A₀ base outer h₀) (F : Fr h₀ L s.heap m) (X : (KQ w.params).In h₀) (N : News h₀ L s.heap news) (T : Top viewQ looseQ mean mg mb h₀) (hk : cs.kind = .function) (ha : ValAt w news va x)
    (hd : dp + 12 < recursionLimit) (hu : un + 120 < cLine)
    (ret : ∀ (h' : Heap) (tk' : Nat), Fr h₀ L h' m → News h₀ L h' news → Q va { s with heap := h', toks := tk' }) :
    wpAny (MQ w) (ktrTop dp un gd cn cs L a ccd cl outer) (call (.ref 190) [.str (Str.ofString "plus") t0, va]) Q E s := by
  obtain ⟨xa, da, ka1, ka2, ka3, ta, rfl, ma1, ma2⟩ := ha
  refine pad4 fun _ _ _ _ => ?_
  refine pad1 fun _ => ?_
  (k_dflt (refine enterK fd190 (bs := [(Str.ofString "word", .str (Str.ofString "plus") t0), (Str.ofString "a", .ref xa)]) (by exact rfl) (by exact rfl) (by k_asm) (by k_asm) (by k_asm) (by k_asm) (by k_asm) (by first | exact rfl | assumption) (by ktr_room) ?_; k_whole); intro g' L' h' FG' F' N' B' X' T' tk' qk ek; (try k_lift B'))
  k_steps
  all_goals (exact ret _ _ (by assumption) (by assumption))
theorem choC (vt va vb : Value) (t x y : V) (B : Below A₀ base outer h₀) (F : Fr h₀ L s.heap m) (X : (KQ w.params).In h₀) (N : News h₀ L s.heap news) (T : Top viewQ looseQ mean mg mb h₀) (hk : cs.kind = .function) (ht : ValAt w news vt t) (ha : ValAt w news va x) (hb : ValAt w news vb y)
    (hd : dp + 12 < recursionLimit) (hu : un + 120 < cLine)
    (ret : VRet w h₀ L m news s Q (chosenB t x y).n (chosenB t x y).u (chosenB t x y).b) :
    wpAny (MQ w) (ktrTop dp un gd cn cs L a ccd cl outer) (call (.ref 211) [vt, va, vb]) Q E s := by
  obtain ⟨xt, dt, kt1, kt2, kt3, tt, rfl, mt1, mt2⟩ := ht
  obtain ⟨xa, da, ka1, ka2, ka3, ta, rfl, ma1, ma2⟩ := ha
  obtain ⟨xb, db, kb1, kb2, kb3, tb, rfl, mb1, mb2⟩ := hb
  have N2 := News.dup (News.dup (News.dup (News.dup N mb2) (.tail _ mb1)) (.tail _ (.tail _ ma2))) (.tail _ (.tail _ (.tail _ ma1)))
  have N3 := News.dup (News.dup N2 (.tail _ (.tail _ (.tail _ (.tail _ mt2))))) (.tail _ (.tail _ (.tail _ (.tail _ (.tail _ mt1)))))
  clear N2
  (k_dflt (refine enterK fd211 (bs := [(Str.ofString "test", .ref xt), (Str.ofString "a", .ref xa), (Str.ofString "b", .ref xb)]) (by exact rfl) (by exact rfl) (by k_asm) (by k_asm) (by k_asm) (by k_asm) (by k_asm) (by first | exact rfl | assumption) (by ktr_room) ?_; k_whole); intro g' L' h' FG' F' N' B' X' T' tk' qk ek; (try k_lift B'))
  k_steps
  all_goals (refine ret _ _ _ _ _ _ _ _ _ _ _ ?_ ?_ ?_ (by assumption) (by first | assumption | (exact vdrop (by assumption) (by intro p hp; simp only [List.mem_cons, hp, or_true, true_or]))) (by first | assumption | (exact altsub (by assumption) (by intro p hp; simp only [List.mem_cons, hp, or_true, true_or]))) (by assumption) <;> simp [chosenB, V.mk', *]; done)
end
end
end
section
open PySem PySem.W PyProof.Rows PySem.Calls PySem.Spec
section

theorem kw29 : True := by
  k_with_none
  trivial
noncomputable abbrev cdict (w : World) (tl pl vl sl : Addr) (k1 k2 k3 k4 : Tok) : Obj := dictOf [fld w "tokens" k1 (.ref tl), fld w "place" k2 (.ref pl), fld w "values" k3 (.ref vl), fld w "signs" k4 (.ref sl)] 4
noncomputable abbrev tdict (w : World) (kind text file : Str) (line : Int) (k1 k2 k3 k4 t1 t2 t3 t4 : Tok) : Obj := dictOf [fld w "kind" k1 (.str kind t1), fld w "text" k2 (.str text t2), fld w "file" k3 (.str file t3), fld w "line" k4 (.int line t4)] 4
section
variable {w : World} {mean : ExcName → Option Value} {mg mb : Str → Option Value} {dp un : Nat} {gd : Option (List Code)} {cn : Str} {cs : Scope} {a : Addr} {ccd : Value} {cl : List (Str × Addr)} {outer : List Env} {A₀ : Around} {base h₀ : Heap} {L : Addr} {m : Str → Option Value} {news : List (Addr × Obj)} {s : Shared} {Q E : Value → Shared → Prop}
theorem mkTok (kind text file : Str) (line : Int) (t1 t2 t3 t4 : Tok) (B : Below A₀ base outer h₀) (F : Fr h₀ L s.heap m) (X : (KQ w.params).In h₀) (N : News h₀ L s.heap news) (T : Top viewQ looseQ mean mg mb h₀) (hk : cs.kind = .function) 
    (hd : dp + 6 < recursionLimit) (hu : un + 60 < cLine)
    (ret : ∀ (x dx : Addr) (k1 k2 k3 k4 : Tok) (h' : Heap) (tk' : Nat), Fr h₀ L h' m → News h₀ L h' ((x, instObj 106 dx) :: (dx, tdict w kind text file line k1 k2 k3 k4 t1 t2 t3 t4) :: news) → AllLt dx news → dx < x → Q (.ref x) { s with heap := h', toks := tk' }) :
    wpAny (MQ w) (ktrTop dp un gd cn cs L a ccd cl outer) (call (.ref 106) [.str kind t1, .str text t2, .str file t3, .int line t4]) Q E s := by
  (k_dflt (refine' call_cls ?k1 ?k2 ?k3 ?k4 ?k5 ?k6 ?_; (case k1 => k_asm); (case k2 => k_asm); (case k3 => k_asm); (case k4 => k_is); (case k5 => k_is); (case k6 => k_is); k_whole; intro x' d' h' F' N' l1 l2; (try k_lt l1); (try k_lt2 l2); (try k_sweep)))
  (k_dflt (refine' code_def (binds := [(Str.ofString "self", .ref x'), (Str.ofString "kind", .str kind t1), (Str.ofString "text", .str text t2), (Str.ofString "file", .str file t3), (Str.ofString "line", .int line t4)]) ?k1 ?k2 ?k3 ?k4 ?k5 ?kA ?kF ?kK ?k6 ?k7 ?k8 ?k9 ?kB ?_ ?c2 ?c3 ?c4 ?c5; (case kA | kF => exact rfl); (case kK => first | exact rfl | assumption); (case k1 | k2 | k3 | k4 | k5 => k_asm); (case k6 | k7 => k_is); (case k8 => ktr_room); (case k9 => exact BindsTo.of_eq rfl); (case c5 => decide); (case kB => exact locs rfl); (case c2 | c3 | c4 => exact rfl); k_whole; intro g' L' h' FG' F' N' B' X' T'; (try dsimp only); (try k_lift B'); (try k_fold)))
  k_steps
  all_goals (exact ret _ _ _ _ _ _ _ _ (by assumption) (by assumption) (by first | assumption | exact allLt_of (by assumption)) (by assumption))
theorem mkCond (tl pl : Addr) (B : Below A₀ base outer h₀) (F : Fr h₀ L s.heap m) (X : (KQ w.params).In h₀) (N : News h₀ L s.heap news) (T : Top viewQ looseQ mean mg mb h₀) (hk : cs.kind = .function) 
    (hd : dp + 6 < recursionLimit) (hu : un + 60 < cLine)
    (ret : ∀ (c dc vl sl : Addr) (k1 k2 k3 k4 : Tok) (nv ns : Nat) (h' : Heap) (tk' : Nat), Fr h₀ L h' m → News h₀ L h' ((sl, listOf [].toArray ns) :: (vl, listOf [].toArray nv) :: (c, instObj 291 dc) :: (dc, cdict w tl pl vl sl k1 k2 k3 k4) :: news) → AllLt dc news → dc < c → c < vl → vl < sl → Q (.ref c) { s with heap := h', toks := tk' }) :
    wpAny (MQ w) (ktrTop dp un gd cn cs L a ccd cl outer) (call (.ref 291) [.ref tl, .ref pl]) Q E s := by
  (k_dflt (refine' call_cls ?k1 ?k2 ?k3 ?k4 ?k5 ?k6 ?_; (case k1 => k_asm); (case k2 => k_asm); (case k3 => k_asm); (case k4 => k_is); (case k5 => k_is); (case k6 => k_is); k_whole; intro x' d' h' F' N' l1 l2; (try k_lt l1); (try k_lt2 l2); (try k_sweep)))
  (k_dflt (refine' code_def (binds := [(Str.ofString "self", .ref x'), (Str.ofString "tokens", .ref tl), (Str.ofString "place", .ref pl)]) ?k1 ?k2 ?k3 ?k4 ?k5 ?kA ?kF ?kK ?k6 ?k7 ?k8 ?k9 ?kB ?_ ?c2 ?c3 ?c4 ?c5; (case kA | kF => exact rfl); (case kK => first | exact rfl | assumption); (case k1 | k2 | k3 | k4 | k5 => k_asm); (case k6 | k7 => k_is); (case k8 => ktr_room); (case k9 => exact BindsTo.of_eq rfl); (case c5 => decide); (case kB => exact locs rfl); (case c2 | c3 | c4 => exact rfl); k_whole; intro g' L' h' FG' F' N' B' X' T'; (try dsimp only); (try k_lift B'); (try k_fold)))
  k_steps
  all_goals (exact ret _ _ _ _ _ _ _ _ _ _ _ _ (by assumption) (by assumption) (by first | assumption | exact allLt_of (by assumption)) (by first | assumption | exact And.left (by assumption) | exact And.left (And.right (by assumption)) | exact And.left (And.right (And.right (by assumption))) | exact And.left (And.right (And.right (And.right (by assumption)))) | exact And.left (And.right (And.right (And.right (And.right (by assumption)))))) (by first | assumption | exact And.left (by assumption) | exact And.left (And.right (by assumption)) | exact And.left (And.right (And.right (by assumption))) | exact And.left (And.right (And.right (And.right (by assumption)))) | exact And.left (And.right (And.right (And.right (And.right (by assumption)))))) (by first | assumption | exact And.left (by assumption) | exact And.left (And.right (by assumption)) | exact And.left (And.right (And.right (by assumption))) | exact And.left (And.right (And.right (And.right (by assumption)))) | exact And.left (And.right (And.right (And.right (And.right (by assumption)))))))
end
end
end
section
open PySem PySem.W PyProof.Rows PySem.Calls PySem.Spec
section

theorem ValAt.mono {w : World} {n1 n2 : List (Addr × Obj)} {v : Value} {x : V} (h : ValAt w n1 v x) (hs : ∀ p ∈ n1, p ∈ n2) : ValAt w n2 v x := by
  obtain ⟨a, da, k1, k2, k3, t, e, h1, h2⟩ := h
  exact ⟨a, da, k1, k2, k3, t, e, hs _ h1, hs _ h2⟩
section
variable {prog : Program} {w : World} {A : Around} {E : Value → Shared → Prop} {s : Shared} {h₀ : Heap} {L D : Addr} {m : Str → Option Value} {news news' : List (Addr × Obj)} {ps : List Value} {y : Value} {n : Nat} {Q : Value → Shared → Prop}
theorem pop_mine (F : Fr h₀ L s.heap m) (N : News h₀ L s.heap news) (U : Upd D (listOf (ps ++ [y]).toArray n) (listOf ps.toArray (n + 1)) news news') (hz : ps.length < 1000)
    (h : ∀ h', Fr h₀ L h' m → News h₀ L h' news' → Q y { s with heap := h' }) : wpAny (model prog w) A (call (.builtin "list.pop") [.ref D]) Q E s :=
  kl_pop F N (p := ps) (y := y) (kpa_last y ps) U (by show (ps ++ [y]).length ≤ sizeLine; rw [List.length_append, PySem.sizeLine_eq]; show ps.length + 1 ≤ _; omega) h
theorem append_mine (F : Fr h₀ L s.heap m) (N : News h₀ L s.heap news) (U : Upd D (listOf ps.toArray n) (listOf (ps ++ [y]).toArray (n + 1)) news news') (hz : ps.length < 1000)
    (h : ∀ h', Fr h₀ L h' m → News h₀ L h' news' → Q .none { s with heap := h' }) : wpAny (model prog w) A (call (.builtin "list.append") [.ref D, y]) Q E s :=
  append_K F N (its := ps.toArray) (by rw [List.push_toArray]; exact U) h (by rw [List.size_toArray, PySem.sizeLine_eq]; omega)
end
theorem bop_colon (o : Bop) : (o.txt == Str.ofString ":") = false := by cases o <;> rfl
theorem uop_colon (o : Uop) : (o.word == Str.ofString ":") = false := by cases o <;> rfl
section
variable {prog : Program} {w : World} {A : Around} {E : Value → Shared → Prop} {s : Shared} {Q : Value → Shared → Prop} {t u : Tok}
theorem eq_bcolon (o : Bop) (h : Q (.bool false) s) : wpAny (model prog w) A (compareOp .Eq (.str o.txt t) (.str (Str.ofString ":") u)) Q E s := eq_str (by rw [bop_colon]; exact h)
theorem eq_ucolon (o : Uop) (h : Q (.bool false) s) : wpAny (model prog w) A (compareOp .Eq (.str o.word t) (.str (Str.ofString ":") u)) Q E s := eq_str (by rw [uop_colon]; exact h)
end
theorem bop_par (o : Bop) : ([Str.ofString "(", Str.ofString "?"].any (· == o.txt)) = false := by cases o <;> rfl
theorem uop_par (o : Uop) : ([Str.ofString "(", Str.ofString "?"].any (· == o.word)) = false := by cases o <;> rfl
theorem News.tl {h₀ h : Heap} {L : Addr} {p : Addr × Obj} {r : List (Addr × Obj)} (N : News h₀ L h (p :: r)) : News h₀ L h r := fun q hq => N q (.tail _ hq)
section
variable {prog : Program} {w : World} {A : Around} {E : Value → Shared → Prop} {s : Shared} {Q : Value → Shared → Prop} {t t1 t2 : Tok} {x : Str} {D : Addr} {h₀ : Heap} {L : Addr} {news : List (Addr × Obj)} {n : Nat} {d : Option Addr} {sl : Array (Option Value)}
theorem in_par (N : News h₀ L s.heap news) (hm : (D, ({ cls := .type "tuple", dict := d, data := .seq #[.str (Str.ofString "(") t1, .str (Str.ofString "?") t2] n, slots := sl } : Obj)) ∈ news)
    (hx : ([Str.ofString "(", Str.ofString "?"].any (· == x)) = false) (h : Q (.bool false) s) : wpAny (model prog w) A (compareOp .In (.str x t) (.ref D)) Q E s :=
  in_tuple_strs (News.isTup N hm) (.cons _ _ (.cons _ _ .nil)) (by rw [hx]; exact h)
theorem notin_par (N : News h₀ L s.heap news) (hm : (D, ({ cls := .type "tuple", dict := d, data := .seq #[.str (Str.ofString "(") t1, .str (Str.ofString "?") t2] n, slots := sl } : Obj)) ∈ news)
    (hx : ([Str.ofString "(", Str.ofString "?"].any (· == x)) = false) (h : Q (.bool true) s) : wpAny (model prog w) A (compareOp .NotIn (.str x t) (.ref D)) Q E s :=
  notin_tuple_strs (News.isTup N hm) (.cons _ _ (.cons _ _ .nil)) (by rw [hx]; exact h)
end
theorem uop_lev (P : Params) (o : Uop) : nsIn (KQ P) 146 o.word = some none := by
  cases o <;> kernel_rfl
noncomputable def Apart (rest : List (Addr × Obj)) (vl sl : Addr) : Prop := (∀ p ∈ rest, p.1 ≠ vl) ∧ ∀ p ∈ rest, p.1 ≠ sl
structure Six (c dc vl sl : Nat) : Prop where
  a : c ≠ vl
  b : c ≠ sl
  c : dc ≠ vl
  d : dc ≠ sl
  e : vl ≠ sl
  f : sl ≠ vl
noncomputable abbrev led (w : World) (c dc vl sl tl pl : Addr) (k1 k2 k3 k4 : Tok) (vs : List Value) (nv : Nat) (ss : List Value) (ns : Nat) (rest : List (Addr × Obj)) : List (Addr × Obj) :=
  (c, instObj 291 dc) :: (dc, cdict w tl pl vl sl k1 k2 k3 k4) :: (vl, listOf vs.toArray nv) :: (sl, listOf ss.toArray ns) :: rest
noncomputable abbrev RedRet (w : World) (h₀ : Heap) (L : Addr) (m : Str → Option Value) (s : Shared) (Q : Value → Shared → Prop) (c dc vl sl tl pl : Addr) (k1 k2 k3 k4 : Tok) (us ps : List Value) (rest : List (Addr × Obj)) (r : V) : Prop :=
  ∀ (v : Value) (rest' : List (Addr × Obj)) (nv' ns' : Nat) (h' : Heap) (tk' : Nat), Fr h₀ L h' m → News h₀ L h' ((c, instObj 291 dc) :: (dc, cdict w tl pl vl sl k1 k2 k3 k4) :: (vl, listOf (us ++ [v]).toArray nv') :: (sl, listOf ps.toArray ns') :: rest') → (∀ p ∈ rest, p ∈ rest') → Apart rest' vl sl → ValAt w rest' v r → Q .none { s with heap := h', toks := tk' }
local macro_rules | `(tactic| k_ne) => `(tactic| assumption)

section
variable {w : World} {mean : ExcName → Option Value} {mg mb : Str → Option Value} {dp un : Nat} {gd : Option (List Code)} {cn : Str} {cs : Scope} {a : Addr} {ccd : Value} {cl : List (Str × Addr)} {outer : List Env} {A₀ : Around} {base h₀ : Heap} {L : Addr} {m : Str → Option Value} {news : List (Addr × Obj)} {s : Shared} {Q E : Value → Shared → Prop}
variable {c dc vl sl tl pl : Addr} {k1 k2 k3 k4 : Tok} {nv ns : Nat} {rest : List (Addr × Obj)} {us ps : List Value}
theorem kw31 : True := by
  (k_with "call builtin:list.pop" => ((with_reducible show wpAny _ _ (call (Value.builtin _) [Value.ref _]) _ _ _); k_dflt (refine' pop_mine (by k_asm) (by k_asm) (by k_upd) (by (first | omega | (simp only [List.length_append, List.length_cons, List.length_nil]; omega))) ?_); intro h' F' N'))
  (k_with "call builtin:list.append" => ((with_reducible show wpAny _ _ (call (Value.builtin _) [Value.ref _, _]) _ _ _); k_dflt (refine' append_mine (by k_asm) (by k_asm) (by k_upd) (by (first | omega | (simp only [List.length_append, List.length_cons, List.length_nil]; omega))) ?_); intro h' F' N'))
  (k_with "compareOp Eq str str" => first | ((with_reducible show wpAny _ _ (compareOp CmpOp.Eq (Value.str (Bop.txt _) _) _) _ _ _); refine eq_bcolon _ ?_) | ((with_reducible show wpAny _ _ (compareOp CmpOp.Eq (Value.str (Uop.word _) _) _) _ _ _); refine eq_ucolon _ ?_))
  (k_with "compareOp In str ref" => (first | ((with_reducible show wpAny _ _ (compareOp CmpOp.In (Value.str (Bop.txt _) _) (Value.ref _)) _ _ _); k_dflt (refine' in_par (by k_asm) (by k_mem) (bop_par _) ?_)) | ((with_reducible show wpAny _ _ (compareOp CmpOp.In (Value.str (Uop.word _) _) (Value.ref _)) _ _ _); k_dflt (refine' in_par (by k_asm) (by k_mem) (uop_par _) ?_; ))))
  (k_with "compareOp NotIn str ref" => (first | ((with_reducible show wpAny _ _ (compareOp CmpOp.NotIn (Value.str (Bop.txt _) _) (Value.ref _)) _ _ _); k_dflt (refine' notin_par (by k_asm) (by k_mem) (bop_par _) ?_)) | ((with_reducible show wpAny _ _ (compareOp CmpOp.NotIn (Value.str (Uop.word _) _) (Value.ref _)) _ _ _); k_dflt (refine' notin_par (by k_asm) (by k_mem) (uop_par _) ?_; ))))
  (k_with "compareOp In str ref" => ((with_reducible show wpAny _ _ (compareOp CmpOp.In (Value.str _ _) (Value.ref 146)) _ _ _); k_dflt (refine' topIn_K (by k_asm) (by k_asm) (by k_is) (by k_keys) (by first | exact lev_at _ _ | exact uop_lev _ _) (by decide) ?_); (try dsimp only [Option.isSome])))
  (k_with "call ref" => ((with_reducible show wpAny _ _ (call (Value.ref 204) [Value.str (Bop.txt _) _, Value.ref _, Value.ref _]) _ _ _); k_dflt (refine' twoC _ _ _ _ _ _ (by k_asm) (by k_asm) (by k_asm) (by k_asm) (by k_asm) (by first | exact rfl | assumption) (by (exact ValAt.mono (by assumption) (by intro p hp; simp only [List.mem_cons, hp, or_true, true_or]))) (by (exact ValAt.mono (by assumption) (by intro p hp; simp only [List.mem_cons, hp, or_true, true_or]))) (by assumption) (by assumption) (by ktr_room) (by ktr_units) (VRet.of ?_); k_whole; intro x' dx' ka' kb' kc' kt' h' tk' F' N' l1 l2); (have l1b := l1); (replace l2 := ltN l2); (try simp only [AllLt, and_true] at l1); (first | (obtain ⟨_, _, _, _, _, _⟩ := l1) | (obtain ⟨_, _, _, _, _⟩ := l1) | skip); (first | replace N' := reord12 N' | replace N' := reord11 N' | replace N' := reord10 N' | replace N' := reord9 N' | replace N' := reord8 N' | replace N' := reord7 N' | replace N' := reord6 N' | replace N' := reord5 N' | replace N' := reord4 N' | replace N' := reord3 N' | replace N' := reord2 N' | replace N' := reord1 N' | skip); (try dsimp only); (try k_fold)))
  (k_with "call ref" => ((with_reducible show wpAny _ _ (call (Value.ref 190) [Value.str (Uop.word _) _, Value.ref _]) _ _ _); k_dflt (refine' oneC _ _ _ _ (by assumption) (by k_asm) (by k_asm) (by k_asm) (by k_asm) (by k_asm) (by first | exact rfl | assumption) (by (exact ValAt.mono (by assumption) (by intro p hp; simp only [List.mem_cons, hp, or_true, true_or]))) (by ktr_room) (by ktr_units) (VRet.of ?_); k_whole; intro x' dx' ka' kb' kc' kt' h' tk' F' N' l1 l2); (have l1b := l1); (replace l2 := ltN l2); (try simp only [AllLt, and_true] at l1); (first | (obtain ⟨_, _, _, _, _, _⟩ := l1) | (obtain ⟨_, _, _, _, _⟩ := l1) | skip); (first | replace N' := reord12 N' | replace N' := reord11 N' | replace N' := reord10 N' | replace N' := reord9 N' | replace N' := reord8 N' | replace N' := reord7 N' | replace N' := reord6 N' | replace N' := reord5 N' | replace N' := reord4 N' | replace N' := reord3 N' | replace N' := reord2 N' | replace N' := reord1 N' | skip); (try dsimp only); (try k_fold)))
  (k_with "call ref" => ((with_reducible show wpAny _ _ (call (Value.ref 211) [Value.ref _, Value.ref _, Value.ref _]) _ _ _); k_dflt (refine' choC _ _ _ _ _ _ (by k_asm) (by k_asm) (by k_asm) (by k_asm) (by k_asm) (by first | exact rfl | assumption) (by (exact ValAt.mono (by assumption) (by intro p hp; simp only [List.mem_cons, hp, or_true, true_or]))) (by (exact ValAt.mono (by assumption) (by intro p hp; simp only [List.mem_cons, hp, or_true, true_or]))) (by (exact ValAt.mono (by assumption) (by intro p hp; simp only [List.mem_cons, hp, or_true, true_or]))) (by ktr_room) (by ktr_units) (VRet.of ?_); k_whole; intro x' dx' ka' kb' kc' kt' h' tk' F' N' l1 l2); (have l1b := l1); (replace l2 := ltN l2); (try simp only [AllLt, and_true] at l1); (first | (obtain ⟨_, _, _, _, _, _⟩ := l1) | (obtain ⟨_, _, _, _, _⟩ := l1) | skip); (first | replace N' := reord12 N' | replace N' := reord11 N' | replace N' := reord10 N' | replace N' := reord9 N' | replace N' := reord8 N' | replace N' := reord7 N' | replace N' := reord6 N' | replace N' := reord5 N' | replace N' := reord4 N' | replace N' := reord3 N' | replace N' := reord2 N' | replace N' := reord1 N' | skip); (try dsimp only); (try k_fold)))
  (k_with "call ref" => ((with_reducible show wpAny _ _ (call (Value.ref 190) [Value.str (Str.ofString "plus") _, Value.ref _]) _ _ _); k_dflt (refine' plusC _ _ _ (by k_asm) (by k_asm) (by k_asm) (by k_asm) (by k_asm) (by first | exact rfl | assumption) (by (exact ValAt.mono (by assumption) (by intro p hp; simp only [List.mem_cons, hp, or_true, true_or]))) (by ktr_room) (by ktr_units) ?_; k_whole; intro h' tk' F' N'); (try dsimp only); (try k_fold)))
  trivial
theorem redBin (o : Bop) (va vb : Value) (x y : V) (t0 : Tok) (B : Below A₀ base outer h₀) (F : Fr h₀ L s.heap m) (X : (KQ w.params).In h₀) (N : News h₀ L s.heap ((c, instObj 291 dc) :: (dc, cdict w tl pl vl sl k1 k2 k3 k4) :: (vl, listOf ((us ++ [va]) ++ [vb]).toArray nv) :: (sl, listOf (ps ++ [Value.str o.txt t0]).toArray ns) :: rest)) (T : Top viewQ looseQ mean mg mb h₀) (hk : cs.kind = .function) (six : Six c dc vl sl) (ap : Apart rest vl sl) (lu : us.length < 900) (lp : ps.length < 900)(ha : ValAt w rest va x) (hb : ValAt w rest vb y) (hx : In33 x.n) (hy : In33 y.n)
    (hd : dp + 20 < recursionLimit) (hu : un + 220 < cLine)
    (ret : RedRet w h₀ L m s Q c dc vl sl tl pl k1 k2 k3 k4 us ps rest (twoB o x y)) :
    wpAny (MQ w) (ktrTop dp un gd cn cs L a ccd cl outer) (call (.ref 253) [.ref c]) Q E s := by
  obtain ⟨e1, e2, e3, e4, e5, e6⟩ := six
  obtain ⟨ap1, ap2⟩ := ap
  obtain ⟨va', rfl⟩ : ∃ a, va = .ref a := by obtain ⟨a, _, _, _, _, _, e, _⟩ := ha; exact ⟨a, e⟩
  obtain ⟨vb', rfl⟩ : ∃ a, vb = .ref a := by obtain ⟨a, _, _, _, _, _, e, _⟩ := hb; exact ⟨a, e⟩
  refine pad4 fun _ _ _ _ => ?_
  (k_dflt (refine enterK fd253 (bs := [(Str.ofString "self", .ref c)]) (by exact rfl) (by exact rfl) (by k_asm) (by k_asm) (by k_asm) (by k_asm) (by k_asm) (by first | exact rfl | assumption) (by ktr_room) ?_; k_whole); intro g' L' h' FG' F' N' B' X' T' tk' qk ek; (try k_lift B'))
  k_steps
  all_goals (refine ret _ _ _ _ _ _ (by assumption) (by first | assumption | exact News.tl (by assumption) | exact News.tl (News.tl (by assumption)) | exact News.tl (News.tl (News.tl (by assumption))) | exact News.tl (News.tl (News.tl (News.tl (by assumption))))) (fun p hp => .tail _ (.tail _ hp)) ⟨?_, ?_⟩ ⟨_, _, _, _, _, _, rfl, .head _, .tail _ (.head _)⟩ <;> (intro p hp; rcases List.mem_cons.mp hp with rfl | hp; (k_ne); rcases List.mem_cons.mp hp with rfl | hp; (k_ne); first | exact ap1 p hp | exact ap2 p hp))
theorem redUn (o : Uop) (va : Value) (x : V) (t0 : Tok) (ho : o ≠ .pos) (B : Below A₀ base outer h₀) (F : Fr h₀ L s.heap m) (X : (KQ w.params).In h₀) (N : News h₀ L s.heap ((c, instObj 291 dc) :: (dc, cdict w tl pl vl sl k1 k2 k3 k4) :: (vl, listOf (us ++ [va]).toArray nv) :: (sl, listOf (ps ++ [Value.str o.word t0]).toArray ns) :: rest)) (T : Top viewQ looseQ mean mg mb h₀) (hk : cs.kind = .function) (six : Six c dc vl sl) (ap : Apart rest vl sl) (lu : us.length < 900) (lp : ps.length < 900)(ha : ValAt w rest va x)
    (hd : dp + 20 < recursionLimit) (hu : un + 220 < cLine)
    (ret : RedRet w h₀ L m s Q c dc vl sl tl pl k1 k2 k3 k4 us ps rest (oneB o x)) :
    wpAny (MQ w) (ktrTop dp un gd cn cs L a ccd cl outer) (call (.ref 253) [.ref c]) Q E s := by
  obtain ⟨e1, e2, e3, e4, e5, e6⟩ := six
  obtain ⟨ap1, ap2⟩ := ap
  obtain ⟨va', rfl⟩ : ∃ a, va = .ref a := by obtain ⟨a, _, _, _, _, _, e, _⟩ := ha; exact ⟨a, e⟩
  refine pad8 fun _ _ _ _ _ _ _ _ => ?_
  refine pad4 fun _ _ _ _ => ?_
  (k_dflt (refine enterK fd253 (bs := [(Str.ofString "self", .ref c)]) (by exact rfl) (by exact rfl) (by k_asm) (by k_asm) (by k_asm) (by k_asm) (by k_asm) (by first | exact rfl | assumption) (by ktr_room) ?_; k_whole); intro g' L' h' FG' F' N' B' X' T' tk' qk ek; (try k_lift B'))
  k_steps
  all_goals (refine ret _ _ _ _ _ _ (by assumption) (by first | assumption | exact News.tl (by assumption) | exact News.tl (News.tl (by assumption)) | exact News.tl (News.tl (News.tl (by assumption))) | exact News.tl (News.tl (News.tl (News.tl (by assumption))))) (fun p hp => .tail _ (.tail _ hp)) ⟨?_, ?_⟩ ⟨_, _, _, _, _, _, rfl, .head _, .tail _ (.head _)⟩ <;> (intro p hp; rcases List.mem_cons.mp hp with rfl | hp; (k_ne); rcases List.mem_cons.mp hp with rfl | hp; (k_ne); first | exact ap1 p hp | exact ap2 p hp))
theorem redPlus (va : Value) (x : V) (t0 : Tok) (B : Below A₀ base outer h₀) (F : Fr h₀ L s.heap m) (X : (KQ w.params).In h₀) (N : News h₀ L s.heap ((c, instObj 291 dc) :: (dc, cdict w tl pl vl sl k1 k2 k3 k4) :: (vl, listOf (us ++ [va]).toArray nv) :: (sl, listOf (ps ++ [Value.str (Str.ofString "plus") t0]).toArray ns) :: rest)) (T : Top viewQ looseQ mean mg mb h₀) (hk : cs.kind = .function) (six : Six c dc vl sl) (ap : Apart rest vl sl) (lu : us.length < 900) (lp : ps.length < 900)(ha : ValAt w rest va x)
    (hd : dp + 20 < recursionLimit) (hu : un + 220 < cLine)
    (ret : RedRet w h₀ L m s Q c dc vl sl tl pl k1 k2 k3 k4 us ps rest x) :
    wpAny (MQ w) (ktrTop dp un gd cn cs L a ccd cl outer) (call (.ref 253) [.ref c]) Q E s := by
  obtain ⟨e1, e2, e3, e4, e5, e6⟩ := six
  obtain ⟨ap1, ap2⟩ := ap
  obtain ⟨va', rfl⟩ : ∃ a, va = .ref a := by obtain ⟨a, _, _, _, _, _, e, _⟩ := ha; exact ⟨a, e⟩
  refine pad8 fun _ _ _ _ _ _ _ _ => ?_
  refine pad4 fun _ _ _ _ => ?_
  refine pad2 fun _ _ => ?_
  (k_dflt (refine enterK fd253 (bs := [(Str.ofString "self", .ref c)]) (by exact rfl) (by exact rfl) (by k_asm) (by k_asm) (by k_asm) (by k_asm) (by k_asm) (by first | exact rfl | assumption) (by ktr_room) ?_; k_whole); intro g' L' h' FG' F' N' B' X' T' tk' qk ek; (try k_lift B'))
  k_steps
  all_goals (exact ret _ _ _ _ _ _ (by assumption) (by first | assumption | exact News.tl (by assumption) | exact News.tl (News.tl (by assumption)) | exact News.tl (News.tl (News.tl (by assumption))) | exact News.tl (News.tl (News.tl (News.tl (by assumption))))) (fun p hp => hp) ⟨ap1, ap2⟩ ha)
theorem redCond (vt va vb : Value) (t x y : V) (t0 : Tok) (B : Below A₀ base outer h₀) (F : Fr h₀ L s.heap m) (X : (KQ w.params).In h₀) (N : News h₀ L s.heap ((c, instObj 291 dc) :: (dc, cdict w tl pl vl sl k1 k2 k3 k4) :: (vl, listOf (((us ++ [vt]) ++ [va]) ++ [vb]).toArray nv) :: (sl, listOf (ps ++ [Value.str (Str.ofString ":") t0]).toArray ns) :: rest)) (T : Top viewQ looseQ mean mg mb h₀) (hk : cs.kind = .function) (six : Six c dc vl sl) (ap : Apart rest vl sl) (lu : us.length < 900) (lp : ps.length < 900)(ht : ValAt w rest vt t) (ha : ValAt w rest va x) (hb : ValAt w rest vb y)
    (hd : dp + 20 < recursionLimit) (hu : un + 220 < cLine)
    (ret : RedRet w h₀ L m s Q c dc vl sl tl pl k1 k2 k3 k4 us ps rest (chosenB t x y)) :
    wpAny (MQ w) (ktrTop dp un gd cn cs L a ccd cl outer) (call (.ref 253) [.ref c]) Q E s := by
  obtain ⟨e1, e2, e3, e4, e5, e6⟩ := six
  obtain ⟨ap1, ap2⟩ := ap
  obtain ⟨vt', rfl⟩ : ∃ a, vt = .ref a := by obtain ⟨a, _, _, _, _, _, e, _⟩ := ht; exact ⟨a, e⟩
  obtain ⟨va', rfl⟩ : ∃ a, va = .ref a := by obtain ⟨a, _, _, _, _, _, e, _⟩ := ha; exact ⟨a, e⟩
  obtain ⟨vb', rfl⟩ : ∃ a, vb = .ref a := by obtain ⟨a, _, _, _, _, _, e, _⟩ := hb; exact ⟨a, e⟩
  (k_dflt (refine enterK fd253 (bs := [(Str.ofString "self", .ref c)]) (by exact rfl) (by exact rfl) (by k_asm) (by k_asm) (by k_asm) (by k_asm) (by k_asm) (by first | exact rfl | assumption) (by ktr_room) ?_; k_whole); intro g' L' h' FG' F' N' B' X' T' tk' qk ek; (try k_lift B'))
  k_steps
  all_goals (refine ret _ _ _ _ _ _ (by assumption) (by first | assumption | exact News.tl (by assumption) | exact News.tl (News.tl (by assumption)) | exact News.tl (News.tl (News.tl (by assumption))) | exact News.tl (News.tl (News.tl (News.tl (by assumption))))) (fun p hp => .tail _ (.tail _ hp)) ⟨?_, ?_⟩ ⟨_, _, _, _, _, _, rfl, .head _, .tail _ (.head _)⟩ <;> (intro p hp; rcases List.mem_cons.mp hp with rfl | hp; (k_ne); rcases List.mem_cons.mp hp with rfl | hp; (k_ne); first | exact ap1 p hp | exact ap2 p hp))
end
end
end
section
open PySem PySem.W PyProof.Rows PySem.Calls PySem.Spec
section

theorem kw32 : True := by
  k_with_none
  trivial
inductive Pend where
  | bin (o : Bop) | un (o : Uop) | cond
noncomputable def Pend.word : Pend → Str
  | .bin o => o.txt
  | .un o => o.word
  | .cond => Str.ofString ":"
noncomputable def Pend.ar : Pend → Nat
  | .bin _ => 2
  | .un _ => 1
  | .cond => 3
noncomputable def Pend.run : Pend → List V → V
  | .bin o, [x, y] => twoB o x y
  | .un o, [x] => oneB o x
  | .cond, [t, x, y] => chosenB t x y
  | _, _ => ⟨0, false, false⟩
inductive ValsAt (w : World) (rest : List (Addr × Obj)) : List Value → List V → Prop where
  | nil : ValsAt w rest [] []
  | cons {v : Value} {x : V} {vs : List Value} {xs : List V} : ValAt w rest v x → In33 x.n → ValsAt w rest vs xs → ValsAt w rest (v :: vs) (x :: xs)
theorem pend_par (p : Pend) : ([Str.ofString "(", Str.ofString "?"].any (· == p.word)) = false := by
  cases p with
  | bin o => exact bop_par o
  | un o => exact uop_par o
  | cond => rfl
local macro_rules | `(tactic| k_ne) => `(tactic| assumption)
section
variable {w : World} {mean : ExcName → Option Value} {mg mb : Str → Option Value} {dp un : Nat} {gd : Option (List Code)} {cn : Str} {cs : Scope} {a : Addr} {ccd : Value} {cl : List (Str × Addr)} {outer : List Env} {A₀ : Around} {base h₀ : Heap} {L : Addr} {m : Str → Option Value} {news : List (Addr × Obj)} {s : Shared} {Q E : Value → Shared → Prop}
variable {c dc vl sl tl pl : Addr} {k1 k2 k3 k4 : Tok} {nv ns : Nat} {rest : List (Addr × Obj)} {us ps : List Value}
theorem kw33 : True := by
  (k_with "call builtin:list.pop" => ((with_reducible show wpAny _ _ (call (Value.builtin _) [Value.ref _]) _ _ _); k_dflt (refine' pop_mine (by k_asm) (by k_asm) (by k_upd) (by (first | omega | (simp only [List.length_append, List.length_cons, List.length_nil]; omega))) ?_); intro h' F' N'))
  (k_with "call builtin:list.append" => ((with_reducible show wpAny _ _ (call (Value.builtin _) [Value.ref _, _]) _ _ _); k_dflt (refine' append_mine (by k_asm) (by k_asm) (by k_upd) (by (first | omega | (simp only [List.length_append, List.length_cons, List.length_nil]; omega))) ?_); intro h' F' N'))
  (k_with "compareOp Eq ref ref" => ((with_reducible show wpAny _ _ (compareOp CmpOp.Eq (Value.ref _) (Value.ref _)) _ _ _); k_dflt (refine' some_eq_nil (by k_asm) (by k_mem) (by k_mem) (by assumption) (by units_room) ?_)))
  (k_with "compareOp NotEq ref ref" => ((with_reducible show wpAny _ _ (compareOp CmpOp.NotEq (Value.ref _) (Value.ref _)) _ _ _); k_dflt (refine' some_ne_nil (by k_asm) (by k_mem) (by k_mem) (by assumption) (by units_room) ?_)))
  (k_with "subscriptTail" => ((with_reducible show wpAny _ _ (subscriptTail _ _ (Value.ref _) (Value.int (-1) _)) _ _ _); k_dflt (refine' last_item (by k_asm) (by k_mem) ?_)))
  trivial
theorem redC (p : Pend) (args : List Value) (xs : List V) (t0 : Tok) (B : Below A₀ base outer h₀) (F : Fr h₀ L s.heap m) (X : (KQ w.params).In h₀) (N : News h₀ L s.heap ((c, instObj 291 dc) :: (dc, cdict w tl pl vl sl k1 k2 k3 k4) :: (vl, listOf (us ++ args).toArray nv) :: (sl, listOf (ps ++ [Value.str p.word t0]).toArray ns) :: rest)) (T : Top viewQ looseQ mean mg mb h₀) (hk : cs.kind = .function) (six : Six c dc vl sl) (ap : Apart rest vl sl) (lu : us.length < 900) (lp : ps.length < 900)(ha : ValsAt w rest args xs) (hn : xs.length = p.ar)
    (hd : dp + 20 < recursionLimit) (hu : un + 220 < cLine)
    (ret : RedRet w h₀ L m s Q c dc vl sl tl pl k1 k2 k3 k4 us ps rest (p.run xs)) :
    wpAny (MQ w) (ktrTop dp un gd cn cs L a ccd cl outer) (call (.ref 253) [.ref c]) Q E s := by
  cases p with
  | bin o =>
    cases ha with
    | nil => cases hn
    | cons a1 b1 ha => cases ha with
      | nil => cases hn
      | cons a2 b2 ha => cases ha with
        | cons a3 b3 ha => cases hn
        | nil =>
          rw [show ∀ a b : Value, us ++ [a, b] = (us ++ [a]) ++ [b] from fun a b => by simp] at N
          exact redBin o _ _ _ _ t0 B F X N T hk six ap lu lp a1 a2 b1 b2 hd hu ret
  | un o =>
    cases ha with
    | nil => cases hn
    | cons a1 b1 ha => cases ha with
      | cons a2 b2 ha => cases hn
      | nil => cases o with
        | pos => exact redPlus _ _ t0 B F X N T hk six ap lu lp a1 hd hu ret
        | neg => exact redUn .neg _ _ t0 (by intro q; cases q) B F X N T hk six ap lu lp a1 hd hu ret
        | not => exact redUn .not _ _ t0 (by intro q; cases q) B F X N T hk six ap lu lp a1 hd hu ret
        | inv => exact redUn .inv _ _ t0 (by intro q; cases q) B F X N T hk six ap lu lp a1 hd hu ret
  | cond =>
    cases ha with
    | nil => cases hn
    | cons a1 b1 ha => cases ha with
      | nil => cases hn
      | cons a2 b2 ha => cases ha with
        | nil => cases hn
        | cons a3 b3 ha => cases ha with
          | cons a4 b4 ha => cases hn
          | nil =>
            rw [show ∀ a b c : Value, us ++ [a, b, c] = ((us ++ [a]) ++ [b]) ++ [c] from fun a b c => by simp] at N
            exact redCond _ _ _ _ _ _ t0 B F X N T hk six ap lu lp a1 a2 a3 hd hu ret
theorem levC0  (B : Below A₀ base outer h₀) (F : Fr h₀ L s.heap m) (X : (KQ w.params).In h₀) (N : News h₀ L s.heap ((c, instObj 291 dc) :: (dc, cdict w tl pl vl sl k1 k2 k3 k4) :: (vl, listOf us.toArray nv) :: (sl, listOf [].toArray ns) :: rest)) (T : Top viewQ looseQ mean mg mb h₀) (hk : cs.kind = .function) (six : Six c dc vl sl) (ap : Apart rest vl sl) (lu : us.length < 900) (lp : ps.length < 900)
    (hd : dp + 20 < recursionLimit) (hu : un + 220 < cLine)
    (ret : ∀ (t : Tok) (h' : Heap) (tk' : Nat), Fr h₀ L h' m → News h₀ L h' ((c, instObj 291 dc) :: (dc, cdict w tl pl vl sl k1 k2 k3 k4) :: (vl, listOf us.toArray nv) :: (sl, listOf [].toArray ns) :: rest) → Q (.int (-1) t) { s with heap := h', toks := tk' }) :
    wpAny (MQ w) (ktrTop dp un gd cn cs L a ccd cl outer) (call (.ref 260) [.ref c]) Q E s := by
  obtain ⟨e1, e2, e3, e4, e5, e6⟩ := id six
  obtain ⟨ap1, ap2⟩ := id ap
  refine pad2 fun _ _ => ?_
  refine pad1 fun _ => ?_
  (k_dflt (refine enterK fd260 (bs := [(Str.ofString "self", .ref c)]) (by exact rfl) (by exact rfl) (by k_asm) (by k_asm) (by k_asm) (by k_asm) (by k_asm) (by first | exact rfl | assumption) (by ktr_room) ?_; k_whole); intro g' L' h' FG' F' N' B' X' T' tk' qk ek; (try k_lift B'))
  k_steps
  all_goals (exact ret _ _ _ (by assumption) (by first | assumption | exact News.tl (by assumption) | exact News.tl (News.tl (by assumption)) | exact News.tl (News.tl (News.tl (by assumption))) | exact News.tl (News.tl (News.tl (News.tl (by assumption))))))
theorem levC1 (t0 : Tok) (ts : List Str) (B : Below A₀ base outer h₀) (F : Fr h₀ L s.heap m) (X : (KQ w.params).In h₀) (N : News h₀ L s.heap ((c, instObj 291 dc) :: (dc, cdict w tl pl vl sl k1 k2 k3 k4) :: (vl, listOf us.toArray nv) :: (sl, listOf (ps ++ [Value.str (Str.ofString "(") t0]).toArray ns) :: rest)) (T : Top viewQ looseQ mean mg mb h₀) (hk : cs.kind = .function) (six : Six c dc vl sl) (ap : Apart rest vl sl) (lu : us.length < 900) (lp : ps.length < 900)(hs : Strs (ps ++ [Value.str (Str.ofString "(") t0]) ts)
    (hd : dp + 20 < recursionLimit) (hu : un + 220 < cLine)
    (ret : ∀ (t : Tok) (h' : Heap) (tk' : Nat), Fr h₀ L h' m → News h₀ L h' ((c, instObj 291 dc) :: (dc, cdict w tl pl vl sl k1 k2 k3 k4) :: (vl, listOf us.toArray nv) :: (sl, listOf (ps ++ [Value.str (Str.ofString "(") t0]).toArray ns) :: rest) → Q (.int (-1) t) { s with heap := h', toks := tk' }) :
    wpAny (MQ w) (ktrTop dp un gd cn cs L a ccd cl outer) (call (.ref 260) [.ref c]) Q E s := by
  obtain ⟨e1, e2, e3, e4, e5, e6⟩ := id six
  obtain ⟨ap1, ap2⟩ := id ap
  (k_dflt (refine enterK fd260 (bs := [(Str.ofString "self", .ref c)]) (by exact rfl) (by exact rfl) (by k_asm) (by k_asm) (by k_asm) (by k_asm) (by k_asm) (by first | exact rfl | assumption) (by ktr_room) ?_; k_whole); intro g' L' h' FG' F' N' B' X' T' tk' qk ek; (try k_lift B'))
  k_steps
  all_goals (exact ret _ _ _ (by assumption) (by first | assumption | exact News.tl (by assumption) | exact News.tl (News.tl (by assumption)) | exact News.tl (News.tl (News.tl (by assumption))) | exact News.tl (News.tl (News.tl (News.tl (by assumption))))))
theorem kw34 : True := by
  (k_with "call ref" => ((k_dflt (show wpAny _ _ (call (Value.ref 253) [Value.ref _]) _ _ _)); k_dflt (refine' redC _ _ _ _ (by k_asm) (by k_asm) (by k_asm) (by exact (by first | assumption | exact News.tl (by assumption) | exact News.tl (News.tl (by assumption)) | exact News.tl (News.tl (News.tl (by assumption))) | exact News.tl (News.tl (News.tl (News.tl (by assumption)))))) (by k_asm) (by first | exact rfl | assumption) (by assumption) (by assumption) (by assumption) (by assumption) (by assumption) (by assumption) (by ktr_room) (by ktr_units) ?_; k_whole; intro v' rest' nv' ns' h' tk' F' N' hs' ap' hv'); (k_dflt (obtain ⟨_, _⟩ := id ap')); (try dsimp only); (try k_fold)))
  trivial
theorem rtA (t0 t1 t2 : Tok) (ts : List Str) (msg : Str) (B : Below A₀ base outer h₀) (F : Fr h₀ L s.heap m) (X : (KQ w.params).In h₀) (N : News h₀ L s.heap ((c, instObj 291 dc) :: (dc, cdict w tl pl vl sl k1 k2 k3 k4) :: (vl, listOf us.toArray nv) :: (sl, listOf (ps ++ [Value.str (Str.ofString "(") t0]).toArray ns) :: rest)) (T : Top viewQ looseQ mean mg mb h₀) (hk : cs.kind = .function) (six : Six c dc vl sl) (ap : Apart rest vl sl) (lu : us.length < 900) (lp : ps.length < 900)(hs : Strs (ps ++ [Value.str (Str.ofString "(") t0]) ts)
    (hd : dp + 20 < recursionLimit) (hu : un + 220 < cLine)
    (ret : ∀ (ns' : Nat) (h' : Heap) (tk' : Nat), Fr h₀ L h' m → News h₀ L h' ((c, instObj 291 dc) :: (dc, cdict w tl pl vl sl k1 k2 k3 k4) :: (vl, listOf us.toArray nv) :: (sl, listOf ps.toArray ns') :: rest) → Q .none { s with heap := h', toks := tk' }) :
    wpAny (MQ w) (ktrTop dp un gd cn cs L a ccd cl outer) (call (.ref 267) [.ref c, .str (Str.ofString "(") t1, .str msg t2]) Q E s := by
  obtain ⟨e1, e2, e3, e4, e5, e6⟩ := id six
  obtain ⟨ap1, ap2⟩ := id ap
  refine pad8 fun _ _ _ _ _ _ _ _ => ?_
  (k_dflt (refine enterK fd267 (bs := [(Str.ofString "self", .ref c), (Str.ofString "word", .str (Str.ofString "(") t1), (Str.ofString "fault", .str msg t2)]) (by exact rfl) (by exact rfl) (by k_asm) (by k_asm) (by k_asm) (by k_asm) (by k_asm) (by first | exact rfl | assumption) (by ktr_room) ?_; k_whole); intro g' L' h' FG' F' N' B' X' T' tk' qk ek; (try k_lift B'))
  k_steps
  all_goals (exact ret _ _ _ (by assumption) (by first | assumption | exact News.tl (by assumption) | exact News.tl (News.tl (by assumption)) | exact News.tl (News.tl (News.tl (by assumption))) | exact News.tl (News.tl (News.tl (News.tl (by assumption))))))
theorem rtB (t0 t1 t2 : Tok) (ts : List Str) (msg : Str) (B : Below A₀ base outer h₀) (F : Fr h₀ L s.heap m) (X : (KQ w.params).In h₀) (N : News h₀ L s.heap ((c, instObj 291 dc) :: (dc, cdict w tl pl vl sl k1 k2 k3 k4) :: (vl, listOf us.toArray nv) :: (sl, listOf (ps ++ [Value.str (Str.ofString "?") t0]).toArray ns) :: rest)) (T : Top viewQ looseQ mean mg mb h₀) (hk : cs.kind = .function) (six : Six c dc vl sl) (ap : Apart rest vl sl) (lu : us.length < 900) (lp : ps.length < 900)(hs : Strs (ps ++ [Value.str (Str.ofString "?") t0]) ts)
    (hd : dp + 20 < recursionLimit) (hu : un + 220 < cLine)
    (ret : ∀ (ns' : Nat) (h' : Heap) (tk' : Nat), Fr h₀ L h' m → News h₀ L h' ((c, instObj 291 dc) :: (dc, cdict w tl pl vl sl k1 k2 k3 k4) :: (vl, listOf us.toArray nv) :: (sl, listOf ps.toArray ns') :: rest) → Q .none { s with heap := h', toks := tk' }) :
    wpAny (MQ w) (ktrTop dp un gd cn cs L a ccd cl outer) (call (.ref 267) [.ref c, .str (Str.ofString "?") t1, .str msg t2]) Q E s := by
  obtain ⟨e1, e2, e3, e4, e5, e6⟩ := id six
  obtain ⟨ap1, ap2⟩ := id ap
  refine pad8 fun _ _ _ _ _ _ _ _ => ?_
  (k_dflt (refine enterK fd267 (bs := [(Str.ofString "self", .ref c), (Str.ofString "word", .str (Str.ofString "?") t1), (Str.ofString "fault", .str msg t2)]) (by exact rfl) (by exact rfl) (by k_asm) (by k_asm) (by k_asm) (by k_asm) (by k_asm) (by first | exact rfl | assumption) (by ktr_room) ?_; k_whole); intro g' L' h' FG' F' N' B' X' T' tk' qk ek; (try k_lift B'))
  k_steps
  all_goals (exact ret _ _ _ (by assumption) (by first | assumption | exact News.tl (by assumption) | exact News.tl (News.tl (by assumption)) | exact News.tl (News.tl (News.tl (by assumption))) | exact News.tl (News.tl (News.tl (News.tl (by assumption))))))
theorem kw35 : True := by
  (k_with "compareOp NotIn str ref" => ((with_reducible show wpAny _ _ (compareOp CmpOp.NotIn (Value.str (Pend.word _) _) (Value.ref _)) _ _ _); k_dflt (refine' notin_par (by k_asm) (by k_mem) (pend_par _) ?_)))
  trivial
theorem rtC (p : Pend) (args : List Value) (xs : List V) (t0 t1 t2 t3 : Tok) (ts : List Str) (msg : Str) (B : Below A₀ base outer h₀) (F : Fr h₀ L s.heap m) (X : (KQ w.params).In h₀) (N : News h₀ L s.heap ((c, instObj 291 dc) :: (dc, cdict w tl pl vl sl k1 k2 k3 k4) :: (vl, listOf (us ++ args).toArray nv) :: (sl, listOf ((ps ++ [Value.str (Str.ofString "(") t0]) ++ [Value.str p.word t3]).toArray ns) :: rest)) (T : Top viewQ looseQ mean mg mb h₀) (hk : cs.kind = .function) (six : Six c dc vl sl) (ap : Apart rest vl sl) (lu : us.length < 900) (lp : ps.length < 900)(hs : Strs ((ps ++ [Value.str (Str.ofString "(") t0]) ++ [Value.str p.word t3]) (ts ++ [p.word])) (hs2 : Strs (ps ++ [Value.str (Str.ofString "(") t0]) ts) (lp2 : (ps ++ [Value.str (Str.ofString "(") t0]).length < 900) (ha : ValsAt w rest args xs) (hn : xs.length = p.ar)
    (hd : dp + 40 < recursionLimit) (hu : un + 440 < cLine)
    (ret : RedRet w h₀ L m s Q c dc vl sl tl pl k1 k2 k3 k4 us ps rest (p.run xs)) :
    wpAny (MQ w) (ktrTop dp un gd cn cs L a ccd cl outer) (call (.ref 267) [.ref c, .str (Str.ofString "(") t1, .str msg t2]) Q E s := by
  obtain ⟨e1, e2, e3, e4, e5, e6⟩ := id six
  obtain ⟨ap1, ap2⟩ := id ap
  (k_dflt (refine enterK fd267 (bs := [(Str.ofString "self", .ref c), (Str.ofString "word", .str (Str.ofString "(") t1), (Str.ofString "fault", .str msg t2)]) (by exact rfl) (by exact rfl) (by k_asm) (by k_asm) (by k_asm) (by k_asm) (by k_asm) (by first | exact rfl | assumption) (by ktr_room) ?_; k_whole); intro g' L' h' FG' F' N' B' X' T' tk' qk ek; (try k_lift B'))
  k_steps
  all_goals (exact ret _ _ _ _ _ _ (by assumption) (by first | assumption | exact News.tl (by assumption) | exact News.tl (News.tl (by assumption)) | exact News.tl (News.tl (News.tl (by assumption))) | exact News.tl (News.tl (News.tl (News.tl (by assumption))))) (by assumption) (by assumption) (by assumption))
end
end
end
section
open PySem PySem.W PyProof.Rows PySem.Calls PySem.Spec
section

theorem kw36 : True := by
  k_with_none
  trivial
noncomputable abbrev RedRetT (w : World) (h₀ : Heap) (L : Addr) (m : Str → Option Value) (s : Shared) (Q : Value → Shared → Prop) (c dc vl sl tl pl : Addr) (k1 k2 k3 k4 : Tok) (us ps : List Value) (rest : List (Addr × Obj)) (r : V) : Prop :=
  ∀ (v : Value) (rest' : List (Addr × Obj)) (nv' ns' : Nat) (h' : Heap) (tk' : Nat), Fr h₀ L h' m → News h₀ L h' ((c, instObj 291 dc) :: (dc, cdict w tl pl vl sl k1 k2 k3 k4) :: (vl, listOf (us ++ [v]).toArray nv') :: (sl, listOf ps.toArray ns') :: rest') → (∀ p ∈ rest, p ∈ rest') → Apart rest' vl sl → ValAt w rest' v r → Q (.bool true) { s with heap := h', toks := tk' }
theorem bop_close (o : Bop) : (o.txt == Str.ofString ")") = false := by cases o <;> rfl
theorem bop_quest (o : Bop) : (o.txt == Str.ofString "?") = false := by cases o <;> rfl
theorem bop_lev (o : Bop) : 1 ≤ o.lev := by cases o <;> decide
section
variable {prog : Program} {w : World} {A : Around} {E : Value → Shared → Prop} {s : Shared} {Q : Value → Shared → Prop} {t u : Tok} {K : Frag} {h₀ : Heap} {L a : Addr} {m : Str → Option Value} {es : Array DictEntry} {n : Nat} {x y : Str}
theorem eq_no (hn : (x == y) = false) (h : Q (.bool false) s) : wpAny (model prog w) A (compareOp .Eq (.str x t) (.str y u)) Q E s := eq_str (by rw [hn]; exact h)
theorem topNotIn_K {r : Option Value} (F : Fr h₀ L s.heap m) (X₀ : K.In h₀) (hl : K.lookup a = some ⟨.type "dict", none, .dict es n, #[]⟩) (hk : KeysLit w.params es.toList) (e : nsIn K a x = some r) (lo : (a == sysModules) = false)
    (h : Q (.bool (!r.isSome)) { s with toks := s.toks + 1 }) : wpAny (model prog w) A (compareOp .NotIn (.str x t) (.ref a)) Q E s :=
  wpAny_notIn_of (strKind_is prog w x t) lo (mapOf_K (prog := prog) (X₀.keeps F.keep) hl hk) (by rw [find_K hl e]; exact h)
end
theorem ge_lev {prog : Program} {w : World} {A : Around} {E : Value → Shared → Prop} {s : Shared} {Q : Value → Shared → Prop} {t u : Tok} (o : Bop) (h : Q (.bool false) s) : wpAny (model prog w) A (compareOp .GtE (.int (-1) t) (.int o.lev u)) Q E s :=
  ge_int (by rw [show decide (-1 ≥ o.lev) = false from decide_eq_false (by have := bop_lev o; omega)]; exact h)
local macro_rules | `(tactic| k_ne) => `(tactic| assumption)
section
variable {w : World} {mean : ExcName → Option Value} {mg mb : Str → Option Value} {dp un : Nat} {gd : Option (List Code)} {cn : Str} {cs : Scope} {a : Addr} {ccd : Value} {cl : List (Str × Addr)} {outer : List Env} {A₀ : Around} {base h₀ : Heap} {L : Addr} {m : Str → Option Value} {news : List (Addr × Obj)} {s : Shared} {Q E : Value → Shared → Prop}
variable {c dc vl sl tl pl : Addr} {k1 k2 k3 k4 : Tok} {nv ns : Nat} {rest : List (Addr × Obj)} {us ps : List Value}
theorem kw37 : True := by
  (k_with "call builtin:list.pop" => ((with_reducible show wpAny _ _ (call (Value.builtin _) [Value.ref _]) _ _ _); k_dflt (refine' pop_mine (by k_asm) (by k_asm) (by k_upd) (by (first | omega | (simp only [List.length_append, List.length_cons, List.length_nil]; omega))) ?_); intro h' F' N'))
  (k_with "call builtin:list.append" => ((with_reducible show wpAny _ _ (call (Value.builtin _) [Value.ref _, _]) _ _ _); k_dflt (refine' append_mine (by k_asm) (by k_asm) (by k_upd) (by (first | omega | (simp only [List.length_append, List.length_cons, List.length_nil]; omega))) ?_); intro h' F' N'))
  (k_with "compareOp Eq ref ref" => ((with_reducible show wpAny _ _ (compareOp CmpOp.Eq (Value.ref _) (Value.ref _)) _ _ _); k_dflt (refine' some_eq_nil (by k_asm) (by k_mem) (by k_mem) (by assumption) (by units_room) ?_)))
  (k_with "compareOp NotEq ref ref" => ((with_reducible show wpAny _ _ (compareOp CmpOp.NotEq (Value.ref _) (Value.ref _)) _ _ _); k_dflt (refine' some_ne_nil (by k_asm) (by k_mem) (by k_mem) (by assumption) (by units_room) ?_)))
  (k_with "subscriptTail" => ((with_reducible show wpAny _ _ (subscriptTail _ _ (Value.ref _) (Value.int (-1) _)) _ _ _); k_dflt (refine' last_item (by k_asm) (by k_mem) ?_)))
  (k_with "compareOp Eq str str" => ((with_reducible show wpAny _ _ (compareOp CmpOp.Eq (Value.str (Bop.txt _) _) _) _ _ _); first | refine eq_no (bop_colon _) ?_ | refine eq_no (bop_close _) ?_ | refine eq_no (bop_quest _) ?_))
  (k_with "compareOp NotIn str ref" => ((with_reducible show wpAny _ _ (compareOp CmpOp.NotIn (Value.str _ _) (Value.ref 146)) _ _ _); k_dflt (refine' topNotIn_K (by k_asm) (by k_asm) (by k_is) (by k_keys) (by first | exact lev_at _ _ | exact uop_lev _ _) (by decide) ?_); (try dsimp only [Option.isSome, Bool.not_true])))
  (k_with "compareOp GtE int int" => ((with_reducible show wpAny _ _ (compareOp CmpOp.GtE (Value.int (-1) _) (Value.int (Bop.lev _) _)) _ _ _); refine ge_lev _ ?_))
  (k_with "subscriptTail" => ((with_reducible show wpAny _ _ (subscriptTail _ _ (Value.ref 146) (Value.str (Bop.txt _) _)) _ _ _); k_dflt (refine' topItem_K (by k_asm) (by k_asm) (by k_is) (by k_keys) (lev_at _ _) ?_)))
  (k_with "call ref" => ((k_dflt (show wpAny _ _ (call (Value.ref 260) [Value.ref _]) _ _ _)); k_dflt (refine' levC0 (by k_asm) (by k_asm) (by k_asm) (by exact (by first | assumption | exact News.tl (by assumption) | exact News.tl (News.tl (by assumption)) | exact News.tl (News.tl (News.tl (by assumption))) | exact News.tl (News.tl (News.tl (News.tl (by assumption)))) | exact News.tl (News.tl (News.tl (News.tl (News.tl (by assumption))))) | exact News.tl (News.tl (News.tl (News.tl (News.tl (News.tl (by assumption)))))) | exact News.tl (News.tl (News.tl (News.tl (News.tl (News.tl (News.tl (by assumption))))))))) (by k_asm) (by first | exact rfl | assumption) (by assumption) (by assumption) (by assumption) (by assumption) (by ktr_room) (by ktr_units) ?_; k_whole; intro t' h' tk' F' N'); (try dsimp only); (try k_fold)))
  (k_with "call ref" => ((k_dflt (show wpAny _ _ (call (Value.ref 260) [Value.ref _]) _ _ _)); k_dflt (refine' levC1 _ _ (by k_asm) (by k_asm) (by k_asm) (by exact (by first | assumption | exact News.tl (by assumption) | exact News.tl (News.tl (by assumption)) | exact News.tl (News.tl (News.tl (by assumption))) | exact News.tl (News.tl (News.tl (News.tl (by assumption)))) | exact News.tl (News.tl (News.tl (News.tl (News.tl (by assumption))))) | exact News.tl (News.tl (News.tl (News.tl (News.tl (News.tl (by assumption)))))) | exact News.tl (News.tl (News.tl (News.tl (News.tl (News.tl (News.tl (by assumption))))))))) (by k_asm) (by first | exact rfl | assumption) (by assumption) (by assumption) (by assumption) (by assumption) (by assumption) (by ktr_room) (by ktr_units) ?_; k_whole; intro t' h' tk' F' N'); (try dsimp only); (try k_fold)))
  (k_with "call ref" => ((k_dflt (show wpAny _ _ (call (Value.ref 267) [Value.ref _, Value.str (Str.ofString "(") _, Value.str _ _]) _ _ _)); k_dflt (refine' rtA _ _ _ _ _ (by k_asm) (by k_asm) (by k_asm) (by exact (by first | assumption | exact News.tl (by assumption) | exact News.tl (News.tl (by assumption)) | exact News.tl (News.tl (News.tl (by assumption))) | exact News.tl (News.tl (News.tl (News.tl (by assumption)))) | exact News.tl (News.tl (News.tl (News.tl (News.tl (by assumption))))) | exact News.tl (News.tl (News.tl (News.tl (News.tl (News.tl (by assumption)))))) | exact News.tl (News.tl (News.tl (News.tl (News.tl (News.tl (News.tl (by assumption))))))))) (by k_asm) (by first | exact rfl | assumption) (by assumption) (by assumption) (by assumption) (by assumption) (by assumption) (by ktr_room) (by ktr_units) ?_; k_whole; intro ns' h' tk' F' N'); (try dsimp only); (try k_fold)))
  (k_with "call ref" => ((k_dflt (show wpAny _ _ (call (Value.ref 267) [Value.ref _, Value.str (Str.ofString "?") _, Value.str _ _]) _ _ _)); k_dflt (refine' rtB _ _ _ _ _ (by k_asm) (by k_asm) (by k_asm) (by exact (by first | assumption | exact News.tl (by assumption) | exact News.tl (News.tl (by assumption)) | exact News.tl (News.tl (News.tl (by assumption))) | exact News.tl (News.tl (News.tl (News.tl (by assumption)))) | exact News.tl (News.tl (News.tl (News.tl (News.tl (by assumption))))) | exact News.tl (News.tl (News.tl (News.tl (News.tl (News.tl (by assumption)))))) | exact News.tl (News.tl (News.tl (News.tl (News.tl (News.tl (News.tl (by assumption))))))))) (by k_asm) (by first | exact rfl | assumption) (by assumption) (by assumption) (by assumption) (by assumption) (by assumption) (by ktr_room) (by ktr_units) ?_; k_whole; intro ns' h' tk' F' N'); (try dsimp only); (try k_fold)))
  (k_with "call ref" => ((k_dflt (show wpAny _ _ (call (Value.ref 267) [Value.ref _, Value.str (Str.ofString "(") _, Value.str _ _]) _ _ _)); k_dflt (refine' rtC _ _ _ _ _ _ _ _ _ (by k_asm) (by k_asm) (by k_asm) (by exact (by first | assumption | exact News.tl (by assumption) | exact News.tl (News.tl (by assumption)) | exact News.tl (News.tl (News.tl (by assumption))) | exact News.tl (News.tl (News.tl (News.tl (by assumption)))) | exact News.tl (News.tl (News.tl (News.tl (News.tl (by assumption))))) | exact News.tl (News.tl (News.tl (News.tl (News.tl (News.tl (by assumption)))))) | exact News.tl (News.tl (News.tl (News.tl (News.tl (News.tl (News.tl (by assumption))))))))) (by k_asm) (by first | exact rfl | assumption) (by assumption) (by assumption) (by assumption) (by assumption) (by assumption) (by assumption) (by assumption) (by assumption) (by assumption) (by ktr_room) (by ktr_units) ?_; k_whole; intro v' rest' nv' ns' h' tk' F' N' hs' ap' hv'); (k_dflt (obtain ⟨_, _⟩ := id ap')); (try dsimp only); (try k_fold)))
  trivial
theorem goClose0 (tok dtok : Addr) (file : Str) (line : Int) (j1 j2 j3 j4 u1 u2 u3 u4 t0 : Tok) (ts : List Str) (B : Below A₀ base outer h₀) (F : Fr h₀ L s.heap m) (X : (KQ w.params).In h₀) (N : News h₀ L s.heap ((c, instObj 291 dc) :: (dc, cdict w tl pl vl sl k1 k2 k3 k4) :: (vl, listOf us.toArray nv) :: (sl, listOf (ps ++ [Value.str (Str.ofString "(") t0]).toArray ns) :: rest)) (T : Top viewQ looseQ mean mg mb h₀) (hk : cs.kind = .function) (six : Six c dc vl sl) (ap : Apart rest vl sl) (lu : us.length < 900) (lp : ps.length < 900)(ht1 : (tok, instObj 106 dtok) ∈ rest) (ht2 : (dtok, tdict w (Str.ofString "punct") (Str.ofString ")") file line j1 j2 j3 j4 u1 u2 u3 u4) ∈ rest)(hs : Strs (ps ++ [Value.str (Str.ofString "(") t0]) ts)
    (hd : dp + 60 < recursionLimit) (hu : un + 700 < cLine)
    (ret : ∀ (nv' ns' : Nat) (t : Tok) (h' : Heap) (tk' : Nat), Fr h₀ L h' m → News h₀ L h' ((c, instObj 291 dc) :: (dc, cdict w tl pl vl sl k1 k2 k3 k4) :: (vl, listOf us.toArray nv') :: (sl, listOf ps.toArray ns') :: rest) → Q (.bool true) { s with heap := h', toks := tk' }) :
    wpAny (MQ w) (ktrTop dp un gd cn cs L a ccd cl outer) (call (.ref 281) [.ref c, .ref tok]) Q E s := by
  obtain ⟨e1, e2, e3, e4, e5, e6⟩ := id six
  obtain ⟨ap1, ap2⟩ := id ap
  have e7 : @Ne Nat tok vl := ap1 _ ht1
  have e8 : @Ne Nat tok sl := ap2 _ ht1
  have e9 : @Ne Nat dtok vl := ap1 _ ht2
  have e10 : @Ne Nat dtok sl := ap2 _ ht2
  have N2 := News.dup (News.dup N (.tail _ (.tail _ (.tail _ (.tail _ ht2))))) (.tail _ (.tail _ (.tail _ (.tail _ (.tail _ ht1)))))
  refine pad8 fun _ _ _ _ _ _ _ _ => ?_
  (k_dflt (refine enterK fd281 (bs := [(Str.ofString "self", .ref c), (Str.ofString "token", .ref tok)]) (by exact rfl) (by exact rfl) (by k_asm) (by k_asm) (by k_asm) (by k_asm) (by k_asm) (by first | exact rfl | assumption) (by ktr_room) ?_; k_whole); intro g' L' h' FG' F' N' B' X' T' tk' qk ek; (try k_lift B'))
  k_steps
  all_goals first | (exact ret _ _ 0 _ _ (by assumption) (by first | assumption  | exact News.tl (by assumption) | exact News.tl (News.tl (by assumption)) | exact News.tl (News.tl (News.tl (by assumption))) | exact News.tl (News.tl (News.tl (News.tl (by assumption)))) | exact News.tl (News.tl (News.tl (News.tl (News.tl (by assumption))))) | exact News.tl (News.tl (News.tl (News.tl (News.tl (News.tl (by assumption)))))) | exact News.tl (News.tl (News.tl (News.tl (News.tl (News.tl (News.tl (by assumption))))))))) | (exact ret _ _ _ _ _ (by assumption) (by first | assumption  | exact News.tl (by assumption) | exact News.tl (News.tl (by assumption)) | exact News.tl (News.tl (News.tl (by assumption))) | exact News.tl (News.tl (News.tl (News.tl (by assumption)))) | exact News.tl (News.tl (News.tl (News.tl (News.tl (by assumption))))) | exact News.tl (News.tl (News.tl (News.tl (News.tl (News.tl (by assumption)))))) | exact News.tl (News.tl (News.tl (News.tl (News.tl (News.tl (News.tl (by assumption)))))))))
theorem goColon (tok dtok : Addr) (file : Str) (line : Int) (j1 j2 j3 j4 u1 u2 u3 u4 t0 : Tok) (ts : List Str) (B : Below A₀ base outer h₀) (F : Fr h₀ L s.heap m) (X : (KQ w.params).In h₀) (N : News h₀ L s.heap ((c, instObj 291 dc) :: (dc, cdict w tl pl vl sl k1 k2 k3 k4) :: (vl, listOf us.toArray nv) :: (sl, listOf (ps ++ [Value.str (Str.ofString "?") t0]).toArray ns) :: rest)) (T : Top viewQ looseQ mean mg mb h₀) (hk : cs.kind = .function) (six : Six c dc vl sl) (ap : Apart rest vl sl) (lu : us.length < 900) (lp : ps.length < 900)(ht1 : (tok, instObj 106 dtok) ∈ rest) (ht2 : (dtok, tdict w (Str.ofString "punct") (Str.ofString ":") file line j1 j2 j3 j4 u1 u2 u3 u4) ∈ rest)(hs : Strs (ps ++ [Value.str (Str.ofString "?") t0]) ts)
    (hd : dp + 60 < recursionLimit) (hu : un + 700 < cLine)
    (ret : ∀ (nv' ns' : Nat) (t : Tok) (h' : Heap) (tk' : Nat), Fr h₀ L h' m → News h₀ L h' ((c, instObj 291 dc) :: (dc, cdict w tl pl vl sl k1 k2 k3 k4) :: (vl, listOf us.toArray nv') :: (sl, listOf (ps ++ [Value.str (Str.ofString ":") t]).toArray ns') :: rest) → Q (.bool false) { s with heap := h', toks := tk' }) :
    wpAny (MQ w) (ktrTop dp un gd cn cs L a ccd cl outer) (call (.ref 281) [.ref c, .ref tok]) Q E s := by
  obtain ⟨e1, e2, e3, e4, e5, e6⟩ := id six
  obtain ⟨ap1, ap2⟩ := id ap
  have e7 : @Ne Nat tok vl := ap1 _ ht1
  have e8 : @Ne Nat tok sl := ap2 _ ht1
  have e9 : @Ne Nat dtok vl := ap1 _ ht2
  have e10 : @Ne Nat dtok sl := ap2 _ ht2
  have N2 := News.dup (News.dup N (.tail _ (.tail _ (.tail _ (.tail _ ht2))))) (.tail _ (.tail _ (.tail _ (.tail _ (.tail _ ht1)))))
  refine pad8 fun _ _ _ _ _ _ _ _ => ?_
  (k_dflt (refine enterK fd281 (bs := [(Str.ofString "self", .ref c), (Str.ofString "token", .ref tok)]) (by exact rfl) (by exact rfl) (by k_asm) (by k_asm) (by k_asm) (by k_asm) (by k_asm) (by first | exact rfl | assumption) (by ktr_room) ?_; k_whole); intro g' L' h' FG' F' N' B' X' T' tk' qk ek; (try k_lift B'))
  k_steps
  all_goals first | (exact ret _ _ 0 _ _ (by assumption) (by first | assumption  | exact News.tl (by assumption) | exact News.tl (News.tl (by assumption)) | exact News.tl (News.tl (News.tl (by assumption))) | exact News.tl (News.tl (News.tl (News.tl (by assumption)))) | exact News.tl (News.tl (News.tl (News.tl (News.tl (by assumption))))) | exact News.tl (News.tl (News.tl (News.tl (News.tl (News.tl (by assumption)))))) | exact News.tl (News.tl (News.tl (News.tl (News.tl (News.tl (News.tl (by assumption))))))))) | (exact ret _ _ _ _ _ (by assumption) (by first | assumption  | exact News.tl (by assumption) | exact News.tl (News.tl (by assumption)) | exact News.tl (News.tl (News.tl (by assumption))) | exact News.tl (News.tl (News.tl (News.tl (by assumption)))) | exact News.tl (News.tl (News.tl (News.tl (News.tl (by assumption))))) | exact News.tl (News.tl (News.tl (News.tl (News.tl (News.tl (by assumption)))))) | exact News.tl (News.tl (News.tl (News.tl (News.tl (News.tl (News.tl (by assumption)))))))))
theorem goQuest0 (tok dtok : Addr) (file : Str) (line : Int) (j1 j2 j3 j4 u1 u2 u3 u4 t0 : Tok) (ts : List Str) (B : Below A₀ base outer h₀) (F : Fr h₀ L s.heap m) (X : (KQ w.params).In h₀) (N : News h₀ L s.heap ((c, instObj 291 dc) :: (dc, cdict w tl pl vl sl k1 k2 k3 k4) :: (vl, listOf us.toArray nv) :: (sl, listOf [].toArray ns) :: rest)) (T : Top viewQ looseQ mean mg mb h₀) (hk : cs.kind = .function) (six : Six c dc vl sl) (ap : Apart rest vl sl) (lu : us.length < 900) (lp : ps.length < 900)(ht1 : (tok, instObj 106 dtok) ∈ rest) (ht2 : (dtok, tdict w (Str.ofString "punct") (Str.ofString "?") file line j1 j2 j3 j4 u1 u2 u3 u4) ∈ rest)
    (hd : dp + 60 < recursionLimit) (hu : un + 700 < cLine)
    (ret : ∀ (nv' ns' : Nat) (t : Tok) (h' : Heap) (tk' : Nat), Fr h₀ L h' m → News h₀ L h' ((c, instObj 291 dc) :: (dc, cdict w tl pl vl sl k1 k2 k3 k4) :: (vl, listOf us.toArray nv') :: (sl, listOf ([] ++ [Value.str (Str.ofString "?") t]).toArray ns') :: rest) → Q (.bool false) { s with heap := h', toks := tk' }) :
    wpAny (MQ w) (ktrTop dp un gd cn cs L a ccd cl outer) (call (.ref 281) [.ref c, .ref tok]) Q E s := by
  obtain ⟨e1, e2, e3, e4, e5, e6⟩ := id six
  obtain ⟨ap1, ap2⟩ := id ap
  have e7 : @Ne Nat tok vl := ap1 _ ht1
  have e8 : @Ne Nat tok sl := ap2 _ ht1
  have e9 : @Ne Nat dtok vl := ap1 _ ht2
  have e10 : @Ne Nat dtok sl := ap2 _ ht2
  have N2 := News.dup (News.dup N (.tail _ (.tail _ (.tail _ (.tail _ ht2))))) (.tail _ (.tail _ (.tail _ (.tail _ (.tail _ ht1)))))
  refine pad8 fun _ _ _ _ _ _ _ _ => ?_
  refine pad1 fun _ => ?_
  (k_dflt (refine enterK fd281 (bs := [(Str.ofString "self", .ref c), (Str.ofString "token", .ref tok)]) (by exact rfl) (by exact rfl) (by k_asm) (by k_asm) (by k_asm) (by k_asm) (by k_asm) (by first | exact rfl | assumption) (by ktr_room) ?_; k_whole); intro g' L' h' FG' F' N' B' X' T' tk' qk ek; (try k_lift B'))
  k_steps
  all_goals first | (exact ret _ _ 0 _ _ (by assumption) (by first | assumption  | exact News.tl (by assumption) | exact News.tl (News.tl (by assumption)) | exact News.tl (News.tl (News.tl (by assumption))) | exact News.tl (News.tl (News.tl (News.tl (by assumption)))) | exact News.tl (News.tl (News.tl (News.tl (News.tl (by assumption))))) | exact News.tl (News.tl (News.tl (News.tl (News.tl (News.tl (by assumption)))))) | exact News.tl (News.tl (News.tl (News.tl (News.tl (News.tl (News.tl (by assumption))))))))) | (exact ret _ _ _ _ _ (by assumption) (by first | assumption  | exact News.tl (by assumption) | exact News.tl (News.tl (by assumption)) | exact News.tl (News.tl (News.tl (by assumption))) | exact News.tl (News.tl (News.tl (News.tl (by assumption)))) | exact News.tl (News.tl (News.tl (News.tl (News.tl (by assumption))))) | exact News.tl (News.tl (News.tl (News.tl (News.tl (News.tl (by assumption)))))) | exact News.tl (News.tl (News.tl (News.tl (News.tl (News.tl (News.tl (by assumption)))))))))
theorem goQuest1 (tok dtok : Addr) (file : Str) (line : Int) (j1 j2 j3 j4 u1 u2 u3 u4 t0 : Tok) (ts : List Str) (B : Below A₀ base outer h₀) (F : Fr h₀ L s.heap m) (X : (KQ w.params).In h₀) (N : News h₀ L s.heap ((c, instObj 291 dc) :: (dc, cdict w tl pl vl sl k1 k2 k3 k4) :: (vl, listOf us.toArray nv) :: (sl, listOf (ps ++ [Value.str (Str.ofString "(") t0]).toArray ns) :: rest)) (T : Top viewQ looseQ mean mg mb h₀) (hk : cs.kind = .function) (six : Six c dc vl sl) (ap : Apart rest vl sl) (lu : us.length < 900) (lp : ps.length < 900)(ht1 : (tok, instObj 106 dtok) ∈ rest) (ht2 : (dtok, tdict w (Str.ofString "punct") (Str.ofString "?") file line j1 j2 j3 j4 u1 u2 u3 u4) ∈ rest)(hs : Strs (ps ++ [Value.str (Str.ofString "(") t0]) ts)
    (hd : dp + 60 < recursionLimit) (hu : un + 700 < cLine)
    (ret : ∀ (nv' ns' : Nat) (t : Tok) (h' : Heap) (tk' : Nat), Fr h₀ L h' m → News h₀ L h' ((c, instObj 291 dc) :: (dc, cdict w tl pl vl sl k1 k2 k3 k4) :: (vl, listOf us.toArray nv') :: (sl, listOf ((ps ++ [Value.str (Str.ofString "(") t0]) ++ [Value.str (Str.ofString "?") t]).toArray ns') :: rest) → Q (.bool false) { s with heap := h', toks := tk' }) :
    wpAny (MQ w) (ktrTop dp un gd cn cs L a ccd cl outer) (call (.ref 281) [.ref c, .ref tok]) Q E s := by
  obtain ⟨e1, e2, e3, e4, e5, e6⟩ := id six
  obtain ⟨ap1, ap2⟩ := id ap
  have e7 : @Ne Nat tok vl := ap1 _ ht1
  have e8 : @Ne Nat tok sl := ap2 _ ht1
  have e9 : @Ne Nat dtok vl := ap1 _ ht2
  have e10 : @Ne Nat dtok sl := ap2 _ ht2
  have N2 := News.dup (News.dup N (.tail _ (.tail _ (.tail _ (.tail _ ht2))))) (.tail _ (.tail _ (.tail _ (.tail _ (.tail _ ht1)))))
  refine pad8 fun _ _ _ _ _ _ _ _ => ?_
  (k_dflt (refine enterK fd281 (bs := [(Str.ofString "self", .ref c), (Str.ofString "token", .ref tok)]) (by exact rfl) (by exact rfl) (by k_asm) (by k_asm) (by k_asm) (by k_asm) (by k_asm) (by first | exact rfl | assumption) (by ktr_room) ?_; k_whole); intro g' L' h' FG' F' N' B' X' T' tk' qk ek; (try k_lift B'))
  k_steps
  all_goals first | (exact ret _ _ 0 _ _ (by assumption) (by first | assumption  | exact News.tl (by assumption) | exact News.tl (News.tl (by assumption)) | exact News.tl (News.tl (News.tl (by assumption))) | exact News.tl (News.tl (News.tl (News.tl (by assumption)))) | exact News.tl (News.tl (News.tl (News.tl (News.tl (by assumption))))) | exact News.tl (News.tl (News.tl (News.tl (News.tl (News.tl (by assumption)))))) | exact News.tl (News.tl (News.tl (News.tl (News.tl (News.tl (News.tl (by assumption))))))))) | (exact ret _ _ _ _ _ (by assumption) (by first | assumption  | exact News.tl (by assumption) | exact News.tl (News.tl (by assumption)) | exact News.tl (News.tl (News.tl (by assumption))) | exact News.tl (News.tl (News.tl (News.tl (by assumption)))) | exact News.tl (News.tl (News.tl (News.tl (News.tl (by assumption))))) | exact News.tl (News.tl (News.tl (News.tl (News.tl (News.tl (by assumption)))))) | exact News.tl (News.tl (News.tl (News.tl (News.tl (News.tl (News.tl (by assumption)))))))))
theorem goBin0 (tok dtok : Addr) (file : Str) (line : Int) (j1 j2 j3 j4 u1 u2 u3 u4 t0 : Tok) (ts : List Str)(o : Bop) (B : Below A₀ base outer h₀) (F : Fr h₀ L s.heap m) (X : (KQ w.params).In h₀) (N : News h₀ L s.heap ((c, instObj 291 dc) :: (dc, cdict w tl pl vl sl k1 k2 k3 k4) :: (vl, listOf us.toArray nv) :: (sl, listOf [].toArray ns) :: rest)) (T : Top viewQ looseQ mean mg mb h₀) (hk : cs.kind = .function) (six : Six c dc vl sl) (ap : Apart rest vl sl) (lu : us.length < 900) (lp : ps.length < 900)(ht1 : (tok, instObj 106 dtok) ∈ rest) (ht2 : (dtok, tdict w (Str.ofString "punct") o.txt file line j1 j2 j3 j4 u1 u2 u3 u4) ∈ rest)
    (hd : dp + 60 < recursionLimit) (hu : un + 700 < cLine)
    (ret : ∀ (nv' ns' : Nat) (t : Tok) (h' : Heap) (tk' : Nat), Fr h₀ L h' m → News h₀ L h' ((c, instObj 291 dc) :: (dc, cdict w tl pl vl sl k1 k2 k3 k4) :: (vl, listOf us.toArray nv') :: (sl, listOf ([] ++ [Value.str o.txt t]).toArray ns') :: rest) → Q (.bool false) { s with heap := h', toks := tk' }) :
    wpAny (MQ w) (ktrTop dp un gd cn cs L a ccd cl outer) (call (.ref 281) [.ref c, .ref tok]) Q E s := by
  obtain ⟨e1, e2, e3, e4, e5, e6⟩ := id six
  obtain ⟨ap1, ap2⟩ := id ap
  have e7 : @Ne Nat tok vl := ap1 _ ht1
  have e8 : @Ne Nat tok sl := ap2 _ ht1
  have e9 : @Ne Nat dtok vl := ap1 _ ht2
  have e10 : @Ne Nat dtok sl := ap2 _ ht2
  have N2 := News.dup (News.dup N (.tail _ (.tail _ (.tail _ (.tail _ ht2))))) (.tail _ (.tail _ (.tail _ (.tail _ (.tail _ ht1)))))
  refine pad8 fun _ _ _ _ _ _ _ _ => ?_
  (k_dflt (refine enterK fd281 (bs := [(Str.ofString "self", .ref c), (Str.ofString "token", .ref tok)]) (by exact rfl) (by exact rfl) (by k_asm) (by k_asm) (by k_asm) (by k_asm) (by k_asm) (by first | exact rfl | assumption) (by ktr_room) ?_; k_whole); intro g' L' h' FG' F' N' B' X' T' tk' qk ek; (try k_lift B'))
  k_steps
  all_goals first | (exact ret _ _ 0 _ _ (by assumption) (by first | assumption  | exact News.tl (by assumption) | exact News.tl (News.tl (by assumption)) | exact News.tl (News.tl (News.tl (by assumption))) | exact News.tl (News.tl (News.tl (News.tl (by assumption)))) | exact News.tl (News.tl (News.tl (News.tl (News.tl (by assumption))))) | exact News.tl (News.tl (News.tl (News.tl (News.tl (News.tl (by assumption)))))) | exact News.tl (News.tl (News.tl (News.tl (News.tl (News.tl (News.tl (by assumption))))))))) | (exact ret _ _ _ _ _ (by assumption) (by first | assumption  | exact News.tl (by assumption) | exact News.tl (News.tl (by assumption)) | exact News.tl (News.tl (News.tl (by assumption))) | exact News.tl (News.tl (News.tl (News.tl (by assumption)))) | exact News.tl (News.tl (News.tl (News.tl (News.tl (by assumption))))) | exact News.tl (News.tl (News.tl (News.tl (News.tl (News.tl (by assumption)))))) | exact News.tl (News.tl (News.tl (News.tl (News.tl (News.tl (News.tl (by assumption)))))))))
theorem goBin1 (tok dtok : Addr) (file : Str) (line : Int) (j1 j2 j3 j4 u1 u2 u3 u4 t0 : Tok) (ts : List Str)(o : Bop) (B : Below A₀ base outer h₀) (F : Fr h₀ L s.heap m) (X : (KQ w.params).In h₀) (N : News h₀ L s.heap ((c, instObj 291 dc) :: (dc, cdict w tl pl vl sl k1 k2 k3 k4) :: (vl, listOf us.toArray nv) :: (sl, listOf (ps ++ [Value.str (Str.ofString "(") t0]).toArray ns) :: rest)) (T : Top viewQ looseQ mean mg mb h₀) (hk : cs.kind = .function) (six : Six c dc vl sl) (ap : Apart rest vl sl) (lu : us.length < 900) (lp : ps.length < 900)(ht1 : (tok, instObj 106 dtok) ∈ rest) (ht2 : (dtok, tdict w (Str.ofString "punct") o.txt file line j1 j2 j3 j4 u1 u2 u3 u4) ∈ rest)(hs : Strs (ps ++ [Value.str (Str.ofString "(") t0]) ts)
    (hd : dp + 60 < recursionLimit) (hu : un + 700 < cLine)
    (ret : ∀ (nv' ns' : Nat) (t : Tok) (h' : Heap) (tk' : Nat), Fr h₀ L h' m → News h₀ L h' ((c, instObj 291 dc) :: (dc, cdict w tl pl vl sl k1 k2 k3 k4) :: (vl, listOf us.toArray nv') :: (sl, listOf ((ps ++ [Value.str (Str.ofString "(") t0]) ++ [Value.str o.txt t]).toArray ns') :: rest) → Q (.bool false) { s with heap := h', toks := tk' }) :
    wpAny (MQ w) (ktrTop dp un gd cn cs L a ccd cl outer) (call (.ref 281) [.ref c, .ref tok]) Q E s := by
  obtain ⟨e1, e2, e3, e4, e5, e6⟩ := id six
  obtain ⟨ap1, ap2⟩ := id ap
  have e7 : @Ne Nat tok vl := ap1 _ ht1
  have e8 : @Ne Nat tok sl := ap2 _ ht1
  have e9 : @Ne Nat dtok vl := ap1 _ ht2
  have e10 : @Ne Nat dtok sl := ap2 _ ht2
  have N2 := News.dup (News.dup N (.tail _ (.tail _ (.tail _ (.tail _ ht2))))) (.tail _ (.tail _ (.tail _ (.tail _ (.tail _ ht1)))))
  refine pad4 fun _ _ _ _ => ?_
  refine pad2 fun _ _ => ?_
  refine pad1 fun _ => ?_
  (k_dflt (refine enterK fd281 (bs := [(Str.ofString "self", .ref c), (Str.ofString "token", .ref tok)]) (by exact rfl) (by exact rfl) (by k_asm) (by k_asm) (by k_asm) (by k_asm) (by k_asm) (by first | exact rfl | assumption) (by ktr_room) ?_; k_whole); intro g' L' h' FG' F' N' B' X' T' tk' qk ek; (try k_lift B'))
  k_steps
  all_goals first | (exact ret _ _ 0 _ _ (by assumption) (by first | assumption  | exact News.tl (by assumption) | exact News.tl (News.tl (by assumption)) | exact News.tl (News.tl (News.tl (by assumption))) | exact News.tl (News.tl (News.tl (News.tl (by assumption)))) | exact News.tl (News.tl (News.tl (News.tl (News.tl (by assumption))))) | exact News.tl (News.tl (News.tl (News.tl (News.tl (News.tl (by assumption)))))) | exact News.tl (News.tl (News.tl (News.tl (News.tl (News.tl (News.tl (by assumption))))))))) | (exact ret _ _ _ _ _ (by assumption) (by first | assumption  | exact News.tl (by assumption) | exact News.tl (News.tl (by assumption)) | exact News.tl (News.tl (News.tl (by assumption))) | exact News.tl (News.tl (News.tl (News.tl (by assumption)))) | exact News.tl (News.tl (News.tl (News.tl (News.tl (by assumption))))) | exact News.tl (News.tl (News.tl (News.tl (News.tl (News.tl (by assumption)))))) | exact News.tl (News.tl (News.tl (News.tl (News.tl (News.tl (News.tl (by assumption)))))))))
theorem goClose1 (tok dtok : Addr) (file : Str) (line : Int) (j1 j2 j3 j4 u1 u2 u3 u4 t0 t3 : Tok) (ts : List Str) (p : Pend) (args : List Value) (xs : List V) (B : Below A₀ base outer h₀) (F : Fr h₀ L s.heap m) (X : (KQ w.params).In h₀) (N : News h₀ L s.heap ((c, instObj 291 dc) :: (dc, cdict w tl pl vl sl k1 k2 k3 k4) :: (vl, listOf (us ++ args).toArray nv) :: (sl, listOf ((ps ++ [Value.str (Str.ofString "(") t0]) ++ [Value.str p.word t3]).toArray ns) :: rest)) (T : Top viewQ looseQ mean mg mb h₀) (hk : cs.kind = .function) (six : Six c dc vl sl) (ap : Apart rest vl sl) (lu : us.length < 900) (lp : ps.length < 900)(ht1 : (tok, instObj 106 dtok) ∈ rest) (ht2 : (dtok, tdict w (Str.ofString "punct") (Str.ofString ")") file line j1 j2 j3 j4 u1 u2 u3 u4) ∈ rest)(hs : Strs ((ps ++ [Value.str (Str.ofString "(") t0]) ++ [Value.str p.word t3]) (ts ++ [p.word])) (hs2 : Strs (ps ++ [Value.str (Str.ofString "(") t0]) ts) (lp2 : (ps ++ [Value.str (Str.ofString "(") t0]).length < 900) (ha : ValsAt w rest args xs) (hn : xs.length = p.ar)
    (hd : dp + 60 < recursionLimit) (hu : un + 900 < cLine)
    (ret : RedRetT w h₀ L m s Q c dc vl sl tl pl k1 k2 k3 k4 us ps rest (p.run xs)) :
    wpAny (MQ w) (ktrTop dp un gd cn cs L a ccd cl outer) (call (.ref 281) [.ref c, .ref tok]) Q E s := by
  obtain ⟨e1, e2, e3, e4, e5, e6⟩ := id six
  obtain ⟨ap1, ap2⟩ := id ap
  have e7 : @Ne Nat tok vl := ap1 _ ht1
  have e8 : @Ne Nat tok sl := ap2 _ ht1
  have e9 : @Ne Nat dtok vl := ap1 _ ht2
  have e10 : @Ne Nat dtok sl := ap2 _ ht2
  have N2 := News.dup (News.dup N (.tail _ (.tail _ (.tail _ (.tail _ ht2))))) (.tail _ (.tail _ (.tail _ (.tail _ (.tail _ ht1)))))
  (k_dflt (refine enterK fd281 (bs := [(Str.ofString "self", .ref c), (Str.ofString "token", .ref tok)]) (by exact rfl) (by exact rfl) (by k_asm) (by k_asm) (by k_asm) (by k_asm) (by k_asm) (by first | exact rfl | assumption) (by ktr_room) ?_; k_whole); intro g' L' h' FG' F' N' B' X' T' tk' qk ek; (try k_lift B'))
  k_steps
  all_goals (exact ret _ _ _ _ _ _ (by assumption) (by first | assumption  | exact News.tl (by assumption) | exact News.tl (News.tl (by assumption)) | exact News.tl (News.tl (News.tl (by assumption))) | exact News.tl (News.tl (News.tl (News.tl (by assumption)))) | exact News.tl (News.tl (News.tl (News.tl (News.tl (by assumption))))) | exact News.tl (News.tl (News.tl (News.tl (News.tl (News.tl (by assumption)))))) | exact News.tl (News.tl (News.tl (News.tl (News.tl (News.tl (News.tl (by assumption)))))))) (by assumption) (by assumption) (by assumption))
end
end
end
section
open PySem PySem.W PyProof.Rows PySem.Calls PySem.Spec
section
theorem kw38 : True := by
  k_with_none
  trivial
noncomputable def InvF (P : Params) (s : Array (Int × Value) × Nat × SetTable) (cs : List (Str × Nat)) : Prop := Inv s cs ∧ s.1.toList.Perm (cs.map fun c => (PyData.keyHash P c.1, Value.str c.1 c.2))
theorem invF_start (P : Params) : InvF P (start0 P) [] := ⟨inv_start P, by simp [start0]⟩
theorem invF_add {P : Params} {s : Array (Int × Value) × Nat × SetTable} {cs : List (Str × Nat)} (I : InvF P s cs) (c : Str × Nat) : InvF P (addS P s c) (c :: cs) := by
  refine ⟨inv_add I.1 _ c, ?_⟩
  obtain ⟨_, a3⟩ := layNew_fits s.2.2 s.1 (PyData.keyHash P c.1) (.str c.1 c.2)
  have hp := a3.trans (I.2.cons (PyData.keyHash P c.1, Value.str c.1 c.2))
  unfold addS addT
  dsimp only
  split
  · obtain ⟨_, b3⟩ := relayAll_fits { (layNew s.2.2 s.1 (PyData.keyHash P c.1) (.str c.1 c.2)).2.1 with plain := false } (layNew s.2.2 s.1 (PyData.keyHash P c.1) (.str c.1 c.2)).1 (SetTable.grown (layNew s.2.2 s.1 (PyData.keyHash P c.1) (.str c.1 c.2)).1.size)
    exact b3.trans hp
  · exact hp
theorem invF_adds (P : Params) : ∀ (l : List (Str × Nat)) (s : Array (Int × Value) × Nat × SetTable) (cs : List (Str × Nat)), InvF P s cs → InvF P (l.foldl (addS P) s) (l.reverse ++ cs)
  | [], _, _, I => I
  | c :: l, s, cs, I => by
    have := invF_adds P l _ _ (invF_add I c)
    rw [List.reverse_cons, List.append_assoc]
    exact this
theorem InvF.obj {w : World} {s : Array (Int × Value) × Nat × SetTable} {cs : List (Str × Nat)} (I : InvF w.params s cs) (prog : Program) :
    (setObj s).SetObjOf (strKind prog w) (fun k => cs.any (fun c => c.1 == k)) cs.length := by
  have hm : ∀ e, e ∈ s.1.toList ↔ ∃ c ∈ cs, (PyData.keyHash w.params c.1, Value.str c.1 c.2) = e := fun e => by rw [I.2.mem_iff, List.mem_map]
  refine ⟨⟨rfl, rfl, rfl⟩, s.1, s.2.1, s.2.2, rfl, fun e he => ?_, fun k => ?_, I.1.size_eq, ?_⟩
  · obtain ⟨c, _, rfl⟩ := (hm e).mp he
    exact ⟨⟨c.1, isStrOf_self c.1 c.2, rfl⟩, rfl⟩
  · rw [List.any_eq_true]
    constructor
    · rintro ⟨c, hc, h⟩
      refine ⟨_, (hm _).mpr ⟨c, hc, rfl⟩, ?_⟩
      have : c.1 = k := by simpa using h
      subst this
      exact isStrOf_self c.1 c.2
    · rintro ⟨e, he, h⟩
      obtain ⟨c, hc, rfl⟩ := (hm e).mp he
      refine ⟨c, hc, ?_⟩
      have q : Value.isStrOf k (Value.str c.1 c.2) = true := h
      exact (Value.isStrOf_inj _ _ _ q (isStrOf_self c.1 c.2)).symm ▸ (by simp)
  · simp [SetTable.fits, I.1.size, I.1.fill]
theorem InvF.led {P : Params} {s : Array (Int × Value) × Nat × SetTable} {cs : List (Str × Nat)} (I : InvF P s cs) : InvF P (s.1, s.2.1 + 1, { s.2.2 with led := false }) cs := ⟨⟨I.1.size, I.1.fill, I.1.perm⟩, I.2⟩
theorem obj_D (prog : Program) (w : World) : (setD w.params).SetObjOf (strKind prog w) (fun k => csD.reverse.any (fun c => c.1 == k)) csD.reverse.length := InvF.obj (by have := invF_adds w.params csD _ _ (invF_start w.params); rw [List.append_nil] at this; exact this) prog
theorem obj_H (prog : Program) (w : World) : (setH w.params).SetObjOf (strKind prog w) (fun k => csH.reverse.any (fun c => c.1 == k)) csH.reverse.length := InvF.obj (by have := invF_adds w.params csH _ _ (invF_start w.params); rw [List.append_nil] at this; exact this) prog
theorem obj_O (prog : Program) (w : World) : (setO w.params).SetObjOf (strKind prog w) (fun k => csO.reverse.any (fun c => c.1 == k)) csO.reverse.length := InvF.obj (by have := invF_adds w.params csO _ _ (invF_start w.params); rw [List.append_nil] at this; exact this) prog
theorem obj_S (prog : Program) (w : World) : (setS w.params).SetObjOf (strKind prog w) (fun k => csS.reverse.any (fun c => c.1 == k)) csS.reverse.length := by
  have I : InvF w.params (addsOf w.params csS) csS.reverse := by have := invF_adds w.params csS _ _ (invF_start w.params); rw [List.append_nil] at this; exact this
  exact I.led.obj prog
end
end
section
open PySem PySem.W PyProof.Rows PySem.Calls PySem.Spec
theorem vdrop1 {h₀ h : Heap} {L : Addr} {p : Addr × Obj} {rest news : List (Addr × Obj)} (N : News h₀ L h (p :: rest)) (hs : ∀ r ∈ news, r ∈ rest) : News h₀ L h (p :: news) :=
  cb_drop N fun r hr => by
    rcases List.mem_cons.mp hr with rfl | hr
    · exact .head _
    · exact .tail _ (hs r hr)
section
variable {prog : Program} {w : World} {A : Around} {E : Value → Shared → Prop} {s : Shared} {env : Env} {h₀ : Heap} {x : Str} {body : List Stmt} {Q : Flow → Shared → Prop}
noncomputable def SEnd (h₀ : Heap) (L : Addr) (s₁ : Shared) (I : Addr) (own : List (Addr × Obj)) (rest : (Str → Option Value) → List (Addr × Obj) → Prop) (s₂ : Shared) : Prop :=
  ∃ h' tk m' n', s₂ = { s₁ with heap := h', toks := tk } ∧ Fr h₀ L h' m' ∧ News h₀ L h' (own ++ n') ∧ (∀ p ∈ n', p.1 ≠ I) ∧ rest m' n'
noncomputable def SPost (h₀ : Heap) (L : Addr) (s₁ : Shared) (I : Addr) (own : List (Addr × Obj)) (rest : (Str → Option Value) → List (Addr × Obj) → Prop) (Q : Flow → Shared → Prop) (f : Flow) (s₂ : Shared) : Prop :=
  match f with
  | .ret v => Q (.ret v) s₂
  | .brk => Q .next s₂
  | _ => SEnd h₀ L s₁ I own rest s₂
noncomputable def SRest (prog : Program) (w : World) (A : Around) (E : Value → Shared → Prop) (h₀ : Heap) (env : Env) (x : Str) (body : List Stmt) (Q : Flow → Shared → Prop) (s : Shared) (I : Addr) : List Str → (Str → Option Value) → List (Addr × Obj) → Prop
  | [], m, news => ∀ h tk, Fr h₀ env.locals h m → News h₀ env.locals h news → Q .next { s with heap := h, toks := tk }
  | k :: r, m, news => ∀ (own : List (Addr × Obj)) (u : Tok) h tk, Fr h₀ env.locals h (fun y => if y = x then some (.str k u) else m y) → News h₀ env.locals h (own ++ news) →
      wpAny (model prog w) A (execs body env) (SPost h₀ env.locals { s with heap := h, toks := tk } I own (fun m' n' => SRest prog w A E h₀ env x body Q s I r m' n') Q) E { s with heap := h, toks := tk }
theorem SRest.zero {I : Addr} {m : Str → Option Value} {news : List (Addr × Obj)} (h : ∀ h tk, Fr h₀ env.locals h m → News h₀ env.locals h news → Q .next { s with heap := h, toks := tk }) :
    SRest prog w A E h₀ env x body Q s I [] m news := h
theorem SRest.succ {I : Addr} {k : Str} {r : List Str} {m : Str → Option Value} {news : List (Addr × Obj)}
    (h : ∀ (own : List (Addr × Obj)) (u : Tok) h tk, Fr h₀ env.locals h (fun y => if y = x then some (.str k u) else m y) → News h₀ env.locals h (own ++ news) →
      wpAny (model prog w) A (execs body env) (SPost h₀ env.locals { s with heap := h, toks := tk } I own (fun m' n' => SRest prog w A E h₀ env x body Q s I r m' n') Q) E { s with heap := h, toks := tk }) :
    SRest prog w A E h₀ env x body Q s I (k :: r) m news := h
theorem iter_signs {y : Str} {t : Tok} {ks : List Str} {m₀ : Str → Option Value} {news : List (Addr × Obj)} (hh : A.handled = none) (F : Fr h₀ env.locals s.heap m₀) (N : News h₀ env.locals s.heap news) (hk : signs y = ks)
    (rest₀ : ∀ I : Addr, (∀ p ∈ news, p.1 ≠ I) → SRest prog w A E h₀ env x body Q s I ks m₀ news) :
    wpAny (model prog w) A (pyIter (.str y t)) (fun it s₂ => LoopAtV prog w A h₀ env x body Q E it s₂) E s := by
  subst hk
  refine wpAny_pyIter_str fun o St W hst => ?_
  have W' := W A hh
  have hlen : y.cps.size = (signs y).length := by rw [signs_length]; rfl
  rw [hlen] at W'
  have below : ∀ p ∈ news, p.1 < s.heap.objs.size := fun p hp => Heap.lt_size (N p hp).1
  have start := rest₀ s.heap.objs.size fun p hp => Nat.ne_of_lt (below p hp)
  have hnew := next_is_new F
  refine ⟨s.heap.objs.size, _, _, (signs y).length, _, _, m₀, news, fun i m₁ n₁ => SRest prog w A E h₀ env x body Q s s.heap.objs.size ((signs y).drop i) m₁ n₁, rfl, W', ?_, ?_, ?_, hst, F.push _, fun p hp => ⟨Heap.get?_push_of_some _ (N p hp).1, (N p hp).2⟩, start, ?_, ?_⟩
  · intro hm
    exact absurd F.ns.lt ((List.mem_singleton.mp hm) ▸ Nat.lt_irrefl _)
  · intro b hb
    rw [List.mem_singleton.mp hb]; exact hnew
  · intro p hp hI
    exact absurd (below p hp) ((List.mem_singleton.mp hI) ▸ Nat.lt_irrefl _)
  · rintro i v m₁ n₁ s₁ own ⟨h₁, t₁, rfl⟩ hi hP hJ hoff hown hget hall hst₁ F₁ N₁
    obtain ⟨c, u, hc, rfl⟩ := hP
    have hg := signs_get hc
    have hd : (signs y).drop i = ⟨#[c]⟩ :: (signs y).drop (i + 1) := by
      rw [List.drop_eq_getElem_cons hi]
      congr 1
      exact Option.some.inj ((List.getElem?_eq_getElem hi).symm.trans hg)
    rw [hd] at hJ
    refine wpAny_mono (hJ own u h₁ t₁ F₁ N₁) (fun f s₂ p => ?_) fun _ _ e => e
    have fin : SEnd h₀ env.locals { s with heap := h₁, toks := t₁ } s.heap.objs.size own (fun m' n' => SRest prog w A E h₀ env x body Q s s.heap.objs.size ((signs y).drop (i + 1)) m' n') s₂ →
        LoopStepU h₀ env.locals [s.heap.objs.size] own (fun m₁ n₁ => SRest prog w A E h₀ env x body Q s s.heap.objs.size ((signs y).drop (i + 1)) m₁ n₁) { s with heap := h₁, toks := t₁ } .next s₂ := by
      rintro ⟨h', tk, m', n', e, F', N', ho, r⟩
      exact ⟨rfl, h', tk, m', n', e, F', N', fun p hp hI => ho p hp (List.mem_singleton.mp hI), r⟩
    cases f with
    | ret v => exact .ret p
    | brk => exact .brk p
    | next => exact .next (fin p)
    | cont => exact .cont (fin p)
  · rintro h' tk m' n' F' N' _ hJ
    have hJ' : SRest prog w A E h₀ env x body Q s s.heap.objs.size ((signs y).drop (signs y).length) m' n' := hJ
    rw [List.drop_length] at hJ'
    exact hJ' h' tk F' N'
end
end
section
open PySem PySem.W PyProof.Rows PySem.Calls PySem.Spec
section
theorem typeCall_int_2 (a b : Value) : checkTypeCall "int" ⟨[a, b], []⟩ = pure () := by kernel_rfl
theorem newCall_int_2 (a b : Value) : checkBuiltinCall "int.__new__" ⟨[.type "int", a, b], []⟩ = pure () := by kernel_rfl
theorem call_int_base {prog : Program} {w : World} {A : Around} {E : Value → Shared → Prop} {s : Shared} {x b : Value} {n : Int} {Q : Value → Shared → Prop} (g : Gives (Builtin.«int.__new__» ⟨[.type "int", x, b], []⟩) (.int n)) (h : Q (.int n s.toks) { s with toks := s.toks + 1 }) :
    wpAny (model prog w) A (call (.type "int") [x, b]) Q E s :=
  callType_new F.called_int F.newNe_int (typeCall_int_2 x b) (newCall_int_2 x b) (fun obj => F.args_object_init_3 obj x b) F.entry_int_new g.meets (show (Made.int n).post _ s from ⟨rfl, h⟩)
theorem wp_congr {M : Model} {A : Around} {E : Value → Shared → Prop} {s : Shared} {α : Type} {m m' : Sem α} {Q : α → Shared → Prop} (e : m = m') (h : wpAny M A m' Q E s) : wpAny M A m Q E s := e ▸ h
theorem gi (x : Str) (b n : Int) (u v : Tok) (hb : ¬ ((b != 0 && decide (b < 2) || decide (b > 36)) = true)) (e : (int_private% "intFromText") (.str x u) (if (x.cps.all fun x => decide (x < 128)) = true then x.cps.toList else Unicode.numberText x.cps.toList) b.toNat = mkInt n) : Gives (Builtin.«int.__new__» ⟨[.type "int", .str x u, .int b v], []⟩) (.int n) :=
  .of_wp fun M A E s Q h => by
    obtain ⟨hp, g, d, tk, os⟩ := s
    have f1 := F.conv_sub_int
    have f2 := F.madeHere_int
    repeat (any_goals (first
      | assumption
      | (with_reducible refine wpAny_ite_false hb ?_)
      | ((with_reducible show wpAny _ _ ((int_private% "intFromText") _ _ _) _ _ _); refine wp_congr e ?_)
      | wp_step))
    all_goals first | exact ⟨_, rfl, h⟩ | skip
end
end
section
open PySem PySem.W PyProof.Rows PySem.Calls PySem.Spec
section

inductive Num where
  | a0 | a1 | a2 | a3 | a7 | u5 | big | mid | hex | u0 | u1 | a31
noncomputable def Num.txt : Num → Str
  | .a0 => "0"
  | .a1 => "1"
  | .a2 => "2"
  | .a3 => "3"
  | .a7 => "7"
  | .u5 => "5u"
  | .big => "4294967295"
  | .mid => "2147483647"
  | .hex => "0x80000000"
  | .u0 => "0u"
  | .u1 => "1u"
  | .a31 => "31"

noncomputable def Num.val : Num → Int
  | .a0 => 0
  | .a1 => 1
  | .a2 => 2
  | .a3 => 3
  | .a7 => 7
  | .u5 => 5
  | .big => 4294967295
  | .mid => 2147483647
  | .hex => 2147483648
  | .u0 => 0
  | .u1 => 1
  | .a31 => 31

noncomputable def Num.base : Num → Int
  | .a0 => 8
  | .a1 => 10
  | .a2 => 10
  | .a3 => 10
  | .a7 => 10
  | .u5 => 10
  | .big => 10
  | .mid => 10
  | .hex => 16
  | .u0 => 8
  | .u1 => 10
  | .a31 => 10

noncomputable def Num.suf : Num → Str
  | .a0 => ""
  | .a1 => ""
  | .a2 => ""
  | .a3 => ""
  | .a7 => ""
  | .u5 => "u"
  | .big => ""
  | .mid => ""
  | .hex => ""
  | .u0 => "u"
  | .u1 => "u"
  | .a31 => ""

theorem notin_set {prog : Program} {w : World} {A : Around} {E : Value → Shared → Prop} {s : Shared} {h₀ : Heap} {L a : Addr} {m : Str → Option Value} {o : Obj} {n : Nat} {t : Tok} {Q : Value → Shared → Prop} {S : Str → Bool} {k : Str} {b : Bool} (F : Fr h₀ L s.heap m) (hso : o.SetObjOf (PySem.strKind prog w) S n) (ho : h₀.get? a = some o) (hb : n < 4096) (e : S k = b) (h : Q (.bool (!b)) { s with toks := s.toks + 1 }) :
    wpAny (model prog w) A (compareOp .NotIn (.str k t) (.ref a)) Q E s := notin_argsetS F hso ho hb (by rw [e]; exact h)
theorem in_str_t {prog : Program} {w : World} {A : Around} {E : Value → Shared → Prop} {s : Shared} {x y : Str} {t u : Tok} {Q : Value → Shared → Prop} (e : (!(Builtin.Str.occurrences y x 0 y.length 1).isEmpty) = true) (h : Q (.bool true) s) : wpAny (model prog w) A (compareOp .In (.str x t) (.str y u)) Q E s := in_str (by rw [e]; exact h)
theorem in_str_f {prog : Program} {w : World} {A : Around} {E : Value → Shared → Prop} {s : Shared} {x y : Str} {t u : Tok} {Q : Value → Shared → Prop} (e : (!(Builtin.Str.occurrences y x 0 y.length 1).isEmpty) = false) (h : Q (.bool false) s) : wpAny (model prog w) A (compareOp .In (.str x t) (.str y u)) Q E s := in_str (by rw [e]; exact h)
theorem kw42 : True := by
  (k_with "compareOp In str str" => (k_dflt (first | refine in_str_t (by kernel_rfl!) ?_ | refine in_str_f (by kernel_rfl!) ?_)))
  trivial
theorem lk_miss {x z : Str} {a r u : Option Value} (h : ¬ (x = z)) (k : r = u) : (if x = z then a else r) = u := by rw [if_neg h]; exact k
theorem lk_hit {x : Str} {a r : Option Value} : (if x = x then a else r) = a := if_pos rfl
theorem ite_ff0 {c : Bool} {a b : Prop} (h : c = false) (hb : b) : if c = true then a else b := by rw [h]; exact hb
noncomputable def Steps (S : Str → Bool) (b : Int) : List Str → Int → Int → Prop
  | [], v, e => v = e
  | k :: r, v, e => S k = true ∧ ∃ d : Int, (∀ u t, Gives (Builtin.«int.__new__» ⟨[.type "int", .str k u, .int 16 t], []⟩) (.int d)) ∧ IntMulOk v b ∧ Steps S b r (v * b + d) e
theorem call_int_d {prog : Program} {w : World} {A : Around} {E : Value → Shared → Prop} {s : Shared} {k : Str} {d : Int} {u t : Tok} {Q : Value → Shared → Prop} (g : ∀ u t, Gives (Builtin.«int.__new__» ⟨[.type "int", .str k u, .int 16 t], []⟩) (.int d)) (h : Q (.int d s.toks) { s with toks := s.toks + 1 }) : wpAny (model prog w) A (call (.type "int") [.str k u, .int 16 t]) Q E s := call_int_base (g u t) h
noncomputable def forBody : List Stmt → List Stmt
  | _ :: _ :: _ :: _ :: _ :: _ :: _ :: .For _ _ b _ _ :: _ => b
  | _ => []
section
variable {w : World} {mean : ExcName → Option Value} {mg mb : Str → Option Value} {dp un : Nat} {gd : Option (List Code)} {cn : Str} {cs : Scope} {a : Addr} {ccd : Value} {cl : List (Str × Addr)} {outer : List Env} {A₀ : Around} {base h₀ : Heap} {L : Addr} {m : Str → Option Value} {news : List (Addr × Obj)} {s : Shared} {Q E : Value → Shared → Prop}
theorem kw43 : True := by
  (k_with "eval Name" => (k_dflt (refine' nameX_L (by k_asm) (by (try dsimp only); (repeat (with_reducible refine lk_miss (by decide +kernel) ?_)); (first | (with_reducible exact lk_hit) | assumption | exact rfl)) ?_ (by rfl) (by rfl); k_whole)))
  (k_with "compareOp NotIn str ref" => ((with_reducible show wpAny _ _ (compareOp CmpOp.NotIn (Value.str _ _) (Value.ref _)) _ _ _); k_dflt (refine' notin_set (by k_asm) (by assumption) (by assumption) (by assumption) (by assumption) ?_); (try dsimp only [Bool.not_true, Bool.not_false])))
  (k_with "call type:int" => ((with_reducible show wpAny _ _ (call (Value.type "int") [Value.str _ _, Value.int _ _]) _ _ _); k_dflt (refine call_int_d (by assumption) ?_); (try dsimp only)))
  (k_with "binaryOp Mult int int" => (k_dflt (refine PySem.P.mul_int ?_ (by assumption))))
  (k_with "SPost" => (dsimp only [SPost]))
  (k_with "SEnd" => (refine ⟨_, _, _, _, rfl, by k_asm, by k_asm, by assumption, ?_⟩))
  trivial
theorem npLoop {L₀ : Addr} {G : Addr} {o : Obj} {n : Nat} {S : Str → Bool} {b : Int} {tb : Tok} {I : Addr} {QF : Flow → Shared → Prop} (hso : o.SetObjOf (PySem.strKind PySem.Challenge.rw_on0057_01.prog w) S n) (ho : h₀.get? G = some o) (hn : n < 4096)
    (B : Below (ktrTop dp un gd cn cs L₀ a ccd cl outer) base (envX cn cs L₀ a ccd cl :: outer) h₀) (X : (KQ w.params).In h₀) (T : Top viewQ looseQ mean mg mb h₀) (hI : ∀ p ∈ news, p.1 ≠ I) (hd : dp + 20 < recursionLimit) (hu : un + 100 < cLine) :
    ∀ (ks : List Str) (v e : Int) (tv : Tok) (m : Str → Option Value), Steps S b ks v e → m (Str.ofString "value") = some (.int v tv) → m (Str.ofString "base") = some (.int b tb) → m (Str.ofString "good") = some (.ref G) →
    (∀ (m' : Str → Option Value) (tv' : Tok) (h : Heap) (tk : Nat), m' (Str.ofString "value") = some (.int e tv') → m' (Str.ofString "base") = some (.int b tb) → m' (Str.ofString "suffix") = m (Str.ofString "suffix") → Fr h₀ L h m' → News h₀ L h news → QF .next { s with heap := h, toks := tk }) →
    SRest PySem.Challenge.rw_on0057_01.prog w ((ktrTop dp un gd cn cs L₀ a ccd cl outer).deeper (envOf (Str.ofString "number_parts") (pS (D 13)) L 117 (Value.ref 116))) E h₀ (envOf (Str.ofString "number_parts") (pS (D 13)) L 117 (Value.ref 116)) (Str.ofString "sign") (forBody (pB (D 13))) QF s I ks m news := by
  intro ks
  induction ks with
  | nil =>
    intro v e tv m hs hv hb hg fin
    refine SRest.zero (fun h tk F N => ?_)
    cases hs
    exact fin m tv h tk hv hb rfl F N
  | cons k r ih =>
    intro v e tv m hs hv hb hg fin
    obtain ⟨hS, d, hd', hm, hr⟩ := hs
    refine SRest.succ (fun own u h tk F N => ?_)
    k_dflt (show wpAny (MQ w) _ (execs (_ :: _ :: []) _) _ _ _)
    k_steps
    all_goals (refine ih _ _ _ _ hr rfl ?_ ?_ ?_)
    all_goals first
      | (dsimp only; (repeat (with_reducible refine lk_miss (by decide +kernel) ?_)); assumption)
      | (intro m' tv' h1 tk1 e1 e2 e3 F1 N1; refine fin m' tv' h1 tk1 e1 e2 (e3.trans ?_) F1 N1; dsimp only; (repeat (with_reducible refine lk_miss (by decide +kernel) ?_)); exact rfl)
theorem kw44 : True := by
  (k_with "exec For Name Name cons nil" => ((rename Fr _ _ _ _ => lF'); (with_unfolding_all refine' For_invVF lF' (by exact rfl) (by exact rfl) ?_ (hE := by assumption); k_whole)))
  (k_with "pyIter str" => ((rename Fr _ _ _ _ => lF'); (rename News _ _ _ _ => lN'); (with_unfolding_all refine iter_signs (by rfl) lF' lN' (by assumption) ?_); clear lF' lN'; intro i' l1))
  (k_with "ite" => (with_reducible refine ite_ff0 (by assumption) ?_))
  trivial
theorem npTail {L₀ : Addr} (hE : PassesOwn (MQ w) ((ktrTop dp un gd cn cs L₀ a ccd cl outer).deeper (envOf (Str.ofString "number_parts") (pS (D 13)) L 117 (Value.ref 116))) (envOf (Str.ofString "number_parts") (pS (D 13)) L 117 (Value.ref 116)) E) {G : Addr} {o : Obj} {n : Nat} {S : Str → Bool} {b e : Int} {tb td ts : Tok} {ds suf : Str} {ks : List Str} {QF : Flow → Shared → Prop} (hso : o.SetObjOf (PySem.strKind PySem.Challenge.rw_on0057_01.prog w) S n) (ho : h₀.get? G = some o) (hn : n < 4096)
    (B : Below (ktrTop dp un gd cn cs L₀ a ccd cl outer) base (envX cn cs L₀ a ccd cl :: outer) h₀) (F : Fr h₀ L s.heap m) (X : (KQ w.params).In h₀) (N : News h₀ L s.heap news) (T : Top viewQ looseQ mean mg mb h₀) (hd : dp + 20 < recursionLimit) (hu : un + 100 < cLine)
    (he : (ds == Str.ofString "") = false) (hk : signs ds = ks) (hs : Steps S b ks 0 e) (h1 : m (Str.ofString "digits") = some (.str ds td)) (h2 : m (Str.ofString "base") = some (.int b tb)) (h3 : m (Str.ofString "good") = some (.ref G)) (h4 : m (Str.ofString "suffix") = some (.str suf ts))
    (ret : ∀ (m' : Str → Option Value) (D : Addr) (k : Nat) (t1 t2 t3 : Tok) (h' : Heap) (tk' : Nat), Fr h₀ L h' m' → News h₀ L h' ((D, ({ cls := .type "tuple", data := .seq #[.int e t1, .int b t2, .str suf t3] k } : Obj)) :: news) → QF (.ret (.ref D)) { s with heap := h', toks := tk' }) :
    wpAny (MQ w) ((ktrTop dp un gd cn cs L₀ a ccd cl outer).deeper (envOf (Str.ofString "number_parts") (pS (D 13)) L 117 (Value.ref 116))) (execs ((pB (D 13)).drop 5) (envOf (Str.ofString "number_parts") (pS (D 13)) L 117 (Value.ref 116))) QF E s := by
  k_dflt (show wpAny _ _ (execs (_ :: _ :: _ :: _ :: []) _) _ _ _)
  k_steps
  all_goals (refine npLoop (tb := tb) hso ho hn B X T ?_ hd hu _ _ _ _ _ hs rfl ?_ ?_ ?_)
  · assumption
  · (dsimp only; (repeat (with_reducible refine lk_miss (by decide +kernel) ?_)); assumption)
  · (dsimp only; (repeat (with_reducible refine lk_miss (by decide +kernel) ?_)); assumption)
  · intro m' tv' h tk e1 e2 e3 F1 N1
    have e4 : m' (Str.ofString "suffix") = some (.str suf ts) := e3.trans (by (dsimp only; (repeat (with_reducible refine lk_miss (by decide +kernel) ?_)); assumption))
    clear e3
    dsimp only
    k_steps
    all_goals trace_state
    all_goals (refine ret m' _ _ _ _ _ _ _ (by assumption) (by assumption))
end
end
end
section
open PySem PySem.W PyProof.Rows PySem.Calls PySem.Spec
section
theorem kw45 : True := by
  k_with_none
  trivial
noncomputable def Num.hasU : Num → Bool
  | .u5 | .u0 | .u1 => true
  | _ => false
noncomputable def Num.isHex : Num → Bool
  | .hex => true
  | _ => false
noncomputable def Num.isOct : Num → Bool
  | .a0 | .u0 => true
  | _ => false
noncomputable def Num.lastC (k : Num) : Nat := (k.txt.cps.back?).getD 0
noncomputable def Num.digs : Num → Str
  | .a0 => "0"
  | .a1 => "1"
  | .a2 => "2"
  | .a3 => "3"
  | .a7 => "7"
  | .u5 => "5"
  | .big => "4294967295"
  | .mid => "2147483647"
  | .hex => "0x80000000"
  | .u0 => "0"
  | .u1 => "1"
  | .a31 => "31"
noncomputable def Num.ds : Num → Str
  | .a0 => "0"
  | .a1 => "1"
  | .a2 => "2"
  | .a3 => "3"
  | .a7 => "7"
  | .u5 => "5"
  | .big => "4294967295"
  | .mid => "2147483647"
  | .hex => "80000000"
  | .u0 => "0"
  | .u1 => "1"
  | .a31 => "31"
noncomputable def Num.goodF (k : Num) : Str → Bool := if k.isHex then (fun s => csH.reverse.any (fun c => c.1 == s)) else if k.isOct then (fun s => csO.reverse.any (fun c => c.1 == s)) else (fun s => csD.reverse.any (fun c => c.1 == s))
theorem nf_len0 (k : Num) : decide ((k.txt.length : Int) > 0) = true := by cases k <;> kernel_rfl
theorem nf_j (k : Num) : seqIndex? ((k.txt.length : Int) - 1) k.txt.length = some (k.txt.cps.size - 1) := by cases k <;> kernel_rfl
theorem nf_r (k : Num) : (decide ((k.txt.length : Int) - 1 < -(2 ^ 63 : Int)) || decide ((k.txt.length : Int) - 1 ≥ 2 ^ 63)) = false := by cases k <;> kernel_rfl
theorem nf_c (k : Num) : k.txt.cps[k.txt.cps.size - 1]? = some k.lastC := by cases k <;> kernel_rfl
theorem nf_u (k : Num) : (!(Builtin.Str.occurrences (Str.ofString "uUlL") ⟨#[k.lastC]⟩ 0 (Str.ofString "uUlL").length 1).isEmpty) = k.hasU := by cases k <;> kernel_rfl
noncomputable def Num.c2 (k : Num) : Nat := (k.txt.cps[k.txt.cps.size - 2]?).getD 0
theorem nf_len1 (k : Num) (h : k.hasU = true) : decide ((k.txt.length : Int) - 1 > 0) = true := by cases k <;> first | kernel_rfl! | cases h
theorem nf_j2 (k : Num) (h : k.hasU = true) : seqIndex? ((k.txt.length : Int) - 1 - 1) k.txt.length = some (k.txt.cps.size - 2) := by cases k <;> first | kernel_rfl! | cases h
theorem nf_r2 (k : Num) : (decide ((k.txt.length : Int) - 1 - 1 < -(2 ^ 63 : Int)) || decide ((k.txt.length : Int) - 1 - 1 ≥ 2 ^ 63)) = false := by cases k <;> kernel_rfl
theorem nf_c2 (k : Num) (h : k.hasU = true) : k.txt.cps[k.txt.cps.size - 2]? = some k.c2 := by cases k <;> first | kernel_rfl! | cases h
theorem nf_u2 (k : Num) (h : k.hasU = true) : (!(Builtin.Str.occurrences (Str.ofString "uUlL") ⟨#[k.c2]⟩ 0 (Str.ofString "uUlL").length 1).isEmpty) = false := by cases k <;> first | kernel_rfl! | cases h
theorem nf_d0 (k : Num) (h : k.hasU = false) : Txt.slice k.txt none (some (k.txt.length : Int)) = k.digs := by cases k <;> first | kernel_rfl! | cases h
theorem nf_s0 (k : Num) (h : k.hasU = false) : Txt.slice k.txt (some (k.txt.length : Int)) none = k.suf := by cases k <;> first | kernel_rfl! | cases h
theorem nf_d1 (k : Num) (h : k.hasU = true) : Txt.slice k.txt none (some ((k.txt.length : Int) - 1)) = k.digs := by cases k <;> first | kernel_rfl! | cases h
theorem nf_s1 (k : Num) (h : k.hasU = true) : Txt.slice k.txt (some ((k.txt.length : Int) - 1)) none = k.suf := by cases k <;> first | kernel_rfl! | cases h
theorem nf_low (k : Num) : Txt.lower k.suf = k.suf := by cases k <;> kernel_rfl
theorem nf_long (k : Num) : Builtin.Str.tooLong (Txt.lower k.suf).length = false := by cases k <;> kernel_rfl
theorem nf_S (k : Num) : csS.reverse.any (fun c => c.1 == k.suf) = true := by cases k <;> kernel_rfl
theorem nf_size (k : Num) : k.txt.length ≤ sizeLine := by cases k <;> decide +kernel
theorem nf_size2 (k : Num) : k.digs.length ≤ sizeLine := by cases k <;> decide +kernel
theorem nf_hex (k : Num) : [Str.ofString "0x", Str.ofString "0X"].any (· == Txt.slice k.digs none (some 2)) = k.isHex := by cases k <;> kernel_rfl
theorem nf_oct (k : Num) (h : k.isHex = false) : (Txt.slice k.digs none (some 1) == Str.ofString "0") = k.isOct := by cases k <;> first | kernel_rfl! | cases h
theorem nf_dh (k : Num) (h : k.isHex = true) : Txt.slice k.digs (some 2) none = k.ds := by cases k <;> first | kernel_rfl! | cases h
theorem nf_dd (k : Num) (h : k.isHex = false) : k.digs = k.ds := by cases k <;> first | rfl | cases h
theorem nf_e (k : Num) : (k.ds == Str.ofString "") = false := by cases k <;> kernel_rfl
noncomputable def Num.ks : Num → List Str
  | .a0 => [⟨#[48]⟩]
  | .a1 => [⟨#[49]⟩]
  | .a2 => [⟨#[50]⟩]
  | .a3 => [⟨#[51]⟩]
  | .a7 => [⟨#[55]⟩]
  | .u5 => [⟨#[53]⟩]
  | .big => [⟨#[52]⟩, ⟨#[50]⟩, ⟨#[57]⟩, ⟨#[52]⟩, ⟨#[57]⟩, ⟨#[54]⟩, ⟨#[55]⟩, ⟨#[50]⟩, ⟨#[57]⟩, ⟨#[53]⟩]
  | .mid => [⟨#[50]⟩, ⟨#[49]⟩, ⟨#[52]⟩, ⟨#[55]⟩, ⟨#[52]⟩, ⟨#[56]⟩, ⟨#[51]⟩, ⟨#[54]⟩, ⟨#[52]⟩, ⟨#[55]⟩]
  | .hex => [⟨#[56]⟩, ⟨#[48]⟩, ⟨#[48]⟩, ⟨#[48]⟩, ⟨#[48]⟩, ⟨#[48]⟩, ⟨#[48]⟩, ⟨#[48]⟩]
  | .u0 => [⟨#[48]⟩]
  | .u1 => [⟨#[49]⟩]
  | .a31 => [⟨#[51]⟩, ⟨#[49]⟩]
theorem nf_ks (k : Num) : signs k.ds = k.ks := by cases k <;> kernel_rfl
theorem gd0 (u v : Tok) : Gives (Builtin.«int.__new__» ⟨[.type "int", .str ⟨#[48]⟩ u, .int 16 v], []⟩) (.int 0) := gi _ 16 0 u v (by decide) (by kernel_rfl)
theorem gd1 (u v : Tok) : Gives (Builtin.«int.__new__» ⟨[.type "int", .str ⟨#[49]⟩ u, .int 16 v], []⟩) (.int 1) := gi _ 16 1 u v (by decide) (by kernel_rfl)
theorem gd2 (u v : Tok) : Gives (Builtin.«int.__new__» ⟨[.type "int", .str ⟨#[50]⟩ u, .int 16 v], []⟩) (.int 2) := gi _ 16 2 u v (by decide) (by kernel_rfl)
theorem gd3 (u v : Tok) : Gives (Builtin.«int.__new__» ⟨[.type "int", .str ⟨#[51]⟩ u, .int 16 v], []⟩) (.int 3) := gi _ 16 3 u v (by decide) (by kernel_rfl)
theorem gd4 (u v : Tok) : Gives (Builtin.«int.__new__» ⟨[.type "int", .str ⟨#[52]⟩ u, .int 16 v], []⟩) (.int 4) := gi _ 16 4 u v (by decide) (by kernel_rfl)
theorem gd5 (u v : Tok) : Gives (Builtin.«int.__new__» ⟨[.type "int", .str ⟨#[53]⟩ u, .int 16 v], []⟩) (.int 5) := gi _ 16 5 u v (by decide) (by kernel_rfl)
theorem gd6 (u v : Tok) : Gives (Builtin.«int.__new__» ⟨[.type "int", .str ⟨#[54]⟩ u, .int 16 v], []⟩) (.int 6) := gi _ 16 6 u v (by decide) (by kernel_rfl)
theorem gd7 (u v : Tok) : Gives (Builtin.«int.__new__» ⟨[.type "int", .str ⟨#[55]⟩ u, .int 16 v], []⟩) (.int 7) := gi _ 16 7 u v (by decide) (by kernel_rfl)
theorem gd8 (u v : Tok) : Gives (Builtin.«int.__new__» ⟨[.type "int", .str ⟨#[56]⟩ u, .int 16 v], []⟩) (.int 8) := gi _ 16 8 u v (by decide) (by kernel_rfl)
theorem gd9 (u v : Tok) : Gives (Builtin.«int.__new__» ⟨[.type "int", .str ⟨#[57]⟩ u, .int 16 v], []⟩) (.int 9) := gi _ 16 9 u v (by decide) (by kernel_rfl)
theorem step0 {S : Str → Bool} {b v : Int} : Steps S b [] v v := rfl
theorem step1 {S : Str → Bool} {b : Int} {k : Str} {r : List Str} {v e v' d : Int} (h1 : S k = true) (h2 : ∀ u t, Gives (Builtin.«int.__new__» ⟨[.type "int", .str k u, .int 16 t], []⟩) (.int d)) (h3 : IntMulOk v b) (h4 : v * b + d = v') (h5 : Steps S b r v' e) : Steps S b (k :: r) v e := ⟨h1, d, h2, h3, h4 ▸ h5⟩
theorem nf_steps (k : Num) : Steps k.goodF k.base k.ks 0 k.val := by
  cases k
  · exact (step1 (v := 0) (v' := 0) (by kernel_rfl) gd0 (by mul_fits) (by decide) step0 : Steps _ 8 _ 0 0)
  · exact (step1 (v := 0) (v' := 1) (by kernel_rfl) gd1 (by mul_fits) (by decide) step0 : Steps _ 10 _ 0 1)
  · exact (step1 (v := 0) (v' := 2) (by kernel_rfl) gd2 (by mul_fits) (by decide) step0 : Steps _ 10 _ 0 2)
  · exact (step1 (v := 0) (v' := 3) (by kernel_rfl) gd3 (by mul_fits) (by decide) step0 : Steps _ 10 _ 0 3)
  · exact (step1 (v := 0) (v' := 7) (by kernel_rfl) gd7 (by mul_fits) (by decide) step0 : Steps _ 10 _ 0 7)
  · exact (step1 (v := 0) (v' := 5) (by kernel_rfl) gd5 (by mul_fits) (by decide) step0 : Steps _ 10 _ 0 5)
  · exact (step1 (v := 0) (v' := 4) (by kernel_rfl) gd4 (by mul_fits) (by decide) (step1 (v := 4) (v' := 42) (by kernel_rfl) gd2 (by mul_fits) (by decide) (step1 (v := 42) (v' := 429) (by kernel_rfl) gd9 (by mul_fits) (by decide) (step1 (v := 429) (v' := 4294) (by kernel_rfl) gd4 (by mul_fits) (by decide) (step1 (v := 4294) (v' := 42949) (by kernel_rfl) gd9 (by mul_fits) (by decide) (step1 (v := 42949) (v' := 429496) (by kernel_rfl) gd6 (by mul_fits) (by decide) (step1 (v := 429496) (v' := 4294967) (by kernel_rfl) gd7 (by mul_fits) (by decide) (step1 (v := 4294967) (v' := 42949672) (by kernel_rfl) gd2 (by mul_fits) (by decide) (step1 (v := 42949672) (v' := 429496729) (by kernel_rfl) gd9 (by mul_fits) (by decide) (step1 (v := 429496729) (v' := 4294967295) (by kernel_rfl) gd5 (by mul_fits) (by decide) step0))))))))) : Steps _ 10 _ 0 4294967295)
  · exact (step1 (v := 0) (v' := 2) (by kernel_rfl) gd2 (by mul_fits) (by decide) (step1 (v := 2) (v' := 21) (by kernel_rfl) gd1 (by mul_fits) (by decide) (step1 (v := 21) (v' := 214) (by kernel_rfl) gd4 (by mul_fits) (by decide) (step1 (v := 214) (v' := 2147) (by kernel_rfl) gd7 (by mul_fits) (by decide) (step1 (v := 2147) (v' := 21474) (by kernel_rfl) gd4 (by mul_fits) (by decide) (step1 (v := 21474) (v' := 214748) (by kernel_rfl) gd8 (by mul_fits) (by decide) (step1 (v := 214748) (v' := 2147483) (by kernel_rfl) gd3 (by mul_fits) (by decide) (step1 (v := 2147483) (v' := 21474836) (by kernel_rfl) gd6 (by mul_fits) (by decide) (step1 (v := 21474836) (v' := 214748364) (by kernel_rfl) gd4 (by mul_fits) (by decide) (step1 (v := 214748364) (v' := 2147483647) (by kernel_rfl) gd7 (by mul_fits) (by decide) step0))))))))) : Steps _ 10 _ 0 2147483647)
  · exact (step1 (v := 0) (v' := 8) (by kernel_rfl) gd8 (by mul_fits) (by decide) (step1 (v := 8) (v' := 128) (by kernel_rfl) gd0 (by mul_fits) (by decide) (step1 (v := 128) (v' := 2048) (by kernel_rfl) gd0 (by mul_fits) (by decide) (step1 (v := 2048) (v' := 32768) (by kernel_rfl) gd0 (by mul_fits) (by decide) (step1 (v := 32768) (v' := 524288) (by kernel_rfl) gd0 (by mul_fits) (by decide) (step1 (v := 524288) (v' := 8388608) (by kernel_rfl) gd0 (by mul_fits) (by decide) (step1 (v := 8388608) (v' := 134217728) (by kernel_rfl) gd0 (by mul_fits) (by decide) (step1 (v := 134217728) (v' := 2147483648) (by kernel_rfl) gd0 (by mul_fits) (by decide) step0))))))) : Steps _ 16 _ 0 2147483648)
  · exact (step1 (v := 0) (v' := 0) (by kernel_rfl) gd0 (by mul_fits) (by decide) step0 : Steps _ 8 _ 0 0)
  · exact (step1 (v := 0) (v' := 1) (by kernel_rfl) gd1 (by mul_fits) (by decide) step0 : Steps _ 10 _ 0 1)
  · exact (step1 (v := 0) (v' := 3) (by kernel_rfl) gd3 (by mul_fits) (by decide) (step1 (v := 3) (v' := 31) (by kernel_rfl) gd1 (by mul_fits) (by decide) step0) : Steps _ 10 _ 0 31)
end
end
section
open PySem PySem.W PyProof.Rows PySem.Calls PySem.Spec
section

theorem strAt {prog : Program} {w : World} {A : Around} {s : Shared} {Q E : Value → Shared → Prop} {value slice : PySem.Expr} {x : Str} {t u : Tok} {i : Int} {j c : Nat} (e : seqIndex? i x.length = some j) (hc : x.cps[j]? = some c) (hr : (decide (i < -(2 ^ 63 : Int)) || decide (i ≥ 2 ^ 63)) = false) (h : Q (.str ⟨#[c]⟩ s.toks) { s with toks := s.toks + 1 })
    (hs : subscripted slice false (.str x t) (.int i u) = operate [.str x t, .int i u] (getItem (.str x t) (.int i u)) := by with_unfolding_all rfl) (hg : ∀ r, letTemporaryGo value (.str x t) r = pure () := by intro _; with_unfolding_all rfl) :
    wpAny (model prog w) A (subscriptTail value slice (.str x t) (.int i u)) Q E s := tail_any (typeIs_str _ _ _) PySem.F.slot_str_getitem.lookup (P.getItem_str hr (by rw [e]; exact hc) h) hs
noncomputable def StopX (P : Prop) : Prop := P
theorem stopX {P : Prop} (h : StopX P) : P := h
theorem ite_tt0 {c : Bool} {a b : Prop} (h : c = true) (ha : a) : if c = true then a else b := by rw [if_pos h]; exact ha
theorem in_tup {prog : Program} {w : World} {A : Around} {E : Value → Shared → Prop} {s : Shared} {t : Addr} {items : Array Value} {ys : List Str} {x : Str} {u : Tok} {b : Bool} {Q : Value → Shared → Prop} (ht : IsTup s.heap t items) (hi : StrsAre items.toList ys) (e : ys.any (· == x) = b) (h : Q (.bool b) s) : wpAny (model prog w) A (compareOp .In (.str x u) (.ref t)) Q E s := in_tuple_strs ht hi (by rw [e]; exact h)
section
variable {prog : Program} {w : World} {A : Around} {E : Value → Shared → Prop} {s : Shared} {h₀ : Heap} {L : Addr} {m : Str → Option Value} {news : List (Addr × Obj)} {value slice : PySem.Expr} {x y : Str} {t : Tok} {Q : Value → Shared → Prop}
theorem sl_ns {j : Int} {uj : Tok} (e : Txt.slice x none (some j) = y) (hsz : x.length ≤ sizeLine) (hF : Fr h₀ L s.heap m) (hN : News h₀ L s.heap news) (h : ∀ h' t' k, Fr h₀ L h' m → News h₀ L h' news → Q (.str y t') { s with heap := h', toks := k })
    (hs : subscripted slice false (.str x t) (.ref s.heap.objs.size) = operate [.ref s.heap.objs.size, .str x t] (getItem (.str x t) (.ref s.heap.objs.size)) := by with_unfolding_all rfl)
    (ht : ∀ r, letTemporaryGo value (.str x t) r = pure () := by intro _; with_unfolding_all rfl) :
    wpAny (model prog w) A (subscriptTail value slice (.str x t) (.ref s.heap.objs.size)) Q E { s with heap := s.heap.push { cls := .type "slice", data := .fields #[.none, .int j uj, .none] } } :=
  slice_strN_ns hF hN (fun h' t' k a b => by rw [e]; exact h h' t' k a b) hs ht hsz
theorem sl_sn {i : Int} {ui : Tok} (e : Txt.slice x (some i) none = y) (hsz : x.length ≤ sizeLine) (hF : Fr h₀ L s.heap m) (hN : News h₀ L s.heap news) (h : ∀ h' t' k, Fr h₀ L h' m → News h₀ L h' news → Q (.str y t') { s with heap := h', toks := k })
    (hs : subscripted slice false (.str x t) (.ref s.heap.objs.size) = operate [.ref s.heap.objs.size, .str x t] (getItem (.str x t) (.ref s.heap.objs.size)) := by with_unfolding_all rfl)
    (ht : ∀ r, letTemporaryGo value (.str x t) r = pure () := by intro _; with_unfolding_all rfl) :
    wpAny (model prog w) A (subscriptTail value slice (.str x t) (.ref s.heap.objs.size)) Q E { s with heap := s.heap.push { cls := .type "slice", data := .fields #[.int i ui, .none, .none] } } :=
  slice_strN_sn hF hN (fun h' t' k a b => by rw [e]; exact h h' t' k a b) hs ht hsz
end
section
variable {w : World} {mean : ExcName → Option Value} {mg mb : Str → Option Value} {dp un : Nat} {gd : Option (List Code)} {cn : Str} {cs : Scope} {a : Addr} {ccd : Value} {cl : List (Str × Addr)} {outer : List Env} {A₀ : Around} {base h₀ : Heap} {L : Addr} {m : Str → Option Value} {news : List (Addr × Obj)} {s : Shared} {Q E : Value → Shared → Prop}
theorem kw47 : True := by
  (k_with "call builtin:len" => ((with_reducible show wpAny _ _ (call (Value.builtin "len") [Value.str (Num.txt _) _]) _ _ _); k_dflt (refine P.len_str (by assumption) ?_)))
  (k_with "subscriptTail Name BinOp str int" => ((with_reducible show wpAny _ _ (subscriptTail _ _ (Value.str (Num.txt _) _) (Value.int _ _)) _ _ _); k_dflt (refine strAt (by assumption) (by assumption) (by assumption) ?_)))
  (k_with "compareOp In str str" => (k_dflt (first | refine in_str_t (by assumption) ?_ | refine in_str_f (by assumption) ?_)))
  (k_with "ite" => (k_dflt (first | refine ite_tt0 (by assumption) ?_ | refine ite_ff0 (by assumption) ?_)))
  (k_with "subscriptTail Name Slice str ref" => ((with_reducible rename Fr _ _ _ _ => F'); (with_reducible rename News _ _ _ _ => N'); first
 | ((with_reducible show wpAny _ _ (subscriptTail _ (Expr.Slice none (some _) none _) _ _) _ _ _); k_dflt (refine sl_ns (s := ⟨_, _, _, _, _⟩) (by first | assumption | exact rfl) (by assumption) F' N' ?_); intro _ _ _ _ _)
 | ((with_reducible show wpAny _ _ (subscriptTail _ (Expr.Slice (some _) none none _) _ _) _ _ _); k_dflt (refine sl_sn (s := ⟨_, _, _, _, _⟩) (by assumption) (by assumption) F' N' ?_); intro _ _ _ _ _)))
  (k_with "execs cons" => ((with_reducible show wpAny _ _ (execs (Stmt.If _ _ _ _ :: Stmt.Assign _ _ _ :: Stmt.For _ _ _ _ _ :: Stmt.Return _ _ :: []) _) _ _ _); refine stopX ?_))
  (k_with "exec While BoolOp" => (k_here; k_dflt (refine whl_start 100 ?_)))
  (k_with "call builtin:str.lower" => ((with_reducible show wpAny _ _ (call (Value.builtin "str.lower") [Value.str (Num.suf _) _]) _ _ _); k_dflt (refine KXw.lower (nf_low _) (nf_long _) ?_); intro _ _))
  (k_with "compareOp NotIn str ref" => ((with_reducible show wpAny _ _ (compareOp CmpOp.NotIn (Value.str (Num.suf _) _) (Value.ref _)) _ _ _); k_dflt (refine' notin_set (by k_asm) (obj_S _ _) (SetsAt.sufs (by assumption)) (by decide) (nf_S _) ?_); (try dsimp only [Bool.not_true, Bool.not_false])))
  (k_with "compareOp In str ref" => ((with_reducible show wpAny _ _ (compareOp CmpOp.In (Value.str _ _) (Value.ref _)) _ _ _); k_dflt (refine in_tup (News.isTup (by k_asm) (by k_mem)) (.cons _ _ (.cons _ _ .nil)) (by assumption) ?_)))
  (k_with "eval Name" => (k_dflt (refine' nameX_L (by k_asm) (by (try dsimp only); (repeat (with_reducible refine lk_miss (by decide +kernel) ?_)); (first | (with_reducible exact lk_hit) | assumption | exact rfl)) ?_ (by rfl) (by rfl); k_whole)))
  trivial
theorem npMid (k : Num) {L₀ : Addr} (hE : PassesOwn (MQ w) ((ktrTop dp un gd cn cs L₀ a ccd cl outer).deeper (envOf (Str.ofString "number_parts") (pS (D 13)) L 117 (Value.ref 116))) (envOf (Str.ofString "number_parts") (pS (D 13)) L 117 (Value.ref 116)) E) {td ts tb : Tok} {QF : Flow → Shared → Prop}
    (B : Below (ktrTop dp un gd cn cs L₀ a ccd cl outer) base (envX cn cs L₀ a ccd cl :: outer) h₀) (F : Fr h₀ L s.heap m) (X : (KQ w.params).In h₀) (N : News h₀ L s.heap news) (T : Top viewQ looseQ mean mg mb h₀) (S : SetsAt w h₀) (hd : dp + 20 < recursionLimit) (hu : un + 200 < cLine)
    (h1 : m (Str.ofString "digits") = some (.str k.digs td)) (h2 : m (Str.ofString "base") = some (.int 10 tb)) (h4 : m (Str.ofString "suffix") = some (.str k.suf ts))
    (ret : ∀ (m' : Str → Option Value) (D : Addr) (n : Nat) (t1 t2 t3 : Tok) (h' : Heap) (tk' : Nat), Fr h₀ L h' m' → News h₀ L h' ((D, ({ cls := .type "tuple", data := .seq #[.int k.val t1, .int k.base t2, .str k.suf t3] n } : Obj)) :: news) → QF (.ret (.ref D)) { s with heap := h', toks := tk' }) :
    wpAny (MQ w) ((ktrTop dp un gd cn cs L₀ a ccd cl outer).deeper (envOf (Str.ofString "number_parts") (pS (D 13)) L 117 (Value.ref 116))) (execs ((pB (D 13)).drop 4) (envOf (Str.ofString "number_parts") (pS (D 13)) L 117 (Value.ref 116))) QF E s := by
  k_dflt (show wpAny _ _ (execs (_ :: _ :: _ :: _ :: _ :: []) _) _ _ _)
  have f8 := nf_size2 k
  have f9 := nf_hex k
  have hs := nf_steps k
  cases hX : k.isHex with
  | true =>
    rw [hX] at f9
    have g3 := nf_dh k hX
    have hO := hX
    have hb : k.base = 16 := by cases k <;> first | rfl | exact absurd hX (by decide) | exact absurd hO (by decide)
    simp only [Num.goodF, hX, if_true, hb] at hs ret
    k_steps
    rename Fr _ _ _ _ => F9
    rename News _ _ _ _ => N9
    show wpAny _ _ (execs ((pB (D 13)).drop 5) _) _ _ _
    refine' npTail ?p1a (obj_H _ _) (SetsAt.hexs S) (by decide) B F9 X N9 T ?p2a ?p3a (nf_e k) (nf_ks k) hs ?q1a ?q2a ?q3a ?q4a ?q5a
    case p1a => assumption
    case p2a => omega
    case p3a => omega
    case q1a => ((try dsimp only); (repeat (with_reducible refine lk_miss (by decide +kernel) ?_)); (first | (with_reducible exact lk_hit) | assumption | exact rfl))
    case q2a => ((try dsimp only); (repeat (with_reducible refine lk_miss (by decide +kernel) ?_)); (first | (with_reducible exact lk_hit) | assumption | exact rfl))
    case q3a => ((try dsimp only); (repeat (with_reducible refine lk_miss (by decide +kernel) ?_)); (first | (with_reducible exact lk_hit) | assumption | exact rfl))
    case q4a => ((try dsimp only); (repeat (with_reducible refine lk_miss (by decide +kernel) ?_)); (first | (with_reducible exact lk_hit) | assumption | exact rfl))
    case q5a =>
      intro m' D' n' t1' t2' t3' h' tk' F1 N1
      refine ret m' _ _ _ _ _ _ _ F1 (by first | assumption | (exact vdrop1 (by assumption) (by intro p hp; simp only [List.mem_cons, hp, or_true, true_or])))
  | false =>
    rw [hX] at f9
    have f10 := nf_oct k hX
    cases hO : k.isOct with
    | true =>
      rw [hO] at f10
      have hb : k.base = 8 := by cases k <;> first | rfl | exact absurd hX (by decide) | exact absurd hO (by decide)
      simp only [Num.goodF, hX, hO, if_true, Bool.false_eq_true, if_false, hb] at hs ret
      k_steps
      rename Fr _ _ _ _ => F9
      rename News _ _ _ _ => N9
      show wpAny _ _ (execs ((pB (D 13)).drop 5) _) _ _ _
      refine' npTail (ds := k.digs) ?p1b (obj_O _ _) (SetsAt.octs S) (by decide) B F9 X N9 T ?p2b ?p3b (by rw [nf_dd k hX]; exact nf_e k) (by rw [nf_dd k hX]; exact nf_ks k) hs ?q1b ?q2b ?q3b ?q4b ?q5b
      case p1b => assumption
      case p2b => omega
      case p3b => omega
      case q1b => ((try dsimp only); (repeat (with_reducible refine lk_miss (by decide +kernel) ?_)); (first | (with_reducible exact lk_hit) | assumption | exact rfl))
      case q2b => ((try dsimp only); (repeat (with_reducible refine lk_miss (by decide +kernel) ?_)); (first | (with_reducible exact lk_hit) | assumption | exact rfl))
      case q3b => ((try dsimp only); (repeat (with_reducible refine lk_miss (by decide +kernel) ?_)); (first | (with_reducible exact lk_hit) | assumption | exact rfl))
      case q4b => ((try dsimp only); (repeat (with_reducible refine lk_miss (by decide +kernel) ?_)); (first | (with_reducible exact lk_hit) | assumption | exact rfl))
      case q5b =>
        intro m' D' n' t1' t2' t3' h' tk' F1 N1
        refine ret m' _ _ _ _ _ _ _ F1 (by first | assumption | (exact vdrop1 (by assumption) (by intro p hp; simp only [List.mem_cons, hp, or_true, true_or])))
    | false =>
      rw [hO] at f10
      have hb : k.base = 10 := by cases k <;> first | rfl | exact absurd hX (by decide) | exact absurd hO (by decide)
      simp only [Num.goodF, hX, hO, Bool.false_eq_true, if_false, hb] at hs ret
      k_steps
      rename Fr _ _ _ _ => F9
      rename News _ _ _ _ => N9
      show wpAny _ _ (execs ((pB (D 13)).drop 5) _) _ _ _
      refine' npTail (ds := k.digs) ?p1c (obj_D _ _) (SetsAt.digits S) (by decide) B F9 X N9 T ?p2c ?p3c (by rw [nf_dd k hX]; exact nf_e k) (by rw [nf_dd k hX]; exact nf_ks k) hs ?q1c ?q2c ?q3c ?q4c ?q5c
      case p1c => assumption
      case p2c => omega
      case p3c => omega
      case q1c => ((try dsimp only); (repeat (with_reducible refine lk_miss (by decide +kernel) ?_)); (first | (with_reducible exact lk_hit) | assumption | exact rfl))
      case q2c => ((try dsimp only); (repeat (with_reducible refine lk_miss (by decide +kernel) ?_)); (first | (with_reducible exact lk_hit) | assumption | exact rfl))
      case q3c => ((try dsimp only); (repeat (with_reducible refine lk_miss (by decide +kernel) ?_)); (first | (with_reducible exact lk_hit) | assumption | exact rfl))
      case q4c => ((try dsimp only); (repeat (with_reducible refine lk_miss (by decide +kernel) ?_)); (first | (with_reducible exact lk_hit) | assumption | exact rfl))
      case q5c =>
        intro m' D' n' t1' t2' t3' h' tk' F1 N1
        refine ret m' _ _ _ _ _ _ _ F1 (by first | assumption | (exact vdrop1 (by assumption) (by intro p hp; simp only [List.mem_cons, hp, or_true, true_or])))
end
section
variable {w : World} {mean : ExcName → Option Value} {mg mb : Str → Option Value} {dp un : Nat} {gd : Option (List Code)} {cn : Str} {cs : Scope} {a : Addr} {ccd : Value} {cl : List (Str × Addr)} {outer : List Env} {A₀ : Around} {base h₀ : Heap} {L : Addr} {m : Str → Option Value} {news : List (Addr × Obj)} {s : Shared} {Q E : Value → Shared → Prop}
theorem kw48 : True := by
  (k_with "execs cons" => ((with_reducible show wpAny _ _ (execs (Stmt.If _ _ _ _ :: Stmt.If _ _ _ _ :: Stmt.Assign _ _ _ :: Stmt.For _ _ _ _ _ :: Stmt.Return _ _ :: []) _) _ _ _); refine stopX ?_))
  trivial
theorem npC (k : Num) (t0 : Tok) (B : Below A₀ base outer h₀) (F : Fr h₀ L s.heap m) (X : (KQ w.params).In h₀) (N : News h₀ L s.heap news) (T : Top viewQ looseQ mean mg mb h₀) (hk : cs.kind = .function) (S : SetsAt w h₀)
    (hd : dp + 20 < recursionLimit) (hu : un + 300 < cLine)
    (ret : ∀ (D : Addr) (n : Nat) (t1 t2 t3 : Tok) (y : Int) (h' : Heap) (tk' : Nat), y = k.val → Fr h₀ L h' m → News h₀ L h' ((D, ({ cls := .type "tuple", data := .seq #[.int y t1, .int k.base t2, .str k.suf t3] n } : Obj)) :: news) → Q (.ref D) { s with heap := h', toks := tk' }) :
    wpAny (MQ w) (ktrTop dp un gd cn cs L a ccd cl outer) (call (.ref 117) [.str k.txt t0]) Q E s := by
  (k_dflt (refine enterK fd117 (bs := [(Str.ofString "text", .str k.txt t0)]) (by exact rfl) (by exact rfl) (by k_asm) (by k_asm) (by k_asm) (by k_asm) (by k_asm) (by first | exact rfl | assumption) (by ktr_room) ?_; k_whole); intro g' L' h' FG' F' N' B' X' T' tk' qk ek; (try k_lift B'))
  have S' := S.keeps FG'.keep
  have f1 : ¬ (k.txt.length : Int) ≥ 2 ^ 63 := by have := nf_size k; cases k <;> decide +kernel
  have f2 := nf_len0 k
  have f3 := nf_j k
  have f4 := nf_r k
  have f5 := nf_c k
  have f6 := nf_u k
  have f7 := nf_size k
  cases hU : k.hasU with
  | false =>
    rw [hU] at f6
    have g1 := nf_d0 k hU
    have g2 := nf_s0 k hU
    k_steps
    rename Fr _ _ _ _ => F9
    rename News _ _ _ _ => N9
    show wpAny _ _ (execs ((pB (D 13)).drop 4) _) _ _ _
    refine' npMid k ?p1x B' F9 X' N9 T' S' ?p2x ?p3x ?q1x ?q2x ?q4x ?q5x
    case p1x => passes_own
    case p2x => omega
    case p3x => omega
    case q1x => ((try dsimp only); (repeat (with_reducible refine lk_miss (by decide +kernel) ?_)); (first | (with_reducible exact lk_hit) | assumption | exact rfl))
    case q2x => ((try dsimp only); (repeat (with_reducible refine lk_miss (by decide +kernel) ?_)); (first | (with_reducible exact lk_hit) | assumption | exact rfl))
    case q4x => ((try dsimp only); (repeat (with_reducible refine lk_miss (by decide +kernel) ?_)); (first | (with_reducible exact lk_hit) | assumption | exact rfl))
    case q5x =>
      intro m' D' n' t1' t2' t3' h' tk' F1 N1
      k_steps
      all_goals (refine ret _ _ _ _ _ _ _ _ rfl (by assumption) (by first | assumption | (exact vdrop1 (by assumption) (by intro p hp; simp only [List.mem_cons, hp, or_true, true_or]))))
  | true =>
    rw [hU] at f6
    have g1 := nf_d1 k hU
    have g2 := nf_s1 k hU
    have g4 := nf_len1 k hU
    have g5 := nf_j2 k hU
    have g6 := nf_r2 k
    have g7 := nf_c2 k hU
    have g8 := nf_u2 k hU
    k_steps
    rename Fr _ _ _ _ => F9
    rename News _ _ _ _ => N9
    show wpAny _ _ (execs ((pB (D 13)).drop 4) _) _ _ _
    refine' npMid k ?p1y B' F9 X' N9 T' S' ?p2y ?p3y ?q1y ?q2y ?q4y ?q5y
    case p1y => passes_own
    case p2y => omega
    case p3y => omega
    case q1y => ((try dsimp only); (repeat (with_reducible refine lk_miss (by decide +kernel) ?_)); (first | (with_reducible exact lk_hit) | assumption | exact rfl))
    case q2y => ((try dsimp only); (repeat (with_reducible refine lk_miss (by decide +kernel) ?_)); (first | (with_reducible exact lk_hit) | assumption | exact rfl))
    case q4y => ((try dsimp only); (repeat (with_reducible refine lk_miss (by decide +kernel) ?_)); (first | (with_reducible exact lk_hit) | assumption | exact rfl))
    case q5y =>
      intro m' D' n' t1' t2' t3' h' tk' F1 N1
      k_steps
      all_goals (refine ret _ _ _ _ _ _ _ _ rfl (by assumption) (by first | assumption | (exact vdrop1 (by assumption) (by intro p hp; simp only [List.mem_cons, hp, or_true, true_or]))))
end
end
end
section
open PySem PySem.W PyProof.Rows PySem.Calls PySem.Spec
section

theorem kw49 : True := by
  k_with_none
  trivial
noncomputable def Num.uns : Num → Bool
  | .a0 => false
  | .a1 => false
  | .a2 => false
  | .a3 => false
  | .a7 => false
  | .u5 => true
  | .big => true
  | .mid => false
  | .hex => true
  | .u0 => true
  | .u1 => true
  | .a31 => false

noncomputable def numV (k : Num) : V := V.mk' k.val k.uns false
theorem num_all (k : Num) : decide (k.val > 4294967295) = false := by cases k <;> decide
theorem num_in (k : Num) : (!(Builtin.Str.occurrences k.suf (Str.ofString "u") 0 k.suf.length 1).isEmpty) = k.hasU := by cases k <;> kernel_rfl
theorem num_uT (k : Num) (h : k.hasU = true) : k.uns = true := by cases k <;> first | rfl | cases h
theorem num_uF (k : Num) (h : k.hasU = false) : decide (k.val ≥ 2147483648) = k.uns := by cases k <;> first | decide | cases h
theorem num_nT (k : Num) (h : k.hasU = true) : led32 k.val true = (numV k).n := by cases k <;> first | rfl | cases h
theorem num_nF (k : Num) (h : k.hasU = false) : led32 k.val (decide (k.val ≥ 2147483648)) = (numV k).n := by cases k <;> first | rfl | cases h
theorem ite_ff {c : Bool} {a b : Prop} (h : c = false) (hb : b) : if c = true then a else b := by rw [h]; exact hb

section
variable {w : World} {mean : ExcName → Option Value} {mg mb : Str → Option Value} {dp un : Nat} {gd : Option (List Code)} {cn : Str} {cs : Scope} {a : Addr} {ccd : Value} {cl : List (Str × Addr)} {outer : List Env} {A₀ : Around} {base h₀ : Heap} {L : Addr} {m : Str → Option Value} {news : List (Addr × Obj)} {s : Shared} {Q E : Value → Shared → Prop}

end
section
variable {w : World} {mean : ExcName → Option Value} {mg mb : Str → Option Value} {dp un : Nat} {gd : Option (List Code)} {cn : Str} {cs : Scope} {a : Addr} {ccd : Value} {cl : List (Str × Addr)} {outer : List Env} {A₀ : Around} {base h₀ : Heap} {L : Addr} {m : Str → Option Value} {news : List (Addr × Obj)} {s : Shared} {Q E : Value → Shared → Prop}
variable {c dc vl sl tl pl : Addr} {k1 k2 k3 k4 : Tok} {nv ns : Nat} {rest : List (Addr × Obj)} {us ps : List Value}
theorem kw50 : True := by
  (k_with "call ref" => ((k_dflt (show wpAny _ _ (call (Value.ref 165) [Value.int _ _, Value.bool _, Value.bool _]) _ _ _)); k_dflt (refine' mkval _ _ _ _ (by k_asm) (by k_asm) (by k_asm) (by k_asm) (by k_asm) (by first | exact rfl | assumption) (by ktr_room) (by ktr_units) (VRet.of ?_); k_whole; intro x' dx' ka' kb' kc' kt' h' tk' F' N' l1 l2); (have l1b := l1); (try simp only [AllLt, and_true] at l1); (try dsimp only); (try k_fold)))
  (k_with "compareOp In str str" => (k_dflt (first | refine in_str_t (by first | assumption | kernel_rfl!) ?_ | refine in_str_f (by first | assumption | kernel_rfl!) ?_)))
  (k_with "ite" => (with_reducible refine ite_ff (by assumption) ?_))
  (k_with "call ref" => ((k_dflt (show wpAny _ _ (call (Value.ref 117) [Value.str (Num.txt _) _]) _ _ _)); k_dflt (refine' npC _ _ (by k_asm) (by k_asm) (by k_asm) (by k_asm) (by k_asm) (by first | exact rfl | assumption) (by assumption) (by ktr_room) (by ktr_units) ?_; k_whole; intro D' k' t1' t2' t3' y' h' tk' hy' F' N'); (subst hy'); (try dsimp only); (try k_fold)))
  trivial
theorem opC (k : Num) (tok dtok : Addr) (file : Str) (line : Int) (j1 j2 j3 j4 u1 u2 u3 u4 : Tok) (B : Below A₀ base outer h₀) (F : Fr h₀ L s.heap m) (X : (KQ w.params).In h₀) (N : News h₀ L s.heap news) (T : Top viewQ looseQ mean mg mb h₀) (hk : cs.kind = .function) (S : SetsAt w h₀) (hc1 : (c, instObj 291 dc) ∈ news) (hc2 : (dc, cdict w tl pl vl sl k1 k2 k3 k4) ∈ news) (ht1 : (tok, instObj 106 dtok) ∈ news) (ht2 : (dtok, tdict w (Str.ofString "number") k.txt file line j1 j2 j3 j4 u1 u2 u3 u4) ∈ news)
    (hd : dp + 40 < recursionLimit) (hu : un + 500 < cLine)
    (ret : VRet w h₀ L m news s Q (numV k).n (numV k).u (numV k).b) :
    wpAny (MQ w) (ktrTop dp un gd cn cs L a ccd cl outer) (call (.ref 239) [.ref c, .ref tok]) Q E s := by
  have N2 := News.dup (News.dup N ht2) (.tail _ ht1)
  have hA := num_all k
  have hI := num_in k
  (k_dflt (refine enterK fd239 (bs := [(Str.ofString "self", .ref c), (Str.ofString "token", .ref tok)]) (by exact rfl) (by exact rfl) (by k_asm) (by k_asm) (by k_asm) (by k_asm) (by k_asm) (by first | exact rfl | assumption) (by ktr_room) ?_; k_whole); intro g' L' h' FG' F' N' B' X' T' tk' qk ek; (try k_lift B'))
  have S' := S.keeps FG'.keep
  cases hU : k.hasU with
  | true =>
    rw [hU] at hI
    have hT := num_uT k hU
    k_steps
    all_goals (refine ret _ _ _ _ _ _ _ _ _ _ _ ?_ ?_ ?_ (by assumption) (by first | assumption | (exact vdrop (by assumption) (by intro p hp; simp only [List.mem_cons, hp, or_true, true_or]))) (by first | assumption | (exact altsub (by assumption) (by intro p hp; simp only [List.mem_cons, hp, or_true, true_or]))) (by assumption))
    all_goals first | exact num_nT k hU | rfl | exact hT.symm
  | false =>
    rw [hU] at hI
    have hT := num_uF k hU
    k_steps
    all_goals (refine ret _ _ _ _ _ _ _ _ _ _ _ ?_ ?_ ?_ (by assumption) (by first | assumption | (exact vdrop (by assumption) (by intro p hp; simp only [List.mem_cons, hp, or_true, true_or]))) (by first | assumption | (exact altsub (by assumption) (by intro p hp; simp only [List.mem_cons, hp, or_true, true_or]))) (by assumption))
    all_goals first | exact num_nF k hU | rfl | exact hT

end
end
end
section
open PySem PySem.W PyProof.Rows PySem.Calls PySem.Spec
section
local macro_rules | `(tactic| k_ne) => `(tactic| assumption)
section
variable {w : World} {mean : ExcName → Option Value} {mg mb : Str → Option Value} {dp un : Nat} {gd : Option (List Code)} {cn : Str} {cs : Scope} {a : Addr} {ccd : Value} {cl : List (Str × Addr)} {outer : List Env} {A₀ : Around} {base h₀ : Heap} {L : Addr} {m : Str → Option Value} {news : List (Addr × Obj)} {s : Shared} {Q E : Value → Shared → Prop}
variable {c dc vl sl tl pl : Addr} {k1 k2 k3 k4 : Tok} {nv ns : Nat} {rest : List (Addr × Obj)} {us ps : List Value}
theorem kw51 : True := by
  k_with_none
  (k_with "call builtin:list.pop" => ((with_reducible show wpAny _ _ (call (Value.builtin _) [Value.ref _]) _ _ _); k_dflt (refine' pop_mine (by k_asm) (by k_asm) (by k_upd) (by (first | omega | (simp only [List.length_append, List.length_cons, List.length_nil]; omega))) ?_); intro h' F' N'))
  (k_with "call builtin:list.append" => ((with_reducible show wpAny _ _ (call (Value.builtin _) [Value.ref _, _]) _ _ _); k_dflt (refine' append_mine (by k_asm) (by k_asm) (by k_upd) (by (first | omega | (simp only [List.length_append, List.length_cons, List.length_nil]; omega))) ?_); intro h' F' N'))
  (k_with "call ref" => ((k_dflt (show wpAny _ _ (call (Value.ref 239) [Value.ref _, Value.ref _]) _ _ _)); k_dflt (refine' opC _ _ _ _ _ _ _ _ _ _ _ _ _ (by k_asm) (by k_asm) (by k_asm) (by exact (by first | assumption | exact News.tl (by assumption) | exact News.tl (News.tl (by assumption)) | exact News.tl (News.tl (News.tl (by assumption))) | exact News.tl (News.tl (News.tl (News.tl (by assumption)))) | exact News.tl (News.tl (News.tl (News.tl (News.tl (by assumption))))) | exact News.tl (News.tl (News.tl (News.tl (News.tl (News.tl (by assumption)))))) | exact News.tl (News.tl (News.tl (News.tl (News.tl (News.tl (News.tl (by assumption))))))))) (by k_asm) (by first | exact rfl | assumption) (by assumption) (by k_mem) (by k_mem) (by k_mem) (by k_mem) (by ktr_room) (by ktr_units) (VRet.of ?_); k_whole; intro x' dx' ka' kb' kc' kt' h' tk' F' N' l1 l2); (have l1b := l1); (replace l2 := ltN l2); (try simp only [AllLt, and_true] at l1); (first | (obtain ⟨_, _, _, _, _, _⟩ := l1) | (obtain ⟨_, _, _, _, _⟩ := l1) | skip); (first | replace N' := reord12 N' | replace N' := reord11 N' | replace N' := reord10 N' | replace N' := reord9 N' | replace N' := reord8 N' | replace N' := reord7 N' | replace N' := reord6 N' | replace N' := reord5 N' | replace N' := reord4 N' | replace N' := reord3 N' | replace N' := reord2 N' | replace N' := reord1 N' | skip); (try dsimp only); (try k_fold)))
  trivial
theorem begOpen (tok dtok : Addr) (file : Str) (line : Int) (j1 j2 j3 j4 u1 u2 u3 u4 : Tok) (B : Below A₀ base outer h₀) (F : Fr h₀ L s.heap m) (X : (KQ w.params).In h₀) (N : News h₀ L s.heap ((c, instObj 291 dc) :: (dc, cdict w tl pl vl sl k1 k2 k3 k4) :: (vl, listOf us.toArray nv) :: (sl, listOf ps.toArray ns) :: rest)) (T : Top viewQ looseQ mean mg mb h₀) (hk : cs.kind = .function) (six : Six c dc vl sl) (ap : Apart rest vl sl) (lu : us.length < 900) (lp : ps.length < 900)(ht1 : (tok, instObj 106 dtok) ∈ rest) (ht2 : (dtok, tdict w (Str.ofString "punct") (Str.ofString "(") file line j1 j2 j3 j4 u1 u2 u3 u4) ∈ rest)
    (hd : dp + 60 < recursionLimit) (hu : un + 700 < cLine)
    (ret : ∀ (nv' ns' : Nat) (t : Tok) (h' : Heap) (tk' : Nat), Fr h₀ L h' m → News h₀ L h' ((c, instObj 291 dc) :: (dc, cdict w tl pl vl sl k1 k2 k3 k4) :: (vl, listOf us.toArray nv') :: (sl, listOf (ps ++ [Value.str (Str.ofString "(") t]).toArray ns') :: rest) → Q (.bool false) { s with heap := h', toks := tk' }) :
    wpAny (MQ w) (ktrTop dp un gd cn cs L a ccd cl outer) (call (.ref 274) [.ref c, .ref tok]) Q E s := by
  obtain ⟨e1, e2, e3, e4, e5, e6⟩ := id six
  obtain ⟨ap1, ap2⟩ := id ap
  have e7 : @Ne Nat tok vl := ap1 _ ht1
  have e8 : @Ne Nat tok sl := ap2 _ ht1
  have e9 : @Ne Nat dtok vl := ap1 _ ht2
  have e10 : @Ne Nat dtok sl := ap2 _ ht2
  have N2 := News.dup (News.dup N (.tail _ (.tail _ (.tail _ (.tail _ ht2))))) (.tail _ (.tail _ (.tail _ (.tail _ (.tail _ ht1)))))
  refine pad2 fun _ _ => ?_
  (k_dflt (refine enterK fd274 (bs := [(Str.ofString "self", .ref c), (Str.ofString "token", .ref tok)]) (by exact rfl) (by exact rfl) (by k_asm) (by k_asm) (by k_asm) (by k_asm) (by k_asm) (by first | exact rfl | assumption) (by ktr_room) ?_; k_whole); intro g' L' h' FG' F' N' B' X' T' tk' qk ek; (try k_lift B'))
  k_steps
  all_goals first | (exact ret _ _ 0 _ _ (by assumption) (by first | assumption  | exact News.tl (by assumption) | exact News.tl (News.tl (by assumption)) | exact News.tl (News.tl (News.tl (by assumption))) | exact News.tl (News.tl (News.tl (News.tl (by assumption)))) | exact News.tl (News.tl (News.tl (News.tl (News.tl (by assumption))))) | exact News.tl (News.tl (News.tl (News.tl (News.tl (News.tl (by assumption)))))) | exact News.tl (News.tl (News.tl (News.tl (News.tl (News.tl (News.tl (by assumption))))))))) | (exact ret _ _ _ _ _ (by assumption) (by first | assumption  | exact News.tl (by assumption) | exact News.tl (News.tl (by assumption)) | exact News.tl (News.tl (News.tl (by assumption))) | exact News.tl (News.tl (News.tl (News.tl (by assumption)))) | exact News.tl (News.tl (News.tl (News.tl (News.tl (by assumption))))) | exact News.tl (News.tl (News.tl (News.tl (News.tl (News.tl (by assumption)))))) | exact News.tl (News.tl (News.tl (News.tl (News.tl (News.tl (News.tl (by assumption)))))))))
theorem begUn_neg (tok dtok : Addr) (file : Str) (line : Int) (j1 j2 j3 j4 u1 u2 u3 u4 : Tok) (B : Below A₀ base outer h₀) (F : Fr h₀ L s.heap m) (X : (KQ w.params).In h₀) (N : News h₀ L s.heap ((c, instObj 291 dc) :: (dc, cdict w tl pl vl sl k1 k2 k3 k4) :: (vl, listOf us.toArray nv) :: (sl, listOf ps.toArray ns) :: rest)) (T : Top viewQ looseQ mean mg mb h₀) (hk : cs.kind = .function) (six : Six c dc vl sl) (ap : Apart rest vl sl) (lu : us.length < 900) (lp : ps.length < 900)(ht1 : (tok, instObj 106 dtok) ∈ rest) (ht2 : (dtok, tdict w (Str.ofString "punct") (Str.ofString "-") file line j1 j2 j3 j4 u1 u2 u3 u4) ∈ rest)
    (hd : dp + 60 < recursionLimit) (hu : un + 700 < cLine)
    (ret : ∀ (nv' ns' : Nat) (t : Tok) (h' : Heap) (tk' : Nat), Fr h₀ L h' m → News h₀ L h' ((c, instObj 291 dc) :: (dc, cdict w tl pl vl sl k1 k2 k3 k4) :: (vl, listOf us.toArray nv') :: (sl, listOf (ps ++ [Value.str (Str.ofString "minus") t]).toArray ns') :: rest) → Q (.bool false) { s with heap := h', toks := tk' }) :
    wpAny (MQ w) (ktrTop dp un gd cn cs L a ccd cl outer) (call (.ref 274) [.ref c, .ref tok]) Q E s := by
  obtain ⟨e1, e2, e3, e4, e5, e6⟩ := id six
  obtain ⟨ap1, ap2⟩ := id ap
  have e7 : @Ne Nat tok vl := ap1 _ ht1
  have e8 : @Ne Nat tok sl := ap2 _ ht1
  have e9 : @Ne Nat dtok vl := ap1 _ ht2
  have e10 : @Ne Nat dtok sl := ap2 _ ht2
  have N2 := News.dup (News.dup N (.tail _ (.tail _ (.tail _ (.tail _ ht2))))) (.tail _ (.tail _ (.tail _ (.tail _ (.tail _ ht1)))))
  refine pad2 fun _ _ => ?_
  (k_dflt (refine enterK fd274 (bs := [(Str.ofString "self", .ref c), (Str.ofString "token", .ref tok)]) (by exact rfl) (by exact rfl) (by k_asm) (by k_asm) (by k_asm) (by k_asm) (by k_asm) (by first | exact rfl | assumption) (by ktr_room) ?_; k_whole); intro g' L' h' FG' F' N' B' X' T' tk' qk ek; (try k_lift B'))
  k_steps
  all_goals first | (exact ret _ _ 0 _ _ (by assumption) (by first | assumption  | exact News.tl (by assumption) | exact News.tl (News.tl (by assumption)) | exact News.tl (News.tl (News.tl (by assumption))) | exact News.tl (News.tl (News.tl (News.tl (by assumption)))) | exact News.tl (News.tl (News.tl (News.tl (News.tl (by assumption))))) | exact News.tl (News.tl (News.tl (News.tl (News.tl (News.tl (by assumption)))))) | exact News.tl (News.tl (News.tl (News.tl (News.tl (News.tl (News.tl (by assumption))))))))) | (exact ret _ _ _ _ _ (by assumption) (by first | assumption  | exact News.tl (by assumption) | exact News.tl (News.tl (by assumption)) | exact News.tl (News.tl (News.tl (by assumption))) | exact News.tl (News.tl (News.tl (News.tl (by assumption)))) | exact News.tl (News.tl (News.tl (News.tl (News.tl (by assumption))))) | exact News.tl (News.tl (News.tl (News.tl (News.tl (News.tl (by assumption)))))) | exact News.tl (News.tl (News.tl (News.tl (News.tl (News.tl (News.tl (by assumption)))))))))
theorem begUn_not (tok dtok : Addr) (file : Str) (line : Int) (j1 j2 j3 j4 u1 u2 u3 u4 : Tok) (B : Below A₀ base outer h₀) (F : Fr h₀ L s.heap m) (X : (KQ w.params).In h₀) (N : News h₀ L s.heap ((c, instObj 291 dc) :: (dc, cdict w tl pl vl sl k1 k2 k3 k4) :: (vl, listOf us.toArray nv) :: (sl, listOf ps.toArray ns) :: rest)) (T : Top viewQ looseQ mean mg mb h₀) (hk : cs.kind = .function) (six : Six c dc vl sl) (ap : Apart rest vl sl) (lu : us.length < 900) (lp : ps.length < 900)(ht1 : (tok, instObj 106 dtok) ∈ rest) (ht2 : (dtok, tdict w (Str.ofString "punct") (Str.ofString "!") file line j1 j2 j3 j4 u1 u2 u3 u4) ∈ rest)
    (hd : dp + 60 < recursionLimit) (hu : un + 700 < cLine)
    (ret : ∀ (nv' ns' : Nat) (t : Tok) (h' : Heap) (tk' : Nat), Fr h₀ L h' m → News h₀ L h' ((c, instObj 291 dc) :: (dc, cdict w tl pl vl sl k1 k2 k3 k4) :: (vl, listOf us.toArray nv') :: (sl, listOf (ps ++ [Value.str (Str.ofString "not") t]).toArray ns') :: rest) → Q (.bool false) { s with heap := h', toks := tk' }) :
    wpAny (MQ w) (ktrTop dp un gd cn cs L a ccd cl outer) (call (.ref 274) [.ref c, .ref tok]) Q E s := by
  obtain ⟨e1, e2, e3, e4, e5, e6⟩ := id six
  obtain ⟨ap1, ap2⟩ := id ap
  have e7 : @Ne Nat tok vl := ap1 _ ht1
  have e8 : @Ne Nat tok sl := ap2 _ ht1
  have e9 : @Ne Nat dtok vl := ap1 _ ht2
  have e10 : @Ne Nat dtok sl := ap2 _ ht2
  have N2 := News.dup (News.dup N (.tail _ (.tail _ (.tail _ (.tail _ ht2))))) (.tail _ (.tail _ (.tail _ (.tail _ (.tail _ ht1)))))
  refine pad2 fun _ _ => ?_
  (k_dflt (refine enterK fd274 (bs := [(Str.ofString "self", .ref c), (Str.ofString "token", .ref tok)]) (by exact rfl) (by exact rfl) (by k_asm) (by k_asm) (by k_asm) (by k_asm) (by k_asm) (by first | exact rfl | assumption) (by ktr_room) ?_; k_whole); intro g' L' h' FG' F' N' B' X' T' tk' qk ek; (try k_lift B'))
  k_steps
  all_goals first | (exact ret _ _ 0 _ _ (by assumption) (by first | assumption  | exact News.tl (by assumption) | exact News.tl (News.tl (by assumption)) | exact News.tl (News.tl (News.tl (by assumption))) | exact News.tl (News.tl (News.tl (News.tl (by assumption)))) | exact News.tl (News.tl (News.tl (News.tl (News.tl (by assumption))))) | exact News.tl (News.tl (News.tl (News.tl (News.tl (News.tl (by assumption)))))) | exact News.tl (News.tl (News.tl (News.tl (News.tl (News.tl (News.tl (by assumption))))))))) | (exact ret _ _ _ _ _ (by assumption) (by first | assumption  | exact News.tl (by assumption) | exact News.tl (News.tl (by assumption)) | exact News.tl (News.tl (News.tl (by assumption))) | exact News.tl (News.tl (News.tl (News.tl (by assumption)))) | exact News.tl (News.tl (News.tl (News.tl (News.tl (by assumption))))) | exact News.tl (News.tl (News.tl (News.tl (News.tl (News.tl (by assumption)))))) | exact News.tl (News.tl (News.tl (News.tl (News.tl (News.tl (News.tl (by assumption)))))))))
theorem begUn_inv (tok dtok : Addr) (file : Str) (line : Int) (j1 j2 j3 j4 u1 u2 u3 u4 : Tok) (B : Below A₀ base outer h₀) (F : Fr h₀ L s.heap m) (X : (KQ w.params).In h₀) (N : News h₀ L s.heap ((c, instObj 291 dc) :: (dc, cdict w tl pl vl sl k1 k2 k3 k4) :: (vl, listOf us.toArray nv) :: (sl, listOf ps.toArray ns) :: rest)) (T : Top viewQ looseQ mean mg mb h₀) (hk : cs.kind = .function) (six : Six c dc vl sl) (ap : Apart rest vl sl) (lu : us.length < 900) (lp : ps.length < 900)(ht1 : (tok, instObj 106 dtok) ∈ rest) (ht2 : (dtok, tdict w (Str.ofString "punct") (Str.ofString "~") file line j1 j2 j3 j4 u1 u2 u3 u4) ∈ rest)
    (hd : dp + 60 < recursionLimit) (hu : un + 700 < cLine)
    (ret : ∀ (nv' ns' : Nat) (t : Tok) (h' : Heap) (tk' : Nat), Fr h₀ L h' m → News h₀ L h' ((c, instObj 291 dc) :: (dc, cdict w tl pl vl sl k1 k2 k3 k4) :: (vl, listOf us.toArray nv') :: (sl, listOf (ps ++ [Value.str (Str.ofString "turned") t]).toArray ns') :: rest) → Q (.bool false) { s with heap := h', toks := tk' }) :
    wpAny (MQ w) (ktrTop dp un gd cn cs L a ccd cl outer) (call (.ref 274) [.ref c, .ref tok]) Q E s := by
  obtain ⟨e1, e2, e3, e4, e5, e6⟩ := id six
  obtain ⟨ap1, ap2⟩ := id ap
  have e7 : @Ne Nat tok vl := ap1 _ ht1
  have e8 : @Ne Nat tok sl := ap2 _ ht1
  have e9 : @Ne Nat dtok vl := ap1 _ ht2
  have e10 : @Ne Nat dtok sl := ap2 _ ht2
  have N2 := News.dup (News.dup N (.tail _ (.tail _ (.tail _ (.tail _ ht2))))) (.tail _ (.tail _ (.tail _ (.tail _ (.tail _ ht1)))))
  refine pad2 fun _ _ => ?_
  (k_dflt (refine enterK fd274 (bs := [(Str.ofString "self", .ref c), (Str.ofString "token", .ref tok)]) (by exact rfl) (by exact rfl) (by k_asm) (by k_asm) (by k_asm) (by k_asm) (by k_asm) (by first | exact rfl | assumption) (by ktr_room) ?_; k_whole); intro g' L' h' FG' F' N' B' X' T' tk' qk ek; (try k_lift B'))
  k_steps
  all_goals first | (exact ret _ _ 0 _ _ (by assumption) (by first | assumption  | exact News.tl (by assumption) | exact News.tl (News.tl (by assumption)) | exact News.tl (News.tl (News.tl (by assumption))) | exact News.tl (News.tl (News.tl (News.tl (by assumption)))) | exact News.tl (News.tl (News.tl (News.tl (News.tl (by assumption))))) | exact News.tl (News.tl (News.tl (News.tl (News.tl (News.tl (by assumption)))))) | exact News.tl (News.tl (News.tl (News.tl (News.tl (News.tl (News.tl (by assumption))))))))) | (exact ret _ _ _ _ _ (by assumption) (by first | assumption  | exact News.tl (by assumption) | exact News.tl (News.tl (by assumption)) | exact News.tl (News.tl (News.tl (by assumption))) | exact News.tl (News.tl (News.tl (News.tl (by assumption)))) | exact News.tl (News.tl (News.tl (News.tl (News.tl (by assumption))))) | exact News.tl (News.tl (News.tl (News.tl (News.tl (News.tl (by assumption)))))) | exact News.tl (News.tl (News.tl (News.tl (News.tl (News.tl (News.tl (by assumption)))))))))
theorem begUn_pos (tok dtok : Addr) (file : Str) (line : Int) (j1 j2 j3 j4 u1 u2 u3 u4 : Tok) (B : Below A₀ base outer h₀) (F : Fr h₀ L s.heap m) (X : (KQ w.params).In h₀) (N : News h₀ L s.heap ((c, instObj 291 dc) :: (dc, cdict w tl pl vl sl k1 k2 k3 k4) :: (vl, listOf us.toArray nv) :: (sl, listOf ps.toArray ns) :: rest)) (T : Top viewQ looseQ mean mg mb h₀) (hk : cs.kind = .function) (six : Six c dc vl sl) (ap : Apart rest vl sl) (lu : us.length < 900) (lp : ps.length < 900)(ht1 : (tok, instObj 106 dtok) ∈ rest) (ht2 : (dtok, tdict w (Str.ofString "punct") (Str.ofString "+") file line j1 j2 j3 j4 u1 u2 u3 u4) ∈ rest)
    (hd : dp + 60 < recursionLimit) (hu : un + 700 < cLine)
    (ret : ∀ (nv' ns' : Nat) (t : Tok) (h' : Heap) (tk' : Nat), Fr h₀ L h' m → News h₀ L h' ((c, instObj 291 dc) :: (dc, cdict w tl pl vl sl k1 k2 k3 k4) :: (vl, listOf us.toArray nv') :: (sl, listOf (ps ++ [Value.str (Str.ofString "plus") t]).toArray ns') :: rest) → Q (.bool false) { s with heap := h', toks := tk' }) :
    wpAny (MQ w) (ktrTop dp un gd cn cs L a ccd cl outer) (call (.ref 274) [.ref c, .ref tok]) Q E s := by
  obtain ⟨e1, e2, e3, e4, e5, e6⟩ := id six
  obtain ⟨ap1, ap2⟩ := id ap
  have e7 : @Ne Nat tok vl := ap1 _ ht1
  have e8 : @Ne Nat tok sl := ap2 _ ht1
  have e9 : @Ne Nat dtok vl := ap1 _ ht2
  have e10 : @Ne Nat dtok sl := ap2 _ ht2
  have N2 := News.dup (News.dup N (.tail _ (.tail _ (.tail _ (.tail _ ht2))))) (.tail _ (.tail _ (.tail _ (.tail _ (.tail _ ht1)))))
  refine pad2 fun _ _ => ?_
  (k_dflt (refine enterK fd274 (bs := [(Str.ofString "self", .ref c), (Str.ofString "token", .ref tok)]) (by exact rfl) (by exact rfl) (by k_asm) (by k_asm) (by k_asm) (by k_asm) (by k_asm) (by first | exact rfl | assumption) (by ktr_room) ?_; k_whole); intro g' L' h' FG' F' N' B' X' T' tk' qk ek; (try k_lift B'))
  k_steps
  all_goals first | (exact ret _ _ 0 _ _ (by assumption) (by first | assumption  | exact News.tl (by assumption) | exact News.tl (News.tl (by assumption)) | exact News.tl (News.tl (News.tl (by assumption))) | exact News.tl (News.tl (News.tl (News.tl (by assumption)))) | exact News.tl (News.tl (News.tl (News.tl (News.tl (by assumption))))) | exact News.tl (News.tl (News.tl (News.tl (News.tl (News.tl (by assumption)))))) | exact News.tl (News.tl (News.tl (News.tl (News.tl (News.tl (News.tl (by assumption))))))))) | (exact ret _ _ _ _ _ (by assumption) (by first | assumption  | exact News.tl (by assumption) | exact News.tl (News.tl (by assumption)) | exact News.tl (News.tl (News.tl (by assumption))) | exact News.tl (News.tl (News.tl (News.tl (by assumption)))) | exact News.tl (News.tl (News.tl (News.tl (News.tl (by assumption))))) | exact News.tl (News.tl (News.tl (News.tl (News.tl (News.tl (by assumption)))))) | exact News.tl (News.tl (News.tl (News.tl (News.tl (News.tl (News.tl (by assumption)))))))))
theorem begNum (k : Num) (tok dtok : Addr) (file : Str) (line : Int) (j1 j2 j3 j4 u1 u2 u3 u4 : Tok) (B : Below A₀ base outer h₀) (F : Fr h₀ L s.heap m) (X : (KQ w.params).In h₀) (N : News h₀ L s.heap ((c, instObj 291 dc) :: (dc, cdict w tl pl vl sl k1 k2 k3 k4) :: (vl, listOf us.toArray nv) :: (sl, listOf ps.toArray ns) :: rest)) (T : Top viewQ looseQ mean mg mb h₀) (hk : cs.kind = .function) (S : SetsAt w h₀)(six : Six c dc vl sl) (ap : Apart rest vl sl) (lu : us.length < 900) (lp : ps.length < 900)(ht1 : (tok, instObj 106 dtok) ∈ rest) (ht2 : (dtok, tdict w (Str.ofString "number") k.txt file line j1 j2 j3 j4 u1 u2 u3 u4) ∈ rest)
    (hd : dp + 90 < recursionLimit) (hu : un + 1200 < cLine)
    (ret : ∀ (v : Value) (rest' : List (Addr × Obj)) (nv' : Nat) (h' : Heap) (tk' : Nat), Fr h₀ L h' m → News h₀ L h' ((c, instObj 291 dc) :: (dc, cdict w tl pl vl sl k1 k2 k3 k4) :: (vl, listOf (us ++ [v]).toArray nv') :: (sl, listOf ps.toArray ns) :: rest') → (∀ p ∈ rest, p ∈ rest') → Apart rest' vl sl → ValAt w rest' v (numV k) → Q (.bool true) { s with heap := h', toks := tk' }) :
    wpAny (MQ w) (ktrTop dp un gd cn cs L a ccd cl outer) (call (.ref 274) [.ref c, .ref tok]) Q E s := by
  obtain ⟨e1, e2, e3, e4, e5, e6⟩ := id six
  obtain ⟨ap1, ap2⟩ := id ap
  have e7 : @Ne Nat tok vl := ap1 _ ht1
  have e8 : @Ne Nat tok sl := ap2 _ ht1
  have e9 : @Ne Nat dtok vl := ap1 _ ht2
  have e10 : @Ne Nat dtok sl := ap2 _ ht2
  have N2 := News.dup (News.dup N (.tail _ (.tail _ (.tail _ (.tail _ ht2))))) (.tail _ (.tail _ (.tail _ (.tail _ (.tail _ ht1)))))
  (k_dflt (refine enterK fd274 (bs := [(Str.ofString "self", .ref c), (Str.ofString "token", .ref tok)]) (by exact rfl) (by exact rfl) (by k_asm) (by k_asm) (by k_asm) (by k_asm) (by k_asm) (by first | exact rfl | assumption) (by ktr_room) ?_; k_whole); intro g' L' h' FG' F' N' B' X' T' tk' qk ek; (try k_lift B'))
  have S' := S.keeps FG'.keep
  k_steps
  all_goals (refine ret _ _ _ _ _ (by assumption) (by first | assumption  | exact News.tl (by assumption) | exact News.tl (News.tl (by assumption)) | exact News.tl (News.tl (News.tl (by assumption))) | exact News.tl (News.tl (News.tl (News.tl (by assumption)))) | exact News.tl (News.tl (News.tl (News.tl (News.tl (by assumption))))) | exact News.tl (News.tl (News.tl (News.tl (News.tl (News.tl (by assumption)))))) | exact News.tl (News.tl (News.tl (News.tl (News.tl (News.tl (News.tl (by assumption)))))))) (fun p hp => .tail _ (.tail _ hp)) ⟨?_, ?_⟩ ⟨_, _, _, _, _, _, rfl, .head _, .tail _ (.head _)⟩ <;> (intro p hp; rcases List.mem_cons.mp hp with rfl | hp; (k_ne); rcases List.mem_cons.mp hp with rfl | hp; (k_ne); first | exact ap1 p hp | exact ap2 p hp))
end
end
end
section
open PySem PySem.W PyProof.Rows PySem.Calls PySem.Spec
section

theorem kw52 : True := by
  k_with_none
  (k_with "setAttr ref" => ((with_reducible show wpAny _ _ (setAttr (Value.ref _) _ _) _ _ _); k_dflt (first
 | (refine' exc_set_new (by k_asm) (by k_asm) (by k_asm) (by assumption) (by k_is) (by kernel_rfl!) (by k_is) (by k_is) ?_; k_whole; intro d' h' F' N' hd1 hd2)
 | (refine' exc_set_more (by k_asm) (by k_asm) (by k_asm) (by assumption) (by assumption) (by k_is) (by kernel_rfl!) (by k_is) (by k_is) (by exact rfl) (by exact Nat.le_of_ble_eq_true rfl) ?_; k_whole; intro h' F' N'))))
  (k_with "getMethod type:Exception" => (refine' method_type (by k_asm) (by k_asm) (by rfl) (by decide +kernel) (by k_dflt k_is) (by k_handed) ?_))
  (k_with "call builtin:Exception.__init__" => (k_dflt (refine' exc_base_init (by k_asm) (by k_asm) (by k_asm) (by assumption) (by kernel_rfl!) ?_; k_whole; intro d' h' F' N')))
  trivial
noncomputable abbrev edict (w : World) (wd fl : Str) (ln : Int) (k1 k2 k3 t1 t2 t3 : Tok) : Obj := dictOf [fld w "word" k1 (.str wd t1), fld w "file" k2 (.str fl t2), fld w "line" k3 (.int ln t3)] 3
theorem edrop {h₀ h : Heap} {L : Addr} {a b c : Addr × Obj} {r : List (Addr × Obj)} (N : News h₀ L h (a :: b :: c :: r)) : News h₀ L h (a :: b :: r) :=
  cb_drop N fun p hp => by
    rcases List.mem_cons.mp hp with rfl | hp
    · exact .head _
    · rcases List.mem_cons.mp hp with rfl | hp
      · exact .tail _ (.head _)
      · exact .tail _ (.tail _ (.tail _ hp))
theorem neCons {x d tp : Addr} {o o' : Obj} {news : List (Addr × Obj)} (he : ∀ p ∈ (tp, o) :: news, p.1 ≠ x) (h : x ≠ d) : ∀ p ∈ (d, o') :: news, p.1 ≠ x := fun p hp => by
  rcases List.mem_cons.mp hp with rfl | hp
  · exact h.symm
  · exact he p (.tail _ hp)
theorem neSub {x : Addr} {l l' : List (Addr × Obj)} (h : ∀ p ∈ l, p.1 ≠ x) (hs : ∀ p ∈ l', p ∈ l) : ∀ p ∈ l', p.1 ≠ x := fun p hp => h p (hs p hp)
section
variable {w : World} {mean : ExcName → Option Value} {mg mb : Str → Option Value} {dp un : Nat} {gd : Option (List Code)} {cn : Str} {cs : Scope} {a : Addr} {ccd : Value} {cl : List (Str × Addr)} {outer : List Env} {A₀ : Around} {base h₀ : Heap} {L : Addr} {m : Str → Option Value} {news : List (Addr × Obj)} {s : Shared} {Q E : Value → Shared → Prop}
theorem mkFault (wd fl : Str) (ln : Int) (t1 t2 t3 : Tok) (B : Below A₀ base outer h₀) (F : Fr h₀ L s.heap m) (X : (KQ w.params).In h₀) (N : News h₀ L s.heap news) (T : Top viewQ looseQ mean mg mb h₀) (hk : cs.kind = .function) 
    (hd : dp + 20 < recursionLimit) (hu : un + 200 < cLine)
    (ret : ∀ (x tp dx : Addr) (k1 k2 k3 : Tok) (h' : Heap) (tk' : Nat), Fr h₀ L h' m → News h₀ L h' ((x, excObj 58 tp (some dx)) :: (dx, edict w wd fl ln k1 k2 k3 t1 t2 t3) :: news) → (∀ p ∈ ((dx, edict w wd fl ln k1 k2 k3 t1 t2 t3) :: news), p.1 ≠ x) → Q (.ref x) { s with heap := h', toks := tk' }) :
    wpAny (MQ w) (ktrTop dp un gd cn cs L a ccd cl outer) (call (.ref 58) [.str wd t1, .str fl t2, .int ln t3]) Q E s := by
  (k_dflt (refine' exc_cls ?k1 ?k2 ?k3 ?k4 ?k5 ?k6 ?k7 ?k8 ?k9 ?_ ?kz; (case k1 => k_asm); (case k2 => k_asm); (case k3 => k_asm); (case k4 => kernel_rfl!); (case k5 => k_is); (case k6 | k7 => k_is); (case k8 => k_is); (case k9 => k_is); (case kz => (rw [PySem.sizeLine_eq]; exact Nat.le_of_ble_eq_true rfl)); k_whole; intro x' tp' h' F' N' l1 l2))
  have he : ∀ p ∈ ((tp', tupNew [.str wd t1, .str fl t2, .int ln t3]) :: news), p.1 ≠ x' := fun p hp => by
    rcases List.mem_cons.mp hp with rfl | hp
    · exact Nat.ne_of_lt l2
    · exact Nat.ne_of_lt (Nat.lt_trans (l1 p hp) l2)
  (k_dflt (refine' code_def (binds := [(Str.ofString "self", .ref x'), (Str.ofString "word", .str wd t1), (Str.ofString "file", .str fl t2), (Str.ofString "line", .int ln t3)]) ?k1 ?k2 ?k3 ?k4 ?k5 ?kA ?kF ?kK ?k6 ?k7 ?k8 ?k9 ?kB ?_ ?c2 ?c3 ?c4 ?c5; (case kA | kF => exact rfl); (case kK => first | exact rfl | assumption); (case k1 | k2 | k3 | k4 | k5 => k_asm); (case k6 | k7 => k_is); (case k8 => ktr_room); (case k9 => exact BindsTo.of_eq rfl); (case c5 => decide); (case kB => exact locs rfl); (case c2 | c3 | c4 => exact rfl); k_whole; intro g' L' h' FG' F' N' B' X' T'; (try dsimp only); (try k_lift B'); (try k_fold)))
  k_steps
  all_goals k_dflt (exact ret _ _ _ _ _ _ _ _ (by assumption) (edrop (by assumption)) (neCons he (by assumption)))
end
end
end
section
open PySem PySem.W PyProof.Rows PySem.Calls PySem.Spec
section

section
variable {w : World} {mean : ExcName → Option Value} {mg mb : Str → Option Value} {dp un : Nat} {gd : Option (List Code)} {cn : Str} {cs : Scope} {a : Addr} {ccd : Value} {cl : List (Str × Addr)} {outer : List Env} {A₀ : Around} {base h₀ : Heap} {L : Addr} {m : Str → Option Value} {news : List (Addr × Obj)} {s : Shared} {Q E : Value → Shared → Prop}
variable {c dc vl sl tl pl dpl : Addr} {k1 k2 k3 k4 : Tok}
theorem kw53 : True := by
  k_with_none
  (k_with "call ref" => ((k_dflt (show wpAny _ _ (call (Value.ref 58) [Value.str _ _, Value.str _ _, Value.int _ _]) _ _ _)); k_dflt (refine' mkFault _ _ _ _ _ _ (by k_asm) (by k_asm) (by k_asm) (by exact (by first | assumption | exact News.tl (by assumption) | exact News.tl (News.tl (by assumption)) | exact News.tl (News.tl (News.tl (by assumption))) | exact News.tl (News.tl (News.tl (News.tl (by assumption)))) | exact News.tl (News.tl (News.tl (News.tl (News.tl (by assumption))))) | exact News.tl (News.tl (News.tl (News.tl (News.tl (News.tl (by assumption)))))) | exact News.tl (News.tl (News.tl (News.tl (News.tl (News.tl (News.tl (by assumption))))))))) (by k_asm) (by first | exact rfl | assumption) (by ktr_room) (by ktr_units) ?_; k_whole; intro x' tp' dx' kf1 kf2 kf3 h' tk' F' N' hfr'); (try dsimp only); (try k_fold)))
  trivial
theorem faultC (msg kind text file : Str) (line : Int) (t0 j1 j2 j3 j4 u1 u2 u3 u4 : Tok) (B : Below A₀ base outer h₀) (F : Fr h₀ L s.heap m) (X : (KQ w.params).In h₀) (N : News h₀ L s.heap news) (T : Top viewQ looseQ mean mg mb h₀) (hk : cs.kind = .function) (hc1 : (c, instObj 291 dc) ∈ news) (hc2 : (dc, cdict w tl pl vl sl k1 k2 k3 k4) ∈ news) (hp1 : (pl, instObj 106 dpl) ∈ news) (hp2 : (dpl, tdict w kind text file line j1 j2 j3 j4 u1 u2 u3 u4) ∈ news)
    (hd : dp + 40 < recursionLimit) (hu : un + 400 < cLine)
    (ret : ∀ (x tp dx : Addr) (k1 k2 k3 : Tok) (h' : Heap) (tk' : Nat), Fr h₀ L h' m → News h₀ L h' ((x, excObj 58 tp (some dx)) :: (dx, edict w msg file line k1 k2 k3 t0 u3 u4) :: news) → (∀ p ∈ ((dx, edict w msg file line k1 k2 k3 t0 u3 u4) :: news), p.1 ≠ x) → Q (.ref x) { s with heap := h', toks := tk' }) :
    wpAny (MQ w) (ktrTop dp un gd cn cs L a ccd cl outer) (call (.ref 232) [.ref c, .str msg t0]) Q E s := by
  have N2 := News.dup (News.dup (News.dup (News.dup N hp2) (.tail _ hp1)) (.tail _ (.tail _ hc2))) (.tail _ (.tail _ (.tail _ hc1)))
  (k_dflt (refine enterK fd232 (bs := [(Str.ofString "self", .ref c), (Str.ofString "word", .str msg t0)]) (by exact rfl) (by exact rfl) (by k_asm) (by k_asm) (by k_asm) (by k_asm) (by k_asm) (by first | exact rfl | assumption) (by ktr_room) ?_; k_whole); intro g' L' h' FG' F' N' B' X' T' tk' qk ek; (try k_lift B'))
  k_steps
  all_goals k_dflt (exact ret _ _ _ _ _ _ _ _ (by assumption) (by first | assumption | (exact vdrop (by assumption) (by intro p hp; simp only [List.mem_cons, hp, or_true, true_or]))) (neSub (by assumption) (by intro p hp; simp only [List.mem_cons] at hp ⊢; rcases hp with h | h <;> simp only [h, true_or, or_true])))
end
end
end
section
open PySem PySem.W PyProof.Rows PySem.Calls PySem.Spec
section

theorem kw54 : True := by
  k_with_none
  trivial
noncomputable abbrev bodyIS : List Stmt := [Stmt.Assign [Expr.Name (Str.ofString "is_whole") { line := 255, col := 12, endLine := 255, endCol := 20 }]
          ((Expr.Name (Str.ofString "is_whole") { line := 255, col := 44, endLine := 255, endCol := 52 }).IfExp
            (((Expr.Name (Str.ofString "self") { line := 255, col := 23, endLine := 255, endCol := 27 }).Attribute
                  (Str.ofString "go_on") { line := 255, col := 23, endLine := 255, endCol := 33 }).Call
              [Expr.Name (Str.ofString "token") { line := 255, col := 34, endLine := 255, endCol := 39 }] []
              { line := 255, col := 23, endLine := 255, endCol := 40 })
            (((Expr.Name (Str.ofString "self") { line := 255, col := 58, endLine := 255, endCol := 62 }).Attribute
                  (Str.ofString "begin") { line := 255, col := 58, endLine := 255, endCol := 68 }).Call
              [Expr.Name (Str.ofString "token") { line := 255, col := 69, endLine := 255, endCol := 74 }] []
              { line := 255, col := 58, endLine := 255, endCol := 75 })
            { line := 255, col := 23, endLine := 255, endCol := 75 })
          { line := 255, col := 12, endLine := 255, endCol := 75 }]
noncomputable def mF (c : Addr) (b : Bool) (tv : Option Value) : Str → Option Value := fun y => if y = Str.ofString "is_whole" then some (.bool b) else if y = Str.ofString "token" then tv else if y = Str.ofString "self" then some (.ref c) else none
theorem mF_start (c : Addr) : (fun y => if y = Str.ofString "is_whole" then some (.bool false) else ([(Str.ofString "self", Value.ref c)] : List (Str × Value)).reverse.lookup y) = mF c false none := by
  funext y
  unfold mF
  split
  · rfl
  · show List.lookup y [(Str.ofString "self", Value.ref c)] = _
    by_cases h : y = Str.ofString "self"
    · subst h; rfl
    · rw [List.lookup_cons, show (y == Str.ofString "self") = false from beq_eq_false_iff_ne.mpr h, if_neg h]
      show none = _
      split <;> rfl
theorem mF_turn2 (c : Addr) (b b' : Bool) (v : Value) : (fun y => if y = Str.ofString "is_whole" then some (.bool b') else mF c b (some v) y) = mF c b' (some v) := by
  funext y
  unfold mF
  by_cases h1 : y = Str.ofString "is_whole"
  · simp only [if_pos h1]
  · simp only [if_neg h1]
theorem mF_tok (c : Addr) (b : Bool) (tv : Option Value) (v : Value) : (fun y => if y = Str.ofString "token" then some v else mF c b tv y) = mF c b (some v) := by
  funext y
  unfold mF
  by_cases h1 : y = Str.ofString "token"
  · subst h1; rfl
  · rw [if_neg h1]; simp only [if_neg h1]
section
variable {w : World} {mean : ExcName → Option Value} {mg mb : Str → Option Value} {dp un : Nat} {gd : Option (List Code)} {cn : Str} {cs : Scope} {a : Addr} {ccd : Value} {cl : List (Str × Addr)} {outer : List Env} {A₀ : Around} {base h₀ : Heap} {L : Addr} {news : List (Addr × Obj)} {s : Shared} {Q E : Value → Shared → Prop}
variable {c dc vl sl tl pl : Addr} {k1 k2 k3 k4 : Tok} {nv ns : Nat} {rest : List (Addr × Obj)} {us ps : List Value}

noncomputable def TurnPost (h₀ : Heap) (L c : Addr) (s : Shared) (b : Bool) (v : Value) (P : Bool → List (Addr × Obj) → Prop) (r : Value) (s₂ : Shared) : Prop :=
  ∃ b' led h' tk', r = .bool b' ∧ s₂ = { s with heap := h', toks := tk' } ∧ Fr h₀ L h' (mF c b (some v)) ∧ News h₀ L h' led ∧ P b' led
noncomputable def BodyPost (h₀ : Heap) (L c : Addr) (s : Shared) (v : Value) (P : Bool → List (Addr × Obj) → Prop) (f : Flow) (s₂ : Shared) : Prop :=
  f = .next ∧ ∃ b' led h' tk', s₂ = { s with heap := h', toks := tk' } ∧ Fr h₀ L h' (mF c b' (some v)) ∧ News h₀ L h' led ∧ P b' led
theorem turnGo (v : Value) (P : Bool → List (Addr × Obj) → Prop) (B : Below A₀ base outer h₀) (F : Fr h₀ L s.heap (fun y => if y = Str.ofString "is_whole" then some (.bool true) else if y = Str.ofString "token" then some v else if y = Str.ofString "self" then some (.ref c) else none)) (X : (KQ w.params).In h₀) (N : News h₀ L s.heap ((c, instObj 291 dc) :: (dc, cdict w tl pl vl sl k1 k2 k3 k4) :: rest)) (T : Top viewQ looseQ mean mg mb h₀)
    (hcall : wpAny (MQ w) (ktrTop dp un gd (Str.ofString "Condition.is_so") (pS (M 30 9)) L 288 (Value.ref 287) [] outer) (call (.ref 281) [.ref c, v]) (TurnPost h₀ L c s true v P) E s) :
    wpAny (MQ w) (ktrTop dp un gd (Str.ofString "Condition.is_so") (pS (M 30 9)) L 288 (Value.ref 287) [] outer) (execs bodyIS (envOf (Str.ofString "Condition.is_so") (pS (M 30 9)) L 288 (Value.ref 287))) (BodyPost h₀ L c s v P) E s := by
  k_steps
  all_goals (refine wpAny_mono hcall (fun r s₂ hr => ?_) (fun _ _ e => e))
  all_goals (obtain ⟨b', led, h', tk', rfl, rfl, F', N', hP⟩ := hr)
  all_goals (refine stN F' N' (fun h'' F'' N'' => wpAny_pure ⟨rfl, b', led, h'', _, rfl, mF_turn2 c true b' v ▸ (by exact F''), N'', hP⟩))
theorem turnBegin (v : Value) (P : Bool → List (Addr × Obj) → Prop) (B : Below A₀ base outer h₀) (F : Fr h₀ L s.heap (fun y => if y = Str.ofString "is_whole" then some (.bool false) else if y = Str.ofString "token" then some v else if y = Str.ofString "self" then some (.ref c) else none)) (X : (KQ w.params).In h₀) (N : News h₀ L s.heap ((c, instObj 291 dc) :: (dc, cdict w tl pl vl sl k1 k2 k3 k4) :: rest)) (T : Top viewQ looseQ mean mg mb h₀)
    (hcall : wpAny (MQ w) (ktrTop dp un gd (Str.ofString "Condition.is_so") (pS (M 30 9)) L 288 (Value.ref 287) [] outer) (call (.ref 274) [.ref c, v]) (TurnPost h₀ L c s false v P) E s) :
    wpAny (MQ w) (ktrTop dp un gd (Str.ofString "Condition.is_so") (pS (M 30 9)) L 288 (Value.ref 287) [] outer) (execs bodyIS (envOf (Str.ofString "Condition.is_so") (pS (M 30 9)) L 288 (Value.ref 287))) (BodyPost h₀ L c s v P) E s := by
  k_steps
  all_goals (refine wpAny_mono hcall (fun r s₂ hr => ?_) (fun _ _ e => e))
  all_goals (obtain ⟨b', led, h', tk', rfl, rfl, F', N', hP⟩ := hr)
  all_goals (refine stN F' N' (fun h'' F'' N'' => wpAny_pure ⟨rfl, b', led, h'', _, rfl, mF_turn2 c false b' v ▸ (by exact F''), N'', hP⟩))
end
end
end
section
open PySem PySem.W PyProof.Rows PySem.Calls PySem.Spec
section

noncomputable def off (I : Addr) (l : List (Addr × Obj)) : List (Addr × Obj) := l.filter fun p => decide ((p.1 : Nat) ≠ I)
theorem mem_off {I : Addr} {l : List (Addr × Obj)} {p : Addr × Obj} : p ∈ off I l ↔ p ∈ l ∧ p.1 ≠ I := by
  unfold off; rw [List.mem_filter]; exact and_congr_right fun _ => decide_eq_true_iff
theorem ne_it {h₀ h : Heap} {L I : Addr} {it : Obj} {all : List (Addr × Obj)} {p : Addr × Obj} (N : News h₀ L h all) (hI : (I, it) ∈ all) (hit : it.cls = .type "list_iterator") (hp : p ∈ all) (hc : p.2.cls ≠ .type "list_iterator") : p.1 ≠ I := fun e => by
  have h1 := (N _ hp).1
  have h2 := (N _ hI).1
  rw [e] at h1
  rw [h1] at h2
  exact hc (by rw [Option.some.inj h2]; exact hit)
theorem off_cons {I : Addr} {p : Addr × Obj} {l : List (Addr × Obj)} (h : p.1 ≠ I) : off I (p :: l) = p :: off I l := by
  unfold off
  exact List.filter_cons_of_pos (by exact decide_eq_true h)
structure Sta (w : World) (keep rest : List (Addr × Obj)) (vl sl : Addr) (us : List Value) (xs : List V) (ps : List Value) (ts : List Str) : Prop where
  ap : Apart rest vl sl
  keep : ∀ p ∈ keep, p ∈ rest
  vals : ValsAt w rest us xs
  sgs : Strs ps ts
theorem ValsAt.mono {w : World} {n1 n2 : List (Addr × Obj)} : ∀ {vs : List Value} {xs : List V}, ValsAt w n1 vs xs → (∀ p ∈ n1, p ∈ n2) → ValsAt w n2 vs xs
  | _, _, .nil, _ => .nil
  | _, _, .cons a b c, hs => .cons (a.mono hs) b (c.mono hs)
theorem ValsAt.app {w : World} {n : List (Addr × Obj)} : ∀ {vs ws : List Value} {xs ys : List V}, ValsAt w n vs xs → ValsAt w n ws ys → ValsAt w n (vs ++ ws) (xs ++ ys)
  | _, _, _, _, .nil, y => y
  | _, _, _, _, .cons a b c, y => .cons a b (c.app y)
theorem ValsAt.split {w : World} {n : List (Addr × Obj)} : ∀ {vs ws : List Value} {xs ys : List V}, ValsAt w n (vs ++ ws) (xs ++ ys) → vs.length = xs.length → ValsAt w n vs xs ∧ ValsAt w n ws ys
  | [], _, [], _, h, _ => ⟨.nil, h⟩
  | [], _, _ :: _, _, _, e => by cases e
  | _ :: _, _, [], _, _, e => by cases e
  | _ :: _, _, _ :: _, _, .cons a b c, e => ⟨.cons a b (ValsAt.split c (Nat.succ.inj e)).1, (ValsAt.split c (Nat.succ.inj e)).2⟩
theorem Strs.app1 {ps : List Value} {ts : List Str} (h : Strs ps ts) (x : Str) (t : Tok) (hx : PyData.strOk x = true) : Strs (ps ++ [Value.str x t]) (ts ++ [x]) := by
  refine ⟨?_, fun y hy => ?_⟩
  · have : ∀ {ps : List Value} {ts : List Str}, StrsAre ps ts → StrsAre (ps ++ [Value.str x t]) (ts ++ [x]) := by
      intro ps ts h
      induction h with
      | nil => exact .cons x t .nil
      | cons y u _ ih => exact .cons y u ih
    exact this h.1
  · rcases List.mem_append.mp hy with hy | hy
    · exact h.2 y hy
    · rw [List.mem_singleton.mp hy]; exact hx
theorem Strs.pre {ps : List Value} {ts : List Str} {v : Value} {x : Str} (h : Strs (ps ++ [v]) (ts ++ [x])) : Strs ps ts := by
  refine ⟨?_, fun y hy => h.2 y (List.mem_append_left _ hy)⟩
  have : ∀ {ps : List Value} {ts : List Str}, StrsAre (ps ++ [v]) (ts ++ [x]) → StrsAre ps ts := by
    intro ps
    induction ps with
    | nil =>
      intro ts h
      cases ts with
      | nil => exact .nil
      | cons a r =>
        have : ∀ {b : Value} {l : List Str}, StrsAre [b] l → l.length = 1 := by
          intro b l q; cases q with | cons _ _ r => cases r; rfl
        have := this h
        simp at this
    | cons a r ih =>
      intro ts h
      cases ts with
      | nil =>
        have : ∀ {l : List Value} {z : Str}, StrsAre l [z] → l.length = 1 := by
          intro l z q; cases q with | cons _ _ r => cases r; rfl
        have := this h
        simp at this
      | cons b q =>
        cases h with
        | cons _ _ z => exact .cons _ _ (ih z)
  exact this h.1
theorem bop_ok (o : Bop) : PyData.strOk o.txt = true := by cases o <;> decide +kernel
theorem uop_ok (o : Uop) : PyData.strOk o.word = true := by cases o <;> decide +kernel
theorem in33_01 (p : Prop) [Decidable p] : In33 (if p then 1 else 0) := by unfold In33; split <;> decide
theorem ite_in33 {c : Prop} [Decidable c] {a b : V} (ha : In33 a.n) (hb : In33 b.n) : In33 (if c then a else b).n := by split <;> assumption
theorem two_in33 (o : Bop) (x y : V) : In33 (twoB o x y).n := by
  unfold twoB
  repeat' (refine ite_in33 ?_ ?_)
  all_goals first | exact led_in _ _ | (with_reducible exact in33_01 _) | (exact led_in 0 (x.u || y.u))
theorem run_in33 (p : Pend) (xs : List V) (h : ∀ x ∈ xs, In33 x.n) : In33 (p.run xs).n := by
  have z : In33 0 := by unfold In33; decide
  cases p with
  | bin o => rcases xs with _ | ⟨x, _ | ⟨y, _ | ⟨_, _⟩⟩⟩ <;> first | exact z | exact two_in33 o x y
  | un o =>
    rcases xs with _ | ⟨x, _ | ⟨_, _⟩⟩ <;> first | exact z | skip
    cases o with
    | pos => exact h x (.head _)
    | neg => exact led_in _ _
    | inv => exact led_in _ _
    | not => show In33 (if x.n == 0 then 1 else 0); unfold In33; split <;> decide
  | cond => rcases xs with _ | ⟨x, _ | ⟨y, _ | ⟨t, _ | ⟨_, _⟩⟩⟩⟩ <;> first | exact z | exact led_in _ _
theorem ValsAt.in33 {w : World} {n : List (Addr × Obj)} : ∀ {vs : List Value} {xs : List V}, ValsAt w n vs xs → ∀ x ∈ xs, In33 x.n
  | _, _, .nil, _, h => nomatch h
  | _, _, .cons _ b c, x, h => by
    rcases List.mem_cons.mp h with rfl | h
    · exact b
    · exact ValsAt.in33 c x h
noncomputable def TokAt (w : World) (keep : List (Addr × Obj)) (file : Str) (line : Int) (v : Value) (kind text : Str) : Prop :=
  ∃ (tok dtok : Addr) (j1 j2 j3 j4 u1 u2 u3 u4 : Tok), v = .ref tok ∧ (tok, instObj 106 dtok) ∈ keep ∧ (dtok, tdict w kind text file line j1 j2 j3 j4 u1 u2 u3 u4) ∈ keep
theorem num_in33 (k : Num) : In33 (numV k).n := by cases k <;> (unfold In33; decide)
section
variable {w : World} {mean : ExcName → Option Value} {mg mb : Str → Option Value} {dp un : Nat} {gd : Option (List Code)} {cn : Str} {cs : Scope} {a : Addr} {ccd : Value} {cl : List (Str × Addr)} {outer : List Env} {A₀ : Around} {base h₀ : Heap} {L : Addr} {news : List (Addr × Obj)} {s : Shared} {Q E : Value → Shared → Prop}
variable {c dc vl sl tl pl : Addr} {k1 k2 k3 k4 : Tok} {nv ns : Nat} {rest : List (Addr × Obj)} {us ps : List Value}

variable {keep : List (Addr × Obj)} {I : Addr} {lo : Obj} {QF : Flow → Shared → Prop} {file : Str} {line : Int} {xs : List V} {ts : List Str} {r : List Value} {v : Value} {tv : Option Value}
theorem led_off {h : Heap} {it : Obj} (N : News h₀ L h ((c, instObj 291 dc) :: (dc, cdict w tl pl vl sl k1 k2 k3 k4) :: (vl, listOf us.toArray nv) :: (sl, listOf ps.toArray ns) :: rest)) (hI : (I, it) ∈ rest) (hit : it.cls = .type "list_iterator") : off I ((c, instObj 291 dc) :: (dc, cdict w tl pl vl sl k1 k2 k3 k4) :: (vl, listOf us.toArray nv) :: (sl, listOf ps.toArray ns) :: rest) = ((c, instObj 291 dc) :: (dc, cdict w tl pl vl sl k1 k2 k3 k4) :: (vl, listOf us.toArray nv) :: (sl, listOf ps.toArray ns) :: off I rest) := by
  have q : ∀ p ∈ ((c, instObj 291 dc) :: (dc, cdict w tl pl vl sl k1 k2 k3 k4) :: (vl, listOf us.toArray nv) :: (sl, listOf ps.toArray ns) :: rest), p.2.cls ≠ .type "list_iterator" → p.1 ≠ I := fun p hp hc => ne_it N (.tail _ (.tail _ (.tail _ (.tail _ hI)))) hit hp hc
  have k : (Value.type "dict") ≠ .type "list_iterator" := fun e => absurd (Value.type.inj e) (by decide)
  have k2 : (Value.type "list") ≠ .type "list_iterator" := fun e => absurd (Value.type.inj e) (by decide)
  rw [off_cons (q _ (.head _) (fun e => by cases e)), off_cons (q _ (.tail _ (.head _)) k), off_cons (q _ (.tail _ (.tail _ (.head _))) k2), off_cons (q _ (.tail _ (.tail _ (.tail _ (.head _)))) k2)]
theorem Sta.off {h : Heap} {it : Obj} (S : Sta w keep rest vl sl us xs ps ts) (N : News h₀ L h ((c, instObj 291 dc) :: (dc, cdict w tl pl vl sl k1 k2 k3 k4) :: (vl, listOf us.toArray nv) :: (sl, listOf ps.toArray ns) :: rest)) (hI : (I, it) ∈ rest) (hit : it.cls = .type "list_iterator") (hkeep : ∀ p ∈ keep, p.2.cls ≠ .type "list_iterator") : Sta w keep (off I rest) vl sl us xs ps ts := by
  have q : ∀ p ∈ rest, p.2.cls ≠ .type "list_iterator" → p ∈ Mine.off I rest := fun p hp hc => mem_off.mpr ⟨hp, ne_it N (.tail _ (.tail _ (.tail _ (.tail _ hI)))) hit (.tail _ (.tail _ (.tail _ (.tail _ hp)))) hc⟩
  have k : (Value.type "dict") ≠ .type "list_iterator" := fun e => absurd (Value.type.inj e) (by decide)
  refine ⟨⟨fun p hp => S.ap.1 p (mem_off.mp hp).1, fun p hp => S.ap.2 p (mem_off.mp hp).1⟩, fun p hp => q p (S.keep p hp) (hkeep p hp), ?_, S.sgs⟩
  have : ∀ {vs : List Value} {xs : List V}, ValsAt w rest vs xs → ValsAt w (Mine.off I rest) vs xs := by
    intro vs xs h
    induction h with
    | nil => exact .nil
    | cons a b _ ih =>
      obtain ⟨a, da, k1, k2, k3, t, e, h1, h2⟩ := a
      exact .cons ⟨a, da, k1, k2, k3, t, e, q _ h1 (fun e => by cases e), q _ h2 k⟩ b ih
  exact this S.vals
theorem Sta.it {h : Heap} {it : Obj} (S : Sta w keep rest vl sl us xs ps ts) (N : News h₀ L h ((I, it) :: ((c, instObj 291 dc) :: (dc, cdict w tl pl vl sl k1 k2 k3 k4) :: (vl, listOf us.toArray nv) :: (sl, listOf ps.toArray ns) :: rest))) (hit : it.cls = .type "list_iterator") : Sta w keep ((I, it) :: rest) vl sl us xs ps ts ∧ News h₀ L h ((c, instObj 291 dc) :: (dc, cdict w tl pl vl sl k1 k2 k3 k4) :: (vl, listOf us.toArray nv) :: (sl, listOf ps.toArray ns) :: (I, it) :: rest) := by
  have k2 : (Value.type "list") ≠ .type "list_iterator" := fun e => absurd (Value.type.inj e) (by decide)
  have n1 := ne_it N (.head _) hit (.tail _ (.tail _ (.tail _ (.head _)))) k2
  have n2 := ne_it N (.head _) hit (.tail _ (.tail _ (.tail _ (.tail _ (.head _))))) k2
  refine ⟨⟨⟨fun p hp => ?_, fun p hp => ?_⟩, fun p hp => .tail _ (S.keep p hp), S.vals.mono fun p hp => .tail _ hp, S.sgs⟩, fun p hp => N p ?_⟩
  · rcases List.mem_cons.mp hp with rfl | hp
    · exact n1.symm
    · exact S.ap.1 p hp
  · rcases List.mem_cons.mp hp with rfl | hp
    · exact n2.symm
    · exact S.ap.2 p hp
  · simp only [List.mem_cons] at hp ⊢
    rcases hp with h | h | h | h | h | h <;> simp [h]
noncomputable def Kont (w : World) (mean : ExcName → Option Value) (mg mb : Str → Option Value) (dp un : Nat) (gd : Option (List Code)) (outer : List Env) (h₀ : Heap) (L : Addr) (s : Shared) (E : Value → Shared → Prop) (QF : Flow → Shared → Prop) (c dc vl sl tl pl : Addr) (k1 k2 k3 k4 : Tok) (keep : List (Addr × Obj)) (I : Addr) (lo : Obj) (r : List Value) (b : Bool) (us : List Value) (xs : List V) (ps : List Value) (ts : List Str) : Prop :=
  ∀ (nv ns : Nat) (rest : List (Addr × Obj)) (tv : Option Value), Sta w keep rest vl sl us xs ps ts →
    ListRest PySem.Challenge.rw_on0057_01.prog w (ktrTop dp un gd (Str.ofString "Condition.is_so") (pS (M 30 9)) L 288 (Value.ref 287) [] outer) E h₀ (envOf (Str.ofString "Condition.is_so") (pS (M 30 9)) L 288 (Value.ref 287)) (Str.ofString "token") bodyIS QF s I (tl, lo) r (mF c b tv) ((c, instObj 291 dc) :: (dc, cdict w tl pl vl sl k1 k2 k3 k4) :: (vl, listOf us.toArray nv) :: (sl, listOf ps.toArray ns) :: rest)

theorem stepGo (B : Below A₀ base outer h₀) (X : (KQ w.params).In h₀) (T : Top viewQ looseQ mean mg mb h₀)
    (hcall : ∀ (it : Obj) (s₁ : Shared), it.cls = .type "list_iterator" → Fr h₀ L s₁.heap (mF c true (some v)) → News h₀ L s₁.heap ((I, it) :: ((c, instObj 291 dc) :: (dc, cdict w tl pl vl sl k1 k2 k3 k4) :: (vl, listOf us.toArray nv) :: (sl, listOf ps.toArray ns) :: rest)) →
      wpAny (MQ w) (ktrTop dp un gd (Str.ofString "Condition.is_so") (pS (M 30 9)) L 288 (Value.ref 287) [] outer) (call (.ref 281) [.ref c, v]) (TurnPost h₀ L c s₁ true v fun b' led => (I, it) ∈ led ∧ (tl, lo) ∈ led ∧ (tl, lo) ∈ off I led ∧ ListRest PySem.Challenge.rw_on0057_01.prog w (ktrTop dp un gd (Str.ofString "Condition.is_so") (pS (M 30 9)) L 288 (Value.ref 287) [] outer) E h₀ (envOf (Str.ofString "Condition.is_so") (pS (M 30 9)) L 288 (Value.ref 287)) (Str.ofString "token") bodyIS QF s I (tl, lo) r (mF c b' (some v)) (off I led)) E s₁) :
    ListRest PySem.Challenge.rw_on0057_01.prog w (ktrTop dp un gd (Str.ofString "Condition.is_so") (pS (M 30 9)) L 288 (Value.ref 287) [] outer) E h₀ (envOf (Str.ofString "Condition.is_so") (pS (M 30 9)) L 288 (Value.ref 287)) (Str.ofString "token") bodyIS QF s I (tl, lo) (v :: r) (mF c true tv) ((c, instObj 291 dc) :: (dc, cdict w tl pl vl sl k1 k2 k3 k4) :: (vl, listOf us.toArray nv) :: (sl, listOf ps.toArray ns) :: rest) := by
  refine ListRest.succ fun it h tk hit F N => ?_
  have F1 : Fr h₀ L h (mF c true (some v)) := mF_tok c true tv v ▸ F
  refine wpAny_mono (turnGo v _ B F1 X (fun p hp => N p (.tail _ hp)) T (hcall it _ hit F1 N)) (fun f s₂ hf => ?_) (fun _ _ e => e)
  obtain ⟨rfl, b', led, h', tk', rfl, F', N', hI, ht, ht2, hr⟩ := hf
  refine UnrEnd.intro F' N' (off I led) (fun p hp => ?_) (fun p hp => (mem_off.mp hp).2) ⟨ht2, hr⟩
  rcases List.mem_cons.mp hp with rfl | hp
  · exact hI
  · exact (mem_off.mp hp).1

theorem stepBegin (B : Below A₀ base outer h₀) (X : (KQ w.params).In h₀) (T : Top viewQ looseQ mean mg mb h₀)
    (hcall : ∀ (it : Obj) (s₁ : Shared), it.cls = .type "list_iterator" → Fr h₀ L s₁.heap (mF c false (some v)) → News h₀ L s₁.heap ((I, it) :: ((c, instObj 291 dc) :: (dc, cdict w tl pl vl sl k1 k2 k3 k4) :: (vl, listOf us.toArray nv) :: (sl, listOf ps.toArray ns) :: rest)) →
      wpAny (MQ w) (ktrTop dp un gd (Str.ofString "Condition.is_so") (pS (M 30 9)) L 288 (Value.ref 287) [] outer) (call (.ref 274) [.ref c, v]) (TurnPost h₀ L c s₁ false v fun b' led => (I, it) ∈ led ∧ (tl, lo) ∈ led ∧ (tl, lo) ∈ off I led ∧ ListRest PySem.Challenge.rw_on0057_01.prog w (ktrTop dp un gd (Str.ofString "Condition.is_so") (pS (M 30 9)) L 288 (Value.ref 287) [] outer) E h₀ (envOf (Str.ofString "Condition.is_so") (pS (M 30 9)) L 288 (Value.ref 287)) (Str.ofString "token") bodyIS QF s I (tl, lo) r (mF c b' (some v)) (off I led)) E s₁) :
    ListRest PySem.Challenge.rw_on0057_01.prog w (ktrTop dp un gd (Str.ofString "Condition.is_so") (pS (M 30 9)) L 288 (Value.ref 287) [] outer) E h₀ (envOf (Str.ofString "Condition.is_so") (pS (M 30 9)) L 288 (Value.ref 287)) (Str.ofString "token") bodyIS QF s I (tl, lo) (v :: r) (mF c false tv) ((c, instObj 291 dc) :: (dc, cdict w tl pl vl sl k1 k2 k3 k4) :: (vl, listOf us.toArray nv) :: (sl, listOf ps.toArray ns) :: rest) := by
  refine ListRest.succ fun it h tk hit F N => ?_
  have F1 : Fr h₀ L h (mF c false (some v)) := mF_tok c false tv v ▸ F
  refine wpAny_mono (turnBegin v _ B F1 X (fun p hp => N p (.tail _ hp)) T (hcall it _ hit F1 N)) (fun f s₂ hf => ?_) (fun _ _ e => e)
  obtain ⟨rfl, b', led, h', tk', rfl, F', N', hI, ht, ht2, hr⟩ := hf
  refine UnrEnd.intro F' N' (off I led) (fun p hp => ?_) (fun p hp => (mem_off.mp hp).2) ⟨ht2, hr⟩
  rcases List.mem_cons.mp hp with rfl | hp
  · exact hI
  · exact (mem_off.mp hp).1
theorem wk {d k n : Nat} (a : Nat) (h : d + k < n) (e : Nat.ble a k = true) : d + a < n := Nat.lt_of_le_of_lt (Nat.add_le_add_left (Nat.le_of_ble_eq_true e) d) h
theorem p900 {n : Nat} (h : n < 890) : n < 900 := Nat.lt_trans h (by decide)
theorem q900 {α : Type} {l : List α} {x : α} (h : l.length < 890) : (l ++ [x]).length < 900 := by rw [List.length_append]; exact Nat.lt_trans (Nat.succ_lt_succ h) (by decide)
theorem turnB {kind text : Str} (B : Below A₀ base outer h₀) (X : (KQ w.params).In h₀) (T : Top viewQ looseQ mean mg mb h₀) (hkeep : ∀ p ∈ keep, p.2.cls ≠ .type "list_iterator") (htl : (tl, lo) ∈ keep) (hv : TokAt w keep file line v kind text)
    (hc : ∀ (tok dtok : Addr) (j1 j2 j3 j4 u1 u2 u3 u4 : Tok) (nv ns : Nat) (rest : List (Addr × Obj)) (s₁ : Shared) (Q : Value → Shared → Prop), (tok, instObj 106 dtok) ∈ rest → (dtok, tdict w kind text file line j1 j2 j3 j4 u1 u2 u3 u4) ∈ rest → Sta w keep rest vl sl us xs ps ts → Fr h₀ L s₁.heap (mF c false (some (.ref tok))) → News h₀ L s₁.heap ((c, instObj 291 dc) :: (dc, cdict w tl pl vl sl k1 k2 k3 k4) :: (vl, listOf us.toArray nv) :: (sl, listOf ps.toArray ns) :: rest) →
      (∀ (b' : Bool) (us' : List Value) (xs' : List V) (ps' : List Value) (ts' : List Str) (nv' ns' : Nat) (rest' : List (Addr × Obj)) (h' : Heap) (tk' : Nat), Fr h₀ L h' (mF c false (some (.ref tok))) → News h₀ L h' ((c, instObj 291 dc) :: (dc, cdict w tl pl vl sl k1 k2 k3 k4) :: (vl, listOf us'.toArray nv') :: (sl, listOf ps'.toArray ns') :: rest') → (∀ p ∈ rest, p ∈ rest') → Sta w keep rest' vl sl us' xs' ps' ts' → Kont w mean mg mb dp un gd outer h₀ L s E QF c dc vl sl tl pl k1 k2 k3 k4 keep I lo r b' us' xs' ps' ts' → Q (.bool b') { s₁ with heap := h', toks := tk' }) →
      wpAny (MQ w) (ktrTop dp un gd (Str.ofString "Condition.is_so") (pS (M 30 9)) L 288 (Value.ref 287) [] outer) (call (.ref 274) [.ref c, .ref tok]) Q E s₁) :
    Kont w mean mg mb dp un gd outer h₀ L s E QF c dc vl sl tl pl k1 k2 k3 k4 keep I lo (v :: r) false us xs ps ts := by
  obtain ⟨tok, dtok, j1, j2, j3, j4, u1, u2, u3, u4, rfl, m1, m2⟩ := hv
  intro nv ns rest tv S
  refine stepBegin B X T fun it s₁ hit F N => ?_
  obtain ⟨S1, N1⟩ := S.it N hit
  refine hc tok dtok j1 j2 j3 j4 u1 u2 u3 u4 nv ns _ s₁ _ (S1.keep _ m1) (S1.keep _ m2) S1 F N1 fun b' us' xs' ps' ts' nv' ns' rest' h' tk' F2 N2 sub S2 K => ?_
  have hI : (I, it) ∈ rest' := sub _ (.head _)
  have S3 := S2.off N2 hI hit hkeep
  have lo2 := led_off N2 hI hit
  refine ⟨b', _, h', tk', rfl, rfl, F2, N2, .tail _ (.tail _ (.tail _ (.tail _ hI))), .tail _ (.tail _ (.tail _ (.tail _ (S2.keep _ htl)))), ?_, ?_⟩
  · rw [lo2]; exact .tail _ (.tail _ (.tail _ (.tail _ (S3.keep _ htl))))
  · rw [lo2]; exact K _ _ _ _ S3
theorem turnG {kind text : Str} (B : Below A₀ base outer h₀) (X : (KQ w.params).In h₀) (T : Top viewQ looseQ mean mg mb h₀) (hkeep : ∀ p ∈ keep, p.2.cls ≠ .type "list_iterator") (htl : (tl, lo) ∈ keep) (hv : TokAt w keep file line v kind text)
    (hc : ∀ (tok dtok : Addr) (j1 j2 j3 j4 u1 u2 u3 u4 : Tok) (nv ns : Nat) (rest : List (Addr × Obj)) (s₁ : Shared) (Q : Value → Shared → Prop), (tok, instObj 106 dtok) ∈ rest → (dtok, tdict w kind text file line j1 j2 j3 j4 u1 u2 u3 u4) ∈ rest → Sta w keep rest vl sl us xs ps ts → Fr h₀ L s₁.heap (mF c true (some (.ref tok))) → News h₀ L s₁.heap ((c, instObj 291 dc) :: (dc, cdict w tl pl vl sl k1 k2 k3 k4) :: (vl, listOf us.toArray nv) :: (sl, listOf ps.toArray ns) :: rest) →
      (∀ (b' : Bool) (us' : List Value) (xs' : List V) (ps' : List Value) (ts' : List Str) (nv' ns' : Nat) (rest' : List (Addr × Obj)) (h' : Heap) (tk' : Nat), Fr h₀ L h' (mF c true (some (.ref tok))) → News h₀ L h' ((c, instObj 291 dc) :: (dc, cdict w tl pl vl sl k1 k2 k3 k4) :: (vl, listOf us'.toArray nv') :: (sl, listOf ps'.toArray ns') :: rest') → (∀ p ∈ rest, p ∈ rest') → Sta w keep rest' vl sl us' xs' ps' ts' → Kont w mean mg mb dp un gd outer h₀ L s E QF c dc vl sl tl pl k1 k2 k3 k4 keep I lo r b' us' xs' ps' ts' → Q (.bool b') { s₁ with heap := h', toks := tk' }) →
      wpAny (MQ w) (ktrTop dp un gd (Str.ofString "Condition.is_so") (pS (M 30 9)) L 288 (Value.ref 287) [] outer) (call (.ref 281) [.ref c, .ref tok]) Q E s₁) :
    Kont w mean mg mb dp un gd outer h₀ L s E QF c dc vl sl tl pl k1 k2 k3 k4 keep I lo (v :: r) true us xs ps ts := by
  obtain ⟨tok, dtok, j1, j2, j3, j4, u1, u2, u3, u4, rfl, m1, m2⟩ := hv
  intro nv ns rest tv S
  refine stepGo B X T fun it s₁ hit F N => ?_
  obtain ⟨S1, N1⟩ := S.it N hit
  refine hc tok dtok j1 j2 j3 j4 u1 u2 u3 u4 nv ns _ s₁ _ (S1.keep _ m1) (S1.keep _ m2) S1 F N1 fun b' us' xs' ps' ts' nv' ns' rest' h' tk' F2 N2 sub S2 K => ?_
  have hI : (I, it) ∈ rest' := sub _ (.head _)
  have S3 := S2.off N2 hI hit hkeep
  have lo2 := led_off N2 hI hit
  refine ⟨b', _, h', tk', rfl, rfl, F2, N2, .tail _ (.tail _ (.tail _ (.tail _ hI))), .tail _ (.tail _ (.tail _ (.tail _ (S2.keep _ htl)))), ?_, ?_⟩
  · rw [lo2]; exact .tail _ (.tail _ (.tail _ (.tail _ (S3.keep _ htl))))
  · rw [lo2]; exact K _ _ _ _ S3
section
variable (B : Below A₀ base outer h₀) (X : (KQ w.params).In h₀) (T : Top viewQ looseQ mean mg mb h₀) (SA : SetsAt w h₀) (six : Six c dc vl sl) (hkeep : ∀ p ∈ keep, p.2.cls ≠ .type "list_iterator") (htl : (tl, lo) ∈ keep) (hd : dp + 100 < recursionLimit) (hu : un + 1500 < cLine) (lu : us.length < 900) (lp : ps.length < 890)
include B X T SA six hkeep htl hd hu lu lp
theorem tOpen (hv : TokAt w keep file line v (Str.ofString "punct") (Str.ofString "(")) (K : ∀ t, Kont w mean mg mb dp un gd outer h₀ L s E QF c dc vl sl tl pl k1 k2 k3 k4 keep I lo r false us xs (ps ++ [Value.str (Str.ofString "(") t]) (ts ++ [Str.ofString "("])) :
    Kont w mean mg mb dp un gd outer h₀ L s E QF c dc vl sl tl pl k1 k2 k3 k4 keep I lo (v :: r) false us xs ps ts :=
  turnB B X T hkeep htl hv fun tok dtok j1 j2 j3 j4 u1 u2 u3 u4 nv ns rest s₁ Q m1 m2 S1 F N1 ret => begOpen tok dtok file line j1 j2 j3 j4 u1 u2 u3 u4 B F X N1 T rfl six S1.ap lu (p900 lp) m1 m2 (wk _ hd rfl) (wk _ hu rfl) fun nv2 ns2 t2 h2 tk2 F2 N2 => ret false _ _ _ _ nv2 ns2 _ h2 tk2 F2 N2 (fun _ q => q) ⟨S1.ap, S1.keep, S1.vals, S1.sgs.app1 _ _ (by decide +kernel)⟩ (K t2)
theorem tUn_neg (hv : TokAt w keep file line v (Str.ofString "punct") (Str.ofString "-")) (K : ∀ t, Kont w mean mg mb dp un gd outer h₀ L s E QF c dc vl sl tl pl k1 k2 k3 k4 keep I lo r false us xs (ps ++ [Value.str (Uop.neg).word t]) (ts ++ [(Uop.neg).word])) :
    Kont w mean mg mb dp un gd outer h₀ L s E QF c dc vl sl tl pl k1 k2 k3 k4 keep I lo (v :: r) false us xs ps ts :=
  turnB B X T hkeep htl hv fun tok dtok j1 j2 j3 j4 u1 u2 u3 u4 nv ns rest s₁ Q m1 m2 S1 F N1 ret => begUn_neg tok dtok file line j1 j2 j3 j4 u1 u2 u3 u4 B F X N1 T rfl six S1.ap lu (p900 lp) m1 m2 (wk _ hd rfl) (wk _ hu rfl) fun nv2 ns2 t2 h2 tk2 F2 N2 => ret false _ _ _ _ nv2 ns2 _ h2 tk2 F2 N2 (fun _ q => q) ⟨S1.ap, S1.keep, S1.vals, S1.sgs.app1 _ _ (uop_ok .neg)⟩ (K t2)
theorem tUn_not (hv : TokAt w keep file line v (Str.ofString "punct") (Str.ofString "!")) (K : ∀ t, Kont w mean mg mb dp un gd outer h₀ L s E QF c dc vl sl tl pl k1 k2 k3 k4 keep I lo r false us xs (ps ++ [Value.str (Uop.not).word t]) (ts ++ [(Uop.not).word])) :
    Kont w mean mg mb dp un gd outer h₀ L s E QF c dc vl sl tl pl k1 k2 k3 k4 keep I lo (v :: r) false us xs ps ts :=
  turnB B X T hkeep htl hv fun tok dtok j1 j2 j3 j4 u1 u2 u3 u4 nv ns rest s₁ Q m1 m2 S1 F N1 ret => begUn_not tok dtok file line j1 j2 j3 j4 u1 u2 u3 u4 B F X N1 T rfl six S1.ap lu (p900 lp) m1 m2 (wk _ hd rfl) (wk _ hu rfl) fun nv2 ns2 t2 h2 tk2 F2 N2 => ret false _ _ _ _ nv2 ns2 _ h2 tk2 F2 N2 (fun _ q => q) ⟨S1.ap, S1.keep, S1.vals, S1.sgs.app1 _ _ (uop_ok .not)⟩ (K t2)
theorem tUn_inv (hv : TokAt w keep file line v (Str.ofString "punct") (Str.ofString "~")) (K : ∀ t, Kont w mean mg mb dp un gd outer h₀ L s E QF c dc vl sl tl pl k1 k2 k3 k4 keep I lo r false us xs (ps ++ [Value.str (Uop.inv).word t]) (ts ++ [(Uop.inv).word])) :
    Kont w mean mg mb dp un gd outer h₀ L s E QF c dc vl sl tl pl k1 k2 k3 k4 keep I lo (v :: r) false us xs ps ts :=
  turnB B X T hkeep htl hv fun tok dtok j1 j2 j3 j4 u1 u2 u3 u4 nv ns rest s₁ Q m1 m2 S1 F N1 ret => begUn_inv tok dtok file line j1 j2 j3 j4 u1 u2 u3 u4 B F X N1 T rfl six S1.ap lu (p900 lp) m1 m2 (wk _ hd rfl) (wk _ hu rfl) fun nv2 ns2 t2 h2 tk2 F2 N2 => ret false _ _ _ _ nv2 ns2 _ h2 tk2 F2 N2 (fun _ q => q) ⟨S1.ap, S1.keep, S1.vals, S1.sgs.app1 _ _ (uop_ok .inv)⟩ (K t2)
theorem tUn_pos (hv : TokAt w keep file line v (Str.ofString "punct") (Str.ofString "+")) (K : ∀ t, Kont w mean mg mb dp un gd outer h₀ L s E QF c dc vl sl tl pl k1 k2 k3 k4 keep I lo r false us xs (ps ++ [Value.str (Uop.pos).word t]) (ts ++ [(Uop.pos).word])) :
    Kont w mean mg mb dp un gd outer h₀ L s E QF c dc vl sl tl pl k1 k2 k3 k4 keep I lo (v :: r) false us xs ps ts :=
  turnB B X T hkeep htl hv fun tok dtok j1 j2 j3 j4 u1 u2 u3 u4 nv ns rest s₁ Q m1 m2 S1 F N1 ret => begUn_pos tok dtok file line j1 j2 j3 j4 u1 u2 u3 u4 B F X N1 T rfl six S1.ap lu (p900 lp) m1 m2 (wk _ hd rfl) (wk _ hu rfl) fun nv2 ns2 t2 h2 tk2 F2 N2 => ret false _ _ _ _ nv2 ns2 _ h2 tk2 F2 N2 (fun _ q => q) ⟨S1.ap, S1.keep, S1.vals, S1.sgs.app1 _ _ (uop_ok .pos)⟩ (K t2)
theorem tNum (k : Num) (hv : TokAt w keep file line v (Str.ofString "number") k.txt) (K : ∀ v', Kont w mean mg mb dp un gd outer h₀ L s E QF c dc vl sl tl pl k1 k2 k3 k4 keep I lo r true (us ++ [v']) (xs ++ [numV k]) ps ts) :
    Kont w mean mg mb dp un gd outer h₀ L s E QF c dc vl sl tl pl k1 k2 k3 k4 keep I lo (v :: r) false us xs ps ts :=
  turnB B X T hkeep htl hv fun tok dtok j1 j2 j3 j4 u1 u2 u3 u4 nv ns rest s₁ Q m1 m2 S1 F N1 ret => begNum k tok dtok file line j1 j2 j3 j4 u1 u2 u3 u4 B F X N1 T rfl SA six S1.ap lu (p900 lp) m1 m2 (wk _ hd rfl) (wk _ hu rfl) fun v2 rest2 nv2 h2 tk2 F2 N2 sub2 ap2 va2 => ret true _ _ _ _ nv2 ns _ h2 tk2 F2 N2 sub2 ⟨ap2, fun p hp => sub2 p (S1.keep p hp), (S1.vals.mono sub2).app (.cons va2 (num_in33 k) .nil), S1.sgs⟩ (K v2)
theorem tClose0 (hv : TokAt w keep file line v (Str.ofString "punct") (Str.ofString ")")) (t0 : Tok) (K : Kont w mean mg mb dp un gd outer h₀ L s E QF c dc vl sl tl pl k1 k2 k3 k4 keep I lo r true us xs ps ts) :
    Kont w mean mg mb dp un gd outer h₀ L s E QF c dc vl sl tl pl k1 k2 k3 k4 keep I lo (v :: r) true us xs (ps ++ [Value.str (Str.ofString "(") t0]) (ts ++ [Str.ofString "("]) :=
  turnG B X T hkeep htl hv fun tok dtok j1 j2 j3 j4 u1 u2 u3 u4 nv ns rest s₁ Q m1 m2 S1 F N1 ret => goClose0 tok dtok file line j1 j2 j3 j4 u1 u2 u3 u4 t0 (ts ++ [Str.ofString "("]) B F X N1 T rfl six S1.ap lu (p900 lp) m1 m2 S1.sgs (wk _ hd rfl) (wk _ hu rfl) fun nv2 ns2 t2 h2 tk2 F2 N2 => ret true _ _ _ _ nv2 ns2 _ h2 tk2 F2 N2 (fun _ q => q) ⟨S1.ap, S1.keep, S1.vals, S1.sgs.pre⟩ K
theorem tColon (hv : TokAt w keep file line v (Str.ofString "punct") (Str.ofString ":")) (t0 : Tok) (K : ∀ t, Kont w mean mg mb dp un gd outer h₀ L s E QF c dc vl sl tl pl k1 k2 k3 k4 keep I lo r false us xs (ps ++ [Value.str (Str.ofString ":") t]) (ts ++ [Str.ofString ":"])) :
    Kont w mean mg mb dp un gd outer h₀ L s E QF c dc vl sl tl pl k1 k2 k3 k4 keep I lo (v :: r) true us xs (ps ++ [Value.str (Str.ofString "?") t0]) (ts ++ [Str.ofString "?"]) :=
  turnG B X T hkeep htl hv fun tok dtok j1 j2 j3 j4 u1 u2 u3 u4 nv ns rest s₁ Q m1 m2 S1 F N1 ret => goColon tok dtok file line j1 j2 j3 j4 u1 u2 u3 u4 t0 (ts ++ [Str.ofString "?"]) B F X N1 T rfl six S1.ap lu (p900 lp) m1 m2 S1.sgs (wk _ hd rfl) (wk _ hu rfl) fun nv2 ns2 t2 h2 tk2 F2 N2 => ret false _ _ _ _ nv2 ns2 _ h2 tk2 F2 N2 (fun _ q => q) ⟨S1.ap, S1.keep, S1.vals, S1.sgs.pre.app1 _ _ (by decide +kernel)⟩ (K t2)
theorem tQuest0 (hv : TokAt w keep file line v (Str.ofString "punct") (Str.ofString "?")) (K : ∀ t, Kont w mean mg mb dp un gd outer h₀ L s E QF c dc vl sl tl pl k1 k2 k3 k4 keep I lo r false us xs ([] ++ [Value.str (Str.ofString "?") t]) ([] ++ [Str.ofString "?"])) :
    Kont w mean mg mb dp un gd outer h₀ L s E QF c dc vl sl tl pl k1 k2 k3 k4 keep I lo (v :: r) true us xs [] [] :=
  turnG B X T hkeep htl hv fun tok dtok j1 j2 j3 j4 u1 u2 u3 u4 nv ns rest s₁ Q m1 m2 S1 F N1 ret => goQuest0 (ps := []) tok dtok file line j1 j2 j3 j4 u1 u2 u3 u4 0 [] B F X N1 T rfl six S1.ap lu (by decide) m1 m2 (wk _ hd rfl) (wk _ hu rfl) fun nv2 ns2 t2 h2 tk2 F2 N2 => ret false _ _ _ _ nv2 ns2 _ h2 tk2 F2 N2 (fun _ q => q) ⟨S1.ap, S1.keep, S1.vals, S1.sgs.app1 _ _ (by decide +kernel)⟩ (K t2)
theorem tQuest1 (hv : TokAt w keep file line v (Str.ofString "punct") (Str.ofString "?")) (t0 : Tok) (K : ∀ t, Kont w mean mg mb dp un gd outer h₀ L s E QF c dc vl sl tl pl k1 k2 k3 k4 keep I lo r false us xs ((ps ++ [Value.str (Str.ofString "(") t0]) ++ [Value.str (Str.ofString "?") t]) ((ts ++ [Str.ofString "("]) ++ [Str.ofString "?"])) :
    Kont w mean mg mb dp un gd outer h₀ L s E QF c dc vl sl tl pl k1 k2 k3 k4 keep I lo (v :: r) true us xs (ps ++ [Value.str (Str.ofString "(") t0]) (ts ++ [Str.ofString "("]) :=
  turnG B X T hkeep htl hv fun tok dtok j1 j2 j3 j4 u1 u2 u3 u4 nv ns rest s₁ Q m1 m2 S1 F N1 ret => goQuest1 tok dtok file line j1 j2 j3 j4 u1 u2 u3 u4 t0 (ts ++ [Str.ofString "("]) B F X N1 T rfl six S1.ap lu (p900 lp) m1 m2 S1.sgs (wk _ hd rfl) (wk _ hu rfl) fun nv2 ns2 t2 h2 tk2 F2 N2 => ret false _ _ _ _ nv2 ns2 _ h2 tk2 F2 N2 (fun _ q => q) ⟨S1.ap, S1.keep, S1.vals, S1.sgs.app1 _ _ (by decide +kernel)⟩ (K t2)
theorem tBin0 (o : Bop) (hv : TokAt w keep file line v (Str.ofString "punct") o.txt) (K : ∀ t, Kont w mean mg mb dp un gd outer h₀ L s E QF c dc vl sl tl pl k1 k2 k3 k4 keep I lo r false us xs ([] ++ [Value.str o.txt t]) ([] ++ [o.txt])) :
    Kont w mean mg mb dp un gd outer h₀ L s E QF c dc vl sl tl pl k1 k2 k3 k4 keep I lo (v :: r) true us xs [] [] :=
  turnG B X T hkeep htl hv fun tok dtok j1 j2 j3 j4 u1 u2 u3 u4 nv ns rest s₁ Q m1 m2 S1 F N1 ret => goBin0 (ps := []) tok dtok file line j1 j2 j3 j4 u1 u2 u3 u4 0 [] o B F X N1 T rfl six S1.ap lu (by decide) m1 m2 (wk _ hd rfl) (wk _ hu rfl) fun nv2 ns2 t2 h2 tk2 F2 N2 => ret false _ _ _ _ nv2 ns2 _ h2 tk2 F2 N2 (fun _ q => q) ⟨S1.ap, S1.keep, S1.vals, S1.sgs.app1 _ _ (bop_ok o)⟩ (K t2)
theorem tBin1 (o : Bop) (hv : TokAt w keep file line v (Str.ofString "punct") o.txt) (t0 : Tok) (K : ∀ t, Kont w mean mg mb dp un gd outer h₀ L s E QF c dc vl sl tl pl k1 k2 k3 k4 keep I lo r false us xs ((ps ++ [Value.str (Str.ofString "(") t0]) ++ [Value.str o.txt t]) ((ts ++ [Str.ofString "("]) ++ [o.txt])) :
    Kont w mean mg mb dp un gd outer h₀ L s E QF c dc vl sl tl pl k1 k2 k3 k4 keep I lo (v :: r) true us xs (ps ++ [Value.str (Str.ofString "(") t0]) (ts ++ [Str.ofString "("]) :=
  turnG B X T hkeep htl hv fun tok dtok j1 j2 j3 j4 u1 u2 u3 u4 nv ns rest s₁ Q m1 m2 S1 F N1 ret => goBin1 tok dtok file line j1 j2 j3 j4 u1 u2 u3 u4 t0 (ts ++ [Str.ofString "("]) o B F X N1 T rfl six S1.ap lu (p900 lp) m1 m2 S1.sgs (wk _ hd rfl) (wk _ hu rfl) fun nv2 ns2 t2 h2 tk2 F2 N2 => ret false _ _ _ _ nv2 ns2 _ h2 tk2 F2 N2 (fun _ q => q) ⟨S1.ap, S1.keep, S1.vals, S1.sgs.app1 _ _ (bop_ok o)⟩ (K t2)
theorem tClose1 (hv : TokAt w keep file line v (Str.ofString "punct") (Str.ofString ")")) (t0 t3 : Tok) (p : Pend) (args : List Value) (ys : List V) (la : us.length = xs.length) (ln : ys.length = p.ar) (K : ∀ v', Kont w mean mg mb dp un gd outer h₀ L s E QF c dc vl sl tl pl k1 k2 k3 k4 keep I lo r true (us ++ [v']) (xs ++ [p.run ys]) ps ts) :
    Kont w mean mg mb dp un gd outer h₀ L s E QF c dc vl sl tl pl k1 k2 k3 k4 keep I lo (v :: r) true (us ++ args) (xs ++ ys) ((ps ++ [Value.str (Str.ofString "(") t0]) ++ [Value.str p.word t3]) ((ts ++ [Str.ofString "("]) ++ [p.word]) :=
  turnG B X T hkeep htl hv fun tok dtok j1 j2 j3 j4 u1 u2 u3 u4 nv ns rest s₁ Q m1 m2 S1 F N1 ret => have va1 := S1.vals.split la; goClose1 tok dtok file line j1 j2 j3 j4 u1 u2 u3 u4 t0 t3 (ts ++ [Str.ofString "("]) p args ys B F X N1 T rfl six S1.ap lu (p900 lp) m1 m2 S1.sgs S1.sgs.pre (q900 lp) va1.2 ln (wk _ hd rfl) (wk _ hu rfl) fun v2 rest2 nv2 ns2 h2 tk2 F2 N2 sub2 ap2 va2 => ret true _ _ _ _ nv2 ns2 _ h2 tk2 F2 N2 sub2 ⟨ap2, fun p hp => sub2 p (S1.keep p hp), (va1.1.mono sub2).app (.cons va2 (run_in33 p ys va1.2.in33) .nil), S1.sgs.pre.pre⟩ (K v2)
end
end
end
end
section
open PySem PySem.W PyProof.Rows PySem.Calls PySem.Spec
section

inductive Tr where
  | leaf (k : Num) | un (o : Uop) (t : Tr) | bin (o : Bop) (a b : Tr) | cond (a b c : Tr)
noncomputable abbrev pun (x : Str) : Str × Str := (Str.ofString "punct", x)
noncomputable def brk (l : List (Str × Str)) : List (Str × Str) := pun (Str.ofString "(") :: (l ++ [pun (Str.ofString ")")])
noncomputable def Tr.words : Tr → List (Str × Str)
  | .leaf k => [(Str.ofString "number", k.txt)]
  | .un o t => pun o.sign :: brk t.words
  | .bin o a b => brk a.words ++ pun o.txt :: brk b.words
  | .cond a b c => brk a.words ++ pun (Str.ofString "?") :: (brk b.words ++ pun (Str.ofString ":") :: brk c.words)
noncomputable def Tr.val : Tr → V
  | .leaf k => numV k
  | .un o t => oneB o t.val
  | .bin o a b => twoB o a.val b.val
  | .cond a b c => chosenB a.val b.val c.val
noncomputable def Tr.deep : Tr → Nat
  | .leaf _ => 0
  | .un _ t => t.deep + 1
  | .bin _ a b => max a.deep b.deep + 1
  | .cond a b c => max a.deep (max b.deep c.deep) + 1
inductive TokensAt (w : World) (keep : List (Addr × Obj)) (file : Str) (line : Int) : List Value → List (Str × Str) → Prop where
  | nil : TokensAt w keep file line [] []
  | cons {v : Value} {p : Str × Str} {vs : List Value} {ps : List (Str × Str)} : TokAt w keep file line v p.1 p.2 → TokensAt w keep file line vs ps → TokensAt w keep file line (v :: vs) (p :: ps)
theorem TokensAt.split {w : World} {keep : List (Addr × Obj)} {file : Str} {line : Int} : ∀ {l1 l2 : List (Str × Str)} {vs : List Value}, TokensAt w keep file line vs (l1 ++ l2) → ∃ v1 v2, vs = v1 ++ v2 ∧ TokensAt w keep file line v1 l1 ∧ TokensAt w keep file line v2 l2
  | [], _, vs, h => ⟨[], vs, rfl, .nil, h⟩
  | _ :: _, _, _, .cons a b => by
    obtain ⟨v1, v2, rfl, h1, h2⟩ := TokensAt.split b
    exact ⟨_ :: v1, v2, rfl, .cons a h1, h2⟩
noncomputable def Opener (ps : List Value) (ts : List Str) : Prop := (ps = [] ∧ ts = []) ∨ ∃ p0 t0 s0, ps = p0 ++ [Value.str (Str.ofString "(") t0] ∧ ts = s0 ++ [Str.ofString "("]
section
variable {w : World} {mean : ExcName → Option Value} {mg mb : Str → Option Value} {dp un : Nat} {gd : Option (List Code)} {cn : Str} {cs : Scope} {a : Addr} {ccd : Value} {cl : List (Str × Addr)} {outer : List Env} {A₀ : Around} {base h₀ : Heap} {L : Addr} {news : List (Addr × Obj)} {s : Shared} {Q E : Value → Shared → Prop}
variable {c dc vl sl tl pl : Addr} {k1 k2 k3 k4 : Tok} {nv ns : Nat} {rest : List (Addr × Obj)} {us ps : List Value}
variable {keep : List (Addr × Obj)} {I : Addr} {lo : Obj} {QF : Flow → Shared → Prop} {file : Str} {line : Int}

theorem tBin (B : Below A₀ base outer h₀) (X : (KQ w.params).In h₀) (T : Top viewQ looseQ mean mg mb h₀) (SA : SetsAt w h₀) (six : Six c dc vl sl) (hkeep : ∀ p ∈ keep, p.2.cls ≠ .type "list_iterator") (htl : (tl, lo) ∈ keep) (hd : dp + 100 < recursionLimit) (hu : un + 1500 < cLine) {us : List Value} {xs : List V} {ps : List Value} {ts : List Str} {r : List Value} {v : Value} (lu : us.length < 900) (lp : ps.length < 890) (op : Opener ps ts) (o : Bop) (hv : TokAt w keep file line v (Str.ofString "punct") o.txt)
    (K : ∀ t, Kont w mean mg mb dp un gd outer h₀ L s E QF c dc vl sl tl pl k1 k2 k3 k4 keep I lo r false us xs (ps ++ [Value.str o.txt t]) (ts ++ [o.txt])) : Kont w mean mg mb dp un gd outer h₀ L s E QF c dc vl sl tl pl k1 k2 k3 k4 keep I lo (v :: r) true us xs ps ts := by
  rcases op with ⟨rfl, rfl⟩ | ⟨p0, t0, s0, rfl, rfl⟩
  · exact tBin0 (ps := []) B X T SA six hkeep htl hd hu lu lp o hv K
  · exact tBin1 B X T SA six hkeep htl hd hu lu (by rw [List.length_append] at lp; exact Nat.lt_of_le_of_lt (Nat.le_add_right _ _) lp) o hv t0 K
theorem tQuest (B : Below A₀ base outer h₀) (X : (KQ w.params).In h₀) (T : Top viewQ looseQ mean mg mb h₀) (SA : SetsAt w h₀) (six : Six c dc vl sl) (hkeep : ∀ p ∈ keep, p.2.cls ≠ .type "list_iterator") (htl : (tl, lo) ∈ keep) (hd : dp + 100 < recursionLimit) (hu : un + 1500 < cLine) {us : List Value} {xs : List V} {ps : List Value} {ts : List Str} {r : List Value} {v : Value} (lu : us.length < 900) (lp : ps.length < 890) (op : Opener ps ts) (hv : TokAt w keep file line v (Str.ofString "punct") (Str.ofString "?"))
    (K : ∀ t, Kont w mean mg mb dp un gd outer h₀ L s E QF c dc vl sl tl pl k1 k2 k3 k4 keep I lo r false us xs (ps ++ [Value.str (Str.ofString "?") t]) (ts ++ [Str.ofString "?"])) : Kont w mean mg mb dp un gd outer h₀ L s E QF c dc vl sl tl pl k1 k2 k3 k4 keep I lo (v :: r) true us xs ps ts := by
  rcases op with ⟨rfl, rfl⟩ | ⟨p0, t0, s0, rfl, rfl⟩
  · exact tQuest0 (ps := []) B X T SA six hkeep htl hd hu lu lp hv K
  · exact tQuest1 B X T SA six hkeep htl hd hu lu (by rw [List.length_append] at lp; exact Nat.lt_of_le_of_lt (Nat.le_add_right _ _) lp) hv t0 K
theorem tUn (B : Below A₀ base outer h₀) (X : (KQ w.params).In h₀) (T : Top viewQ looseQ mean mg mb h₀) (SA : SetsAt w h₀) (six : Six c dc vl sl) (hkeep : ∀ p ∈ keep, p.2.cls ≠ .type "list_iterator") (htl : (tl, lo) ∈ keep) (hd : dp + 100 < recursionLimit) (hu : un + 1500 < cLine) {us : List Value} {xs : List V} {ps : List Value} {ts : List Str} {r : List Value} {v : Value} (lu : us.length < 900) (lp : ps.length < 890) (o : Uop) (hv : TokAt w keep file line v (Str.ofString "punct") o.sign)
    (K : ∀ t, Kont w mean mg mb dp un gd outer h₀ L s E QF c dc vl sl tl pl k1 k2 k3 k4 keep I lo r false us xs (ps ++ [Value.str o.word t]) (ts ++ [o.word])) : Kont w mean mg mb dp un gd outer h₀ L s E QF c dc vl sl tl pl k1 k2 k3 k4 keep I lo (v :: r) false us xs ps ts := by
  cases o with
  | neg => exact tUn_neg B X T SA six hkeep htl hd hu lu lp hv K
  | not => exact tUn_not B X T SA six hkeep htl hd hu lu lp hv K
  | inv => exact tUn_inv B X T SA six hkeep htl hd hu lu lp hv K
  | pos => exact tUn_pos B X T SA six hkeep htl hd hu lu lp hv K
noncomputable def Eats (w : World) (mean : ExcName → Option Value) (mg mb : Str → Option Value) (dp un : Nat) (gd : Option (List Code)) (outer : List Env) (h₀ : Heap) (L : Addr) (s : Shared) (E : Value → Shared → Prop) (QF : Flow → Shared → Prop) (c dc vl sl tl pl : Addr) (k1 k2 k3 k4 : Tok) (keep : List (Addr × Obj)) (I : Addr) (lo : Obj) (file : Str) (line : Int) (D : Tr) : Prop :=
  ∀ (us : List Value) (xs : List V) (ps : List Value) (ts : List Str) (r toks : List Value), Opener ps ts → TokensAt w keep file line toks D.words → us.length + 8 * D.deep < 800 → ps.length + 8 * D.deep < 800 → us.length = xs.length →
    (∀ v', Kont w mean mg mb dp un gd outer h₀ L s E QF c dc vl sl tl pl k1 k2 k3 k4 keep I lo r true (us ++ [v']) (xs ++ [D.val]) ps ts) →
    (∀ (p : Pend) (args : List Value) (ys : List V) (t3 : Tok), ys.length = p.ar → args.length = ys.length → p.run ys = D.val → Kont w mean mg mb dp un gd outer h₀ L s E QF c dc vl sl tl pl k1 k2 k3 k4 keep I lo r true (us ++ args) (xs ++ ys) (ps ++ [Value.str p.word t3]) (ts ++ [p.word])) →
    Kont w mean mg mb dp un gd outer h₀ L s E QF c dc vl sl tl pl k1 k2 k3 k4 keep I lo (toks ++ r) false us xs ps ts

theorem b0 {l d : Nat} (h : l + 8 * d < 800) : l < 900 := Nat.lt_trans (Nat.lt_of_le_of_lt (Nat.le_add_right _ _) h) (by decide)
theorem b1 {l d : Nat} (h : l + 8 * d < 800) : l < 890 := Nat.lt_trans (Nat.lt_of_le_of_lt (Nat.le_add_right _ _) h) (by decide)
theorem b3 {l d : Nat} (h : l + 8 * d + 3 < 800) : l + 8 * d < 800 := Nat.lt_of_le_of_lt (Nat.le_add_right _ 3) h
theorem len1 {α : Type} {x : α} {l : List α} : (l ++ [x]).length = l.length + 1 := List.length_append
theorem up1 {l k : Nat} (h : l + k + 3 < 800) : l + 1 + k + 2 < 800 := by omega
theorem c0 {l d : Nat} (h : l + 8 * (d + 1) < 800) : l + 8 * d + 3 < 800 := by omega
theorem c0' {l d : Nat} (h : l + 8 * (d + 1) < 800) : l + 1 + 8 * d + 3 < 800 := by omega
theorem c0'' {l d : Nat} (h : l + 8 * (d + 1) < 800) : l + 1 + 1 + 8 * d + 3 < 800 := by omega
theorem le8 {l a b : Nat} (q : a ≤ b) (h : l + 8 * (b + 1) < 800) : l + 8 * (a + 1) < 800 := Nat.lt_of_le_of_lt (Nat.add_le_add_left (Nat.mul_le_mul_left _ (Nat.succ_le_succ q)) _) h
theorem m1 {l a b : Nat} (h : l + 8 * (max a b + 1) < 800) : l + 8 * (a + 1) < 800 := le8 (Nat.le_max_left _ _) h
theorem m2 {l a b : Nat} (h : l + 8 * (max a b + 1) < 800) : l + 8 * (b + 1) < 800 := le8 (Nat.le_max_right _ _) h
theorem app0 {α : Type} {x : α} {l : List α} {d : Nat} (h : l.length + 8 * d + 3 < 800) : (l ++ [x]).length + 8 * d < 800 := by rw [len1]; exact Nat.lt_of_le_of_lt (Nat.le_add_right _ 2) (up1 h)
theorem app1 {α : Type} {x : α} {l : List α} {d : Nat} (h : l.length + 8 * (d + 1) < 800) : (l ++ [x]).length + 8 * d + 3 < 800 := by rw [len1]; exact c0' h
theorem app2 {α : Type} {x y : α} {l : List α} {d : Nat} (h : l.length + 8 * (d + 1) < 800) : (l ++ [x] ++ [y]).length + 8 * d + 3 < 800 := by rw [len1, len1]; exact c0'' h
theorem la1 {α β : Type} {x : α} {y : β} {l : List α} {k : List β} (h : l.length = k.length) : (l ++ [x]).length = (k ++ [y]).length := by rw [len1, len1, h]
theorem bracket (B : Below A₀ base outer h₀) (X : (KQ w.params).In h₀) (T : Top viewQ looseQ mean mg mb h₀) (SA : SetsAt w h₀) (six : Six c dc vl sl) (hkeep : ∀ p ∈ keep, p.2.cls ≠ .type "list_iterator") (htl : (tl, lo) ∈ keep) (hd : dp + 100 < recursionLimit) (hu : un + 1500 < cLine) {D : Tr} (IH : Eats w mean mg mb dp un gd outer h₀ L s E QF c dc vl sl tl pl k1 k2 k3 k4 keep I lo file line D) (us : List Value) (xs : List V) (ps : List Value) (ts : List Str) (r toks : List Value) (hT : TokensAt w keep file line toks (brk D.words)) (lu : us.length + 8 * D.deep + 3 < 800) (lp : ps.length + 8 * D.deep + 3 < 800) (la : us.length = xs.length)
    (K : ∀ v', Kont w mean mg mb dp un gd outer h₀ L s E QF c dc vl sl tl pl k1 k2 k3 k4 keep I lo r true (us ++ [v']) (xs ++ [D.val]) ps ts) : Kont w mean mg mb dp un gd outer h₀ L s E QF c dc vl sl tl pl k1 k2 k3 k4 keep I lo (toks ++ r) false us xs ps ts := by
  unfold brk at hT
  cases hT with
  | cons h1 hT =>
    obtain ⟨ti, tc, rfl, h2, h3⟩ := hT.split
    cases h3 with
    | cons h3 h4 =>
      cases h4
      rw [List.cons_append, List.append_assoc]
      refine tOpen B X T SA six hkeep htl hd hu (b0 (b3 lu)) (b1 (b3 lp)) h1 fun t => ?_
      refine IH us xs _ _ _ ti (.inr ⟨ps, t, ts, rfl, rfl⟩) h2 (b3 lu) (app0 lp) la (fun v' => ?_) fun p args ys t3 h5 h6 h7 => ?_
      · exact tClose0 B X T SA six hkeep htl hd hu (b0 (app0 lu)) (b1 (b3 lp)) h3 t (K v')
      · exact tClose1 B X T SA six hkeep htl hd hu (b0 (b3 lu)) (b1 (b3 lp)) h3 t t3 p args ys la h5 fun v' => h7 ▸ K v'
theorem eats (B : Below A₀ base outer h₀) (X : (KQ w.params).In h₀) (T : Top viewQ looseQ mean mg mb h₀) (SA : SetsAt w h₀) (six : Six c dc vl sl) (hkeep : ∀ p ∈ keep, p.2.cls ≠ .type "list_iterator") (htl : (tl, lo) ∈ keep) (hd : dp + 100 < recursionLimit) (hu : un + 1500 < cLine) : ∀ D : Tr, Eats w mean mg mb dp un gd outer h₀ L s E QF c dc vl sl tl pl k1 k2 k3 k4 keep I lo file line D := by
  intro D
  induction D with
  | leaf k =>
    intro us xs ps ts r toks op hT lu lp la K0 K1
    cases hT with
    | cons h1 h2 =>
      cases h2
      exact tNum B X T SA six hkeep htl hd hu (b0 lu) (b1 lp) k h1 K0
  | un o t ih =>
    intro us xs ps ts r toks op hT lu lp la K0 K1
    have lu : us.length + 8 * (t.deep + 1) < 800 := lu
    have lp : ps.length + 8 * (t.deep + 1) < 800 := lp
    have hT : TokensAt w keep file line toks (pun o.sign :: brk t.words) := hT
    cases hT with
    | cons h1 hT =>
      refine tUn B X T SA six hkeep htl hd hu (b0 lu) (b1 lp) o h1 fun t1 => ?_
      refine bracket B X T SA six hkeep htl hd hu ih us xs _ _ r _ hT (c0 lu) (app1 lp) la fun v' => ?_
      exact K1 (.un o) [v'] [t.val] t1 rfl rfl rfl
  | bin o a b iha ihb =>
    intro us xs ps ts r toks op hT lu lp la K0 K1
    have lu : us.length + 8 * (max a.deep b.deep + 1) < 800 := lu
    have lp : ps.length + 8 * (max a.deep b.deep + 1) < 800 := lp
    have hT : TokensAt w keep file line toks (brk a.words ++ pun o.txt :: brk b.words) := hT
    obtain ⟨ta, tr, rfl, ha, hT⟩ := hT.split
    cases hT with
    | cons h1 hT =>
      rw [List.append_assoc]
      refine bracket B X T SA six hkeep htl hd hu iha us xs ps ts _ ta ha (c0 (m1 lu)) (c0 (m1 lp)) la fun va => ?_
      rw [List.cons_append]
      refine tBin B X T SA six hkeep htl hd hu (b0 (b3 (app1 lu))) (b1 lp) op o h1 fun t1 => ?_
      refine bracket B X T SA six hkeep htl hd hu ihb _ _ _ _ r _ hT (app1 (m2 lu)) (app1 (m2 lp)) (la1 la) fun vb => ?_
      have := K1 (.bin o) [va, vb] [a.val, b.val] t1 rfl rfl rfl
      rw [List.append_assoc, List.append_assoc]
      exact this
  | cond a b c iha ihb ihc =>
    intro us xs ps ts r toks op hT lu lp la K0 K1
    have lu : us.length + 8 * (max a.deep (max b.deep c.deep) + 1) < 800 := lu
    have lp : ps.length + 8 * (max a.deep (max b.deep c.deep) + 1) < 800 := lp
    have hT : TokensAt w keep file line toks (brk a.words ++ pun (Str.ofString "?") :: (brk b.words ++ pun (Str.ofString ":") :: brk c.words)) := hT
    obtain ⟨ta, tr, rfl, ha, hT⟩ := hT.split
    cases hT with
    | cons h1 hT =>
      obtain ⟨tb, tr2, rfl, hb, hT⟩ := hT.split
      cases hT with
      | cons h2 hT =>
        rw [List.append_assoc]
        refine bracket B X T SA six hkeep htl hd hu iha us xs ps ts _ ta ha (c0 (m1 lu)) (c0 (m1 lp)) la fun va => ?_
        rw [List.cons_append, List.append_assoc]
        refine tQuest B X T SA six hkeep htl hd hu (b0 (b3 (app1 lu))) (b1 lp) op h1 fun t1 => ?_
        refine bracket B X T SA six hkeep htl hd hu ihb _ _ _ _ _ tb hb (app1 (m1 (m2 lu))) (app1 (m1 (m2 lp))) (la1 la) fun vb => ?_
        rw [List.cons_append]
        refine tColon B X T SA six hkeep htl hd hu (b0 (b3 (app2 lu))) (b1 lp) h2 t1 fun t2 => ?_
        refine bracket B X T SA six hkeep htl hd hu ihc _ _ _ _ r _ hT (app2 (m2 (m2 lu))) (app1 (m2 (m2 lp))) (la1 (la1 la)) fun vc => ?_
        have := K1 .cond [va, vb, vc] [a.val, b.val, c.val] t2 rfl rfl rfl
        rw [List.append_assoc, List.append_assoc, List.append_assoc, List.append_assoc]
        exact this
end
end
end
section
open PySem PySem.W PyProof.Rows PySem.Calls PySem.Spec
section
noncomputable abbrev tupL (l : List Value) : Obj := { cls := .type "tuple", data := .seq l.toArray }
noncomputable def SrcTup (prog : Program) (w : World) (A : Around) (h₀ : Heap) (L : Addr) (m : Str → Option Value) (env : Env) (elt : PySem.Expr) (x : Str) (scope : Scope) (cl : List (Str × Addr)) (Fin : Shared → List Value → List (Addr × Obj) → Prop) (xv : Value) (s₁ : Shared) : Prop :=
  ∃ ax its news, xv = .ref ax ∧ A.handled = none ∧ Fr h₀ L s₁.heap m ∧ News h₀ L s₁.heap news ∧ (ax, tupL its) ∈ news ∧ its.length ≤ sizeLine ∧
    ∀ g : Heap, LCg.CompRest prog w A h₀ L m env elt x scope cl { s₁ with heap := g } (fun nw => (ax, tupL its) ∈ nw) (fun i v => its[i]? = some v) (Fin { s₁ with heap := g }) its.length 0 [] news
section
variable {prog : Program} {w : World} {A : Around} {E : Value → Shared → Prop} {s : Shared} {h₀ : Heap} {L : Addr} {m : Str → Option Value} {env : Env}
theorem Assign_ListComp_T {elt iter : PySem.Expr} {x y : Str} {px py : Pos} {scope : Scope} {cl : List (Str × Addr)} {pos spos : Pos} {Q : Flow → Shared → Prop} (F₀ : Fr h₀ L s.heap m) (hLe : env.locals = L)
    (hsw : swapsWith (.ListComp elt [⟨.Name x px, iter, [], 0⟩] scope pos) (some (.Name y py)) spos.line env = pure true)
    (hclos : closureFor scope env = pure cl) (hcell : ∀ z ∈ scope.names, z.2 ≠ .cell) (hkind : scope.kind = .function)
    (hnames : ∀ z ∈ scope.names, z.2 = .local → scope.names.lookup z.1 = some .local) (hx : scope.names.lookup x = some .local)
    (hy : env.kindOf y = some .local) (hp : (env.scope.kind == .class || (env.scope.kind == .module && env.locals != env.globals)) = false)
    (h : wpAny (model prog w) A (eval iter env) (SrcTup prog w A h₀ L m env elt x scope cl (fun s₂ => LCg.FinA h₀ L m s₂ y Q)) E s)
    (hs : ∀ x, foldedSetIterable iter env x = pure x) :
    wpAny (model prog w) A (exec (.Assign [.Name y py] (.ListComp elt [⟨.Name x px, iter, [], 0⟩] scope pos) spos) env) Q E s := by
  subst hLe
  rw [exec_Assign_Name_used _ _ _ _ hsw]
  refine wpAny_bind (wpAny_standAt (wpAny_bind ?_))
  show wpAny _ A (do let _ ← comprehension (.ListComp elt [⟨.Name x px, iter, [], 0⟩] scope pos) scope env _ (newList []) false (eval iter env) (some (assign (.Name y py) env))) _ _ s
  refine wpAny_bind (wpAny_mono (wpAny_comprehension_free (use := some (assign (.Name y py) env)) (Q := fun _ s' => Q .next s') rfl hs hclos hkind hnames
    (wpAny_mono h (fun xv s₁ h₁ => ?_) fun _ _ e => e)) (fun _ s' hq => wpAny_pure (wpAny_pure hq)) fun _ _ e => e)
  obtain ⟨ax, its, news, rfl, hh, F, N, hmem, hsz, R⟩ := h₁
  have hl : s₁.heap.IsTuple ax its.toArray := ⟨_, (N _ hmem).1, rfl, _, rfl⟩
  have hlt : ax < s₁.heap.objs.size := Heap.lt_size (N _ hmem).1
  have e1 : its.length = its.toArray.size := (List.size_toArray ..).symm
  refine wpAny_pyIter_tuple hl ?_
  have up : ∀ b o, s₁.heap.get? b = some o → (s₁.heap.push { cls := .type "tuple_iterator", data := .fields #[.ref ax, .int 0 0] }).get? b = some o := fun b o e => Heap.get?_push_of_some _ e
  have W := Walks.tuple (prog := prog) (w := w) hh s₁.heap.objs.size ax (Nat.ne_of_lt hlt) its.toArray
  rw [← e1] at W
  refine LCg.block_U (P := fun i v => its[i]? = some v) (S := fun nw => (ax, tupL its) ∈ nw) { sub := W.sub, frame := W.frame, done := W.done, self := W.self, item := fun i s Q E hi st hQ => W.item i s Q E hi st fun v h' tk hP => hQ v h' tk (by simpa using hP) } hsz (fun i h st => by obtain ⟨o, e, _⟩ := st.1; exact ⟨o, e⟩)
    (fun i h h' o nw st e e' k N' S => ⟨by obtain ⟨o', q, r⟩ := st.1; rw [e] at q; cases q; exact ⟨o, e', r⟩, ⟨_, (N' _ S).1, rfl, _, rfl⟩⟩) hcell hkind hx ⟨⟨_, Heap.get?_push_size _ rfl, rfl, rfl⟩, hl.push _⟩ (fun b hb => ?_)
    (F.keeps up) (N.grown up) (Nat.ne_of_lt F.ns.lt) (next_is_new F) (fun p hp => Nat.ne_of_lt (Heap.lt_size (N p hp).1)) hmem (R _) ?_
  · show b < (s₁.heap.push _).objs.size
    rw [Heap.size_push]
    rcases List.mem_cons.mp hb with rfl | hb
    · exact Nat.lt_succ_self _
    · rw [List.mem_singleton.mp hb]; exact Nat.lt_succ_of_lt hlt
  · intro D C h' tk m' ys news' F' N' o1 hn hC₀ hD₀ hCL hDL hCD offC fin
    show wpAny _ A (assign (.Name y py) env (.ref D)) _ _ _
    refine wpAny_assign_Name (wpAny_storeName_local hy F'.ns (fun h₂ hn₂ hs₂ => ?_) hp)
    have hL₀ : h₀.get? env.locals = none := Heap.get?_none_of_le F'.above
    have F₂ : Fr h₀ env.locals h₂ (fun z => if z = y then some (.ref D) else m z) := ⟨hn₂, fun b o e => hs₂.extBut b o (fun q => by rw [q, hL₀] at e; cases e) (F'.keep b o e), F'.above⟩
    refine ⟨m', hn.sameBut hs₂ hCL, fun h'' hs'' => fin D h'' _ (F₂.change hs'' hCL hC₀) (fun p hp => ?_) o1⟩
    have z : h₂.get? p.1 = some p.2 := hs₂.extBut _ _ (N' p hp).2.1 (N' p hp).1
    refine ⟨hs''.extBut _ _ ?_ z, (N' p hp).2⟩
    rcases List.mem_cons.mp hp with rfl | hp
    · exact Ne.symm hCD
    · exact offC p hp
end
noncomputable def ElemTo (h₀ : Heap) (L : Addr) (m : Str → Option Value) (s₁ : Shared) (news : List (Addr × Obj)) (R : Obj → Prop) (y : Value) (s₂ : Shared) : Prop :=
  ∃ l o h' tk, y = .ref l ∧ s₂ = { s₁ with heap := h', toks := tk } ∧ Fr h₀ L h' m ∧ News h₀ L h' ((l, o) :: news) ∧ (∀ p ∈ news, p.1 ≠ l) ∧ R o
theorem compStep {prog : Program} {w : World} {A : Around} {h₀ : Heap} {L : Addr} {m : Str → Option Value} {env : Env} {elt : PySem.Expr} {x : Str} {scope : Scope} {cl : List (Str × Addr)} {s : Shared} {ax : Addr} {its : List Value} {Fin : List Value → List (Addr × Obj) → Prop} {k i : Nat} {ys : List Value} {news : List (Addr × Obj)} {v : Value} {R : Obj → Prop}
    (hv : its[i]? = some v) (hax : (ax, tupL its) ∈ news)
    (elem : ∀ (I C D : Addr) (oI oC : Obj) (m₂ : Str → Option Value) (s₁ : Shared) (E' : Value → Shared → Prop), LCg.NsObj oC m₂ → m₂ x = some v → Fr h₀ L s₁.heap m → News h₀ L s₁.heap ((I, oI) :: (C, oC) :: (D, LCg.lst ys) :: news) →
      wpAny (model prog w) A (eval elt (compEnvC scope cl C env)) (ElemTo h₀ L m s₁ ((I, oI) :: (C, oC) :: (D, LCg.lst ys) :: news) R) E' s₁)
    (next : ∀ l o, R o → (∀ p ∈ news, p.1 ≠ l) → LCg.CompRest prog w A h₀ L m env elt x scope cl s (fun nw => (ax, tupL its) ∈ nw) (fun i v => its[i]? = some v) Fin k (i + 1) (ys ++ [.ref l]) ((l, o) :: news)) :
    LCg.CompRest prog w A h₀ L m env elt x scope cl s (fun nw => (ax, tupL its) ∈ nw) (fun i v => its[i]? = some v) Fin (k + 1) i ys news := by
  refine LCg.CompRest.succ fun v' I oI C oC D m₂ h tk E' hP hC hx F N off ne => ?_
  obtain rfl : v = v' := Option.some.inj (hv.symm.trans hP)
  refine wpAny_mono (elem I C D oI oC m₂ { s with heap := h, toks := tk } E' hC hx F N) (fun y s₂ h₁ => ?_) fun _ _ e => e
  obtain ⟨l, o, h', tk', rfl, rfl, F', N', fr, hR⟩ := h₁
  refine LCg.CompEnd.intro F' N' ((l, o) :: news) (fun p hp => ?_) ⟨⟨?_, ?_, ?_⟩, off⟩ (.tail _ hax) (next l o hR fun p hp => fr p (.tail _ (.tail _ (.tail _ hp))))
  · simp only [List.mem_cons] at hp ⊢
    rcases hp with h | h | h | h | h <;> simp [h]
  · exact (fr _ (.head _)).symm
  · exact (fr _ (.tail _ (.head _))).symm
  · exact (fr _ (.tail _ (.tail _ (.head _)))).symm
end
end
section
open PySem PySem.W PyProof.Rows PySem.Calls PySem.Spec
section

noncomputable def cEl : List Stmt → PySem.Expr
  | _ :: .Assign _ (.ListComp e _ _ _) _ :: _ => e
  | _ => .Constant .none 0 ⟨0, 0, 0, 0⟩
noncomputable def cSc : List Stmt → Scope
  | _ :: .Assign _ (.ListComp _ _ sc _) _ :: _ => sc
  | _ => PySem.Challenge.pw_on0057_01.main.scope
inductive TreeAt (news : List (Addr × Obj)) : Value → Tr → Prop where
  | leaf (k : Num) (t : Tok) : TreeAt news (.str k.txt t) (.leaf k)
  | un {D : Addr} {o : Uop} {t1 : Tok} {v : Value} {T : Tr} : (D, tupL [.str o.sign t1, v]) ∈ news → TreeAt news v T → TreeAt news (.ref D) (.un o T)
  | bin {D : Addr} {o : Bop} {t1 : Tok} {v1 v2 : Value} {T1 T2 : Tr} : (D, tupL [.str o.txt t1, v1, v2]) ∈ news → TreeAt news v1 T1 → TreeAt news v2 T2 → TreeAt news (.ref D) (.bin o T1 T2)
  | cond {D : Addr} {t1 : Tok} {v1 v2 v3 : Value} {T1 T2 T3 : Tr} : (D, tupL [.str (Str.ofString "?") t1, v1, v2, v3]) ∈ news → TreeAt news v1 T1 → TreeAt news v2 T2 → TreeAt news v3 T3 → TreeAt news (.ref D) (.cond T1 T2 T3)
  | lack : TreeAt news (.ref 298) (.bin .div (.leaf .a1) (.leaf .a0))
theorem TreeAt.mono {n1 n2 : List (Addr × Obj)} {v : Value} {T : Tr} (h : TreeAt n1 v T) (hs : ∀ p ∈ n1, p ∈ n2) : TreeAt n2 v T := by
  induction h with
  | leaf k t => exact .leaf k t
  | un a _ i => exact .un (hs _ a) i
  | bin a _ _ i j => exact .bin (hs _ a) i j
  | cond a _ _ _ i j k => exact .cond (hs _ a) i j k
  | lack => exact .lack
noncomputable def Tr.texts (D : Tr) : List Str := D.words.map (·.2)
theorem texts_leaf (k : Num) : (Tr.leaf k).texts = [k.txt] := rfl
theorem texts_un (o : Uop) (t : Tr) : (Tr.un o t).texts = o.sign :: (Str.ofString "(" :: (t.texts ++ [Str.ofString ")"])) := by
  simp [Tr.texts, Tr.words, brk, pun]
theorem texts_bin (o : Bop) (a b : Tr) : (Tr.bin o a b).texts = (Str.ofString "(" :: (a.texts ++ [Str.ofString ")"])) ++ [o.txt] ++ (Str.ofString "(" :: (b.texts ++ [Str.ofString ")"])) := by
  simp [Tr.texts, Tr.words, brk, pun]
theorem texts_cond (a b c : Tr) : (Tr.cond a b c).texts = (Str.ofString "(" :: (a.texts ++ [Str.ofString ")"])) ++ [Str.ofString "?"] ++ (Str.ofString "(" :: (b.texts ++ [Str.ofString ")"])) ++ ([Str.ofString ":"] ++ (Str.ofString "(" :: (c.texts ++ [Str.ofString ")"]))) := by
  simp [Tr.texts, Tr.words, brk, pun]
theorem catL {prog : Program} {w : World} {A : Around} {h₀ : Heap} {L : Addr} {m : Str → Option Value} {news : List (Addr × Obj)} {s : Shared} {Q E : Value → Shared → Prop} {l1 l2 : Addr} {ws1 ws2 : List Value} {n1 n2 : Nat} {t1 t2 : List Str} (F : Fr h₀ L s.heap m) (N : News h₀ L s.heap news) (ha : (l1, listOf ws1.toArray n1) ∈ news) (hb : (l2, listOf ws2.toArray n2) ∈ news) (x : StrsAre ws1 t1) (y : StrsAre ws2 t2) (hz : t1.length + t2.length ≤ 4000)
    (h : ∀ (l : Addr) (ws : List Value) (n : Nat) (h' : Heap), StrsAre ws (t1 ++ t2) → Fr h₀ L h' m → News h₀ L h' ((l, listOf ws.toArray n) :: news) → (∀ p ∈ news, p.1 ≠ l) → Q (.ref l) { s with heap := h' }) :
    wpAny (model prog w) A (binaryOp .Add (.ref l1) (.ref l2)) Q E s := by
  refine add_lists (vs := ws1) (ws := ws2) (hsz := ?_) F N (N.isList ha) (N.isList hb) fun h' F' N' => h _ _ _ _ (x.append' y) F' N' fun p hp => Nat.ne_of_lt (Heap.lt_size (N p hp).1)
  rw [x.length, y.length, PySem.sizeLine_eq]
  exact Nat.le_trans hz (by decide)
noncomputable abbrev WRet (h₀ : Heap) (L : Addr) (m : Str → Option Value) (s : Shared) (news : List (Addr × Obj)) (ts : List Str) (Q : Value → Shared → Prop) : Prop :=
  ∀ (l : Addr) (ws : List Value) (n : Nat) (h' : Heap) (tk' : Nat), Fr h₀ L h' m → News h₀ L h' ((l, listOf ws.toArray n) :: news) → (∀ p ∈ news, p.1 ≠ l) → StrsAre ws ts → Q (.ref l) { s with heap := h', toks := tk' }
noncomputable def WordsTell (w : World) (D : Tr) : Prop :=
  ∀ {mean : ExcName → Option Value} {mg mb : Str → Option Value} {dp un : Nat} {gd : Option (List Code)} {cn : Str} {cs : Scope} {a : Addr} {ccd : Value} {cl : List (Str × Addr)} {outer : List Env} {A₀ : Around} {base h₀ : Heap} {L : Addr} {m : Str → Option Value} {news : List (Addr × Obj)} {s : Shared} {Q E : Value → Shared → Prop} (v : Value), Below A₀ base outer h₀ → Fr h₀ L s.heap m → (KQ w.params).In h₀ → News h₀ L s.heap news → Top viewQ looseQ mean mg mb h₀ → cs.kind = .function → TreeAt news v D → D.texts.length < 1000 →
    dp + 10 * D.deep + 20 < recursionLimit → un + 200 * D.deep + 300 < cLine → WRet h₀ L m s news D.texts Q →
    wpAny (MQ w) (ktrTop dp un gd cn cs L a ccd cl outer) (call (.ref 324) [v]) Q E s
section
variable {w : World} {mean : ExcName → Option Value} {mg mb : Str → Option Value} {dp un : Nat} {gd : Option (List Code)} {cn : Str} {cs : Scope} {a : Addr} {ccd : Value} {cl : List (Str × Addr)} {outer : List Env} {A₀ : Around} {base h₀ : Heap} {L : Addr} {m : Str → Option Value} {news : List (Addr × Obj)} {s : Shared} {Q E : Value → Shared → Prop}

theorem wordsUse {D : Tr} {v : Value} (W : WordsTell w D) (B : Below A₀ base outer h₀) (F : Fr h₀ L s.heap m) (X : (KQ w.params).In h₀) (N : News h₀ L s.heap news) (T : Top viewQ looseQ mean mg mb h₀) (hk : cs.kind = .function) (ht : TreeAt news v D) (hw : D.texts.length < 1000)
    (hd : dp + 10 * D.deep + 20 < recursionLimit) (hu : un + 200 * D.deep + 300 < cLine) (ret : WRet h₀ L m s news D.texts Q) : wpAny (MQ w) (ktrTop dp un gd cn cs L a ccd cl outer) (call (.ref 324) [v]) Q E s :=
  W v B F X N T hk ht hw hd hu ret
end
section
variable {w : World} {mean : ExcName → Option Value} {mg mb : Str → Option Value} {dp un : Nat} {gd : Option (List Code)} {cn : Str} {cs : Scope} {a : Addr} {ccd : Value} {cl : List (Str × Addr)} {outer : List Env} {A₀ : Around} {base h₀ : Heap} {L : Addr} {m : Str → Option Value} {news : List (Addr × Obj)} {s : Shared} {Q E : Value → Shared → Prop}
theorem kw59 : True := by
  (k_with "eval Call" => ((with_reducible show wpAny _ _ (eval (Expr.Call (Expr.Name _ _) _ [] _) _) _ _ _); k_dflt (refine Call_ ?_)))
  (k_with "exec Assign cons ListComp" => (k_dflt (refine Assign_ListComp_T (F₀ := by k_asm) (by rfl) (by with_unfolding_all rfl) (by rfl) (by decide) (by rfl) (by decide) (by rfl) (by rfl) (by rfl) ?_ (by intro _; rfl))))
  (k_with "subscriptTail" => ((with_reducible show wpAny _ _ (subscriptTail _ (PySem.Expr.Slice _ _ _ _) (Value.ref _) (Value.ref _)) _ _ _); k_dflt (refine slice_tuple_from (a := 1) (by k_asm) (by k_asm) (News.isTup (by k_asm) (by k_mem)) (by decide) ?_ ?_)))
  (k_with "binaryOp Add ref ref" => ((with_reducible show wpAny _ _ (binaryOp PySem.Operator.Add (Value.ref _) (Value.ref _)) _ _ _); k_dflt (refine' catL (by k_asm) (by k_asm) (by k_mem) (by k_mem) (by first | assumption | exact StrsAre.nil | exact StrsAre.cons _ _ StrsAre.nil) (by first | assumption | exact StrsAre.cons _ _ StrsAre.nil | exact StrsAre.nil) (by (simp only [List.length_append, List.length_cons, List.length_nil]; omega)) ?_; intro l' ws' n' h' hs' F' N' hf')))
  (k_with "call ref" => ((k_dflt (show wpAny _ _ (call (Value.ref 324) [_]) _ _ _)); k_dflt (refine' wordsUse (by assumption) (by k_asm) (by k_asm) (by k_asm) (by k_asm) (by k_asm) (by first | exact rfl | assumption) (by first | assumption | (exact TreeAt.mono (by assumption) (by intro p hp; simp only [List.mem_cons, hp, or_true, true_or]))) (by assumption) (by ktr_room) (by ktr_units) ?_; k_whole; intro l' ws' n' h' tk' F' N' hf' hs'); (try dsimp only); (try k_fold)))
  trivial
theorem wordsElem {C I P : Addr} {oI oC oP : Obj} {m₂ : Str → Option Value} {s₁ : Shared} {v : Value} {D : Tr} {E' : Value → Shared → Prop} (W : WordsTell w D) (B : Below A₀ base outer h₀) (X : (KQ w.params).In h₀) (T : Top viewQ looseQ mean mg mb h₀)
    (hC : LCg.NsObj oC m₂) (hx : m₂ (Str.ofString "part") = some v) (F : Fr h₀ L s₁.heap m) (N : News h₀ L s₁.heap ((I, oI) :: (C, oC) :: (P, oP) :: news)) (ht : TreeAt news v D) (hw : D.texts.length < 1000)
    (hd : dp + 10 * D.deep + 25 < recursionLimit) (hu : un + 200 * D.deep + 350 < cLine) :
    wpAny (MQ w) (ktrTop dp un gd (Str.ofString "_law_words") (pS (Mine.D 38)) L 324 (Value.ref 323) [] outer) (eval (cEl (pB (Mine.D 38))) (compEnvC (cSc (pB (Mine.D 38))) [] C (envOf (Str.ofString "_law_words") (pS (Mine.D 38)) L 324 (Value.ref 323)))) (ElemTo h₀ L m s₁ ((I, oI) :: (C, oC) :: (P, oP) :: news) (fun o => ∃ ws n, o = listOf ws.toArray n ∧ StrsAre ws (Str.ofString "(" :: (D.texts ++ [Str.ofString ")"])))) E' s₁ := by
  k_dflt (show wpAny _ _ (eval (PySem.Expr.BinOp (PySem.Expr.BinOp _ _ _ _) _ _ _) _) _ _ _)
  k_steps
  all_goals (refine ⟨_, _, _, _, rfl, rfl, by assumption, vdrop1 (by assumption) (show ∀ r ∈ _, _ from fun p hp => ?_), fun p hp => (by assumption : ∀ q ∈ _, q.1 ≠ _) p ?_, ⟨_, _, rfl, by assumption⟩⟩)
  all_goals (simp only [List.mem_cons, hp, or_true, true_or])
end
end
end
section
open PySem PySem.W PyProof.Rows PySem.Calls PySem.Spec
section
theorem kw60 : True := by
  k_with_none
  trivial
theorem fm0 (a : Int) {b : Int} (h : 0 < b) : 0 ≤ a.fmod b := by rw [Int.fmod_eq_emod_of_nonneg _ (Int.le_of_lt h)]; exact Int.emod_nonneg _ (by omega)
theorem fm1 (a : Int) {b : Int} (h : 0 < b) : a.fmod b < b := by rw [Int.fmod_eq_emod_of_nonneg _ (Int.le_of_lt h)]; exact Int.emod_lt_of_pos _ h
noncomputable def ApOk (wl : Addr) (news : List (Addr × Obj)) : Prop := ∀ p ∈ news, p.1 ≠ wl ∧ p.2.cls ≠ .type "list_iterator"
noncomputable def Cells (cells : List Value) : Prop := ∃ zs : List Int, IntsAre cells zs ∧ (∀ z ∈ zs, 0 ≤ z ∧ z < 2147483647) ∧ zs.length ≤ 60
theorem Cells.len {cells : List Value} (c : Cells cells) : cells.length ≤ 60 := by
  obtain ⟨zs, h, _, l⟩ := c
  rw [h.length]; exact l
theorem ints_get : ∀ {vs : List Value} {zs : List Int} {i : Nat}, IntsAre vs zs → (hi : i < zs.length) → ∃ t, vs[i]? = some (.int zs[i] t)
  | _, _, 0, .cons n t _, _ => ⟨t, rfl⟩
  | _, _, i + 1, .cons n t h, hi => by
    obtain ⟨t', e⟩ := ints_get h (Nat.lt_of_succ_lt_succ hi)
    exact ⟨t', e⟩
theorem Cells.item {cells : List Value} {k : Int} (c : Cells cells) (h0 : 0 ≤ k) (h1 : k < (cells.length : Int)) : ∃ (z : Int) (t : Tok), cells[k.toNat]? = some (.int z t) ∧ 0 ≤ z ∧ z < 2147483647 := by
  obtain ⟨zs, h, b, l⟩ := c
  have hk : k.toNat < zs.length := by rw [← h.length]; omega
  obtain ⟨t, e⟩ := ints_get h hk
  exact ⟨zs[k.toNat], t, e, b _ (List.getElem_mem hk)⟩
section
variable {prog : Program} {w : World} {A : Around} {h₀ : Heap} {L a : Addr} {news : List (Addr × Obj)} {s : Shared} {Q E : Value → Shared → Prop} {l : List Value} {n : Nat}
theorem lenCells (N : News h₀ L s.heap news) (hm : (a, listOf l.toArray n) ∈ news) (c : Cells l) (h : ∀ t, Q (.int l.length t) { s with toks := s.toks + 1 + 1 }) : wpAny (model prog w) A (call (.builtin "len") [.ref a]) Q E s := by
  obtain ⟨zs, hi, b, lz⟩ := c
  refine len_list_made (N.isList hm) hi.carried (by rw [List.length_map]; exact Nat.le_trans lz (by decide)) ?_
  rw [List.length_map, ← hi.length]; exact h _
theorem cellGet {value slice : PySem.Expr} {k : Int} {u : Tok} (N : News h₀ L s.heap news) (hm : (a, listOf l.toArray n) ∈ news) (c : Cells l) (h0 : 0 ≤ k) (h1 : k < (l.length : Int)) (h : ∀ z t, 0 ≤ z → z < 2147483647 → Q (.int z t) s)
    (hs : subscripted slice false (.ref a) (.int k u) = operate [.ref a, .int k u] (getItem (.ref a) (.int k u)) := by with_unfolding_all rfl) (hg : ∀ r, letTemporaryGo value (.ref a) r = pure () := by intro _; with_unfolding_all rfl) :
    wpAny (model prog w) A (subscriptTail value slice (.ref a) (.int k u)) Q E s := by
  obtain ⟨z, t, e, b0, b1⟩ := c.item h0 h1
  have hl := c.len
  exact kim_list N hm rfl rfl h0 (by omega) e (h z t b0 b1) hs hg
end
section
variable {w : World} {mean : ExcName → Option Value} {mg mb : Str → Option Value} {dp un : Nat} {gd : Option (List Code)} {cn : Str} {cs : Scope} {a : Addr} {ccd : Value} {cl : List (Str × Addr)} {outer : List Env} {A₀ : Around} {base h₀ : Heap} {L : Addr} {m : Str → Option Value} {news : List (Addr × Obj)} {s : Shared} {Q E : Value → Shared → Prop}
variable {wl cl1 : Addr} {sp st : Int} {t1 t2 : Tok} {nw nc : Nat} {cells : List Value}
theorem kw61 : True := by
  (k_with "call builtin:len" => ((with_reducible show wpAny _ _ (call (Value.builtin "len") [Value.ref _]) _ _ _); k_dflt (refine' lenCells (by k_asm) (by k_mem) (by assumption) ?_); intro tl'; (try dsimp only)))
  (k_with "subscriptTail" => ((with_reducible show wpAny _ _ (subscriptTail _ _ (Value.ref _) (Value.int _ _)) _ _ _); k_dflt (refine' cellGet (by k_asm) (by k_mem) (by assumption) (by assumption) (by assumption) ?_); intro z' tz' hz0' hz1'; (try dsimp only)))
  (k_with "eval Call" => ((with_reducible show wpAny _ _ (eval (Expr.Call (Expr.Name _ _) _ [] _) _) _ _ _); k_dflt (refine Call_ ?_)))
  trivial
theorem drawC (size : Int) (ts : Tok) (B : Below A₀ base outer h₀) (F : Fr h₀ L s.heap m) (X : (KQ w.params).In h₀) (N : News h₀ L s.heap (((wl, listOf [Value.ref cl1, Value.int sp t1, Value.int st t2].toArray nw)) :: news)) (T : Top viewQ looseQ mean mg mb h₀) (hk : cs.kind = .function) (hcl : (cl1, listOf cells.toArray nc) ∈ news) (hap : ApOk wl news) (hc : Cells cells) (hsp : 0 ≤ sp) (hs0 : 0 ≤ st) (hs1 : st < 997) (hz : 0 < size)
    (hd : dp + 10 < recursionLimit) (hu : un + 80 < cLine)
    (ret : ∀ (r : Int) (t : Tok) (sp' st' : Int) (t1' t2' : Tok) (n' : Nat) (h' : Heap) (tk' : Nat), 0 ≤ r → r < size → 0 ≤ sp' → 0 ≤ st' → st' < 997 → Fr h₀ L h' m → News h₀ L h' ((wl, listOf [Value.ref cl1, Value.int sp' t1', Value.int st' t2'].toArray n') :: news) → Q (.int r t) { s with heap := h', toks := tk' }) :
    wpAny (MQ w) (ktrTop dp un gd cn cs L a ccd cl outer) (call (.ref 305) [.ref wl, .int size ts]) Q E s := by
  have hap1 : ∀ p ∈ news, p.1 ≠ wl := fun p hp => (hap p hp).1
  have e1 : @Ne Nat cl1 wl := (hap _ hcl).1
  have N2 := News.dup N (.tail _ hcl)
  (k_dflt (refine enterK fd305 (bs := [(Str.ofString "well", .ref wl), (Str.ofString "size", .int size ts)]) (by exact rfl) (by exact rfl) (by k_asm) (by k_asm) (by k_asm) (by k_asm) (by k_asm) (by first | exact rfl | assumption) (by ktr_room) ?_; k_whole); intro g' L' h' FG' F' N' B' X' T' tk' qk ek; (try k_lift B'))
  k_steps
  all_goals (refine ret _ _ _ _ _ _ _ _ _ (fm0 _ hz) (fm1 _ hz) ?_ ?_ ?_ (by assumption) (vdrop1 (News.tl (News.tl (by assumption))) (show ∀ r ∈ news, _ from fun p hp => hp)))
  all_goals first | exact fm0 _ (by decide) | exact fm1 _ (by decide) | omega
end
end
end
section
open PySem PySem.W PyProof.Rows PySem.Calls PySem.Spec
section
theorem kw62 : True := by
  k_with_none
  trivial
noncomputable def TupIn (h₀ : Heap) (news : List (Addr × Obj)) (mu : Addr) (items : List Value) : Prop := IsTup h₀ mu items.toArray ∨ (mu, tupL items) ∈ news
section
variable {prog : Program} {w : World} {A : Around} {h₀ : Heap} {L a : Addr} {m : Str → Option Value} {news : List (Addr × Obj)} {s : Shared} {Q E : Value → Shared → Prop} {l : List Value}
theorem TupIn.is {h : Heap} (t : TupIn h₀ news a l) (F : Fr h₀ L h m) (N : News h₀ L h news) : IsTup h a l.toArray := by
  rcases t with t | t
  · exact t.keeps F.keep
  · exact News.isTup N t
theorem TupIn.keeps {g : Heap} (t : TupIn h₀ news a l) (F : Fr h₀ L g m) : TupIn g news a l := by
  rcases t with t | t
  · exact .inl (t.keeps F.keep)
  · exact .inr t
theorem TupIn.more {news' : List (Addr × Obj)} (t : TupIn h₀ news a l) (hs : ∀ p ∈ news, p ∈ news') : TupIn h₀ news' a l := by
  rcases t with t | t
  · exact .inl t
  · exact .inr (hs _ t)
theorem lenTup {news0 : List (Addr × Obj)} (t : TupIn h₀ news0 a l) (hs0 : ∀ p ∈ news0, p ∈ news) (F : Fr h₀ L s.heap m) (N : News h₀ L s.heap news) (hz : l.length < 100) (h : ∀ t, Q (.int l.length t) { s with toks := s.toks + 1 + 1 }) : wpAny (model prog w) A (call (.builtin "len") [.ref a]) Q E s :=
  len_tuple ((t.more hs0).is F N) (by rw [List.size_toArray]; omega) (by rw [List.size_toArray]; exact h _)
theorem tupGet {value slice : PySem.Expr} {k : Int} {u : Tok} {news0 : List (Addr × Obj)} (t : TupIn h₀ news0 a l) (hs0 : ∀ p ∈ news0, p ∈ news) (F : Fr h₀ L s.heap m) (N : News h₀ L s.heap news) (hz : l.length < 100) (h0 : 0 ≤ k) (h1 : k < (l.length : Int)) (h : ∀ v, v ∈ l → Q v s)
    (hs : subscripted slice false (.ref a) (.int k u) = operate [.ref a, .int k u] (getItem (.ref a) (.int k u)) := by with_unfolding_all rfl) (hg : ∀ r, letTemporaryGo value (.ref a) r = pure () := by intro _; with_unfolding_all rfl) :
    wpAny (model prog w) A (subscriptTail value slice (.ref a) (.int k u)) Q E s := by
  have hk : k.toNat < l.length := by omega
  refine item_tupleL (j := k.toNat) ((t.more hs0).is F N) (by omega) (by omega) ?_ (List.getElem?_eq_getElem hk) (h _ (List.getElem_mem hk)) hs hg
  have hn : ¬ k < 0 := by omega
  unfold seqIndex?
  simp only [if_neg hn]
  exact if_pos (by simp; omega)
end
section
variable {w : World} {mean : ExcName → Option Value} {mg mb : Str → Option Value} {dp un : Nat} {gd : Option (List Code)} {cn : Str} {cs : Scope} {a : Addr} {ccd : Value} {cl : List (Str × Addr)} {outer : List Env} {A₀ : Around} {base h₀ : Heap} {L : Addr} {m : Str → Option Value} {news : List (Addr × Obj)} {s : Shared} {Q E : Value → Shared → Prop}
variable {wl cl1 : Addr} {sp st : Int} {t1 t2 : Tok} {nw nc : Nat} {cells : List Value}
theorem kw63 : True := by
  (k_with "eval Call" => ((with_reducible show wpAny _ _ (eval (Expr.Call (Expr.Name _ _) _ [] _) _) _ _ _); k_dflt (refine Call_ ?_)))
  (k_with "call ref" => ((k_dflt (show wpAny _ _ (call (Value.ref 305) [Value.ref _, Value.int _ _]) _ _ _)); k_dflt (refine' drawC _ _ (by k_asm) (by k_asm) (by k_asm) (by k_asm) (by k_asm) (by first | exact rfl | assumption) (by k_mem) (by assumption) (by assumption) (by assumption) (by assumption) (by assumption) (by first | assumption | decide | omega) (by ktr_room) (by ktr_units) ?_; k_whole; intro r' tr' sp' st' t1' t2' n' h' tk' hr0' hr1' hsp' hs0' hs1' F' N'); (try dsimp only); (try k_fold)))
  (k_with "call builtin:len" => ((with_reducible show wpAny _ _ (call (Value.builtin "len") [Value.ref _]) _ _ _); k_dflt (refine' lenTup (by assumption) ?_ (by k_asm) (by k_asm) (by assumption) ?_; ((intro p hp; simp only [List.mem_cons, hp, or_true]))); intro tl'; (try dsimp only)))
  (k_with "subscriptTail" => ((with_reducible show wpAny _ _ (subscriptTail _ _ (Value.ref _) (Value.int _ _)) _ _ _); k_dflt (refine' tupGet (by assumption) ?_ (by k_asm) (by k_asm) (by assumption) (by assumption) (by assumption) ?_; ((intro p hp; simp only [List.mem_cons, hp, or_true]))); intro v' hv'; (try dsimp only)))
  trivial
theorem pickC (mu : Addr) (items : List Value) (B : Below A₀ base outer h₀) (F : Fr h₀ L s.heap m) (X : (KQ w.params).In h₀) (N : News h₀ L s.heap ((wl, listOf [Value.ref cl1, Value.int sp t1, Value.int st t2].toArray nw) :: news)) (T : Top viewQ looseQ mean mg mb h₀) (hk : cs.kind = .function) (hcl : (cl1, listOf cells.toArray nc) ∈ news) (hap : ApOk wl news) (hc : Cells cells) (hsp : 0 ≤ sp) (hs0 : 0 ≤ st) (hs1 : st < 997) (ht : TupIn h₀ news mu items) (hz0 : 0 < items.length) (hz1 : items.length < 100)
    (hd : dp + 20 < recursionLimit) (hu : un + 160 < cLine)
    (ret : ∀ (v : Value), v ∈ items → ∀ (sp' st' : Int) (t1' t2' : Tok) (n' : Nat) (h' : Heap) (tk' : Nat), 0 ≤ sp' → 0 ≤ st' → st' < 997 → Fr h₀ L h' m → News h₀ L h' ((wl, listOf [Value.ref cl1, Value.int sp' t1', Value.int st' t2'].toArray n') :: news) → Q v { s with heap := h', toks := tk' }) :
    wpAny (MQ w) (ktrTop dp un gd cn cs L a ccd cl outer) (call (.ref 312) [.ref wl, .ref mu]) Q E s := by
  (k_dflt (refine enterK fd312 (bs := [(Str.ofString "well", .ref wl), (Str.ofString "menu", .ref mu)]) (by exact rfl) (by exact rfl) (by k_asm) (by k_asm) (by k_asm) (by k_asm) (by k_asm) (by first | exact rfl | assumption) (by ktr_room) ?_; k_whole); intro g' L' h' FG' F' N' B' X' T' tk' qk ek; (try k_lift B'))
  have ht' := ht.keeps FG'
  have hz0' : 0 < (items.length : Int) := by omega
  clear ht
  k_steps
  all_goals (refine ret _ (by assumption) _ _ _ _ _ _ _ ?_ ?_ ?_ (by assumption) (by assumption) <;> assumption)
end
end
end
section
open PySem PySem.W PyProof.Rows PySem.Calls PySem.Spec
section

theorem kw64 : True := by
  k_with_none
  trivial
noncomputable def optV (o : Option Int) (t : Tok) : Value := match o with
  | some n => .int n t
  | none => .none
section
variable {w : World} {mean : ExcName → Option Value} {mg mb : Str → Option Value} {dp un : Nat} {gd : Option (List Code)} {cn : Str} {cs : Scope} {a : Addr} {ccd : Value} {cl : List (Str × Addr)} {outer : List Env} {A₀ : Around} {base h₀ : Heap} {L : Addr} {m : Str → Option Value} {news : List (Addr × Obj)} {s : Shared} {Q E : Value → Shared → Prop}

noncomputable abbrev PRet (h₀ : Heap) (L : Addr) (m : Str → Option Value) (news : List (Addr × Obj)) (s : Shared) (Q : Value → Shared → Prop) (x : Option Int) (u : Bool) : Prop :=
  ∀ (l : Addr) (t : Tok) (x' : Option Int) (u' : Bool) (h' : Heap) (tk' : Nat), x' = x → u' = u → Fr h₀ L h' m → News h₀ L h' ((l, tupL [optV x' t, .bool u']) :: news) → AllLt l news → Q (.ref l) { s with heap := h', toks := tk' }
noncomputable abbrev LRet (h₀ : Heap) (L : Addr) (m : Str → Option Value) (news : List (Addr × Obj)) (s : Shared) (Q : Value → Shared → Prop) (n : Int) (u : Bool) : Prop :=
  ∀ (l : Addr) (t : Tok) (y : Int) (h' : Heap) (tk' : Nat), y = n → Fr h₀ L h' m → News h₀ L h' ((l, tupL [.int y t, .bool u]) :: news) → AllLt l news → Q (.ref l) { s with heap := h', toks := tk' }
theorem LRet.of {n : Int} {u : Bool} (h : ∀ (l : Addr) (t : Tok) (h' : Heap) (tk' : Nat), Fr h₀ L h' m → News h₀ L h' ((l, tupL [.int n t, .bool u]) :: news) → AllLt l news → Q (.ref l) { s with heap := h', toks := tk' }) : LRet h₀ L m news s Q n u :=
  fun l t y h' tk' e F N q => by subst e; exact h l t h' tk' F N q
theorem ledC (n : Int) (t1 : Tok) (u : Bool) (B : Below A₀ base outer h₀) (F : Fr h₀ L s.heap m) (X : (KQ w.params).In h₀) (N : News h₀ L s.heap news) (T : Top viewQ looseQ mean mg mb h₀) (hk : cs.kind = .function) 
    (hd : dp + 6 < recursionLimit) (hu : un + 40 < cLine)
    (ret : LRet h₀ L m news s Q (led32 n u) u) :
    wpAny (MQ w) (ktrTop dp un gd cn cs L a ccd cl outer) (call (.ref 331) [.int n t1, .bool u]) Q E s := by
  (k_dflt (refine enterK fd331 (bs := [(Str.ofString "number", .int n t1), (Str.ofString "has_none", .bool u)]) (by exact rfl) (by exact rfl) (by k_asm) (by k_asm) (by k_asm) (by k_asm) (by k_asm) (by first | exact rfl | assumption) (by ktr_room) ?_; k_whole); intro g' L' h' FG' F' N' B' X' T' tk' qk ek; (try k_lift B'))
  k_steps
  all_goals (refine ret _ _ _ _ _ ?_ (by assumption) (by assumption) (by first | assumption | exact allLt_of (by assumption)); rw [Int.fmod_eq_emod_of_nonneg _ (by decide)] at *; unfold led32; split <;> simp_all <;> omega)
end
end
end
section
open PySem PySem.W PyProof.Rows PySem.Calls PySem.Spec
inductive Grp where
  | log | shift | div | cmp | ari
deriving DecidableEq
noncomputable def Bop.grp : Bop → Grp
  | .and => .log | .or => .log | .shl => .shift | .shr => .shift | .div => .div | .mod => .div
  | .lt => .cmp | .le => .cmp | .gt => .cmp | .ge => .cmp | .eq => .cmp | .ne => .cmp
  | _ => .ari
theorem rr5 {a b c d e f : Prop} (h : a ∧ b ∧ c ∧ d ∧ e ∧ f) : f := h.2.2.2.2.2
theorem ldrop1 {h₀ h : Heap} {L : Addr} {p : Addr × Obj} {rest news : List (Addr × Obj)} (N : News h₀ L h (p :: rest)) (hs : ∀ r ∈ news, r ∈ rest) : News h₀ L h (p :: news) :=
  cb_drop N fun r hr => by
    rcases List.mem_cons.mp hr with rfl | hr
    · exact .head _
    · exact .tail _ (hs r hr)
theorem grp_log (o : Bop) (h : o.grp = .log) : ([Str.ofString "&&", Str.ofString "||"].any fun y => y == o.txt) = true ∧ ([Str.ofString "<<", Str.ofString ">>"].any fun y => y == o.txt) = false ∧ ([Str.ofString "/", Str.ofString "%"].any fun y => y == o.txt) = false ∧ ([Str.ofString "<", Str.ofString "<=", Str.ofString ">", Str.ofString ">=", Str.ofString "==", Str.ofString "!="].any fun y => y == o.txt) = false := by
  cases o <;> first | exact absurd h (by decide) | decide
theorem grp_shift (o : Bop) (h : o.grp = .shift) : ([Str.ofString "&&", Str.ofString "||"].any fun y => y == o.txt) = false ∧ ([Str.ofString "<<", Str.ofString ">>"].any fun y => y == o.txt) = true ∧ ([Str.ofString "/", Str.ofString "%"].any fun y => y == o.txt) = false ∧ ([Str.ofString "<", Str.ofString "<=", Str.ofString ">", Str.ofString ">=", Str.ofString "==", Str.ofString "!="].any fun y => y == o.txt) = false := by
  cases o <;> first | exact absurd h (by decide) | decide
theorem grp_div (o : Bop) (h : o.grp = .div) : ([Str.ofString "&&", Str.ofString "||"].any fun y => y == o.txt) = false ∧ ([Str.ofString "<<", Str.ofString ">>"].any fun y => y == o.txt) = false ∧ ([Str.ofString "/", Str.ofString "%"].any fun y => y == o.txt) = true ∧ ([Str.ofString "<", Str.ofString "<=", Str.ofString ">", Str.ofString ">=", Str.ofString "==", Str.ofString "!="].any fun y => y == o.txt) = false := by
  cases o <;> first | exact absurd h (by decide) | decide
theorem grp_cmp (o : Bop) (h : o.grp = .cmp) : ([Str.ofString "&&", Str.ofString "||"].any fun y => y == o.txt) = false ∧ ([Str.ofString "<<", Str.ofString ">>"].any fun y => y == o.txt) = false ∧ ([Str.ofString "/", Str.ofString "%"].any fun y => y == o.txt) = false ∧ ([Str.ofString "<", Str.ofString "<=", Str.ofString ">", Str.ofString ">=", Str.ofString "==", Str.ofString "!="].any fun y => y == o.txt) = true := by
  cases o <;> first | exact absurd h (by decide) | decide
theorem grp_ari (o : Bop) (h : o.grp = .ari) : ([Str.ofString "&&", Str.ofString "||"].any fun y => y == o.txt) = false ∧ ([Str.ofString "<<", Str.ofString ">>"].any fun y => y == o.txt) = false ∧ ([Str.ofString "/", Str.ofString "%"].any fun y => y == o.txt) = false ∧ ([Str.ofString "<", Str.ofString "<=", Str.ofString ">", Str.ofString ">=", Str.ofString "==", Str.ofString "!="].any fun y => y == o.txt) = false := by
  cases o <;> first | exact absurd h (by decide) | decide
noncomputable def logS (o : Bop) (x y : Int) : Int := if o.txt == Str.ofString "&&" then (if x != 0 && y != 0 then 1 else 0) else (if x != 0 || y != 0 then 1 else 0)
noncomputable def logSN (o : Bop) (x : Int) : Option Int := if ((x == 0) == (o.txt == Str.ofString "||")) then none else some (if o.txt == Str.ofString "&&" then 0 else 1)
noncomputable def shS (o : Bop) (x y : Int) (u : Bool) : Int := if o.txt == Str.ofString "<<" then led32 (x * 2 ^ y.toNat) u else led32 (x.fdiv (2 ^ y.toNat)) u
noncomputable def divS (o : Bop) (x y : Int) (u : Bool) : Option Int := if y = 0 then none else some (led32 (if o.txt == Str.ofString "/" then Int.tdiv (led32 x u) (led32 y u) else led32 x u - Int.tdiv (led32 x u) (led32 y u) * led32 y u) u)
noncomputable def ariP (o : Bop) (a b : Int) : Int := match o with | .add => a + b | .sub => a - b | .mul => a * b | .band => Builtin.bitAnd a b | .bor => Builtin.bitOr a b | _ => Builtin.bitXor a b
noncomputable def ariS (o : Bop) (a b : Int) (u : Bool) : Int := led32 (ariP o a b) u
theorem logSN_a {o : Bop} {x : Int} (h : ((x == 0) == (o.txt == Str.ofString "||")) = true) : none = logSN o x := by unfold logSN; rw [if_pos h]
theorem logSN_and {o : Bop} {x : Int} (h : ((x == 0) == (o.txt == Str.ofString "||")) = false) (h2 : (o.txt == Str.ofString "&&") = true) (hx : x = 0) : some (if (x != 0) = true then 1 else 0) = logSN o x := by
  unfold logSN; rw [h, h2, hx]; rfl
theorem logSN_or {o : Bop} {x : Int} (h : ((x == 0) == (o.txt == Str.ofString "||")) = false) (h2 : (o.txt == Str.ofString "&&") = false) (hx : x ≠ 0) : some (if (x != 0) = true then 1 else 0) = logSN o x := by
  have e : (x != 0) = true := by simpa using hx
  unfold logSN; rw [h, h2, e]; rfl
theorem logSN_d (o : Bop) {x : Int} (hA : ([Str.ofString "&&", Str.ofString "||"].any fun y => y == o.txt) = true) (h : ((x == 0) == (o.txt == Str.ofString "||")) = false) (h2 : (o.txt == Str.ofString "&&") = true) (hx : x ≠ 0) : False := by
  have e : (x == 0) = false := by simpa using hx
  rw [e] at h
  cases o <;> first | exact absurd h2 (by decide) | exact absurd h (by decide)
theorem logSN_e (o : Bop) {x : Int} (hA : ([Str.ofString "&&", Str.ofString "||"].any fun y => y == o.txt) = true) (h : ((x == 0) == (o.txt == Str.ofString "||")) = false) (h2 : (o.txt == Str.ofString "&&") = false) (hx : x = 0) : False := by
  have e : (x == 0) = true := by rw [hx]; rfl
  rw [e] at h
  cases o <;> first | exact absurd h2 (by decide) | exact absurd h (by decide) | exact absurd hA (by decide)
theorem pow_ok (x : Int) {y : Int} (h0 : 0 ≤ y) (h1 : y ≤ 31) : IntMulOk x (2 ^ y.toNat) := by
  obtain ⟨n, rfl⟩ := Int.eq_ofNat_of_zero_le h0
  refine IntMulOk.of_right ?_
  have h : (2 : Int) ^ n ≤ 2 ^ 31 := by exact_mod_cast Nat.pow_le_pow_right (by decide) (by omega : n ≤ 31)
  have h2 : (0 : Int) < 2 ^ n := Int.pow_pos (by decide)
  exact intBits_le_64 (by rw [Int.toNat_natCast]; omega) (by rw [Int.toNat_natCast]; omega)
theorem mulR_ok (x c : Int) (v : Bool) : IntMulOk x (led32 c v) := by
  refine IntMulOk.of_right ?_
  have h := led_in c v
  unfold In33 at h
  exact intBits_le_64 (by omega) (by omega)
theorem abs_log (a : Int) (u : Bool) : (if led32 a u < 0 then -led32 a u else led32 a u).natAbs.log2 < 9000 := log_small (by have h := led_in a u; unfold In33 at h; split <;> omega)
theorem abs_ne {k : Int} (h : k ≠ 0) : (if k < 0 then -k else k) ≠ 0 := by split <;> omega
theorem quot1 {a b : Int} (hz : b ≠ 0) (hs : (decide (a < 0) == decide (b < 0)) = true) : Int.fdiv (if a < 0 then -a else a) (if b < 0 then -b else b) * 1 = Int.tdiv a b := by
  rw [quot_is hz, if_pos (by simpa using hs), Int.mul_one]
theorem quot2 {a b : Int} (hz : b ≠ 0) (hs : (decide (a < 0) == decide (b < 0)) = false) : Int.fdiv (if a < 0 then -a else a) (if b < 0 then -b else b) * -1 = Int.tdiv a b := by
  rw [quot_is hz, if_neg (by simpa using hs)]; omega
theorem divS_z {o : Bop} {x y : Int} {u : Bool} (hy : y = 0) : none = divS o x y u := by unfold divS; rw [if_pos hy]
theorem divS_q {o : Bop} {x y W : Int} {u : Bool} (hy : y ≠ 0) (hw : W = Int.tdiv (led32 x u) (led32 y u)) (ho : (o.txt == Str.ofString "/") = true) : some (led32 W u) = divS o x y u := by
  unfold divS; rw [if_neg hy, if_pos ho, hw]
theorem divS_r {o : Bop} {x y W : Int} {u : Bool} (hy : y ≠ 0) (hw : W = Int.tdiv (led32 x u) (led32 y u)) (ho : (o.txt == Str.ofString "/") = false) : some (led32 (led32 x u - W * led32 y u) u) = divS o x y u := by
  unfold divS; rw [if_neg hy, if_neg (by rw [ho]; decide), hw]
theorem kys_cmp {o : Bop} {a b : Int} {t1 t2 t3 t4 t5 t6 : Tok} {R : Value → Prop} (hg : o.grp = .cmp) (h : ∀ q, q = cmpS o.txt a b → R (.bool q)) :
    KysD PyData.str o.txt (strData [(.str (Str.ofString "<") t1, .bool (decide (a < b))), (.str (Str.ofString "<=") t2, .bool (decide (a ≤ b))), (.str (Str.ofString ">") t3, .bool (decide (b < a))), (.str (Str.ofString ">=") t4, .bool (decide (b ≤ a))), (.str (Str.ofString "==") t5, .bool (a == b)), (.str (Str.ofString "!=") t6, .bool (a != b))]) (fun dv => KysVal dv R) False := by
  have k : ∀ (z : Bool), z = cmpS o.txt a b → KysVal (.bool z) R := fun z e => KysVal.intro fun v hv => by
    have e9 := PyProof.V.Flat.bool_inv hv; subst e9; exact h _ e
  cases o <;> first
    | exact absurd hg (by decide)
    | (repeat (first | refine kysD_cons_hit PyProof.V.same_str rfl (k _ rfl) | refine kysD_cons_miss PyProof.V.same_str (by decide) ?_))
theorem kys_ari {o : Bop} {a b : Int} {t1 t2 t3 t4 t5 t6 j1 j2 j3 j4 j5 j6 : Tok} {R : Value → Prop} (hg : o.grp = .ari) (h : ∀ q t, q = ariP o a b → R (.int q t)) :
    KysD PyData.str o.txt (strData [(.str (Str.ofString "+") t1, .int (a + b) j1), (.str (Str.ofString "-") t2, .int (a - b) j2), (.str (Str.ofString "*") t3, .int (a * b) j3), (.str (Str.ofString "&") t4, .int (Builtin.bitAnd a b) j4), (.str (Str.ofString "|") t5, .int (Builtin.bitOr a b) j5), (.str (Str.ofString "^") t6, .int (Builtin.bitXor a b) j6)]) (fun dv => KysVal dv R) False := by
  have k : ∀ (z : Int), z = ariP o a b → KysVal (.int z) R := fun z e => KysVal.intro fun v hv => by
    obtain ⟨_, e9⟩ := PyProof.V.Flat.int_inv hv; subst e9; exact h _ _ e
  cases o <;> first
    | exact absurd hg (by decide)
    | (repeat (first | refine kysD_cons_hit PyProof.V.same_str rfl (k _ rfl) | refine kysD_cons_miss PyProof.V.same_str (by decide) ?_))
end
section
open PySem PySem.W PyProof.Rows PySem.Calls PySem.Spec
section
local macro_rules | `(tactic| ktr_rel) => `(tactic| first | assumption | exact allLt_of (by assumption) | exact And.right (by assumption) | exact And.right (And.right (by assumption)) | exact And.right (And.right (And.right (by assumption))) | exact And.right (And.right (And.right (And.right (by assumption)))) | exact rr5 (by assumption) | exact rr5 (And.right (by assumption)) | exact rr5 (And.right (And.right (by assumption))) | exact rr5 (And.right (And.right (And.right (by assumption)))) | exact rr5 (And.right (And.right (And.right (And.right (by assumption))))) | exact rr5 (rr5 (by assumption)) | exact rr5 (rr5 (And.right (by assumption))) | exact rr5 (rr5 (And.right (And.right (by assumption)))) | exact rr5 (rr5 (And.right (And.right (And.right (by assumption))))) | exact rr5 (rr5 (And.right (And.right (And.right (And.right (by assumption)))))) | exact rr5 (rr5 (rr5 (by assumption))) | exact rr5 (rr5 (rr5 (And.right (by assumption)))) | exact rr5 (rr5 (rr5 (And.right (And.right (by assumption))))) | exact rr5 (rr5 (rr5 (And.right (And.right (And.right (by assumption)))))) | exact rr5 (rr5 (rr5 (And.right (And.right (And.right (And.right (by assumption))))))) | exact rr5 (rr5 (rr5 (rr5 (by assumption)))) | exact rr5 (rr5 (rr5 (rr5 (And.right (by assumption))))) | exact rr5 (rr5 (rr5 (rr5 (And.right (And.right (by assumption)))))) | exact rr5 (rr5 (rr5 (rr5 (And.right (And.right (And.right (by assumption))))))))
section
variable {w : World} {mean : ExcName → Option Value} {mg mb : Str → Option Value} {dp un : Nat} {gd : Option (List Code)} {cn : Str} {cs : Scope} {a : Addr} {ccd : Value} {cl : List (Str × Addr)} {outer : List Env} {A₀ : Around} {base h₀ : Heap} {L : Addr} {m : Str → Option Value} {news : List (Addr × Obj)} {s : Shared} {Q E : Value → Shared → Prop}
theorem kw66 : True := by
  k_with_none
  (k_with "eval Call" => ((with_reducible show wpAny _ _ (eval (Expr.Call (Expr.Name _ _) _ [] _) _) _ _ _); k_dflt (refine Call_ ?_)))
  (k_with "ja" => first | apply JA.int | apply JA.str | (apply JA.name; exact rfl; exact ⟨rfl, rfl⟩) | (apply JA.attr; exact rfl; exact ⟨rfl, rfl⟩; (first | k_mem | assumption); (first | k_mem | assumption); (with_reducible first | exact own0 | exact own1 | exact own2 | exact own3 | exact own4 | exact own5 | exact own6 | exact own7 | exact own8 | exact own9 | exact own10); k_get; k_handed) | apply JA.bool | apply JA.none | (apply JC.toA; k_extra "jc"; exact rfl) | (apply JA.and2; k_extra "ja"; k_extra "ja") | (apply JA.or2; k_extra "ja"; k_extra "ja") | (apply JA.ifT; k_extra "jt"; k_extra "ja") | (apply JA.ifF; k_extra "jt"; k_extra "ja") | (apply JA.add; k_extra "ji"; k_extra "ji") | (apply JA.sub; k_extra "ji"; k_extra "ji") | (apply JA.band; k_extra "ji"; k_extra "ji"))
  (k_with "ji" => first | apply JA.int | (apply JA.fix; first | (apply JA.name; exact rfl; exact ⟨rfl, rfl⟩) | (apply JA.attr; exact rfl; exact ⟨rfl, rfl⟩; (first | k_mem | assumption); (first | k_mem | assumption); (with_reducible first | exact own0 | exact own1 | exact own2 | exact own3 | exact own4 | exact own5 | exact own6 | exact own7 | exact own8 | exact own9 | exact own10); k_get; k_handed)) | (apply JA.add; k_extra "ji"; k_extra "ji") | (apply JA.sub; k_extra "ji"; k_extra "ji") | (apply JA.band; k_extra "ji"; k_extra "ji"))
  (k_with "js" => first | apply JA.str | (apply JA.fixS; first | (apply JA.name; exact rfl; exact ⟨rfl, rfl⟩) | (apply JA.attr; exact rfl; exact ⟨rfl, rfl⟩; (first | k_mem | assumption); (first | k_mem | assumption); (with_reducible first | exact own0 | exact own1 | exact own2 | exact own3 | exact own4 | exact own5 | exact own6 | exact own7 | exact own8 | exact own9 | exact own10); k_get; k_handed)))
  (k_with "jc" => first | (apply JC.eqS; k_extra "js"; k_extra "js") | (apply JC.eqI; k_extra "ji"; k_extra "ji") | (apply JC.neS; k_extra "js"; k_extra "js") | (apply JC.neI; k_extra "ji"; k_extra "ji") | (apply JC.ltI; k_extra "ji"; k_extra "ji") | (apply JC.leI; k_extra "ji"; k_extra "ji") | (apply JC.gtI; k_extra "ji"; k_extra "ji") | (apply JC.geI; k_extra "ji"; k_extra "ji") | (apply JC.isT; (apply JA.name; exact rfl; exact ⟨rfl, rfl⟩)) | (apply JC.isF; k_extra "ja"; intro t e; cases e) | (apply JC.inT; k_extra "js"; exact rfl; decide; first | assumption | exact rfl) | (apply JC.ninT; k_extra "js"; exact rfl; decide; first | assumption | exact rfl))
  (k_with "jt" => first | (apply JC.toT; k_extra "jc"; exact rfl) | (apply JT.not; k_extra "jt") | (apply JL.toT; k_extra "jl") | (apply JA.toT; k_extra "ja"; intro _; exact rfl))
  (k_with "jl" => first | (apply JL.one; k_extra "jt") | (apply JL.andF; k_extra "jt") | (apply JL.orT; k_extra "jt") | (apply JL.andT; k_extra "jt"; k_extra "jl") | (apply JL.orF; k_extra "jt"; k_extra "jl") | (apply JL.and; k_extra "jt"; k_extra "jl") | (apply JL.or; k_extra "jt"; k_extra "jl"))
  (k_with "exec If" => ((with_reducible show wpAny _ _ (exec (Stmt.If _ _ _ _) _) _ _ _); k_dflt (first | (refine ifXF (by k_asm) (by k_asm) (by k_asm) (by first | exact rfl | assumption) rfl (by k_extra "jt") ?_; k_whole) | (refine ifXT (by k_asm) (by k_asm) (by k_asm) (by first | exact rfl | assumption) rfl (by k_extra "jt") ?_; k_whole) | (refine ifX (by k_asm) (by k_asm) (by k_asm) (by first | exact rfl | assumption) rfl (by k_extra "jt") ?_; k_whole)); intro h' tk F' N'; (try k_sweep)))
  (k_with "execs cons" => ((with_reducible show wpAny _ _ (execs (Stmt.If _ _ [] _ :: _) _) _ _ _); k_dflt (refine ifXF0 (by k_asm) (by k_asm) (by k_asm) (by first | exact rfl | assumption) rfl (by k_extra "jt") ?_; k_whole); intro h' tk F' N'; (try k_sweep)))
  (k_with "exec Return some" => ((with_reducible show wpAny _ _ (exec (Stmt.Return (some (Expr.Tuple [_, _] _ _)) _) _) _ _ _); k_dflt ((refine retX2 (by k_asm) (by k_asm) (by k_asm) (by first | exact rfl | assumption) rfl (by exact rfl) (by k_extra "ja") (by k_extra "ja") ?_; k_whole); intro D' h' u1 u2 tk F' N' l1; (try k_lt l1); (try k_sweep))))
  (k_with "assign Tuple" => ((with_reducible show wpAny _ _ (assign (Expr.Tuple _ _ _) _ (Value.ref _)) _ _ _); k_dflt (refine unpackN_ (by k_asm) (by k_asm) (by first | with_reducible assumption | (refine News.isTup (by k_asm) (by k_mem))) (by exact rfl) (by exact rfl) (by exact rfl) ?_); intro h' F' N'; (try k_sweep)))
  (k_with "exec Assign" => ((with_reducible show wpAny _ _ (exec (Stmt.Assign [Expr.Name _ _] _ _) _) _ _ _); k_dflt (refine asgX (by k_asm) (by k_asm) (by k_asm) (by first | exact rfl | assumption) rfl (by k_extra "ja") (by exact rfl) (by exact rfl) ?_; k_whole); intro t h' tk F' N'; (try k_sweep)))
  (k_with "eval Call" => ((with_reducible show wpAny _ _ (eval (Expr.Call (Expr.Name _ _) (_ :: _) [] _) _) _ _ _); k_dflt (first | ((with_reducible show wpAny _ _ (eval (Expr.Call _ [_] [] _) _) _ _ _); refine callX1 (by k_asm) (by k_asm) (by k_asm) (by k_asm) (by first | exact rfl | assumption) rfl (by with_reducible first | exact gf0 | exact gf1 | exact gf2 | exact gf3 | exact gf4 | exact gf5 | exact gf6 | exact gf7 | exact gf8 | exact gf9 | exact gf10 | exact gf11 | exact gf12 | exact gf13 | exact gf14 | exact gf15) (by exact ⟨rfl, rfl⟩) (by exact rfl) (by k_extra "ja") ?_; k_whole; intro h' u1 tk F' N') | ((with_reducible show wpAny _ _ (eval (Expr.Call _ [_, _] [] _) _) _ _ _); refine callX2 (by k_asm) (by k_asm) (by k_asm) (by k_asm) (by first | exact rfl | assumption) rfl (by with_reducible first | exact gf0 | exact gf1 | exact gf2 | exact gf3 | exact gf4 | exact gf5 | exact gf6 | exact gf7 | exact gf8 | exact gf9 | exact gf10 | exact gf11 | exact gf12 | exact gf13 | exact gf14 | exact gf15) (by exact ⟨rfl, rfl⟩) (by exact rfl) (by k_extra "ja") (by k_extra "ja") ?_; k_whole; intro h' u1 u2 tk F' N') | ((with_reducible show wpAny _ _ (eval (Expr.Call _ [_, _, _] [] _) _) _ _ _); refine callX3 (by k_asm) (by k_asm) (by k_asm) (by k_asm) (by first | exact rfl | assumption) rfl (by with_reducible first | exact gf0 | exact gf1 | exact gf2 | exact gf3 | exact gf4 | exact gf5 | exact gf6 | exact gf7 | exact gf8 | exact gf9 | exact gf10 | exact gf11 | exact gf12 | exact gf13 | exact gf14 | exact gf15) (by exact ⟨rfl, rfl⟩) (by exact rfl) (by k_extra "ja") (by k_extra "ja") (by k_extra "ja") ?_; k_whole; intro h' u1 u2 u3 tk F' N') | ((with_reducible show wpAny _ _ (eval (Expr.Call _ [_, _, _, _] [] _) _) _ _ _); refine callX4 (by k_asm) (by k_asm) (by k_asm) (by k_asm) (by first | exact rfl | assumption) rfl (by with_reducible first | exact gf0 | exact gf1 | exact gf2 | exact gf3 | exact gf4 | exact gf5 | exact gf6 | exact gf7 | exact gf8 | exact gf9 | exact gf10 | exact gf11 | exact gf12 | exact gf13 | exact gf14 | exact gf15) (by exact ⟨rfl, rfl⟩) (by exact rfl) (by k_extra "ja") (by k_extra "ja") (by k_extra "ja") (by k_extra "ja") ?_; k_whole; intro h' u1 u2 u3 u4 tk F' N')); (try k_sweep)))
  (k_with "pv" => first | (apply GV.name P; exact rfl; exact ⟨rfl, rfl⟩) | (apply GV.attr P; exact rfl; exact ⟨rfl, rfl⟩; (first | k_mem | assumption); (first | k_mem | assumption); (with_reducible first | exact own0 | exact own1 | exact own2 | exact own3 | exact own4 | exact own5 | exact own6 | exact own7 | exact own8 | exact own9 | exact own10); k_get; k_handed) | apply GV.bool | apply GV.none | (apply GC.toV; k_extra "pc"; exact rfl) | (apply GV.and2; k_extra "pv"; k_extra "pv") | (apply GV.or2; k_extra "pv"; k_extra "pv"))
  (k_with "pi" => first | apply GI.const | (apply GV.toI; k_extra "pv") | (apply GI.add; k_extra "pi"; k_extra "pi") | (apply GI.sub; k_extra "pi"; k_extra "pi") | (apply GI.band; k_extra "pi"; k_extra "pi"))
  (k_with "ps" => first | apply GS.const | (apply GV.toS; k_extra "pv"))
  (k_with "pc" => first | (apply GC.eqS; k_extra "ps"; k_extra "ps") | (apply GC.eqI; k_extra "pi"; k_extra "pi") | (apply GC.neS; k_extra "ps"; k_extra "ps") | (apply GC.neI; k_extra "pi"; k_extra "pi") | (apply GC.ltI; k_extra "pi"; k_extra "pi") | (apply GC.leI; k_extra "pi"; k_extra "pi") | (apply GC.gtI; k_extra "pi"; k_extra "pi") | (apply GC.geI; k_extra "pi"; k_extra "pi"))
  (k_with "pt" => first | (apply GC.toT; k_extra "pc"; exact rfl) | (apply GT.not; k_extra "pt") | (apply GV.toT; k_extra "pv"; exact rfl))
  (k_with "pa" => first | apply GI.const | apply GS.const | (apply GV.toA; k_extra "pv") | (apply GI.add; k_extra "pi"; k_extra "pi") | (apply GI.sub; k_extra "pi"; k_extra "pi") | (apply GI.band; k_extra "pi"; k_extra "pi"))
  (k_with "exec If" => ((with_reducible show wpAny _ _ (exec (Stmt.If _ _ _ _) _) _ _ _); k_dflt (refine ifP (by k_asm) (by k_asm) (by k_asm) (by first | exact rfl | assumption) rfl (by intro c P; k_extra "pt") ?_; k_whole); intro tk))
  (k_with "exec Return some" => ((with_reducible show wpAny _ _ (exec (Stmt.Return (some _) _) _) _ _ _); k_dflt (refine retP (by k_asm) (by k_asm) (by k_asm) (by first | exact rfl | assumption) rfl (by intro c P; k_extra "pa") ?_; k_whole); intro t tk))
  (k_with "exec Assign" => ((with_reducible show wpAny _ _ (exec (Stmt.Assign [Expr.Name _ _] _ _) _) _ _ _); k_dflt (refine asgP (by k_asm) (by k_asm) (by k_asm) (by first | exact rfl | assumption) rfl (by intro c P; k_extra "pa") (by exact ⟨rfl, rfl⟩) (by exact rfl) ?_; k_whole); intro t h' tk F' N'))
  (k_with "eval Call" => ((with_reducible show wpAny _ _ (eval (Expr.Call (Expr.Name _ _) (_ :: _) [] _) _) _ _ _); k_dflt (first | ((with_reducible show wpAny _ _ (eval (Expr.Call _ [_] [] _) _) _ _ _); refine callP1 (by k_asm) (by k_asm) (by k_asm) (by k_asm) (by first | exact rfl | assumption) rfl (by with_reducible first | exact gf0 | exact gf1 | exact gf2 | exact gf3 | exact gf4 | exact gf5 | exact gf6 | exact gf7 | exact gf8 | exact gf9 | exact gf10 | exact gf11 | exact gf12 | exact gf13 | exact gf14 | exact gf15) (by exact ⟨rfl, rfl⟩) (by exact rfl) (by intro c P; k_extra "pa") ?_; k_whole; intro u1 tk) | ((with_reducible show wpAny _ _ (eval (Expr.Call _ [_, _] [] _) _) _ _ _); refine callP2 (by k_asm) (by k_asm) (by k_asm) (by k_asm) (by first | exact rfl | assumption) rfl (by with_reducible first | exact gf0 | exact gf1 | exact gf2 | exact gf3 | exact gf4 | exact gf5 | exact gf6 | exact gf7 | exact gf8 | exact gf9 | exact gf10 | exact gf11 | exact gf12 | exact gf13 | exact gf14 | exact gf15) (by exact ⟨rfl, rfl⟩) (by exact rfl) (by intro c P; k_extra "pa") (by intro c P; k_extra "pa") ?_; k_whole; intro u1 u2 tk) | ((with_reducible show wpAny _ _ (eval (Expr.Call _ [_, _, _] [] _) _) _ _ _); refine callP3 (by k_asm) (by k_asm) (by k_asm) (by k_asm) (by first | exact rfl | assumption) rfl (by with_reducible first | exact gf0 | exact gf1 | exact gf2 | exact gf3 | exact gf4 | exact gf5 | exact gf6 | exact gf7 | exact gf8 | exact gf9 | exact gf10 | exact gf11 | exact gf12 | exact gf13 | exact gf14 | exact gf15) (by exact ⟨rfl, rfl⟩) (by exact rfl) (by intro c P; k_extra "pa") (by intro c P; k_extra "pa") (by intro c P; k_extra "pa") ?_; k_whole; intro u1 u2 u3 tk) | ((with_reducible show wpAny _ _ (eval (Expr.Call _ [_, _, _, _] [] _) _) _ _ _); refine callP4 (by k_asm) (by k_asm) (by k_asm) (by k_asm) (by first | exact rfl | assumption) rfl (by with_reducible first | exact gf0 | exact gf1 | exact gf2 | exact gf3 | exact gf4 | exact gf5 | exact gf6 | exact gf7 | exact gf8 | exact gf9 | exact gf10 | exact gf11 | exact gf12 | exact gf13 | exact gf14 | exact gf15) (by exact ⟨rfl, rfl⟩) (by exact rfl) (by intro c P; k_extra "pa") (by intro c P; k_extra "pa") (by intro c P; k_extra "pa") (by intro c P; k_extra "pa") ?_; k_whole; intro u1 u2 u3 u4 tk))))
  (k_with "call ref" => ((k_dflt (show wpAny _ _ (call (Value.ref 331) [Value.int _ _, Value.bool _]) _ _ _)); k_dflt (refine' ledC _ _ _ (by k_asm) (by k_asm) (by k_asm) (by k_asm) (by k_asm) (by first | exact rfl | assumption) (by ktr_room) (by ktr_units) (LRet.of ?_); k_whole; intro l' t' h' tk' F' N' hf'); (try dsimp only); (try k_fold)))
  (k_with "KysD" => first
 | (k_dflt (refine kys_cmp (by assumption) ?_); intro q' hq'; (try dsimp only))
 | (k_dflt (refine kys_ari (by assumption) ?_); intro q' t' hq'; (try dsimp only)))
  (k_with "eval BoolOp" => ((with_reducible show wpAny _ _ (eval (Expr.BoolOp BoolOp.Or [Expr.Name _ _, Expr.Name _ _] _) _) _ _ _); refine or_uns (by assumption) ?_))
  (k_with "And" => first | k_dflt (exact ⟨rfl, ⟨_, rfl⟩⟩) | (refine ⟨rfl, ?_, fun tk => ?_⟩ <;> (try dsimp only)))
  (k_with "compareOp In str ref" => ((with_reducible show wpAny _ _ (compareOp CmpOp.In (Value.str (Bop.txt _) _) (Value.ref _)) _ _ _); first | (k_dflt (refine' in_two (by k_asm) (by k_mem) (by assumption) ?_)) | (k_dflt (refine' in_six (by k_asm) (by k_mem) (by assumption) ?_; ))))
  (k_with "binaryOp Mult int int" => (first | (with_reducible refine mul_int ?_ (mul_ok _ _ _ _)) | (with_reducible refine mul_int ?_ (tdiv_ok _ _ _ _ _ _)) | (with_reducible refine mul_int ?_ (mulR_ok _ _ _)) | (refine mul_int ?_ (pow_ok _ (by assumption) (by assumption)))))
  (k_with "binaryOp FloorDiv int int" => ((with_reducible refine floordiv_int (by exact abs_ne (by first | assumption | (apply_assumption; assumption))) ?_ (Or.inl (PyProof.noPylong_of_log2 (by exact abs_log _ _))))))
  trivial
theorem two_log_n (o : Bop) (hg : o.grp = .log) (p1 p2 : Addr) (y : Value) (xu yu : Bool) (t0 t1 t2 : Tok) (B : Below A₀ base outer h₀) (F : Fr h₀ L s.heap m) (X : (KQ w.params).In h₀) (N : News h₀ L s.heap news) (T : Top viewQ looseQ mean mg mb h₀) (hk : cs.kind = .function) (m1 : (p1, tupL [.none, .bool xu]) ∈ news) (m2 : (p2, tupL [y, .bool yu]) ∈ news) 
    (hd : dp + 20 < recursionLimit) (hu : un + 160 < cLine)
    (ret : PRet h₀ L m news s Q (none) (false)) :
    wpAny (MQ w) (ktrTop dp un gd cn cs L a ccd cl outer) (call (.ref 338) [.str o.txt t0, .ref p1, .ref p2]) Q E s := by
  have N2 := News.dup (News.dup N m2) (.tail _ m1)
  obtain ⟨hA, hS, hD, hC⟩ := grp_log o hg
  have hJ : JoinOr xu yu xu yu := ⟨⟩
  refine pad2 fun _ _ => ?_
  refine pad1 fun _ => ?_
  (k_dflt (refine enterK fd338 (bs := [(Str.ofString "mark", .str o.txt t0), (Str.ofString "one", .ref p1), (Str.ofString "other", .ref p2)]) (by exact rfl) (by exact rfl) (by k_asm) (by k_asm) (by k_asm) (by k_asm) (by k_asm) (by first | exact rfl | assumption) (by ktr_room) ?_; k_whole); intro g' L' h' FG' F' N' B' X' T' tk' qk ek; (try k_lift B'))
  k_steps
  all_goals (first
    | (refine ret _ 0 none _ _ _ ?_ ?_ (by assumption) (by first | assumption | (exact ldrop1 (by assumption) (show ∀ r ∈ news, _ from by intro p hp; simp only [List.mem_cons, hp, or_true, true_or]))) (by ktr_rel) <;> (first | rfl | simp_all))
    | (refine ret _ _ (some _) _ _ _ ?_ ?_ (by assumption) (by first | assumption | (exact ldrop1 (by assumption) (show ∀ r ∈ news, _ from by intro p hp; simp only [List.mem_cons, hp, or_true, true_or]))) (by ktr_rel) <;> (first | rfl | simp_all)))

end
section
variable {w : World} {mean : ExcName → Option Value} {mg mb : Str → Option Value} {dp un : Nat} {gd : Option (List Code)} {cn : Str} {cs : Scope} {a : Addr} {ccd : Value} {cl : List (Str × Addr)} {outer : List Env} {A₀ : Around} {base h₀ : Heap} {L : Addr} {m : Str → Option Value} {news : List (Addr × Obj)} {s : Shared} {Q E : Value → Shared → Prop}
theorem two_log_sn (o : Bop) (hg : o.grp = .log) (p1 p2 : Addr) (x : Int) (xu yu : Bool) (t0 t1 t2 : Tok) (B : Below A₀ base outer h₀) (F : Fr h₀ L s.heap m) (X : (KQ w.params).In h₀) (N : News h₀ L s.heap news) (T : Top viewQ looseQ mean mg mb h₀) (hk : cs.kind = .function) (m1 : (p1, tupL [.int x t1, .bool xu]) ∈ news) (m2 : (p2, tupL [.none, .bool yu]) ∈ news) 
    (hd : dp + 20 < recursionLimit) (hu : un + 160 < cLine)
    (ret : PRet h₀ L m news s Q (logSN o x) (false)) :
    wpAny (MQ w) (ktrTop dp un gd cn cs L a ccd cl outer) (call (.ref 338) [.str o.txt t0, .ref p1, .ref p2]) Q E s := by
  have N2 := News.dup (News.dup N m2) (.tail _ m1)
  obtain ⟨hA, hS, hD, hC⟩ := grp_log o hg
  have hJ : JoinOr xu yu xu yu := ⟨⟩
  refine pad2 fun _ _ => ?_
  refine pad1 fun _ => ?_
  (k_dflt (refine enterK fd338 (bs := [(Str.ofString "mark", .str o.txt t0), (Str.ofString "one", .ref p1), (Str.ofString "other", .ref p2)]) (by exact rfl) (by exact rfl) (by k_asm) (by k_asm) (by k_asm) (by k_asm) (by k_asm) (by first | exact rfl | assumption) (by ktr_room) ?_; k_whole); intro g' L' h' FG' F' N' B' X' T' tk' qk ek; (try k_lift B'))
  k_steps
  all_goals (first
    | (refine ret _ 0 none _ _ _ ?_ ?_ (by assumption) (by first | assumption | (exact ldrop1 (by assumption) (show ∀ r ∈ news, _ from by intro p hp; simp only [List.mem_cons, hp, or_true, true_or]))) (by ktr_rel) <;> (first | rfl | (first | exact logSN_a (by assumption) | exact logSN_and (by assumption) (by assumption) (by assumption) | exact logSN_or (by assumption) (by assumption) (by assumption) | (exfalso; exact logSN_d o hA (by assumption) (by assumption) (by assumption)) | (exfalso; exact logSN_e o hA (by assumption) (by assumption) (by assumption)))))
    | (refine ret _ _ (some _) _ _ _ ?_ ?_ (by assumption) (by first | assumption | (exact ldrop1 (by assumption) (show ∀ r ∈ news, _ from by intro p hp; simp only [List.mem_cons, hp, or_true, true_or]))) (by ktr_rel) <;> (first | rfl | (first | exact logSN_a (by assumption) | exact logSN_and (by assumption) (by assumption) (by assumption) | exact logSN_or (by assumption) (by assumption) (by assumption) | (exfalso; exact logSN_d o hA (by assumption) (by assumption) (by assumption)) | (exfalso; exact logSN_e o hA (by assumption) (by assumption) (by assumption))))))

end
section
variable {w : World} {mean : ExcName → Option Value} {mg mb : Str → Option Value} {dp un : Nat} {gd : Option (List Code)} {cn : Str} {cs : Scope} {a : Addr} {ccd : Value} {cl : List (Str × Addr)} {outer : List Env} {A₀ : Around} {base h₀ : Heap} {L : Addr} {m : Str → Option Value} {news : List (Addr × Obj)} {s : Shared} {Q E : Value → Shared → Prop}
theorem two_log_ss (o : Bop) (hg : o.grp = .log) (p1 p2 : Addr) (x y : Int) (xu yu : Bool) (t0 t1 t2 : Tok) (B : Below A₀ base outer h₀) (F : Fr h₀ L s.heap m) (X : (KQ w.params).In h₀) (N : News h₀ L s.heap news) (T : Top viewQ looseQ mean mg mb h₀) (hk : cs.kind = .function) (m1 : (p1, tupL [.int x t1, .bool xu]) ∈ news) (m2 : (p2, tupL [.int y t2, .bool yu]) ∈ news) 
    (hd : dp + 20 < recursionLimit) (hu : un + 160 < cLine)
    (ret : PRet h₀ L m news s Q (some (logS o x y)) (false)) :
    wpAny (MQ w) (ktrTop dp un gd cn cs L a ccd cl outer) (call (.ref 338) [.str o.txt t0, .ref p1, .ref p2]) Q E s := by
  have N2 := News.dup (News.dup N m2) (.tail _ m1)
  obtain ⟨hA, hS, hD, hC⟩ := grp_log o hg
  have hJ : JoinOr xu yu xu yu := ⟨⟩
  refine pad2 fun _ _ => ?_
  (k_dflt (refine enterK fd338 (bs := [(Str.ofString "mark", .str o.txt t0), (Str.ofString "one", .ref p1), (Str.ofString "other", .ref p2)]) (by exact rfl) (by exact rfl) (by k_asm) (by k_asm) (by k_asm) (by k_asm) (by k_asm) (by first | exact rfl | assumption) (by ktr_room) ?_; k_whole); intro g' L' h' FG' F' N' B' X' T' tk' qk ek; (try k_lift B'))
  k_steps
  all_goals (first
    | (refine ret _ 0 none _ _ _ ?_ ?_ (by assumption) (by first | assumption | (exact ldrop1 (by assumption) (show ∀ r ∈ news, _ from by intro p hp; simp only [List.mem_cons, hp, or_true, true_or]))) (by ktr_rel) <;> (first | rfl | (simp_all [logS]; done)))
    | (refine ret _ _ (some _) _ _ _ ?_ ?_ (by assumption) (by first | assumption | (exact ldrop1 (by assumption) (show ∀ r ∈ news, _ from by intro p hp; simp only [List.mem_cons, hp, or_true, true_or]))) (by ktr_rel) <;> (first | rfl | (simp_all [logS]; done))))

end
section
variable {w : World} {mean : ExcName → Option Value} {mg mb : Str → Option Value} {dp un : Nat} {gd : Option (List Code)} {cn : Str} {cs : Scope} {a : Addr} {ccd : Value} {cl : List (Str × Addr)} {outer : List Env} {A₀ : Around} {base h₀ : Heap} {L : Addr} {m : Str → Option Value} {news : List (Addr × Obj)} {s : Shared} {Q E : Value → Shared → Prop}
theorem two_shift_n (o : Bop) (hg : o.grp = .shift) (p1 p2 : Addr) (y : Value) (xu yu : Bool) (t0 t1 t2 : Tok) (B : Below A₀ base outer h₀) (F : Fr h₀ L s.heap m) (X : (KQ w.params).In h₀) (N : News h₀ L s.heap news) (T : Top viewQ looseQ mean mg mb h₀) (hk : cs.kind = .function) (m1 : (p1, tupL [.none, .bool xu]) ∈ news) (m2 : (p2, tupL [y, .bool yu]) ∈ news) 
    (hd : dp + 20 < recursionLimit) (hu : un + 160 < cLine)
    (ret : PRet h₀ L m news s Q (none) (xu)) :
    wpAny (MQ w) (ktrTop dp un gd cn cs L a ccd cl outer) (call (.ref 338) [.str o.txt t0, .ref p1, .ref p2]) Q E s := by
  have N2 := News.dup (News.dup N m2) (.tail _ m1)
  obtain ⟨hA, hS, hD, hC⟩ := grp_shift o hg
  have hJ : JoinOr xu yu xu yu := ⟨⟩
  refine pad2 fun _ _ => ?_
  refine pad1 fun _ => ?_
  (k_dflt (refine enterK fd338 (bs := [(Str.ofString "mark", .str o.txt t0), (Str.ofString "one", .ref p1), (Str.ofString "other", .ref p2)]) (by exact rfl) (by exact rfl) (by k_asm) (by k_asm) (by k_asm) (by k_asm) (by k_asm) (by first | exact rfl | assumption) (by ktr_room) ?_; k_whole); intro g' L' h' FG' F' N' B' X' T' tk' qk ek; (try k_lift B'))
  k_steps
  all_goals (first
    | (refine ret _ 0 none _ _ _ ?_ ?_ (by assumption) (by first | assumption | (exact ldrop1 (by assumption) (show ∀ r ∈ news, _ from by intro p hp; simp only [List.mem_cons, hp, or_true, true_or]))) (by ktr_rel) <;> (first | rfl | simp_all))
    | (refine ret _ _ (some _) _ _ _ ?_ ?_ (by assumption) (by first | assumption | (exact ldrop1 (by assumption) (show ∀ r ∈ news, _ from by intro p hp; simp only [List.mem_cons, hp, or_true, true_or]))) (by ktr_rel) <;> (first | rfl | simp_all)))

end
section
variable {w : World} {mean : ExcName → Option Value} {mg mb : Str → Option Value} {dp un : Nat} {gd : Option (List Code)} {cn : Str} {cs : Scope} {a : Addr} {ccd : Value} {cl : List (Str × Addr)} {outer : List Env} {A₀ : Around} {base h₀ : Heap} {L : Addr} {m : Str → Option Value} {news : List (Addr × Obj)} {s : Shared} {Q E : Value → Shared → Prop}
theorem two_shift_sn (o : Bop) (hg : o.grp = .shift) (p1 p2 : Addr) (x : Int) (xu yu : Bool) (t0 t1 t2 : Tok) (B : Below A₀ base outer h₀) (F : Fr h₀ L s.heap m) (X : (KQ w.params).In h₀) (N : News h₀ L s.heap news) (T : Top viewQ looseQ mean mg mb h₀) (hk : cs.kind = .function) (m1 : (p1, tupL [.int x t1, .bool xu]) ∈ news) (m2 : (p2, tupL [.none, .bool yu]) ∈ news) 
    (hd : dp + 20 < recursionLimit) (hu : un + 160 < cLine)
    (ret : PRet h₀ L m news s Q (none) (xu)) :
    wpAny (MQ w) (ktrTop dp un gd cn cs L a ccd cl outer) (call (.ref 338) [.str o.txt t0, .ref p1, .ref p2]) Q E s := by
  have N2 := News.dup (News.dup N m2) (.tail _ m1)
  obtain ⟨hA, hS, hD, hC⟩ := grp_shift o hg
  have hJ : JoinOr xu yu xu yu := ⟨⟩
  refine pad2 fun _ _ => ?_
  refine pad1 fun _ => ?_
  (k_dflt (refine enterK fd338 (bs := [(Str.ofString "mark", .str o.txt t0), (Str.ofString "one", .ref p1), (Str.ofString "other", .ref p2)]) (by exact rfl) (by exact rfl) (by k_asm) (by k_asm) (by k_asm) (by k_asm) (by k_asm) (by first | exact rfl | assumption) (by ktr_room) ?_; k_whole); intro g' L' h' FG' F' N' B' X' T' tk' qk ek; (try k_lift B'))
  k_steps
  all_goals (first
    | (refine ret _ 0 none _ _ _ ?_ ?_ (by assumption) (by first | assumption | (exact ldrop1 (by assumption) (show ∀ r ∈ news, _ from by intro p hp; simp only [List.mem_cons, hp, or_true, true_or]))) (by ktr_rel) <;> (first | rfl | simp_all))
    | (refine ret _ _ (some _) _ _ _ ?_ ?_ (by assumption) (by first | assumption | (exact ldrop1 (by assumption) (show ∀ r ∈ news, _ from by intro p hp; simp only [List.mem_cons, hp, or_true, true_or]))) (by ktr_rel) <;> (first | rfl | simp_all)))

end
section
variable {w : World} {mean : ExcName → Option Value} {mg mb : Str → Option Value} {dp un : Nat} {gd : Option (List Code)} {cn : Str} {cs : Scope} {a : Addr} {ccd : Value} {cl : List (Str × Addr)} {outer : List Env} {A₀ : Around} {base h₀ : Heap} {L : Addr} {m : Str → Option Value} {news : List (Addr × Obj)} {s : Shared} {Q E : Value → Shared → Prop}
theorem two_shift_s (o : Bop) (hg : o.grp = .shift) (p1 p2 : Addr) (x y : Int) (xu yu : Bool) (t0 t1 t2 : Tok) (B : Below A₀ base outer h₀) (F : Fr h₀ L s.heap m) (X : (KQ w.params).In h₀) (N : News h₀ L s.heap news) (T : Top viewQ looseQ mean mg mb h₀) (hk : cs.kind = .function) (m1 : (p1, tupL [.int x t1, .bool xu]) ∈ news) (m2 : (p2, tupL [.int y t2, .bool yu]) ∈ news) (hy0 : 0 ≤ y) (hy1 : y ≤ 31)
    (hd : dp + 20 < recursionLimit) (hu : un + 160 < cLine)
    (ret : PRet h₀ L m news s Q (some (shS o x y xu)) (xu)) :
    wpAny (MQ w) (ktrTop dp un gd cn cs L a ccd cl outer) (call (.ref 338) [.str o.txt t0, .ref p1, .ref p2]) Q E s := by
  have N2 := News.dup (News.dup N m2) (.tail _ m1)
  obtain ⟨hA, hS, hD, hC⟩ := grp_shift o hg
  have hJ : JoinOr xu yu xu yu := ⟨⟩
  (k_dflt (refine enterK fd338 (bs := [(Str.ofString "mark", .str o.txt t0), (Str.ofString "one", .ref p1), (Str.ofString "other", .ref p2)]) (by exact rfl) (by exact rfl) (by k_asm) (by k_asm) (by k_asm) (by k_asm) (by k_asm) (by first | exact rfl | assumption) (by ktr_room) ?_; k_whole); intro g' L' h' FG' F' N' B' X' T' tk' qk ek; (try k_lift B'))
  k_steps
  all_goals (first
    | (refine ret _ 0 none _ _ _ ?_ ?_ (by assumption) (by first | assumption | (exact ldrop1 (by assumption) (show ∀ r ∈ news, _ from by intro p hp; simp only [List.mem_cons, hp, or_true, true_or]))) (by ktr_rel) <;> (first | rfl | (simp_all [shS]; done)))
    | (refine ret _ _ (some _) _ _ _ ?_ ?_ (by assumption) (by first | assumption | (exact ldrop1 (by assumption) (show ∀ r ∈ news, _ from by intro p hp; simp only [List.mem_cons, hp, or_true, true_or]))) (by ktr_rel) <;> (first | rfl | (simp_all [shS]; done))))

end
section
variable {w : World} {mean : ExcName → Option Value} {mg mb : Str → Option Value} {dp un : Nat} {gd : Option (List Code)} {cn : Str} {cs : Scope} {a : Addr} {ccd : Value} {cl : List (Str × Addr)} {outer : List Env} {A₀ : Around} {base h₀ : Heap} {L : Addr} {m : Str → Option Value} {news : List (Addr × Obj)} {s : Shared} {Q E : Value → Shared → Prop}
theorem two_div_n (o : Bop) (hg : o.grp = .div) (p1 p2 : Addr) (y : Value) (xu yu : Bool) (t0 t1 t2 : Tok) (B : Below A₀ base outer h₀) (F : Fr h₀ L s.heap m) (X : (KQ w.params).In h₀) (N : News h₀ L s.heap news) (T : Top viewQ looseQ mean mg mb h₀) (hk : cs.kind = .function) (m1 : (p1, tupL [.none, .bool xu]) ∈ news) (m2 : (p2, tupL [y, .bool yu]) ∈ news) 
    (hd : dp + 20 < recursionLimit) (hu : un + 160 < cLine)
    (ret : PRet h₀ L m news s Q (none) (xu || yu)) :
    wpAny (MQ w) (ktrTop dp un gd cn cs L a ccd cl outer) (call (.ref 338) [.str o.txt t0, .ref p1, .ref p2]) Q E s := by
  have N2 := News.dup (News.dup N m2) (.tail _ m1)
  obtain ⟨hA, hS, hD, hC⟩ := grp_div o hg
  have hJ : JoinOr xu yu xu yu := ⟨⟩
  refine pad2 fun _ _ => ?_
  refine pad1 fun _ => ?_
  (k_dflt (refine enterK fd338 (bs := [(Str.ofString "mark", .str o.txt t0), (Str.ofString "one", .ref p1), (Str.ofString "other", .ref p2)]) (by exact rfl) (by exact rfl) (by k_asm) (by k_asm) (by k_asm) (by k_asm) (by k_asm) (by first | exact rfl | assumption) (by ktr_room) ?_; k_whole); intro g' L' h' FG' F' N' B' X' T' tk' qk ek; (try k_lift B'))
  k_steps
  all_goals (first
    | (refine ret _ 0 none _ _ _ ?_ ?_ (by assumption) (by first | assumption | (exact ldrop1 (by assumption) (show ∀ r ∈ news, _ from by intro p hp; simp only [List.mem_cons, hp, or_true, true_or]))) (by ktr_rel) <;> (first | rfl | simp_all))
    | (refine ret _ _ (some _) _ _ _ ?_ ?_ (by assumption) (by first | assumption | (exact ldrop1 (by assumption) (show ∀ r ∈ news, _ from by intro p hp; simp only [List.mem_cons, hp, or_true, true_or]))) (by ktr_rel) <;> (first | rfl | simp_all)))

end
section
variable {w : World} {mean : ExcName → Option Value} {mg mb : Str → Option Value} {dp un : Nat} {gd : Option (List Code)} {cn : Str} {cs : Scope} {a : Addr} {ccd : Value} {cl : List (Str × Addr)} {outer : List Env} {A₀ : Around} {base h₀ : Heap} {L : Addr} {m : Str → Option Value} {news : List (Addr × Obj)} {s : Shared} {Q E : Value → Shared → Prop}
theorem two_div_sn (o : Bop) (hg : o.grp = .div) (p1 p2 : Addr) (x : Int) (xu yu : Bool) (t0 t1 t2 : Tok) (B : Below A₀ base outer h₀) (F : Fr h₀ L s.heap m) (X : (KQ w.params).In h₀) (N : News h₀ L s.heap news) (T : Top viewQ looseQ mean mg mb h₀) (hk : cs.kind = .function) (m1 : (p1, tupL [.int x t1, .bool xu]) ∈ news) (m2 : (p2, tupL [.none, .bool yu]) ∈ news) 
    (hd : dp + 20 < recursionLimit) (hu : un + 160 < cLine)
    (ret : PRet h₀ L m news s Q (none) (xu || yu)) :
    wpAny (MQ w) (ktrTop dp un gd cn cs L a ccd cl outer) (call (.ref 338) [.str o.txt t0, .ref p1, .ref p2]) Q E s := by
  have N2 := News.dup (News.dup N m2) (.tail _ m1)
  obtain ⟨hA, hS, hD, hC⟩ := grp_div o hg
  have hJ : JoinOr xu yu xu yu := ⟨⟩
  refine pad2 fun _ _ => ?_
  refine pad1 fun _ => ?_
  (k_dflt (refine enterK fd338 (bs := [(Str.ofString "mark", .str o.txt t0), (Str.ofString "one", .ref p1), (Str.ofString "other", .ref p2)]) (by exact rfl) (by exact rfl) (by k_asm) (by k_asm) (by k_asm) (by k_asm) (by k_asm) (by first | exact rfl | assumption) (by ktr_room) ?_; k_whole); intro g' L' h' FG' F' N' B' X' T' tk' qk ek; (try k_lift B'))
  k_steps
  all_goals (first
    | (refine ret _ 0 none _ _ _ ?_ ?_ (by assumption) (by first | assumption | (exact ldrop1 (by assumption) (show ∀ r ∈ news, _ from by intro p hp; simp only [List.mem_cons, hp, or_true, true_or]))) (by ktr_rel) <;> (first | rfl | simp_all))
    | (refine ret _ _ (some _) _ _ _ ?_ ?_ (by assumption) (by first | assumption | (exact ldrop1 (by assumption) (show ∀ r ∈ news, _ from by intro p hp; simp only [List.mem_cons, hp, or_true, true_or]))) (by ktr_rel) <;> (first | rfl | simp_all)))

end
section
variable {w : World} {mean : ExcName → Option Value} {mg mb : Str → Option Value} {dp un : Nat} {gd : Option (List Code)} {cn : Str} {cs : Scope} {a : Addr} {ccd : Value} {cl : List (Str × Addr)} {outer : List Env} {A₀ : Around} {base h₀ : Heap} {L : Addr} {m : Str → Option Value} {news : List (Addr × Obj)} {s : Shared} {Q E : Value → Shared → Prop}
theorem two_div_ss (o : Bop) (hg : o.grp = .div) (p1 p2 : Addr) (x y : Int) (xu yu : Bool) (t0 t1 t2 : Tok) (B : Below A₀ base outer h₀) (F : Fr h₀ L s.heap m) (X : (KQ w.params).In h₀) (N : News h₀ L s.heap news) (T : Top viewQ looseQ mean mg mb h₀) (hk : cs.kind = .function) (m1 : (p1, tupL [.int x t1, .bool xu]) ∈ news) (m2 : (p2, tupL [.int y t2, .bool yu]) ∈ news) (hyz : y ≠ 0 → led32 y (xu || yu) ≠ 0)
    (hd : dp + 20 < recursionLimit) (hu : un + 160 < cLine)
    (ret : PRet h₀ L m news s Q (divS o x y (xu || yu)) (xu || yu)) :
    wpAny (MQ w) (ktrTop dp un gd cn cs L a ccd cl outer) (call (.ref 338) [.str o.txt t0, .ref p1, .ref p2]) Q E s := by
  have N2 := News.dup (News.dup N m2) (.tail _ m1)
  obtain ⟨hA, hS, hD, hC⟩ := grp_div o hg
  have hJ : JoinOr xu yu xu yu := ⟨⟩
  refine pad1 fun _ => ?_
  (k_dflt (refine enterK fd338 (bs := [(Str.ofString "mark", .str o.txt t0), (Str.ofString "one", .ref p1), (Str.ofString "other", .ref p2)]) (by exact rfl) (by exact rfl) (by k_asm) (by k_asm) (by k_asm) (by k_asm) (by k_asm) (by first | exact rfl | assumption) (by ktr_room) ?_; k_whole); intro g' L' h' FG' F' N' B' X' T' tk' qk ek; (try k_lift B'))
  k_steps
  all_goals (first
    | (refine ret _ 0 none _ _ _ ?_ ?_ (by assumption) (by first | assumption | (exact ldrop1 (by assumption) (show ∀ r ∈ news, _ from by intro p hp; simp only [List.mem_cons, hp, or_true, true_or]))) (by ktr_rel) <;> (first | rfl | exact divS_z (by assumption) | exact divS_q (by assumption) (by first | exact quot1 (hyz (by assumption)) (by assumption) | exact quot2 (hyz (by assumption)) (by assumption)) (by assumption) | exact divS_r (by assumption) (by first | exact quot1 (hyz (by assumption)) (by assumption) | exact quot2 (hyz (by assumption)) (by assumption)) (by assumption)))
    | (refine ret _ _ (some _) _ _ _ ?_ ?_ (by assumption) (by first | assumption | (exact ldrop1 (by assumption) (show ∀ r ∈ news, _ from by intro p hp; simp only [List.mem_cons, hp, or_true, true_or]))) (by ktr_rel) <;> (first | rfl | exact divS_z (by assumption) | exact divS_q (by assumption) (by first | exact quot1 (hyz (by assumption)) (by assumption) | exact quot2 (hyz (by assumption)) (by assumption)) (by assumption) | exact divS_r (by assumption) (by first | exact quot1 (hyz (by assumption)) (by assumption) | exact quot2 (hyz (by assumption)) (by assumption)) (by assumption))))

end
section
variable {w : World} {mean : ExcName → Option Value} {mg mb : Str → Option Value} {dp un : Nat} {gd : Option (List Code)} {cn : Str} {cs : Scope} {a : Addr} {ccd : Value} {cl : List (Str × Addr)} {outer : List Env} {A₀ : Around} {base h₀ : Heap} {L : Addr} {m : Str → Option Value} {news : List (Addr × Obj)} {s : Shared} {Q E : Value → Shared → Prop}
theorem two_cmp_n (o : Bop) (hg : o.grp = .cmp) (p1 p2 : Addr) (y : Value) (xu yu : Bool) (t0 t1 t2 : Tok) (B : Below A₀ base outer h₀) (F : Fr h₀ L s.heap m) (X : (KQ w.params).In h₀) (N : News h₀ L s.heap news) (T : Top viewQ looseQ mean mg mb h₀) (hk : cs.kind = .function) (m1 : (p1, tupL [.none, .bool xu]) ∈ news) (m2 : (p2, tupL [y, .bool yu]) ∈ news) 
    (hd : dp + 20 < recursionLimit) (hu : un + 160 < cLine)
    (ret : PRet h₀ L m news s Q (none) (false)) :
    wpAny (MQ w) (ktrTop dp un gd cn cs L a ccd cl outer) (call (.ref 338) [.str o.txt t0, .ref p1, .ref p2]) Q E s := by
  have N2 := News.dup (News.dup N m2) (.tail _ m1)
  obtain ⟨hA, hS, hD, hC⟩ := grp_cmp o hg
  have hJ : JoinOr xu yu xu yu := ⟨⟩
  refine pad2 fun _ _ => ?_
  refine pad1 fun _ => ?_
  (k_dflt (refine enterK fd338 (bs := [(Str.ofString "mark", .str o.txt t0), (Str.ofString "one", .ref p1), (Str.ofString "other", .ref p2)]) (by exact rfl) (by exact rfl) (by k_asm) (by k_asm) (by k_asm) (by k_asm) (by k_asm) (by first | exact rfl | assumption) (by ktr_room) ?_; k_whole); intro g' L' h' FG' F' N' B' X' T' tk' qk ek; (try k_lift B'))
  k_steps
  all_goals (first
    | (refine ret _ 0 none _ _ _ ?_ ?_ (by assumption) (by first | assumption | (exact ldrop1 (by assumption) (show ∀ r ∈ news, _ from by intro p hp; simp only [List.mem_cons, hp, or_true, true_or]))) (by ktr_rel) <;> (first | rfl | simp_all))
    | (refine ret _ _ (some _) _ _ _ ?_ ?_ (by assumption) (by first | assumption | (exact ldrop1 (by assumption) (show ∀ r ∈ news, _ from by intro p hp; simp only [List.mem_cons, hp, or_true, true_or]))) (by ktr_rel) <;> (first | rfl | simp_all)))

end
section
variable {w : World} {mean : ExcName → Option Value} {mg mb : Str → Option Value} {dp un : Nat} {gd : Option (List Code)} {cn : Str} {cs : Scope} {a : Addr} {ccd : Value} {cl : List (Str × Addr)} {outer : List Env} {A₀ : Around} {base h₀ : Heap} {L : Addr} {m : Str → Option Value} {news : List (Addr × Obj)} {s : Shared} {Q E : Value → Shared → Prop}
theorem two_cmp_sn (o : Bop) (hg : o.grp = .cmp) (p1 p2 : Addr) (x : Int) (xu yu : Bool) (t0 t1 t2 : Tok) (B : Below A₀ base outer h₀) (F : Fr h₀ L s.heap m) (X : (KQ w.params).In h₀) (N : News h₀ L s.heap news) (T : Top viewQ looseQ mean mg mb h₀) (hk : cs.kind = .function) (m1 : (p1, tupL [.int x t1, .bool xu]) ∈ news) (m2 : (p2, tupL [.none, .bool yu]) ∈ news) 
    (hd : dp + 20 < recursionLimit) (hu : un + 160 < cLine)
    (ret : PRet h₀ L m news s Q (none) (false)) :
    wpAny (MQ w) (ktrTop dp un gd cn cs L a ccd cl outer) (call (.ref 338) [.str o.txt t0, .ref p1, .ref p2]) Q E s := by
  have N2 := News.dup (News.dup N m2) (.tail _ m1)
  obtain ⟨hA, hS, hD, hC⟩ := grp_cmp o hg
  have hJ : JoinOr xu yu xu yu := ⟨⟩
  refine pad2 fun _ _ => ?_
  refine pad1 fun _ => ?_
  (k_dflt (refine enterK fd338 (bs := [(Str.ofString "mark", .str o.txt t0), (Str.ofString "one", .ref p1), (Str.ofString "other", .ref p2)]) (by exact rfl) (by exact rfl) (by k_asm) (by k_asm) (by k_asm) (by k_asm) (by k_asm) (by first | exact rfl | assumption) (by ktr_room) ?_; k_whole); intro g' L' h' FG' F' N' B' X' T' tk' qk ek; (try k_lift B'))
  k_steps
  all_goals (first
    | (refine ret _ 0 none _ _ _ ?_ ?_ (by assumption) (by first | assumption | (exact ldrop1 (by assumption) (show ∀ r ∈ news, _ from by intro p hp; simp only [List.mem_cons, hp, or_true, true_or]))) (by ktr_rel) <;> (first | rfl | simp_all))
    | (refine ret _ _ (some _) _ _ _ ?_ ?_ (by assumption) (by first | assumption | (exact ldrop1 (by assumption) (show ∀ r ∈ news, _ from by intro p hp; simp only [List.mem_cons, hp, or_true, true_or]))) (by ktr_rel) <;> (first | rfl | simp_all)))

end
section
variable {w : World} {mean : ExcName → Option Value} {mg mb : Str → Option Value} {dp un : Nat} {gd : Option (List Code)} {cn : Str} {cs : Scope} {a : Addr} {ccd : Value} {cl : List (Str × Addr)} {outer : List Env} {A₀ : Around} {base h₀ : Heap} {L : Addr} {m : Str → Option Value} {news : List (Addr × Obj)} {s : Shared} {Q E : Value → Shared → Prop}
theorem two_cmp_ss (o : Bop) (hg : o.grp = .cmp) (p1 p2 : Addr) (x y : Int) (xu yu : Bool) (t0 t1 t2 : Tok) (B : Below A₀ base outer h₀) (F : Fr h₀ L s.heap m) (X : (KQ w.params).In h₀) (N : News h₀ L s.heap news) (T : Top viewQ looseQ mean mg mb h₀) (hk : cs.kind = .function) (m1 : (p1, tupL [.int x t1, .bool xu]) ∈ news) (m2 : (p2, tupL [.int y t2, .bool yu]) ∈ news) 
    (hd : dp + 20 < recursionLimit) (hu : un + 160 < cLine)
    (ret : PRet h₀ L m news s Q (some (if cmpS o.txt (led32 x (xu || yu)) (led32 y (xu || yu)) then 1 else 0)) (false)) :
    wpAny (MQ w) (ktrTop dp un gd cn cs L a ccd cl outer) (call (.ref 338) [.str o.txt t0, .ref p1, .ref p2]) Q E s := by
  have N2 := News.dup (News.dup N m2) (.tail _ m1)
  obtain ⟨hA, hS, hD, hC⟩ := grp_cmp o hg
  have hJ : JoinOr xu yu xu yu := ⟨⟩
  refine pad2 fun _ _ => ?_
  (k_dflt (refine enterK fd338 (bs := [(Str.ofString "mark", .str o.txt t0), (Str.ofString "one", .ref p1), (Str.ofString "other", .ref p2)]) (by exact rfl) (by exact rfl) (by k_asm) (by k_asm) (by k_asm) (by k_asm) (by k_asm) (by first | exact rfl | assumption) (by ktr_room) ?_; k_whole); intro g' L' h' FG' F' N' B' X' T' tk' qk ek; (try k_lift B'))
  k_steps
  all_goals (first
    | (refine ret _ 0 none _ _ _ ?_ ?_ (by assumption) (by first | assumption | (exact ldrop1 (by assumption) (show ∀ r ∈ news, _ from by intro p hp; simp only [List.mem_cons, hp, or_true, true_or]))) (by ktr_rel) <;> (first | rfl | (simp_all; done)))
    | (refine ret _ _ (some _) _ _ _ ?_ ?_ (by assumption) (by first | assumption | (exact ldrop1 (by assumption) (show ∀ r ∈ news, _ from by intro p hp; simp only [List.mem_cons, hp, or_true, true_or]))) (by ktr_rel) <;> (first | rfl | (simp_all; done))))

end
section
variable {w : World} {mean : ExcName → Option Value} {mg mb : Str → Option Value} {dp un : Nat} {gd : Option (List Code)} {cn : Str} {cs : Scope} {a : Addr} {ccd : Value} {cl : List (Str × Addr)} {outer : List Env} {A₀ : Around} {base h₀ : Heap} {L : Addr} {m : Str → Option Value} {news : List (Addr × Obj)} {s : Shared} {Q E : Value → Shared → Prop}
theorem two_ari_n (o : Bop) (hg : o.grp = .ari) (p1 p2 : Addr) (y : Value) (xu yu : Bool) (t0 t1 t2 : Tok) (B : Below A₀ base outer h₀) (F : Fr h₀ L s.heap m) (X : (KQ w.params).In h₀) (N : News h₀ L s.heap news) (T : Top viewQ looseQ mean mg mb h₀) (hk : cs.kind = .function) (m1 : (p1, tupL [.none, .bool xu]) ∈ news) (m2 : (p2, tupL [y, .bool yu]) ∈ news) 
    (hd : dp + 20 < recursionLimit) (hu : un + 160 < cLine)
    (ret : PRet h₀ L m news s Q (none) (xu || yu)) :
    wpAny (MQ w) (ktrTop dp un gd cn cs L a ccd cl outer) (call (.ref 338) [.str o.txt t0, .ref p1, .ref p2]) Q E s := by
  have N2 := News.dup (News.dup N m2) (.tail _ m1)
  obtain ⟨hA, hS, hD, hC⟩ := grp_ari o hg
  have hJ : JoinOr xu yu xu yu := ⟨⟩
  refine pad2 fun _ _ => ?_
  refine pad1 fun _ => ?_
  (k_dflt (refine enterK fd338 (bs := [(Str.ofString "mark", .str o.txt t0), (Str.ofString "one", .ref p1), (Str.ofString "other", .ref p2)]) (by exact rfl) (by exact rfl) (by k_asm) (by k_asm) (by k_asm) (by k_asm) (by k_asm) (by first | exact rfl | assumption) (by ktr_room) ?_; k_whole); intro g' L' h' FG' F' N' B' X' T' tk' qk ek; (try k_lift B'))
  k_steps
  all_goals (first
    | (refine ret _ 0 none _ _ _ ?_ ?_ (by assumption) (by first | assumption | (exact ldrop1 (by assumption) (show ∀ r ∈ news, _ from by intro p hp; simp only [List.mem_cons, hp, or_true, true_or]))) (by ktr_rel) <;> (first | rfl | simp_all))
    | (refine ret _ _ (some _) _ _ _ ?_ ?_ (by assumption) (by first | assumption | (exact ldrop1 (by assumption) (show ∀ r ∈ news, _ from by intro p hp; simp only [List.mem_cons, hp, or_true, true_or]))) (by ktr_rel) <;> (first | rfl | simp_all)))

end
section
variable {w : World} {mean : ExcName → Option Value} {mg mb : Str → Option Value} {dp un : Nat} {gd : Option (List Code)} {cn : Str} {cs : Scope} {a : Addr} {ccd : Value} {cl : List (Str × Addr)} {outer : List Env} {A₀ : Around} {base h₀ : Heap} {L : Addr} {m : Str → Option Value} {news : List (Addr × Obj)} {s : Shared} {Q E : Value → Shared → Prop}
theorem two_ari_sn (o : Bop) (hg : o.grp = .ari) (p1 p2 : Addr) (x : Int) (xu yu : Bool) (t0 t1 t2 : Tok) (B : Below A₀ base outer h₀) (F : Fr h₀ L s.heap m) (X : (KQ w.params).In h₀) (N : News h₀ L s.heap news) (T : Top viewQ looseQ mean mg mb h₀) (hk : cs.kind = .function) (m1 : (p1, tupL [.int x t1, .bool xu]) ∈ news) (m2 : (p2, tupL [.none, .bool yu]) ∈ news) 
    (hd : dp + 20 < recursionLimit) (hu : un + 160 < cLine)
    (ret : PRet h₀ L m news s Q (none) (xu || yu)) :
    wpAny (MQ w) (ktrTop dp un gd cn cs L a ccd cl outer) (call (.ref 338) [.str o.txt t0, .ref p1, .ref p2]) Q E s := by
  have N2 := News.dup (News.dup N m2) (.tail _ m1)
  obtain ⟨hA, hS, hD, hC⟩ := grp_ari o hg
  have hJ : JoinOr xu yu xu yu := ⟨⟩
  refine pad2 fun _ _ => ?_
  refine pad1 fun _ => ?_
  (k_dflt (refine enterK fd338 (bs := [(Str.ofString "mark", .str o.txt t0), (Str.ofString "one", .ref p1), (Str.ofString "other", .ref p2)]) (by exact rfl) (by exact rfl) (by k_asm) (by k_asm) (by k_asm) (by k_asm) (by k_asm) (by first | exact rfl | assumption) (by ktr_room) ?_; k_whole); intro g' L' h' FG' F' N' B' X' T' tk' qk ek; (try k_lift B'))
  k_steps
  all_goals (first
    | (refine ret _ 0 none _ _ _ ?_ ?_ (by assumption) (by first | assumption | (exact ldrop1 (by assumption) (show ∀ r ∈ news, _ from by intro p hp; simp only [List.mem_cons, hp, or_true, true_or]))) (by ktr_rel) <;> (first | rfl | simp_all))
    | (refine ret _ _ (some _) _ _ _ ?_ ?_ (by assumption) (by first | assumption | (exact ldrop1 (by assumption) (show ∀ r ∈ news, _ from by intro p hp; simp only [List.mem_cons, hp, or_true, true_or]))) (by ktr_rel) <;> (first | rfl | simp_all)))

end
section
variable {w : World} {mean : ExcName → Option Value} {mg mb : Str → Option Value} {dp un : Nat} {gd : Option (List Code)} {cn : Str} {cs : Scope} {a : Addr} {ccd : Value} {cl : List (Str × Addr)} {outer : List Env} {A₀ : Around} {base h₀ : Heap} {L : Addr} {m : Str → Option Value} {news : List (Addr × Obj)} {s : Shared} {Q E : Value → Shared → Prop}
theorem two_ari_ss (o : Bop) (hg : o.grp = .ari) (p1 p2 : Addr) (x y : Int) (xu yu : Bool) (t0 t1 t2 : Tok) (B : Below A₀ base outer h₀) (F : Fr h₀ L s.heap m) (X : (KQ w.params).In h₀) (N : News h₀ L s.heap news) (T : Top viewQ looseQ mean mg mb h₀) (hk : cs.kind = .function) (m1 : (p1, tupL [.int x t1, .bool xu]) ∈ news) (m2 : (p2, tupL [.int y t2, .bool yu]) ∈ news) 
    (hd : dp + 20 < recursionLimit) (hu : un + 160 < cLine)
    (ret : PRet h₀ L m news s Q (some (ariS o (led32 x (xu || yu)) (led32 y (xu || yu)) (xu || yu))) (xu || yu)) :
    wpAny (MQ w) (ktrTop dp un gd cn cs L a ccd cl outer) (call (.ref 338) [.str o.txt t0, .ref p1, .ref p2]) Q E s := by
  have N2 := News.dup (News.dup N m2) (.tail _ m1)
  obtain ⟨hA, hS, hD, hC⟩ := grp_ari o hg
  have hJ : JoinOr xu yu xu yu := ⟨⟩
  refine pad2 fun _ _ => ?_
  (k_dflt (refine enterK fd338 (bs := [(Str.ofString "mark", .str o.txt t0), (Str.ofString "one", .ref p1), (Str.ofString "other", .ref p2)]) (by exact rfl) (by exact rfl) (by k_asm) (by k_asm) (by k_asm) (by k_asm) (by k_asm) (by first | exact rfl | assumption) (by ktr_room) ?_; k_whole); intro g' L' h' FG' F' N' B' X' T' tk' qk ek; (try k_lift B'))
  k_steps
  all_goals (first
    | (refine ret _ 0 none _ _ _ ?_ ?_ (by assumption) (by first | assumption | (exact ldrop1 (by assumption) (show ∀ r ∈ news, _ from by intro p hp; simp only [List.mem_cons, hp, or_true, true_or]))) (by ktr_rel) <;> (first | rfl | (simp_all [ariS]; done)))
    | (refine ret _ _ (some _) _ _ _ ?_ ?_ (by assumption) (by first | assumption | (exact ldrop1 (by assumption) (show ∀ r ∈ news, _ from by intro p hp; simp only [List.mem_cons, hp, or_true, true_or]))) (by ktr_rel) <;> (first | rfl | (simp_all [ariS]; done))))

end
end
end
section
open PySem PySem.W PyProof.Rows PySem.Calls PySem.Spec
section
section
variable {w : World} {mean : ExcName → Option Value} {mg mb : Str → Option Value} {dp un : Nat} {gd : Option (List Code)} {cn : Str} {cs : Scope} {a : Addr} {ccd : Value} {cl : List (Str × Addr)} {outer : List Env} {A₀ : Around} {base h₀ : Heap} {L : Addr} {m : Str → Option Value} {news : List (Addr × Obj)} {s : Shared} {Q E : Value → Shared → Prop}

theorem kw67 : True := by
  k_with_none
  (k_with "eval Call" => ((with_reducible show wpAny _ _ (eval (Expr.Call (Expr.Name _ _) _ [] _) _) _ _ _); k_dflt (refine Call_ ?_)))
  (k_with "subscriptTail Name Constant ref int" => ((with_reducible show wpAny _ _ (subscriptTail _ _ (Value.ref _) (Value.int _ _)) _ _ _); k_dflt (first | (refine subT (by k_asm) (by k_mem) (by exact rfl) (by exact rfl) ?_ (by with_unfolding_all rfl); k_whole) | (refine subL (by k_asm) (by k_mem) (by exact rfl) (by exact rfl) ?_ (by with_unfolding_all rfl); k_whole))))
  (k_with "subscriptTail" => ((with_reducible show wpAny _ _ (subscriptTail _ _ (Value.ref _) (Value.int _ _)) _ _ _); k_dflt (first | (refine subT (by k_asm) (by k_mem) (by exact rfl) (by exact rfl) ?_ (by with_unfolding_all rfl); k_whole) | (refine subL (by k_asm) (by k_mem) (by exact rfl) (by exact rfl) ?_ (by with_unfolding_all rfl); k_whole))))
  (k_with "exec Assign cons ListComp" => (k_dflt (refine Assign_ListComp_T (F₀ := by k_asm) (by rfl) (by with_unfolding_all rfl) (by rfl) (by decide) (by rfl) (by decide) (by rfl) (by rfl) (by rfl) ?_ (by intro _; rfl))))
  (k_with "subscriptTail" => ((with_reducible show wpAny _ _ (subscriptTail _ (PySem.Expr.Slice _ _ _ _) (Value.ref _) (Value.ref _)) _ _ _); k_dflt (refine slice_tuple_from (a := 1) (by k_asm) (by k_asm) (News.isTup (by k_asm) (by k_mem)) (by decide) ?_ ?_)))
  (k_with "binaryOp Add ref ref" => ((with_reducible show wpAny _ _ (binaryOp PySem.Operator.Add (Value.ref _) (Value.ref _)) _ _ _); k_dflt (refine' catL (by k_asm) (by k_asm) (by k_mem) (by k_mem) (by first | assumption | exact StrsAre.nil | exact StrsAre.cons _ _ StrsAre.nil) (by first | assumption | exact StrsAre.cons _ _ StrsAre.nil | exact StrsAre.nil) (by (simp only [List.length_append, List.length_cons, List.length_nil]; omega)) ?_; intro l' ws' n' h' hs' F' N' hf')))
  (k_with "SrcTup" => (k_dflt (refine ⟨_, _, _, rfl, rfl, by k_asm, by k_asm, .head _, Nat.le_of_ble_eq_true rfl, fun gH => ?_⟩)))
  trivial
theorem tup298 {h : Heap} (X : (KQ w.params).In h) : IsTup h 298 #[.str (Str.ofString "/") 810, .str (Str.ofString "1") 811, .str (Str.ofString "0") 812] := ⟨o298_j w.params, X _ _ (by kernel_rfl), rfl, _, rfl⟩
theorem kw68 : True := by
  (k_with "subscriptTail" => ((with_reducible show wpAny _ _ (subscriptTail _ (PySem.Expr.Slice _ _ _ _) (Value.ref 298) (Value.ref _)) _ _ _); k_dflt (refine slice_tuple_from (a := 1) (by k_asm) (by k_asm) (tup298 (Frag.In.keeps (by k_asm) (Fr.keep (by k_asm)))) (by decide) ?_ ?_)))
  trivial
theorem strs_end {ws : List Value} {l : List Str} (h : StrsAre ws (l ++ [])) : StrsAre ws l := by rw [List.append_nil] at h; exact h
noncomputable abbrev Brk (D : Tr) (ws : List Value) : Prop := StrsAre ws (Str.ofString "(" :: (D.texts ++ [Str.ofString ")"]))
theorem wordsStep {v : Value} {D : Tr} {ax : Addr} {its : List Value} {Fin : List Value → List (Addr × Obj) → Prop} {k i : Nat} {ys : List Value} (W : WordsTell w D) (B : Below A₀ base outer h₀) (X : (KQ w.params).In h₀) (T : Top viewQ looseQ mean mg mb h₀)
    (hv : its[i]? = some v) (hax : (ax, tupL its) ∈ news) (ht : TreeAt news v D) (hw : D.texts.length < 1000)
    (hd : dp + 10 * D.deep + 25 < recursionLimit) (hu : un + 200 * D.deep + 350 < cLine)
    (next : ∀ l ws n, Brk D ws → (∀ p ∈ news, p.1 ≠ l) → LCg.CompRest PySem.Challenge.rw_on0057_01.prog w (ktrTop dp un gd (Str.ofString "_law_words") (pS (Mine.D 38)) L 324 (Value.ref 323) [] outer) h₀ L m (envOf (Str.ofString "_law_words") (pS (Mine.D 38)) L 324 (Value.ref 323)) (cEl (pB (Mine.D 38))) (Str.ofString "part") (cSc (pB (Mine.D 38))) [] s (fun nw => (ax, tupL its) ∈ nw) (fun i v => its[i]? = some v) Fin k (i + 1) (ys ++ [.ref l]) ((l, listOf ws.toArray n) :: news)) :
    LCg.CompRest PySem.Challenge.rw_on0057_01.prog w (ktrTop dp un gd (Str.ofString "_law_words") (pS (Mine.D 38)) L 324 (Value.ref 323) [] outer) h₀ L m (envOf (Str.ofString "_law_words") (pS (Mine.D 38)) L 324 (Value.ref 323)) (cEl (pB (Mine.D 38))) (Str.ofString "part") (cSc (pB (Mine.D 38))) [] s (fun nw => (ax, tupL its) ∈ nw) (fun i v => its[i]? = some v) Fin (k + 1) i ys news :=
  compStep hv hax (fun I C P oI oC m₂ s₁ E' hC hx F1 N1 => wordsElem W B X T hC hx F1 N1 ht hw hd hu) (fun l o hR fr => by obtain ⟨ws, n, rfl, hs⟩ := hR; exact next l ws n hs fr)
theorem words_leaf (k : Num) : WordsTell w (.leaf k) := by
  refine @pad4 _ ?_; intro _ _ _ _
  refine @pad1 _ ?_; intro _
  intro mean mg mb dp un gd cn cs a ccd cl outer A₀ base h₀ L m news s Q E v B F X N T hk ht hw hd hu ret
  cases ht with
  | @leaf _ t1 =>
  refine pad8 fun _ _ _ _ _ _ _ _ => ?_
  refine pad4 fun _ _ _ _ => ?_
  refine pad2 fun _ _ => ?_
  refine pad1 fun _ => ?_
  (k_dflt (refine enterK fd324 (bs := [(Str.ofString "tree", .str k.txt t1)]) (by exact rfl) (by exact rfl) (by k_asm) (by k_asm) (by k_asm) (by k_asm) (by k_asm) (by first | exact rfl | assumption) (by ktr_room) ?_; k_whole); intro g' L' h' FG' F' N' B' X' T' tk' qk ek; (try k_lift B'))
  k_steps
  all_goals (refine ret _ _ _ _ _ (by assumption) (by first | assumption | exact vdrop1 (by assumption) (show ∀ r ∈ _, _ from fun p hp => by simp only [List.mem_cons, hp, or_true, true_or])) (fun p hp => by first | exact (by assumption : ∀ q ∈ _, q.1 ≠ _) p (by simp only [List.mem_cons, hp, or_true, true_or]) | exact Nat.ne_of_lt ((by assumption : ∀ q ∈ _, q.1 < _) p (by simp only [List.mem_cons, hp, or_true, true_or]))) (by first | assumption | exact StrsAre.cons _ _ StrsAre.nil | exact strs_end (by assumption)))
theorem words_un (o : Uop) (D1 : Tr) (W1 : WordsTell w D1) : WordsTell w (.un o D1) := by
  refine @pad2 _ ?_; intro _ _
  refine @pad1 _ ?_; intro _
  intro mean mg mb dp un gd cn cs a ccd cl outer A₀ base h₀ L m news s Q E v B F X N T hk ht hw hd hu ret
  cases ht with
  | @un D' _ t1 v1 _ hm ht1 =>
  rw [texts_un] at hw ret
  simp only [List.length_append, List.length_cons, List.length_nil] at hw
  unfold Tr.deep at hd hu
  have N2 := News.dup N hm
  refine pad4 fun _ _ _ _ => ?_
  refine pad2 fun _ _ => ?_
  refine pad1 fun _ => ?_
  (k_dflt (refine enterK fd324 (bs := [(Str.ofString "tree", .ref D')]) (by exact rfl) (by exact rfl) (by k_asm) (by k_asm) (by k_asm) (by k_asm) (by k_asm) (by first | exact rfl | assumption) (by ktr_room) ?_; k_whole); intro g' L' h' FG' F' N' B' X' T' tk' qk ek; (try k_lift B'))
  k_steps
  all_goals (refine wordsStep W1 (by assumption) (by assumption) (by assumption) rfl (.head _) (ht1.mono (fun p hp => .tail _ (.tail _ hp))) (by omega) (by ktr_room) (by ktr_units) (fun l1 ws1 n1 hs1 fr1 => ?_))
  all_goals (refine @pad8 _ ?_; intro _ _ _ _ _ _ _ _)
  all_goals (refine @pad2 _ ?_; intro _ _)
  all_goals k_steps
  all_goals (refine ret _ _ _ _ _ (by assumption) (by first | assumption | exact vdrop1 (by assumption) (show ∀ r ∈ _, _ from fun p hp => by simp only [List.mem_cons, hp, or_true, true_or])) (fun p hp => by first | exact (by assumption : ∀ q ∈ _, q.1 ≠ _) p (by simp only [List.mem_cons, hp, or_true, true_or]) | exact Nat.ne_of_lt ((by assumption : ∀ q ∈ _, q.1 < _) p (by simp only [List.mem_cons, hp, or_true, true_or]))) (by first | assumption | exact StrsAre.cons _ _ StrsAre.nil | exact strs_end (by assumption)))
noncomputable abbrev lackT : Tr := .bin .div (.leaf .a1) (.leaf .a0)
theorem words_lack (B : Below A₀ base outer h₀) (F : Fr h₀ L s.heap m) (X : (KQ w.params).In h₀) (N : News h₀ L s.heap news) (T : Top viewQ looseQ mean mg mb h₀) (hk : cs.kind = .function) (hd : dp + 30 < recursionLimit) (hu : un + 500 < cLine) (ret : WRet h₀ L m s news lackT.texts Q) :
    wpAny (MQ w) (ktrTop dp un gd cn cs L a ccd cl outer) (call (.ref 324) [.ref 298]) Q E s := by
  revert mean mg mb dp un gd cn cs a ccd cl outer A₀ base h₀ L m news s Q E
  refine @pad4 _ ?_; intro _ _ _ _
  refine @pad2 _ ?_; intro _ _
  intro mean mg mb dp un gd cn cs a ccd cl outer A₀ base h₀ L m news s Q E B F X N T hk hd hu ret
  have W1 : WordsTell w (.leaf .a1) := words_leaf .a1
  have W2 : WordsTell w (.leaf .a0) := words_leaf .a0
  refine pad8 fun _ _ _ _ _ _ _ _ => ?_
  refine pad8 fun _ _ _ _ _ _ _ _ => ?_
  refine pad8 fun _ _ _ _ _ _ _ _ => ?_
  (k_dflt (refine enterK fd324 (bs := [(Str.ofString "tree", .ref 298)]) (by exact rfl) (by exact rfl) (by k_asm) (by k_asm) (by k_asm) (by k_asm) (by k_asm) (by first | exact rfl | assumption) (by ktr_room) ?_; k_whole); intro g' L' h' FG' F' N' B' X' T' tk' qk ek; (try k_lift B'))
  have hw1 : (Tr.leaf .a1).texts.length < 1000 := by decide
  have hw2 : (Tr.leaf .a0).texts.length < 1000 := by decide
  rw [texts_bin] at ret
  k_steps
  all_goals (refine wordsStep W1 (by assumption) (by assumption) (by assumption) rfl (.head _) (.leaf .a1 _) hw1 (by unfold Tr.deep; ktr_room) (by unfold Tr.deep; ktr_units) (fun l1 ws1 n1 hs1 fr1 => ?_))
  all_goals (refine wordsStep W2 (by assumption) (by assumption) (by assumption) rfl (.tail _ (.head _)) (.leaf .a0 _) hw2 (by unfold Tr.deep; ktr_room) (by unfold Tr.deep; ktr_units) (fun l2 ws2 n2 hs2 fr2 => ?_))
  all_goals (refine @pad4 _ ?_; intro _ _ _ _)
  all_goals (refine @pad1 _ ?_; intro _)
  all_goals (have b1 : (Tr.leaf .a1).texts.length = 1 := rfl)
  all_goals (have b2 : (Tr.leaf .a0).texts.length = 1 := rfl)
  all_goals k_steps
  all_goals (refine ret _ _ _ _ _ (by assumption) (by first | assumption | exact vdrop1 (by assumption) (show ∀ r ∈ _, _ from fun p hp => by simp only [List.mem_cons, hp, or_true, true_or])) (fun p hp => by first | exact (by assumption : ∀ q ∈ _, q.1 ≠ _) p (by simp only [List.mem_cons, hp, or_true, true_or]) | exact Nat.ne_of_lt ((by assumption : ∀ q ∈ _, q.1 < _) p (by simp only [List.mem_cons, hp, or_true, true_or]))) (by first | assumption | exact StrsAre.cons _ _ StrsAre.nil | exact strs_end (by assumption)))
theorem words_bin (o : Bop) (D1 : Tr) (D2 : Tr) (W1 : WordsTell w D1) (W2 : WordsTell w D2) : WordsTell w (.bin o D1 D2) := by
  refine @pad1 _ ?_; intro _
  intro mean mg mb dp un gd cn cs a ccd cl outer A₀ base h₀ L m news s Q E v B F X N T hk ht hw hd hu ret
  cases ht with
  | lack => exact words_lack B F X N T hk (by simp only [Tr.deep] at hd; omega) (by simp only [Tr.deep] at hu; omega) ret
  | @bin D' _ t1 v1 v2 _ _ hm ht1 ht2 =>
  rw [texts_bin] at hw ret
  simp only [List.length_append, List.length_cons, List.length_nil] at hw
  unfold Tr.deep at hd hu
  have N2 := News.dup N hm
  refine pad2 fun _ _ => ?_
  (k_dflt (refine enterK fd324 (bs := [(Str.ofString "tree", .ref D')]) (by exact rfl) (by exact rfl) (by k_asm) (by k_asm) (by k_asm) (by k_asm) (by k_asm) (by first | exact rfl | assumption) (by ktr_room) ?_; k_whole); intro g' L' h' FG' F' N' B' X' T' tk' qk ek; (try k_lift B'))
  k_steps
  all_goals (refine wordsStep W1 (by assumption) (by assumption) (by assumption) rfl (.head _) (ht1.mono (fun p hp => .tail _ (.tail _ hp))) (by omega) (by ktr_room) (by ktr_units) (fun l1 ws1 n1 hs1 fr1 => ?_))
  all_goals (refine wordsStep W2 (by assumption) (by assumption) (by assumption) rfl (.tail _ (.head _)) (ht2.mono (fun p hp => .tail _ (.tail _ (.tail _ hp)))) (by omega) (by ktr_room) (by ktr_units) (fun l2 ws2 n2 hs2 fr2 => ?_))
  all_goals (refine @pad4 _ ?_; intro _ _ _ _)
  all_goals (refine @pad1 _ ?_; intro _)
  all_goals k_steps
  all_goals (refine ret _ _ _ _ _ (by assumption) (by first | assumption | exact vdrop1 (by assumption) (show ∀ r ∈ _, _ from fun p hp => by simp only [List.mem_cons, hp, or_true, true_or])) (fun p hp => by first | exact (by assumption : ∀ q ∈ _, q.1 ≠ _) p (by simp only [List.mem_cons, hp, or_true, true_or]) | exact Nat.ne_of_lt ((by assumption : ∀ q ∈ _, q.1 < _) p (by simp only [List.mem_cons, hp, or_true, true_or]))) (by first | assumption | exact StrsAre.cons _ _ StrsAre.nil | exact strs_end (by assumption)))
theorem words_cond  (D1 : Tr) (D2 : Tr) (D3 : Tr) (W1 : WordsTell w D1) (W2 : WordsTell w D2) (W3 : WordsTell w D3) : WordsTell w (.cond D1 D2 D3) := by
  intro mean mg mb dp un gd cn cs a ccd cl outer A₀ base h₀ L m news s Q E v B F X N T hk ht hw hd hu ret
  cases ht with
  | @cond D' t1 v1 v2 v3 _ _ _ hm ht1 ht2 ht3 =>
  rw [texts_cond] at hw ret
  simp only [List.length_append, List.length_cons, List.length_nil] at hw
  unfold Tr.deep at hd hu
  have N2 := News.dup N hm
  (k_dflt (refine enterK fd324 (bs := [(Str.ofString "tree", .ref D')]) (by exact rfl) (by exact rfl) (by k_asm) (by k_asm) (by k_asm) (by k_asm) (by k_asm) (by first | exact rfl | assumption) (by ktr_room) ?_; k_whole); intro g' L' h' FG' F' N' B' X' T' tk' qk ek; (try k_lift B'))
  k_steps
  all_goals (refine wordsStep W1 (by assumption) (by assumption) (by assumption) rfl (.head _) (ht1.mono (fun p hp => .tail _ (.tail _ hp))) (by omega) (by ktr_room) (by ktr_units) (fun l1 ws1 n1 hs1 fr1 => ?_))
  all_goals (refine wordsStep W2 (by assumption) (by assumption) (by assumption) rfl (.tail _ (.head _)) (ht2.mono (fun p hp => .tail _ (.tail _ (.tail _ hp)))) (by omega) (by ktr_room) (by ktr_units) (fun l2 ws2 n2 hs2 fr2 => ?_))
  all_goals (refine wordsStep W3 (by assumption) (by assumption) (by assumption) rfl (.tail _ (.tail _ (.head _))) (ht3.mono (fun p hp => .tail _ (.tail _ (.tail _ (.tail _ hp))))) (by omega) (by ktr_room) (by ktr_units) (fun l3 ws3 n3 hs3 fr3 => ?_))
  all_goals k_steps
  all_goals (refine ret _ _ _ _ _ (by assumption) (by first | assumption | exact vdrop1 (by assumption) (show ∀ r ∈ _, _ from fun p hp => by simp only [List.mem_cons, hp, or_true, true_or])) (fun p hp => by first | exact (by assumption : ∀ q ∈ _, q.1 ≠ _) p (by simp only [List.mem_cons, hp, or_true, true_or]) | exact Nat.ne_of_lt ((by assumption : ∀ q ∈ _, q.1 < _) p (by simp only [List.mem_cons, hp, or_true, true_or]))) (by first | assumption | exact StrsAre.cons _ _ StrsAre.nil | exact strs_end (by assumption)))
theorem words_tell : ∀ D : Tr, WordsTell w D
  | .leaf k => words_leaf k
  | .un o t => words_un o t (words_tell t)
  | .bin o a b => words_bin o a b (words_tell a) (words_tell b)
  | .cond a b c => words_cond a b c (words_tell a) (words_tell b) (words_tell c)
end
end
end
section
open PySem PySem.W PyProof.Rows PySem.Calls PySem.Spec
section
theorem kw69 : True := by
  k_with_none
  trivial
noncomputable def lawTwo (o : Bop) (x : Option Int) (xu : Bool) (y : Option Int) (yu : Bool) : Option Int × Bool :=
  match o.grp, x, y with
  | .log, none, _ => (none, false)
  | .log, some a, none => (logSN o a, false)
  | .log, some a, some b => (some (logS o a b), false)
  | .shift, some a, some b => (some (shS o a b xu), xu)
  | .shift, _, _ => (none, xu)
  | .div, some a, some b => (divS o a b (xu || yu), xu || yu)
  | .div, _, _ => (none, xu || yu)
  | .cmp, some a, some b => (some (if cmpS o.txt (led32 a (xu || yu)) (led32 b (xu || yu)) then 1 else 0), false)
  | .cmp, _, _ => (none, false)
  | .ari, some a, some b => (some (ariS o (led32 a (xu || yu)) (led32 b (xu || yu)) (xu || yu)), xu || yu)
  | .ari, _, _ => (none, xu || yu)
structure PairOk (o : Bop) (xu : Bool) (y : Option Int) (yu : Bool) : Prop where
  sh : o.grp = .shift → ∀ b, y = some b → 0 ≤ b ∧ b ≤ 31
  dv : ∀ b, y = some b → b ≠ 0 → led32 b (xu || yu) ≠ 0
section
variable {w : World} {mean : ExcName → Option Value} {mg mb : Str → Option Value} {dp un : Nat} {gd : Option (List Code)} {cn : Str} {cs : Scope} {a : Addr} {ccd : Value} {cl : List (Str × Addr)} {outer : List Env} {A₀ : Around} {base h₀ : Heap} {L : Addr} {m : Str → Option Value} {news : List (Addr × Obj)} {s : Shared} {Q E : Value → Shared → Prop}

theorem twoL (o : Bop) (p1 p2 : Addr) (x y : Option Int) (xu yu : Bool) (t0 t1 t2 : Tok) (B : Below A₀ base outer h₀) (F : Fr h₀ L s.heap m) (X : (KQ w.params).In h₀) (N : News h₀ L s.heap news) (T : Top viewQ looseQ mean mg mb h₀) (hk : cs.kind = .function) (m1 : (p1, tupL [optV x t1, .bool xu]) ∈ news) (m2 : (p2, tupL [optV y t2, .bool yu]) ∈ news) (ok : PairOk o xu y yu)
    (hd : dp + 20 < recursionLimit) (hu : un + 160 < cLine) (ret : PRet h₀ L m news s Q (lawTwo o x xu y yu).1 (lawTwo o x xu y yu).2) :
    wpAny (MQ w) (ktrTop dp un gd cn cs L a ccd cl outer) (call (.ref 338) [.str o.txt t0, .ref p1, .ref p2]) Q E s := by
  unfold lawTwo at ret
  cases hg : o.grp with
  | log =>
    rw [hg] at ret
    cases x with
    | none => exact two_log_n o hg p1 p2 (optV y t2) xu yu t0 t1 t2 B F X N T hk m1 m2 hd hu ret
    | some a => cases y with
      | none => exact two_log_sn o hg p1 p2 a xu yu t0 t1 t2 B F X N T hk m1 m2 hd hu ret
      | some b => exact two_log_ss o hg p1 p2 a b xu yu t0 t1 t2 B F X N T hk m1 m2 hd hu ret
  | shift =>
    rw [hg] at ret
    cases x with
    | none => exact two_shift_n o hg p1 p2 (optV y t2) xu yu t0 t1 t2 B F X N T hk m1 m2 hd hu ret
    | some a => cases y with
      | none => exact two_shift_sn o hg p1 p2 a xu yu t0 t1 t2 B F X N T hk m1 m2 hd hu ret
      | some b => exact two_shift_s o hg p1 p2 a b xu yu t0 t1 t2 B F X N T hk m1 m2 (ok.sh hg b rfl).1 (ok.sh hg b rfl).2 hd hu ret
  | div =>
    rw [hg] at ret
    cases x with
    | none => exact two_div_n o hg p1 p2 (optV y t2) xu yu t0 t1 t2 B F X N T hk m1 m2 hd hu ret
    | some a => cases y with
      | none => exact two_div_sn o hg p1 p2 a xu yu t0 t1 t2 B F X N T hk m1 m2 hd hu ret
      | some b => exact two_div_ss o hg p1 p2 a b xu yu t0 t1 t2 B F X N T hk m1 m2 (ok.dv b rfl) hd hu ret
  | cmp =>
    rw [hg] at ret
    cases x with
    | none => exact two_cmp_n o hg p1 p2 (optV y t2) xu yu t0 t1 t2 B F X N T hk m1 m2 hd hu ret
    | some a => cases y with
      | none => exact two_cmp_sn o hg p1 p2 a xu yu t0 t1 t2 B F X N T hk m1 m2 hd hu ret
      | some b => exact two_cmp_ss o hg p1 p2 a b xu yu t0 t1 t2 B F X N T hk m1 m2 hd hu ret
  | ari =>
    rw [hg] at ret
    cases x with
    | none => exact two_ari_n o hg p1 p2 (optV y t2) xu yu t0 t1 t2 B F X N T hk m1 m2 hd hu ret
    | some a => cases y with
      | none => exact two_ari_sn o hg p1 p2 a xu yu t0 t1 t2 B F X N T hk m1 m2 hd hu ret
      | some b => exact two_ari_ss o hg p1 p2 a b xu yu t0 t1 t2 B F X N T hk m1 m2 hd hu ret
end
noncomputable def lawCond (x : Option Int × Bool) (y z : Option Int × Bool) : Option Int × Bool :=
  (match x.1, (if x.1 = some 0 then z.1 else y.1) with
   | some _, some n => some (led32 n (y.2 || z.2))
   | _, _ => none, y.2 || z.2)
noncomputable def lawOne (o : Uop) (x : Option Int × Bool) : Option Int × Bool :=
  match o, x.1 with
  | .not, none => (none, false)
  | .not, some a => (some (if a == 0 then 1 else 0), false)
  | .neg, some a => (some (led32 (0 - a) x.2), x.2)
  | .inv, some a => (some (led32 (-1 - a) x.2), x.2)
  | _, _ => x
noncomputable def Tr.lawW : Tr → Option Int × Bool
  | .leaf k => (some k.val, k.uns)
  | .un o t => lawOne o t.lawW
  | .bin o a b => lawTwo o a.lawW.1 a.lawW.2 b.lawW.1 b.lawW.2
  | .cond a b c => lawCond a.lawW b.lawW c.lawW
noncomputable def Tr.Good : Tr → Prop
  | .leaf _ => True
  | .un _ t => t.Good
  | .bin o a b => a.Good ∧ b.Good ∧ (o.grp = .shift → ∃ k, b = .leaf k ∧ 0 ≤ k.val ∧ k.val ≤ 31)
  | .cond a b c => a.Good ∧ b.Good ∧ c.Good
noncomputable def InW (n : Int) (u : Bool) : Prop := led32 n u = n
theorem led_led (n : Int) (u : Bool) : led32 (led32 n u) u = led32 n u := by
  unfold led32
  cases u
  · simp only [and_true]; split <;> split <;> omega
  · simp only [Bool.true_eq_false, and_false, if_false]; omega
theorem in_one (b : Bool) : InW 1 b := by cases b <;> (unfold InW; decide)
theorem in_zero (b : Bool) : InW 0 b := by cases b <;> (unfold InW; decide)
theorem in_if (p : Prop) [Decidable p] (b : Bool) : InW (if p then 1 else 0) b := by split <;> first | exact in_one _ | exact in_zero _
theorem in_log (o : Bop) (a b : Int) (u : Bool) : InW (logS o a b) u := by unfold logS; split <;> exact in_if _ _
theorem in_logN {o : Bop} {a n : Int} {u : Bool} (h : logSN o a = some n) : InW n u := by
  unfold logSN at h
  split at h
  · cases h
  · cases h; split <;> first | exact in_one _ | exact in_zero _
theorem in_pair {o : Bop} {x y : Option Int} {xu yu : Bool} {n : Int} (h : (lawTwo o x xu y yu).1 = some n) : InW n (lawTwo o x xu y yu).2 := by
  unfold lawTwo at h ⊢
  split at h <;> first
    | (exfalso; simp at h; done)
    | skip
  all_goals (try simp only at h ⊢)
  all_goals first
    | exact in_logN h
    | (cases h; first | exact in_log _ _ _ _ | exact in_if _ _ | (unfold shS; split <;> exact led_led _ _) | exact led_led _ _)
    | (unfold divS at h; split at h <;> cases h; exact led_led _ _)
theorem in_num (k : Num) : InW k.val k.uns := by cases k <;> (unfold InW; decide)
theorem lawW_in : ∀ (D : Tr) (n : Int), D.lawW.1 = some n → InW n D.lawW.2
  | .leaf k, n, h => by cases h; exact in_num k
  | .un o t, n, h => by
    have ih := lawW_in t
    unfold Tr.lawW lawOne at h ⊢
    split at h <;> first
      | (exfalso; simp at h; done)
      | skip
    all_goals (try simp only at h ⊢)
    all_goals first
      | exact ih _ h
      | (cases h; first | exact in_if _ _ | exact led_led _ _)
  | .bin o a b, n, h => in_pair h
  | .cond a b c, n, h => by
    unfold Tr.lawW lawCond at h ⊢
    simp only at h ⊢
    split at h <;> cases h
    exact led_led _ _
theorem in_nz {b : Int} {u v : Bool} (h : InW b u) (hz : b ≠ 0) : led32 b v ≠ 0 := by
  unfold InW led32 at *
  split at h <;> split <;> omega
theorem pair_ok {o : Bop} {a b : Tr} {xu : Bool} (g : (Tr.bin o a b).Good) : PairOk o xu b.lawW.1 b.lawW.2 := by
  refine ⟨fun hg n hn => ?_, fun n hn hz => in_nz (lawW_in b n hn) hz⟩
  obtain ⟨k, rfl, h1, h2⟩ := g.2.2 hg
  cases hn
  exact ⟨h1, h2⟩
end
end
section
open PySem PySem.W PyProof.Rows PySem.Calls PySem.Spec
section
noncomputable def numItems : List Value := [.str (Str.ofString "0") 776, .str (Str.ofString "1") 777, .str (Str.ofString "2") 778, .str (Str.ofString "3") 779, .str (Str.ofString "7") 780, .str (Str.ofString "5u") 781, .str (Str.ofString "4294967295") 782, .str (Str.ofString "2147483647") 783, .str (Str.ofString "0x80000000") 784, .str (Str.ofString "0u") 785, .str (Str.ofString "1u") 786, .str (Str.ofString "31") 787]
noncomputable def sgnItems : List Value := [.str (Str.ofString "&&") 789, .str (Str.ofString "||") 790, .str (Str.ofString "/") 791, .str (Str.ofString "%") 792, .str (Str.ofString "+") 793, .str (Str.ofString "-") 794, .str (Str.ofString "*") 795, .str (Str.ofString "<") 796, .str (Str.ofString "<=") 797, .str (Str.ofString ">") 798, .str (Str.ofString ">=") 799, .str (Str.ofString "==") 800, .str (Str.ofString "!=") 801, .str (Str.ofString "&") 802, .str (Str.ofString "|") 803, .str (Str.ofString "^") 804, .str (Str.ofString "&&") 805, .str (Str.ofString "||") 806, .str (Str.ofString "<<") 807, .str (Str.ofString ">>") 808]
theorem tup296 {w : World} {h : Heap} (X : (KQ w.params).In h) : IsTup h 296 numItems.toArray := ⟨o296_j w.params, X _ _ (by kernel_rfl), rfl, _, rfl⟩
theorem tup297 {w : World} {h : Heap} (X : (KQ w.params).In h) : IsTup h 297 sgnItems.toArray := ⟨o297_j w.params, X _ _ (by kernel_rfl), rfl, _, rfl⟩
theorem swapN {h₀ h : Heap} {L : Addr} {p q : Addr × Obj} {r : List (Addr × Obj)} (N : News h₀ L h (p :: q :: r)) : News h₀ L h (q :: p :: r) := cb_drop N fun x hx => by
  simp only [List.mem_cons] at hx ⊢
  rcases hx with h | h | h <;> simp [h]
theorem swapN2 {h₀ h : Heap} {L : Addr} {p q k : Addr × Obj} {r : List (Addr × Obj)} (N : News h₀ L h (p :: q :: k :: r)) : News h₀ L h (k :: p :: q :: r) := cb_drop N fun x hx => by
  simp only [List.mem_cons] at hx ⊢
  rcases hx with h | h | h | h <;> simp [h]
theorem sub1 {r1 news : List (Addr × Obj)} {d : Addr × Obj} (a : ∀ p ∈ news, p ∈ r1) : ∀ p ∈ news, p ∈ d :: r1 := fun p hp => .tail _ (a p hp)
theorem sub2 {r1 r2 news : List (Addr × Obj)} {d : Addr × Obj} (a : ∀ p ∈ news, p ∈ r1) (b : ∀ p ∈ r1, p ∈ r2) : ∀ p ∈ news, p ∈ d :: r2 := fun p hp => .tail _ (b p (a p hp))
theorem sub3 {r1 r2 r3 news : List (Addr × Obj)} {d : Addr × Obj} (a : ∀ p ∈ news, p ∈ r1) (b : ∀ p ∈ r1, p ∈ r2) (c : ∀ p ∈ r2, p ∈ r3) : ∀ p ∈ news, p ∈ d :: r3 := fun p hp => .tail _ (c p (b p (a p hp)))
theorem tl1 {r1 r2 : List (Addr × Obj)} {d : Addr × Obj} (a : ∀ p ∈ r1, p ∈ r2) : ∀ p ∈ r1, p ∈ d :: r2 := fun p hp => .tail _ (a p hp)
theorem noShift (o : Bop) (h : ([Str.ofString "<<", Str.ofString ">>"].any fun y => y == o.txt) = false) : o.grp ≠ .shift := fun q => by rw [(grp_shift o q).2.1] at h; cases h
theorem apCons {wl d : Addr} {o : Obj} {r : List (Addr × Obj)} (h : @Ne Nat d wl) (hc : o.cls ≠ .type "list_iterator") (ha : ApOk wl r) : ApOk wl ((d, o) :: r) := fun p hp => by
  rcases List.mem_cons.mp hp with rfl | hp
  · exact ⟨h, hc⟩
  · exact ha p hp
section
variable {w : World} {mean : ExcName → Option Value} {mg mb : Str → Option Value} {dp un : Nat} {gd : Option (List Code)} {cn : Str} {cs : Scope} {a : Addr} {ccd : Value} {cl : List (Str × Addr)} {outer : List Env} {A₀ : Around} {base h₀ : Heap} {L : Addr} {m : Str → Option Value} {news : List (Addr × Obj)} {s : Shared} {Q E : Value → Shared → Prop}
variable {wl cl1 : Addr} {sp st : Int} {t1 t2 : Tok} {nw nc : Nat} {cells : List Value}
theorem pickNum  (B : Below A₀ base outer h₀) (F : Fr h₀ L s.heap m) (X : (KQ w.params).In h₀) (N : News h₀ L s.heap ((wl, listOf [Value.ref cl1, Value.int sp t1, Value.int st t2].toArray nw) :: news)) (T : Top viewQ looseQ mean mg mb h₀) (hk : cs.kind = .function) (hcl : (cl1, listOf cells.toArray nc) ∈ news) (hap : ApOk wl news) (hc : Cells cells) (hsp : 0 ≤ sp) (hs0 : 0 ≤ st) (hs1 : st < 997)
    (hd : dp + 20 < recursionLimit) (hu : un + 160 < cLine)
    (ret : ∀ (k : Num) (t : Tok), ∀ (sp' st' : Int) (t1' t2' : Tok) (n' : Nat) (h' : Heap) (tk' : Nat), 0 ≤ sp' → 0 ≤ st' → st' < 997 → Fr h₀ L h' m → News h₀ L h' ((wl, listOf [Value.ref cl1, Value.int sp' t1', Value.int st' t2'].toArray n') :: news) → Q (.str k.txt t) { s with heap := h', toks := tk' }) :
    wpAny (MQ w) (ktrTop dp un gd cn cs L a ccd cl outer) (call (.ref 312) [.ref wl, .ref 296]) Q E s := by
  refine pickC 296 _ B F X N T hk hcl hap hc hsp hs0 hs1 (.inl (tup296 X)) (Nat.le_of_ble_eq_true rfl) (Nat.le_of_ble_eq_true rfl) hd hu (fun v hv sp' st' t1' t2' n' h' tk' b0 b1 b2 F' N' => ?_)
  simp only [numItems, sgnItems, List.mem_cons, List.not_mem_nil, or_false] at hv
  rcases hv with rfl | rfl | rfl | rfl | rfl | rfl | rfl | rfl | rfl | rfl | rfl | rfl
  · exact ret .a0 _ sp' st' t1' t2' n' h' tk' b0 b1 b2 F' N'
  · exact ret .a1 _ sp' st' t1' t2' n' h' tk' b0 b1 b2 F' N'
  · exact ret .a2 _ sp' st' t1' t2' n' h' tk' b0 b1 b2 F' N'
  · exact ret .a3 _ sp' st' t1' t2' n' h' tk' b0 b1 b2 F' N'
  · exact ret .a7 _ sp' st' t1' t2' n' h' tk' b0 b1 b2 F' N'
  · exact ret .u5 _ sp' st' t1' t2' n' h' tk' b0 b1 b2 F' N'
  · exact ret .big _ sp' st' t1' t2' n' h' tk' b0 b1 b2 F' N'
  · exact ret .mid _ sp' st' t1' t2' n' h' tk' b0 b1 b2 F' N'
  · exact ret .hex _ sp' st' t1' t2' n' h' tk' b0 b1 b2 F' N'
  · exact ret .u0 _ sp' st' t1' t2' n' h' tk' b0 b1 b2 F' N'
  · exact ret .u1 _ sp' st' t1' t2' n' h' tk' b0 b1 b2 F' N'
  · exact ret .a31 _ sp' st' t1' t2' n' h' tk' b0 b1 b2 F' N'


theorem pickSign  (B : Below A₀ base outer h₀) (F : Fr h₀ L s.heap m) (X : (KQ w.params).In h₀) (N : News h₀ L s.heap ((wl, listOf [Value.ref cl1, Value.int sp t1, Value.int st t2].toArray nw) :: news)) (T : Top viewQ looseQ mean mg mb h₀) (hk : cs.kind = .function) (hcl : (cl1, listOf cells.toArray nc) ∈ news) (hap : ApOk wl news) (hc : Cells cells) (hsp : 0 ≤ sp) (hs0 : 0 ≤ st) (hs1 : st < 997)
    (hd : dp + 20 < recursionLimit) (hu : un + 160 < cLine)
    (ret : ∀ (o : Bop) (t : Tok), ∀ (sp' st' : Int) (t1' t2' : Tok) (n' : Nat) (h' : Heap) (tk' : Nat), 0 ≤ sp' → 0 ≤ st' → st' < 997 → Fr h₀ L h' m → News h₀ L h' ((wl, listOf [Value.ref cl1, Value.int sp' t1', Value.int st' t2'].toArray n') :: news) → Q (.str o.txt t) { s with heap := h', toks := tk' }) :
    wpAny (MQ w) (ktrTop dp un gd cn cs L a ccd cl outer) (call (.ref 312) [.ref wl, .ref 297]) Q E s := by
  refine pickC 297 _ B F X N T hk hcl hap hc hsp hs0 hs1 (.inl (tup297 X)) (Nat.le_of_ble_eq_true rfl) (Nat.le_of_ble_eq_true rfl) hd hu (fun v hv sp' st' t1' t2' n' h' tk' b0 b1 b2 F' N' => ?_)
  simp only [numItems, sgnItems, List.mem_cons, List.not_mem_nil, or_false] at hv
  rcases hv with rfl | rfl | rfl | rfl | rfl | rfl | rfl | rfl | rfl | rfl | rfl | rfl | rfl | rfl | rfl | rfl | rfl | rfl | rfl | rfl
  · exact ret .and _ sp' st' t1' t2' n' h' tk' b0 b1 b2 F' N'
  · exact ret .or _ sp' st' t1' t2' n' h' tk' b0 b1 b2 F' N'
  · exact ret .div _ sp' st' t1' t2' n' h' tk' b0 b1 b2 F' N'
  · exact ret .mod _ sp' st' t1' t2' n' h' tk' b0 b1 b2 F' N'
  · exact ret .add _ sp' st' t1' t2' n' h' tk' b0 b1 b2 F' N'
  · exact ret .sub _ sp' st' t1' t2' n' h' tk' b0 b1 b2 F' N'
  · exact ret .mul _ sp' st' t1' t2' n' h' tk' b0 b1 b2 F' N'
  · exact ret .lt _ sp' st' t1' t2' n' h' tk' b0 b1 b2 F' N'
  · exact ret .le _ sp' st' t1' t2' n' h' tk' b0 b1 b2 F' N'
  · exact ret .gt _ sp' st' t1' t2' n' h' tk' b0 b1 b2 F' N'
  · exact ret .ge _ sp' st' t1' t2' n' h' tk' b0 b1 b2 F' N'
  · exact ret .eq _ sp' st' t1' t2' n' h' tk' b0 b1 b2 F' N'
  · exact ret .ne _ sp' st' t1' t2' n' h' tk' b0 b1 b2 F' N'
  · exact ret .band _ sp' st' t1' t2' n' h' tk' b0 b1 b2 F' N'
  · exact ret .bor _ sp' st' t1' t2' n' h' tk' b0 b1 b2 F' N'
  · exact ret .bxor _ sp' st' t1' t2' n' h' tk' b0 b1 b2 F' N'
  · exact ret .and _ sp' st' t1' t2' n' h' tk' b0 b1 b2 F' N'
  · exact ret .or _ sp' st' t1' t2' n' h' tk' b0 b1 b2 F' N'
  · exact ret .shl _ sp' st' t1' t2' n' h' tk' b0 b1 b2 F' N'
  · exact ret .shr _ sp' st' t1' t2' n' h' tk' b0 b1 b2 F' N'


theorem pickUn  (B : Below A₀ base outer h₀) (F : Fr h₀ L s.heap m) (X : (KQ w.params).In h₀) (N : News h₀ L s.heap ((wl, listOf [Value.ref cl1, Value.int sp t1, Value.int st t2].toArray nw) :: news)) (T : Top viewQ looseQ mean mg mb h₀) (hk : cs.kind = .function) (hcl : (cl1, listOf cells.toArray nc) ∈ news) (hap : ApOk wl news) (hc : Cells cells) (hsp : 0 ≤ sp) (hs0 : 0 ≤ st) (hs1 : st < 997) {mu : Addr} {j1 j2 j3 j4 : Tok} (hmu : (mu, tupL [.str (Str.ofString "-") j1, .str (Str.ofString "!") j2, .str (Str.ofString "~") j3, .str (Str.ofString "+") j4]) ∈ news)
    (hd : dp + 20 < recursionLimit) (hu : un + 160 < cLine)
    (ret : ∀ (o : Uop) (t : Tok), ∀ (sp' st' : Int) (t1' t2' : Tok) (n' : Nat) (h' : Heap) (tk' : Nat), 0 ≤ sp' → 0 ≤ st' → st' < 997 → Fr h₀ L h' m → News h₀ L h' ((wl, listOf [Value.ref cl1, Value.int sp' t1', Value.int st' t2'].toArray n') :: news) → Q (.str o.sign t) { s with heap := h', toks := tk' }) :
    wpAny (MQ w) (ktrTop dp un gd cn cs L a ccd cl outer) (call (.ref 312) [.ref wl, .ref mu]) Q E s := by
  refine pickC mu _ B F X N T hk hcl hap hc hsp hs0 hs1 (.inr hmu) (Nat.le_of_ble_eq_true rfl) (Nat.le_of_ble_eq_true rfl) hd hu (fun v hv sp' st' t1' t2' n' h' tk' b0 b1 b2 F' N' => ?_)
  simp only [numItems, sgnItems, List.mem_cons, List.not_mem_nil, or_false] at hv
  rcases hv with rfl | rfl | rfl | rfl
  · exact ret .neg _ sp' st' t1' t2' n' h' tk' b0 b1 b2 F' N'
  · exact ret .not _ sp' st' t1' t2' n' h' tk' b0 b1 b2 F' N'
  · exact ret .inv _ sp' st' t1' t2' n' h' tk' b0 b1 b2 F' N'
  · exact ret .pos _ sp' st' t1' t2' n' h' tk' b0 b1 b2 F' N'


theorem pickSh  (B : Below A₀ base outer h₀) (F : Fr h₀ L s.heap m) (X : (KQ w.params).In h₀) (N : News h₀ L s.heap ((wl, listOf [Value.ref cl1, Value.int sp t1, Value.int st t2].toArray nw) :: news)) (T : Top viewQ looseQ mean mg mb h₀) (hk : cs.kind = .function) (hcl : (cl1, listOf cells.toArray nc) ∈ news) (hap : ApOk wl news) (hc : Cells cells) (hsp : 0 ≤ sp) (hs0 : 0 ≤ st) (hs1 : st < 997) {mu : Addr} {j1 j2 j3 j4 : Tok} (hmu : (mu, tupL [.str (Str.ofString "0") j1, .str (Str.ofString "1") j2, .str (Str.ofString "31") j3, .str (Str.ofString "7") j4]) ∈ news)
    (hd : dp + 20 < recursionLimit) (hu : un + 160 < cLine)
    (ret : ∀ (k : Num) (t : Tok), 0 ≤ k.val → k.val ≤ 31 → ∀ (sp' st' : Int) (t1' t2' : Tok) (n' : Nat) (h' : Heap) (tk' : Nat), 0 ≤ sp' → 0 ≤ st' → st' < 997 → Fr h₀ L h' m → News h₀ L h' ((wl, listOf [Value.ref cl1, Value.int sp' t1', Value.int st' t2'].toArray n') :: news) → Q (.str k.txt t) { s with heap := h', toks := tk' }) :
    wpAny (MQ w) (ktrTop dp un gd cn cs L a ccd cl outer) (call (.ref 312) [.ref wl, .ref mu]) Q E s := by
  refine pickC mu _ B F X N T hk hcl hap hc hsp hs0 hs1 (.inr hmu) (Nat.le_of_ble_eq_true rfl) (Nat.le_of_ble_eq_true rfl) hd hu (fun v hv sp' st' t1' t2' n' h' tk' b0 b1 b2 F' N' => ?_)
  simp only [numItems, sgnItems, List.mem_cons, List.not_mem_nil, or_false] at hv
  rcases hv with rfl | rfl | rfl | rfl
  · exact ret .a0 _ (by decide) (by decide) sp' st' t1' t2' n' h' tk' b0 b1 b2 F' N'
  · exact ret .a1 _ (by decide) (by decide) sp' st' t1' t2' n' h' tk' b0 b1 b2 F' N'
  · exact ret .a31 _ (by decide) (by decide) sp' st' t1' t2' n' h' tk' b0 b1 b2 F' N'
  · exact ret .a7 _ (by decide) (by decide) sp' st' t1' t2' n' h' tk' b0 b1 b2 F' N'


end
noncomputable def TreeTell (w : World) (n : Nat) : Prop :=
  ∀ {mean : ExcName → Option Value} {mg mb : Str → Option Value} {dp un : Nat} {gd : Option (List Code)} {cn : Str} {cs : Scope} {a : Addr} {ccd : Value} {cl : List (Str × Addr)} {outer : List Env} {A₀ : Around} {base h₀ : Heap} {L : Addr} {m : Str → Option Value} {news : List (Addr × Obj)} {s : Shared} {Q E : Value → Shared → Prop} {wl cl1 : Addr} {sp st : Int} {t1 t2 : Tok} {nw nc : Nat} {cells : List Value} (d : Int) (t : Tok), d = (n : Int) → Below A₀ base outer h₀ → Fr h₀ L s.heap m → (KQ w.params).In h₀ → News h₀ L s.heap ((wl, listOf [Value.ref cl1, Value.int sp t1, Value.int st t2].toArray nw) :: news) → Top viewQ looseQ mean mg mb h₀ → cs.kind = .function →
    (cl1, listOf cells.toArray nc) ∈ news → ApOk wl news → Cells cells → 0 ≤ sp → 0 ≤ st → st < 997 → dp + 10 * n + 60 < recursionLimit → un + 200 * n + 500 < cLine → (∀ (v : Value) (sp' st' : Int) (t1' t2' : Tok) (n' : Nat) (h' : Heap) (tk' : Nat) (news' : List (Addr × Obj)) (D : Tr), (∀ p ∈ news, p ∈ news') → ApOk wl news' → (cl1, listOf cells.toArray nc) ∈ news' → TreeAt news' v D → D.deep ≤ n → D.Good → 0 ≤ sp' → 0 ≤ st' → st' < 997 → Fr h₀ L h' m → News h₀ L h' ((wl, listOf [Value.ref cl1, Value.int sp' t1', Value.int st' t2'].toArray n') :: news') → Q v { s with heap := h', toks := tk' }) →
    wpAny (MQ w) (ktrTop dp un gd cn cs L a ccd cl outer) (call (.ref 319) [.ref wl, .int d t]) Q E s
section
variable {w : World} {mean : ExcName → Option Value} {mg mb : Str → Option Value} {dp un : Nat} {gd : Option (List Code)} {cn : Str} {cs : Scope} {a : Addr} {ccd : Value} {cl : List (Str × Addr)} {outer : List Env} {A₀ : Around} {base h₀ : Heap} {L : Addr} {m : Str → Option Value} {news : List (Addr × Obj)} {s : Shared} {Q E : Value → Shared → Prop}
variable {wl cl1 : Addr} {sp st : Int} {t1 t2 : Tok} {nw nc : Nat} {cells : List Value}

theorem treeUse {n : Nat} {d : Int} {t : Tok} (W : TreeTell w n) (hdn : d = (n : Int)) (B : Below A₀ base outer h₀) (F : Fr h₀ L s.heap m) (X : (KQ w.params).In h₀) (N : News h₀ L s.heap ((wl, listOf [Value.ref cl1, Value.int sp t1, Value.int st t2].toArray nw) :: news)) (T : Top viewQ looseQ mean mg mb h₀) (hk : cs.kind = .function) (hcl : (cl1, listOf cells.toArray nc) ∈ news) (hap : ApOk wl news) (hc : Cells cells) (hsp : 0 ≤ sp) (hs0 : 0 ≤ st) (hs1 : st < 997)
    (hd : dp + 10 * n + 60 < recursionLimit) (hu : un + 200 * n + 500 < cLine) (ret : ∀ (v : Value) (sp' st' : Int) (t1' t2' : Tok) (n' : Nat) (h' : Heap) (tk' : Nat) (news' : List (Addr × Obj)) (D : Tr), (∀ p ∈ news, p ∈ news') → ApOk wl news' → (cl1, listOf cells.toArray nc) ∈ news' → TreeAt news' v D → D.deep ≤ n → D.Good → 0 ≤ sp' → 0 ≤ st' → st' < 997 → Fr h₀ L h' m → News h₀ L h' ((wl, listOf [Value.ref cl1, Value.int sp' t1', Value.int st' t2'].toArray n') :: news') → Q v { s with heap := h', toks := tk' }) : wpAny (MQ w) (ktrTop dp un gd cn cs L a ccd cl outer) (call (.ref 319) [.ref wl, .int d t]) Q E s :=
  W d t hdn B F X N T hk hcl hap hc hsp hs0 hs1 hd hu ret
end
end
end
section
open PySem PySem.W PyProof.Rows PySem.Calls PySem.Spec
section
section
variable {w : World} {mean : ExcName → Option Value} {mg mb : Str → Option Value} {dp un : Nat} {gd : Option (List Code)} {cn : Str} {cs : Scope} {a : Addr} {ccd : Value} {cl : List (Str × Addr)} {outer : List Env} {A₀ : Around} {base h₀ : Heap} {L : Addr} {m : Str → Option Value} {news : List (Addr × Obj)} {s : Shared} {Q E : Value → Shared → Prop}
theorem kw71 : True := by
  k_with_none
  (k_with "eval Call" => ((with_reducible show wpAny _ _ (eval (Expr.Call (Expr.Name _ _) _ [] _) _) _ _ _); k_dflt (refine Call_ ?_)))
  (k_with "call ref" => ((k_dflt (show wpAny _ _ (call (Value.ref 305) [Value.ref _, Value.int _ _]) _ _ _)); k_dflt (refine' drawC _ _ (by k_asm) (by k_asm) (by k_asm) (by exact (by first | k_asm | exact swapN (by assumption) | exact swapN2 (by assumption))) (by k_asm) (by first | exact rfl | assumption) (by first | assumption | exact .tail _ (by assumption) | exact .tail _ (.tail _ (by assumption))) (by first | assumption | (exact apCons (by k_ne) (by intro q; exact absurd (Value.type.inj q) (by decide)) (by assumption)) | (exact apCons (by k_ne) (by intro q; exact absurd (Value.type.inj q) (by decide)) (apCons (by k_ne) (by intro q; exact absurd (Value.type.inj q) (by decide)) (by assumption)))) (by assumption) (by assumption) (by assumption) (by assumption) (by first | assumption | decide | omega) (by ktr_room) (by ktr_units) ?_; k_whole; intro r' tr' sp' st' t1' t2' n' h' tk' hr0' hr1' hsp' hs0' hs1' F' N'); (try dsimp only); (try k_fold)))
  (k_with "call ref" => ((k_dflt (show wpAny _ _ (call (Value.ref 312) [Value.ref _, Value.ref _]) _ _ _)); k_dflt (refine' pickUn (by k_asm) (by k_asm) (by k_asm) (by exact (by first | k_asm | exact swapN (by assumption) | exact swapN2 (by assumption))) (by k_asm) (by first | exact rfl | assumption) (by first | assumption | exact .tail _ (by assumption) | exact .tail _ (.tail _ (by assumption))) (by first | assumption | (exact apCons (by k_ne) (by intro q; exact absurd (Value.type.inj q) (by decide)) (by assumption)) | (exact apCons (by k_ne) (by intro q; exact absurd (Value.type.inj q) (by decide)) (apCons (by k_ne) (by intro q; exact absurd (Value.type.inj q) (by decide)) (by assumption)))) (by assumption) (by assumption) (by assumption) (by assumption) (by k_mem) (by ktr_room) (by ktr_units) ?_; k_whole; intro o' tv' sp' st' t1' t2' n' h' tk' hsp' hs0' hs1' F' N'); (try dsimp only); (try k_fold)))
  (k_with "call ref" => ((k_dflt (show wpAny _ _ (call (Value.ref 312) [Value.ref _, Value.ref _]) _ _ _)); k_dflt (refine' pickSh (by k_asm) (by k_asm) (by k_asm) (by exact (by first | k_asm | exact swapN (by assumption) | exact swapN2 (by assumption))) (by k_asm) (by first | exact rfl | assumption) (by first | assumption | exact .tail _ (by assumption) | exact .tail _ (.tail _ (by assumption))) (by first | assumption | (exact apCons (by k_ne) (by intro q; exact absurd (Value.type.inj q) (by decide)) (by assumption)) | (exact apCons (by k_ne) (by intro q; exact absurd (Value.type.inj q) (by decide)) (apCons (by k_ne) (by intro q; exact absurd (Value.type.inj q) (by decide)) (by assumption)))) (by assumption) (by assumption) (by assumption) (by assumption) (by k_mem) (by ktr_room) (by ktr_units) ?_; k_whole; intro k' tv' hk0' hk1' sp' st' t1' t2' n' h' tk' hsp' hs0' hs1' F' N'); (try dsimp only); (try k_fold)))
  (k_with "call ref" => ((k_dflt (show wpAny _ _ (call (Value.ref 312) [Value.ref _, Value.ref 297]) _ _ _)); k_dflt (refine' pickSign (by k_asm) (by k_asm) (by k_asm) (by exact (by first | k_asm | exact swapN (by assumption) | exact swapN2 (by assumption))) (by k_asm) (by first | exact rfl | assumption) (by first | assumption | exact .tail _ (by assumption) | exact .tail _ (.tail _ (by assumption))) (by first | assumption | (exact apCons (by k_ne) (by intro q; exact absurd (Value.type.inj q) (by decide)) (by assumption)) | (exact apCons (by k_ne) (by intro q; exact absurd (Value.type.inj q) (by decide)) (apCons (by k_ne) (by intro q; exact absurd (Value.type.inj q) (by decide)) (by assumption)))) (by assumption) (by assumption) (by assumption) (by assumption) (by ktr_room) (by ktr_units) ?_; k_whole; intro o' tv' sp' st' t1' t2' n' h' tk' hsp' hs0' hs1' F' N'); (try dsimp only); (try k_fold)))
  (k_with "call ref" => ((k_dflt (show wpAny _ _ (call (Value.ref 312) [Value.ref _, Value.ref 296]) _ _ _)); k_dflt (refine' pickNum (by k_asm) (by k_asm) (by k_asm) (by exact (by first | k_asm | exact swapN (by assumption) | exact swapN2 (by assumption))) (by k_asm) (by first | exact rfl | assumption) (by first | assumption | exact .tail _ (by assumption) | exact .tail _ (.tail _ (by assumption))) (by first | assumption | (exact apCons (by k_ne) (by intro q; exact absurd (Value.type.inj q) (by decide)) (by assumption)) | (exact apCons (by k_ne) (by intro q; exact absurd (Value.type.inj q) (by decide)) (apCons (by k_ne) (by intro q; exact absurd (Value.type.inj q) (by decide)) (by assumption)))) (by assumption) (by assumption) (by assumption) (by assumption) (by ktr_room) (by ktr_units) ?_; k_whole; intro k' tv' sp' st' t1' t2' n' h' tk' hsp' hs0' hs1' F' N'); (try dsimp only); (try k_fold)))
  (k_with "call ref" => ((k_dflt (show wpAny _ _ (call (Value.ref 319) [Value.ref _, Value.int _ _]) _ _ _)); k_dflt (refine' treeUse (by assumption) (by omega) (by k_asm) (by k_asm) (by k_asm) (by exact (by first | k_asm | exact swapN (by assumption) | exact swapN2 (by assumption))) (by k_asm) (by first | exact rfl | assumption) (by first | assumption | exact .tail _ (by assumption) | exact .tail _ (.tail _ (by assumption))) (by first | assumption | (exact apCons (by k_ne) (by intro q; exact absurd (Value.type.inj q) (by decide)) (by assumption)) | (exact apCons (by k_ne) (by intro q; exact absurd (Value.type.inj q) (by decide)) (apCons (by k_ne) (by intro q; exact absurd (Value.type.inj q) (by decide)) (by assumption)))) (by assumption) (by assumption) (by assumption) (by assumption) (by ktr_room) (by ktr_units) ?_; k_whole; intro v' sp' st' t1' t2' n' h' tk' rest' D' hsub' hap' hcl' ht' hdp' hgd' hsp' hs0' hs1' F' N'); (try dsimp only); (try k_fold)))
  trivial
theorem tree_zero : TreeTell w 0 := by
  refine @pad2 _ ?_; intro _ _
  intro mean mg mb dp un gd cn cs a ccd cl outer A₀ base h₀ L m news s Q E wl cl1 sp st t1 t2 nw nc cells d t hdn B F X N T hk hcl hap hc hsp hs0 hs1 hd hu ret
  have hdn' : d = 0 := hdn
  clear hdn
  subst hdn'
  (k_dflt (refine enterK fd319 (bs := [(Str.ofString "well", .ref wl), (Str.ofString "deep", .int 0 t)]) (by exact rfl) (by exact rfl) (by k_asm) (by k_asm) (by k_asm) (by k_asm) (by k_asm) (by first | exact rfl | assumption) (by ktr_room) ?_; k_whole); intro g' L' h' FG' F' N' B' X' T' tk' qk ek; (try k_lift B'))
  k_steps
  all_goals (refine ret _ _ _ _ _ _ _ _ news (.leaf _) (fun p hp => hp) hap hcl (.leaf _ _) (Nat.le_refl _) trivial ?_ ?_ ?_ (by assumption) (by assumption) <;> assumption)
theorem tree_succ (n : Nat) (W : TreeTell w n) : TreeTell w (n + 1) := by
  intro mean mg mb dp un gd cn cs a ccd cl outer A₀ base h₀ L m news s Q E wl cl1 sp st t1 t2 nw nc cells d t hdn B F X N T hk hcl hap hc hsp hs0 hs1 hd hu ret
  have hd1 : 0 < d := by omega
  (k_dflt (refine enterK fd319 (bs := [(Str.ofString "well", .ref wl), (Str.ofString "deep", .int d t)]) (by exact rfl) (by exact rfl) (by k_asm) (by k_asm) (by k_asm) (by k_asm) (by k_asm) (by first | exact rfl | assumption) (by ktr_room) ?_; k_whole); intro g' L' h' FG' F' N' B' X' T' tk' qk ek; (try k_lift B'))
  k_steps
  · refine ret _ _ _ _ _ _ _ _ news (.leaf _) (fun p hp => hp) hap hcl (.leaf _ _) (Nat.zero_le _) trivial ?_ ?_ ?_ (by assumption) (by assumption) <;> assumption
  · refine' ret _ _ _ _ _ _ _ _ _ (.un _ _) ?hsZ1 ?apZ1 ?hcZ1 (.un (.head _) ?tZ1) ?dpZ1 ?gdZ1 ?aZ1 ?bZ1 ?cZ1 (by assumption) (swapN (by assumption))
    case apZ1 => first | exact apCons (by k_ne) (by intro q; exact absurd (Value.type.inj q) (by decide)) (by assumption) | exact apCons (by k_ne) (by intro q; exact absurd (Value.type.inj q) (by decide)) (apCons (by k_ne) (by intro q; exact absurd (Value.type.inj q) (by decide)) (apCons (by k_ne) (by intro q; exact absurd (Value.type.inj q) (by decide)) (by assumption)))
    case hcZ1 => first | exact .tail _ (by assumption) | exact .tail _ (.tail _ (.tail _ (by assumption)))
    case tZ1 => exact TreeAt.mono (by assumption) (fun p hp => by first | exact .tail _ hp | exact .tail _ (.tail _ (.tail _ hp)))
    case dpZ1 => simp only [Tr.deep]; omega
    case gdZ1 => first | assumption | exact ⟨by assumption, by assumption, by assumption⟩ | exact ⟨by assumption, trivial, fun _ => ⟨_, rfl, by assumption, by assumption⟩⟩ | exact ⟨by assumption, by assumption, fun h => absurd h (noShift _ (by assumption))⟩
    case hsZ1 => exact sub1 (fun p hp => (by assumption : ∀ q ∈ _ :: _, q ∈ _) p (.tail _ hp))
    case aZ1 => assumption
    case bZ1 => assumption
    case cZ1 => assumption
  · refine' ret _ _ _ _ _ _ _ _ _ (.cond _ _ _) ?hsZ2 ?apZ2 ?hcZ2 (.cond (.head _) ?t1Z2 ?t2Z2 ?tZ2) ?dpZ2 ?gdZ2 ?aZ2 ?bZ2 ?cZ2 (by assumption) (swapN (by assumption))
    case apZ2 => first | exact apCons (by k_ne) (by intro q; exact absurd (Value.type.inj q) (by decide)) (by assumption) | exact apCons (by k_ne) (by intro q; exact absurd (Value.type.inj q) (by decide)) (apCons (by k_ne) (by intro q; exact absurd (Value.type.inj q) (by decide)) (apCons (by k_ne) (by intro q; exact absurd (Value.type.inj q) (by decide)) (by assumption)))
    case hcZ2 => first | exact .tail _ (by assumption) | exact .tail _ (.tail _ (.tail _ (by assumption)))
    case tZ2 => exact TreeAt.mono (by assumption) (fun p hp => by first | exact .tail _ hp | exact .tail _ (.tail _ (.tail _ hp)))
    case t2Z2 => exact TreeAt.mono (by assumption) (tl1 (by assumption))
    case t1Z2 => exact TreeAt.mono (TreeAt.mono (by assumption) (by assumption)) (tl1 (by assumption))
    case dpZ2 => simp only [Tr.deep]; omega
    case gdZ2 => first | assumption | exact ⟨by assumption, by assumption, by assumption⟩ | exact ⟨by assumption, trivial, fun _ => ⟨_, rfl, by assumption, by assumption⟩⟩ | exact ⟨by assumption, by assumption, fun h => absurd h (noShift _ (by assumption))⟩
    case hsZ2 => exact sub3 (by assumption) (by assumption) (by assumption)
    case aZ2 => assumption
    case bZ2 => assumption
    case cZ2 => assumption
  · refine ret _ _ _ _ _ _ _ _ news (.bin .div (.leaf .a1) (.leaf .a0)) (fun p hp => hp) hap hcl .lack (by simp only [Tr.deep]; omega) ⟨trivial, trivial, fun h => absurd h (by decide)⟩ ?_ ?_ ?_ (by assumption) (by assumption) <;> assumption
  · refine' ret _ _ _ _ _ _ _ _ _ (.bin _ _ (.leaf _)) ?hsZ4 ?apZ4 ?hcZ4 (.bin (.head _) ?tZ4 (.leaf _ _)) ?dpZ4 ?gdZ4 ?aZ4 ?bZ4 ?cZ4 (by assumption) (swapN (by assumption))
    case apZ4 => first | exact apCons (by k_ne) (by intro q; exact absurd (Value.type.inj q) (by decide)) (by assumption) | exact apCons (by k_ne) (by intro q; exact absurd (Value.type.inj q) (by decide)) (apCons (by k_ne) (by intro q; exact absurd (Value.type.inj q) (by decide)) (apCons (by k_ne) (by intro q; exact absurd (Value.type.inj q) (by decide)) (by assumption)))
    case hcZ4 => first | exact .tail _ (by assumption) | exact .tail _ (.tail _ (.tail _ (by assumption)))
    case tZ4 => exact TreeAt.mono (by assumption) (fun p hp => by first | exact .tail _ hp | exact .tail _ (.tail _ (.tail _ hp)))
    case dpZ4 => simp only [Tr.deep]; omega
    case gdZ4 => first | assumption | exact ⟨by assumption, by assumption, by assumption⟩ | exact ⟨by assumption, trivial, fun _ => ⟨_, rfl, by assumption, by assumption⟩⟩ | exact ⟨by assumption, by assumption, fun h => absurd h (noShift _ (by assumption))⟩
    case hsZ4 => exact sub1 (fun p hp => .tail _ (.tail _ ((by assumption : ∀ q ∈ news, q ∈ _) p hp)))
    case aZ4 => assumption
    case bZ4 => assumption
    case cZ4 => assumption
  · refine' ret _ _ _ _ _ _ _ _ _ (.bin _ _ _) ?hsZ5 ?apZ5 ?hcZ5 (.bin (.head _) ?t1Z5 ?tZ5) ?dpZ5 ?gdZ5 ?aZ5 ?bZ5 ?cZ5 (by assumption) (swapN (by assumption))
    case apZ5 => first | exact apCons (by k_ne) (by intro q; exact absurd (Value.type.inj q) (by decide)) (by assumption) | exact apCons (by k_ne) (by intro q; exact absurd (Value.type.inj q) (by decide)) (apCons (by k_ne) (by intro q; exact absurd (Value.type.inj q) (by decide)) (apCons (by k_ne) (by intro q; exact absurd (Value.type.inj q) (by decide)) (by assumption)))
    case hcZ5 => first | exact .tail _ (by assumption) | exact .tail _ (.tail _ (.tail _ (by assumption)))
    case tZ5 => exact TreeAt.mono (by assumption) (fun p hp => by first | exact .tail _ hp | exact .tail _ (.tail _ (.tail _ hp)))
    case t1Z5 => exact TreeAt.mono (by assumption) (tl1 (fun p hp => (by assumption : ∀ q ∈ _ :: _, q ∈ _) p (.tail _ hp)))
    case dpZ5 => simp only [Tr.deep]; omega
    case gdZ5 => first | assumption | exact ⟨by assumption, by assumption, by assumption⟩ | exact ⟨by assumption, trivial, fun _ => ⟨_, rfl, by assumption, by assumption⟩⟩ | exact ⟨by assumption, by assumption, fun h => absurd h (noShift _ (by assumption))⟩
    case hsZ5 => exact sub2 (by assumption) (fun p hp => (by assumption : ∀ q ∈ _ :: _, q ∈ _) p (.tail _ hp))
    case aZ5 => assumption
    case bZ5 => assumption
    case cZ5 => assumption
theorem tree_tell (n : Nat) : TreeTell w n := by
  induction n with
  | zero => exact tree_zero
  | succ n ih => exact tree_succ n ih
end
end
end
section
open PySem PySem.W PyProof.Rows PySem.Calls PySem.Spec
section
theorem kw72 : True := by
  k_with_none
  (k_with "eval Call" => ((with_reducible show wpAny _ _ (eval (Expr.Call (Expr.Name _ _) _ [] _) _) _ _ _); k_dflt (refine Call_ ?_)))
  (k_with "subscriptTail Name Constant ref int" => ((with_reducible show wpAny _ _ (subscriptTail _ _ (Value.ref _) (Value.int _ _)) _ _ _); k_dflt (first | (refine subT (by k_asm) (by k_mem) (by exact rfl) (by exact rfl) ?_ (by with_unfolding_all rfl); k_whole) | (refine subL (by k_asm) (by k_mem) (by exact rfl) (by exact rfl) ?_ (by with_unfolding_all rfl); k_whole))))
  (k_with "subscriptTail" => ((with_reducible show wpAny _ _ (subscriptTail _ _ (Value.ref _) (Value.int _ _)) _ _ _); k_dflt (first | (refine subT (by k_asm) (by k_mem) (by exact rfl) (by exact rfl) ?_ (by with_unfolding_all rfl); k_whole) | (refine subL (by k_asm) (by k_mem) (by exact rfl) (by exact rfl) ?_ (by with_unfolding_all rfl); k_whole))))
  trivial
theorem gj_0 (u v : Tok) : Gives (Builtin.«int.__new__» ⟨[.type "int", .str (Str.ofString "0") u, .int 0 v], []⟩) (.int 0) := gi _ 0 0 u v (by decide) (by kernel_rfl)
theorem gj_1 (u v : Tok) : Gives (Builtin.«int.__new__» ⟨[.type "int", .str (Str.ofString "1") u, .int 0 v], []⟩) (.int 1) := gi _ 0 1 u v (by decide) (by kernel_rfl)
theorem gj_2 (u v : Tok) : Gives (Builtin.«int.__new__» ⟨[.type "int", .str (Str.ofString "2") u, .int 0 v], []⟩) (.int 2) := gi _ 0 2 u v (by decide) (by kernel_rfl)
theorem gj_3 (u v : Tok) : Gives (Builtin.«int.__new__» ⟨[.type "int", .str (Str.ofString "3") u, .int 0 v], []⟩) (.int 3) := gi _ 0 3 u v (by decide) (by kernel_rfl)
theorem gj_7 (u v : Tok) : Gives (Builtin.«int.__new__» ⟨[.type "int", .str (Str.ofString "7") u, .int 0 v], []⟩) (.int 7) := gi _ 0 7 u v (by decide) (by kernel_rfl)
theorem gj_5 (u v : Tok) : Gives (Builtin.«int.__new__» ⟨[.type "int", .str (Str.ofString "5") u, .int 0 v], []⟩) (.int 5) := gi _ 0 5 u v (by decide) (by kernel_rfl)
theorem gj_4294967295 (u v : Tok) : Gives (Builtin.«int.__new__» ⟨[.type "int", .str (Str.ofString "4294967295") u, .int 0 v], []⟩) (.int 4294967295) := gi _ 0 4294967295 u v (by decide) (by kernel_rfl)
theorem gj_2147483647 (u v : Tok) : Gives (Builtin.«int.__new__» ⟨[.type "int", .str (Str.ofString "2147483647") u, .int 0 v], []⟩) (.int 2147483647) := gi _ 0 2147483647 u v (by decide) (by kernel_rfl)
theorem gj_0x80000000 (u v : Tok) : Gives (Builtin.«int.__new__» ⟨[.type "int", .str (Str.ofString "0x80000000") u, .int 0 v], []⟩) (.int 2147483648) := gi _ 0 2147483648 u v (by decide) (by kernel_rfl)
theorem gj_31 (u v : Tok) : Gives (Builtin.«int.__new__» ⟨[.type "int", .str (Str.ofString "31") u, .int 0 v], []⟩) (.int 31) := gi _ 0 31 u v (by decide) (by kernel_rfl)
noncomputable abbrev PRetN (h₀ : Heap) (L : Addr) (m : Str → Option Value) (news : List (Addr × Obj)) (s : Shared) (Q : Value → Shared → Prop) (x : Option Int) (u : Bool) : Prop :=
  ∀ (l : Addr) (t : Tok) (x' : Option Int) (u' : Bool) (h' : Heap) (tk' : Nat), x' = x → u' = u → Fr h₀ L h' m → News h₀ L h' ((l, tupL [optV x' t, .bool u']) :: news) → (∀ p ∈ news, p.1 ≠ l) → Q (.ref l) { s with heap := h', toks := tk' }
noncomputable def WorthTo (w : World) (D : Tr) (x : Option Int) (u : Bool) : Prop :=
  ∀ {mean : ExcName → Option Value} {mg mb : Str → Option Value} {dp un : Nat} {gd : Option (List Code)} {cn : Str} {cs : Scope} {a : Addr} {ccd : Value} {cl : List (Str × Addr)} {outer : List Env} {A₀ : Around} {base h₀ : Heap} {L : Addr} {m : Str → Option Value} {news : List (Addr × Obj)} {s : Shared} {Q E : Value → Shared → Prop} (v : Value), Below A₀ base outer h₀ → Fr h₀ L s.heap m → (KQ w.params).In h₀ → News h₀ L s.heap news → Top viewQ looseQ mean mg mb h₀ → cs.kind = .function → TreeAt news v D → D.Good →
    dp + 10 * D.deep + 30 < recursionLimit → un + 200 * D.deep + 300 < cLine → PRetN h₀ L m news s Q x u →
    wpAny (MQ w) (ktrTop dp un gd cn cs L a ccd cl outer) (call (.ref 343) [v]) Q E s
noncomputable abbrev WorthTell (w : World) (D : Tr) : Prop := WorthTo w D D.lawW.1 D.lawW.2
section
variable {w : World} {mean : ExcName → Option Value} {mg mb : Str → Option Value} {dp un : Nat} {gd : Option (List Code)} {cn : Str} {cs : Scope} {a : Addr} {ccd : Value} {cl : List (Str × Addr)} {outer : List Env} {A₀ : Around} {base h₀ : Heap} {L : Addr} {m : Str → Option Value} {news : List (Addr × Obj)} {s : Shared} {Q E : Value → Shared → Prop}

theorem worthUse {D : Tr} {xx : Option Int} {uu : Bool} {v : Value} (W : WorthTo w D xx uu) (B : Below A₀ base outer h₀) (F : Fr h₀ L s.heap m) (X : (KQ w.params).In h₀) (N : News h₀ L s.heap news) (T : Top viewQ looseQ mean mg mb h₀) (hk : cs.kind = .function) (ht : TreeAt news v D) (hg : D.Good)
    (hd : dp + 10 * D.deep + 30 < recursionLimit) (hu : un + 200 * D.deep + 300 < cLine) (ret : PRetN h₀ L m news s Q xx uu) : wpAny (MQ w) (ktrTop dp un gd cn cs L a ccd cl outer) (call (.ref 343) [v]) Q E s :=
  W v B F X N T hk ht hg hd hu ret
end
section
variable {w : World} {mean : ExcName → Option Value} {mg mb : Str → Option Value} {dp un : Nat} {gd : Option (List Code)} {cn : Str} {cs : Scope} {a : Addr} {ccd : Value} {cl : List (Str × Addr)} {outer : List Env} {A₀ : Around} {base h₀ : Heap} {L : Addr} {m : Str → Option Value} {news : List (Addr × Obj)} {s : Shared} {Q E : Value → Shared → Prop}
theorem kw73 : True := by
  (k_with "exec Assign cons ListComp" => (k_dflt (refine Assign_ListComp_T (F₀ := by k_asm) (by rfl) (by with_unfolding_all rfl) (by rfl) (by decide) (by rfl) (by decide) (by rfl) (by rfl) (by rfl) ?_ (by intro _; rfl))))
  (k_with "subscriptTail" => ((with_reducible show wpAny _ _ (subscriptTail _ (PySem.Expr.Slice _ _ _ _) (Value.ref _) (Value.ref _)) _ _ _); k_dflt (refine slice_tuple_from (a := 1) (by k_asm) (by k_asm) (News.isTup (by k_asm) (by k_mem)) (by decide) ?_ ?_)))
  (k_with "call ref" => ((k_dflt (show wpAny _ _ (call (Value.ref 343) [_]) _ _ _)); k_dflt (refine' worthUse (by assumption) (by k_asm) (by k_asm) (by k_asm) (by k_asm) (by k_asm) (by first | exact rfl | assumption) (by first | assumption | (exact TreeAt.mono (by assumption) (by intro p hp; simp only [List.mem_cons, hp, or_true, true_or]))) (by assumption) (by ktr_room) (by ktr_units) ?_; k_whole; intro l' t' x' u' h' tk' hx' hu' F' N' hf'); (try dsimp only); (try k_fold)))
  trivial
theorem worthElem {C I P : Addr} {oI oC oP : Obj} {m₂ : Str → Option Value} {s₁ : Shared} {v : Value} {D : Tr} {E' : Value → Shared → Prop} {xx : Option Int} {uu : Bool} (W : WorthTo w D xx uu) (B : Below A₀ base outer h₀) (X : (KQ w.params).In h₀) (T : Top viewQ looseQ mean mg mb h₀)
    (hC : LCg.NsObj oC m₂) (hx : m₂ (Str.ofString "part") = some v) (F : Fr h₀ L s₁.heap m) (N : News h₀ L s₁.heap ((I, oI) :: (C, oC) :: (P, oP) :: news)) (ht : TreeAt news v D) (hg : D.Good)
    (hd : dp + 10 * D.deep + 35 < recursionLimit) (hu : un + 200 * D.deep + 350 < cLine) :
    wpAny (MQ w) (ktrTop dp un gd (Str.ofString "_law_worth") (pS (Mine.D 41)) L 343 (Value.ref 342) [] outer) (eval (cEl (pB (Mine.D 41))) (compEnvC (cSc (pB (Mine.D 41))) [] C (envOf (Str.ofString "_law_worth") (pS (Mine.D 41)) L 343 (Value.ref 342)))) (ElemTo h₀ L m s₁ ((I, oI) :: (C, oC) :: (P, oP) :: news) (fun o => ∃ t, o = tupL [optV xx t, .bool uu])) E' s₁ := by
  k_dflt (show wpAny _ _ (eval (PySem.Expr.Call _ _ _ _) _) _ _ _)
  k_steps
  all_goals (subst_vars)
  all_goals (refine ⟨_, _, _, _, rfl, rfl, by assumption, by assumption, by assumption, ⟨_, rfl⟩⟩)
theorem worthStep {v : Value} {D : Tr} {ax : Addr} {its : List Value} {Fin : List Value → List (Addr × Obj) → Prop} {k i : Nat} {ys : List Value} {xx : Option Int} {uu : Bool} (W : WorthTo w D xx uu) (B : Below A₀ base outer h₀) (X : (KQ w.params).In h₀) (T : Top viewQ looseQ mean mg mb h₀)
    (hv : its[i]? = some v) (hax : (ax, tupL its) ∈ news) (ht : TreeAt news v D) (hg : D.Good)
    (hd : dp + 10 * D.deep + 35 < recursionLimit) (hu : un + 200 * D.deep + 350 < cLine)
    (next : ∀ l t, (∀ p ∈ news, p.1 ≠ l) → LCg.CompRest PySem.Challenge.rw_on0057_01.prog w (ktrTop dp un gd (Str.ofString "_law_worth") (pS (Mine.D 41)) L 343 (Value.ref 342) [] outer) h₀ L m (envOf (Str.ofString "_law_worth") (pS (Mine.D 41)) L 343 (Value.ref 342)) (cEl (pB (Mine.D 41))) (Str.ofString "part") (cSc (pB (Mine.D 41))) [] s (fun nw => (ax, tupL its) ∈ nw) (fun i v => its[i]? = some v) Fin k (i + 1) (ys ++ [.ref l]) ((l, tupL [optV xx t, .bool uu]) :: news)) :
    LCg.CompRest PySem.Challenge.rw_on0057_01.prog w (ktrTop dp un gd (Str.ofString "_law_worth") (pS (Mine.D 41)) L 343 (Value.ref 342) [] outer) h₀ L m (envOf (Str.ofString "_law_worth") (pS (Mine.D 41)) L 343 (Value.ref 342)) (cEl (pB (Mine.D 41))) (Str.ofString "part") (cSc (pB (Mine.D 41))) [] s (fun nw => (ax, tupL its) ∈ nw) (fun i v => its[i]? = some v) Fin (k + 1) i ys news :=
  compStep hv hax (fun I C P oI oC m₂ s₁ E' hC hx F1 N1 => worthElem W B X T hC hx F1 N1 ht hg hd hu) (fun l o hR fr => by obtain ⟨t, rfl⟩ := hR; exact next l t fr)
end
end
end
section
open PySem PySem.W PyProof.Rows PySem.Calls PySem.Spec
section
local macro_rules | `(tactic| ktr_rel) => `(tactic| first | assumption | exact altsub (by assumption) (by intro p hp; simp only [List.mem_cons, hp, or_true, true_or]) | exact allLt_of (by assumption) | exact And.right (by assumption) | exact And.right (And.right (by assumption)) | exact And.right (And.right (And.right (by assumption))) | exact And.right (And.right (And.right (And.right (by assumption)))) | exact rr5 (by assumption) | exact rr5 (And.right (by assumption)) | exact rr5 (And.right (And.right (by assumption))) | exact rr5 (And.right (And.right (And.right (by assumption)))) | exact rr5 (And.right (And.right (And.right (And.right (by assumption))))) | exact rr5 (rr5 (by assumption)) | exact rr5 (rr5 (And.right (by assumption))) | exact rr5 (rr5 (And.right (And.right (by assumption)))) | exact rr5 (rr5 (And.right (And.right (And.right (by assumption))))) | exact rr5 (rr5 (And.right (And.right (And.right (And.right (by assumption)))))) | exact rr5 (rr5 (rr5 (by assumption))) | exact rr5 (rr5 (rr5 (And.right (by assumption)))) | exact rr5 (rr5 (rr5 (And.right (And.right (by assumption))))) | exact rr5 (rr5 (rr5 (And.right (And.right (And.right (by assumption)))))) | exact rr5 (rr5 (rr5 (And.right (And.right (And.right (And.right (by assumption))))))) | exact rr5 (rr5 (rr5 (rr5 (by assumption)))) | exact rr5 (rr5 (rr5 (rr5 (And.right (by assumption))))) | exact rr5 (rr5 (rr5 (rr5 (And.right (And.right (by assumption)))))) | exact rr5 (rr5 (rr5 (rr5 (And.right (And.right (And.right (by assumption))))))))
theorem kw74 : True := by
  k_with_none
  (k_with "eval Call" => ((with_reducible show wpAny _ _ (eval (Expr.Call (Expr.Name _ _) _ [] _) _) _ _ _); k_dflt (refine Call_ ?_)))
  (k_with "subscriptTail Name Constant ref int" => ((with_reducible show wpAny _ _ (subscriptTail _ _ (Value.ref _) (Value.int _ _)) _ _ _); k_dflt (first | (refine subT (by k_asm) (by k_mem) (by exact rfl) (by exact rfl) ?_ (by with_unfolding_all rfl); k_whole) | (refine subL (by k_asm) (by k_mem) (by exact rfl) (by exact rfl) ?_ (by with_unfolding_all rfl); k_whole))))
  (k_with "subscriptTail" => ((with_reducible show wpAny _ _ (subscriptTail _ _ (Value.ref _) (Value.int _ _)) _ _ _); k_dflt (first | (refine subT (by k_asm) (by k_mem) (by exact rfl) (by exact rfl) ?_ (by with_unfolding_all rfl); k_whole) | (refine subL (by k_asm) (by k_mem) (by exact rfl) (by exact rfl) ?_ (by with_unfolding_all rfl); k_whole))))
  (k_with "exec Assign cons ListComp" => (k_dflt (refine Assign_ListComp_T (F₀ := by k_asm) (by rfl) (by with_unfolding_all rfl) (by rfl) (by decide) (by rfl) (by decide) (by rfl) (by rfl) (by rfl) ?_ (by intro _; rfl))))
  (k_with "subscriptTail" => ((with_reducible show wpAny _ _ (subscriptTail _ (PySem.Expr.Slice _ _ _ _) (Value.ref _) (Value.ref _)) _ _ _); k_dflt (refine slice_tuple_from (a := 1) (by k_asm) (by k_asm) (News.isTup (by k_asm) (by k_mem)) (by decide) ?_ ?_)))
  (k_with "subscriptTail" => ((with_reducible show wpAny _ _ (subscriptTail _ (PySem.Expr.Slice _ _ _ _) (Value.ref 298) (Value.ref _)) _ _ _); k_dflt (refine slice_tuple_from (a := 1) (by k_asm) (by k_asm) (tup298 (Frag.In.keeps (by k_asm) (Fr.keep (by k_asm)))) (by decide) ?_ ?_)))
  (k_with "SrcTup" => (k_dflt (refine ⟨_, _, _, rfl, rfl, by k_asm, by k_asm, .head _, Nat.le_of_ble_eq_true rfl, fun gH => ?_⟩)))
  (k_with "call ref" => ((k_dflt (show wpAny _ _ (call (Value.ref 331) [Value.int _ _, Value.bool _]) _ _ _)); k_dflt (refine' ledC _ _ _ (by k_asm) (by k_asm) (by k_asm) (by k_asm) (by k_asm) (by first | exact rfl | assumption) (by ktr_room) (by ktr_units) (LRet.of ?_); k_whole; intro l' t' h' tk' F' N' hf'); (try dsimp only); (try k_fold)))
  (k_with "call ref" => ((k_dflt (show wpAny _ _ (call (Value.ref 338) [Value.str (Bop.txt _) _, Value.ref _, Value.ref _]) _ _ _)); k_dflt (refine' twoL _ _ _ _ _ _ _ _ _ _ (by k_asm) (by k_asm) (by k_asm) (by k_asm) (by k_asm) (by first | exact rfl | assumption) (by k_mem) (by k_mem) (by assumption) (by ktr_room) (by ktr_units) ?_; k_whole; intro l' t' x' u' h' tk' hx' hu' F' N' hf'); (try dsimp only); (try k_fold)))
  (k_with "call ref" => ((k_dflt (show wpAny _ _ (call (Value.ref 338) [Value.str (Str.ofString "/") _, Value.ref _, Value.ref _]) _ _ _)); k_dflt (refine' twoL Bop.div _ _ _ _ _ _ _ _ _ (by k_asm) (by k_asm) (by k_asm) (by k_asm) (by k_asm) (by first | exact rfl | assumption) (by k_mem) (by k_mem) (by assumption) (by ktr_room) (by ktr_units) ?_; k_whole; intro l' t' x' u' h' tk' hx' hu' F' N' hf'); (try dsimp only); (try k_fold)))
  (k_with "eval BoolOp" => ((with_reducible show wpAny _ _ (eval (Expr.BoolOp BoolOp.Or [Expr.Subscript _ _ _, Expr.Subscript _ _ _] _) _) _ _ _); refine or_uns (by assumption) ?_))
  (k_with "And" => first | k_dflt (exact ⟨rfl, ⟨_, rfl⟩⟩) | (refine ⟨rfl, ?_, fun tk => ?_⟩ <;> (try dsimp only)))
  trivial
theorem num_j (k : Num) : seqIndex? (-1) k.txt.length = some (k.txt.cps.size - 1) := by cases k <;> kernel_rfl
theorem num_c (k : Num) : k.txt.cps[k.txt.cps.size - 1]? = some k.lastC := by cases k <;> kernel_rfl
theorem num_q (k : Num) : ((⟨#[k.lastC]⟩ : Str) == Str.ofString "u") = k.hasU := by cases k <;> kernel_rfl
theorem num_u1 (k : Num) (h : ((⟨#[k.lastC]⟩ : Str) == Str.ofString "u") = true) : (Tr.leaf k).lawW.snd = ((⟨#[k.lastC]⟩ : Str) == Str.ofString "u") := by rw [h]; rw [num_q] at h; cases k <;> first | rfl | cases h
theorem num_u2 (k : Num) (h : ((⟨#[k.lastC]⟩ : Str) == Str.ofString "u") = false) : (Tr.leaf k).lawW.snd = decide (2147483647 < k.val) := by rw [num_q] at h; cases k <;> first | rfl | cases h
theorem kw75 : True := by
  (k_with "subscriptTail" => ((with_reducible show wpAny _ _ (subscriptTail _ _ (Value.str (Num.txt _) _) (Value.int _ _)) _ _ _); k_dflt (refine strAt (num_j _) (num_c _) (by decide) ?_)))
  trivial
noncomputable def Num.body : Num → Str
  | .a0 => "0"
  | .a1 => "1"
  | .a2 => "2"
  | .a3 => "3"
  | .a7 => "7"
  | .u5 => "5"
  | .big => "4294967295"
  | .mid => "2147483647"
  | .hex => "0x80000000"
  | .u0 => "0"
  | .u1 => "1"
  | .a31 => "31"
theorem num_strip (k : Num) : Txt.rstripChars k.txt (Str.ofString "u") = k.body := by cases k <;> kernel_rfl
theorem num_size (k : Num) : k.txt.length ≤ sizeLine := by cases k <;> decide +kernel
theorem gjC (k : Num) (u v : Tok) : Gives (Builtin.«int.__new__» ⟨[.type "int", .str k.body u, .int 0 v], []⟩) (.int k.val) := by
  cases k
  · exact gj_0 u v
  · exact gj_1 u v
  · exact gj_2 u v
  · exact gj_3 u v
  · exact gj_7 u v
  · exact gj_5 u v
  · exact gj_4294967295 u v
  · exact gj_2147483647 u v
  · exact gj_0x80000000 u v
  · exact gj_0 u v
  · exact gj_1 u v
  · exact gj_31 u v
section
variable {w : World} {mean : ExcName → Option Value} {mg mb : Str → Option Value} {dp un : Nat} {gd : Option (List Code)} {cn : Str} {cs : Scope} {a : Addr} {ccd : Value} {cl : List (Str × Addr)} {outer : List Env} {A₀ : Around} {base h₀ : Heap} {L : Addr} {m : Str → Option Value} {news : List (Addr × Obj)} {s : Shared} {Q E : Value → Shared → Prop}
theorem kw76 : True := by
  (k_with "call builtin:str.rstrip" => ((with_reducible show wpAny _ _ (call (Value.builtin "str.rstrip") [Value.str (Num.txt _) _, Value.str _ _]) _ _ _); k_dflt (refine KXw.rstripChars (num_strip _) (num_size _) ?_); intro _ _))
  (k_with "call type:int" => ((with_reducible show wpAny _ _ (call (Value.type "int") [Value.str (Num.body _) _, Value.int _ _]) _ _ _); k_dflt (refine call_int_base (gjC _ _ _) ?_)))
  (k_with "ite" => (with_reducible refine ite_ff (by assumption) ?_))
  trivial
theorem worth_leaf (k : Num) : WorthTell w (.leaf k) := by
  refine @pad8 _ ?_; intro _ _ _ _ _ _ _ _
  refine @pad2 _ ?_; intro _ _
  refine @pad1 _ ?_; intro _
  intro mean mg mb dp un gd cn cs a ccd cl outer A₀ base h₀ L m news s Q E v B F X N T hk ht hg hd hu ret
  cases ht with
  | @leaf _ t1 =>
  refine pad8 fun _ _ _ _ _ _ _ _ => ?_
  refine pad8 fun _ _ _ _ _ _ _ _ => ?_
  refine pad4 fun _ _ _ _ => ?_
  (k_dflt (refine enterK fd343 (bs := [(Str.ofString "tree", .str k.txt t1)]) (by exact rfl) (by exact rfl) (by k_asm) (by k_asm) (by k_asm) (by k_asm) (by k_asm) (by first | exact rfl | assumption) (by ktr_room) ?_; k_whole); intro g' L' h' FG' F' N' B' X' T' tk' qk ek; (try k_lift B'))
  k_steps
  all_goals (exact ret _ _ (some _) _ _ _ rfl rfl (by assumption) (by first | (rw [num_u1 k (by assumption)]; assumption) | (rw [num_u2 k (by assumption)]; assumption)) (fun p hp => Nat.ne_of_lt ((by assumption : ∀ q ∈ _, q.1 < _) p hp)))
end
end
end
section
open PySem PySem.W PyProof.Rows PySem.Calls PySem.Spec
section
local macro_rules | `(tactic| ktr_rel) => `(tactic| first | assumption | exact altsub (by assumption) (by intro p hp; simp only [List.mem_cons, hp, or_true, true_or]) | exact allLt_of (by assumption) | exact And.right (by assumption) | exact And.right (And.right (by assumption)) | exact And.right (And.right (And.right (by assumption))) | exact And.right (And.right (And.right (And.right (by assumption)))) | exact rr5 (by assumption) | exact rr5 (And.right (by assumption)) | exact rr5 (And.right (And.right (by assumption))) | exact rr5 (And.right (And.right (And.right (by assumption)))) | exact rr5 (And.right (And.right (And.right (And.right (by assumption))))) | exact rr5 (rr5 (by assumption)) | exact rr5 (rr5 (And.right (by assumption))) | exact rr5 (rr5 (And.right (And.right (by assumption)))) | exact rr5 (rr5 (And.right (And.right (And.right (by assumption))))) | exact rr5 (rr5 (And.right (And.right (And.right (And.right (by assumption)))))) | exact rr5 (rr5 (rr5 (by assumption))) | exact rr5 (rr5 (rr5 (And.right (by assumption)))) | exact rr5 (rr5 (rr5 (And.right (And.right (by assumption))))) | exact rr5 (rr5 (rr5 (And.right (And.right (And.right (by assumption)))))) | exact rr5 (rr5 (rr5 (And.right (And.right (And.right (And.right (by assumption))))))) | exact rr5 (rr5 (rr5 (rr5 (by assumption)))) | exact rr5 (rr5 (rr5 (rr5 (And.right (by assumption))))) | exact rr5 (rr5 (rr5 (rr5 (And.right (And.right (by assumption)))))) | exact rr5 (rr5 (rr5 (rr5 (And.right (And.right (And.right (by assumption))))))))
section
variable {w : World} {mean : ExcName → Option Value} {mg mb : Str → Option Value} {dp un : Nat} {gd : Option (List Code)} {cn : Str} {cs : Scope} {a : Addr} {ccd : Value} {cl : List (Str × Addr)} {outer : List Env} {A₀ : Around} {base h₀ : Heap} {L : Addr} {m : Str → Option Value} {news : List (Addr × Obj)} {s : Shared} {Q E : Value → Shared → Prop}
theorem kw77 : True := by
  k_with_none
  (k_with "eval Call" => ((with_reducible show wpAny _ _ (eval (Expr.Call (Expr.Name _ _) _ [] _) _) _ _ _); k_dflt (refine Call_ ?_)))
  (k_with "subscriptTail Name Constant ref int" => ((with_reducible show wpAny _ _ (subscriptTail _ _ (Value.ref _) (Value.int _ _)) _ _ _); k_dflt (first | (refine subT (by k_asm) (by k_mem) (by exact rfl) (by exact rfl) ?_ (by with_unfolding_all rfl); k_whole) | (refine subL (by k_asm) (by k_mem) (by exact rfl) (by exact rfl) ?_ (by with_unfolding_all rfl); k_whole))))
  (k_with "subscriptTail" => ((with_reducible show wpAny _ _ (subscriptTail _ _ (Value.ref _) (Value.int _ _)) _ _ _); k_dflt (first | (refine subT (by k_asm) (by k_mem) (by exact rfl) (by exact rfl) ?_ (by with_unfolding_all rfl); k_whole) | (refine subL (by k_asm) (by k_mem) (by exact rfl) (by exact rfl) ?_ (by with_unfolding_all rfl); k_whole))))
  (k_with "exec Assign cons ListComp" => (k_dflt (refine Assign_ListComp_T (F₀ := by k_asm) (by rfl) (by with_unfolding_all rfl) (by rfl) (by decide) (by rfl) (by decide) (by rfl) (by rfl) (by rfl) ?_ (by intro _; rfl))))
  (k_with "subscriptTail" => ((with_reducible show wpAny _ _ (subscriptTail _ (PySem.Expr.Slice _ _ _ _) (Value.ref _) (Value.ref _)) _ _ _); k_dflt (refine slice_tuple_from (a := 1) (by k_asm) (by k_asm) (News.isTup (by k_asm) (by k_mem)) (by decide) ?_ ?_)))
  (k_with "subscriptTail" => ((with_reducible show wpAny _ _ (subscriptTail _ (PySem.Expr.Slice _ _ _ _) (Value.ref 298) (Value.ref _)) _ _ _); k_dflt (refine slice_tuple_from (a := 1) (by k_asm) (by k_asm) (tup298 (Frag.In.keeps (by k_asm) (Fr.keep (by k_asm)))) (by decide) ?_ ?_)))
  (k_with "SrcTup" => (k_dflt (refine ⟨_, _, _, rfl, rfl, by k_asm, by k_asm, .head _, Nat.le_of_ble_eq_true rfl, fun gH => ?_⟩)))
  (k_with "call ref" => ((k_dflt (show wpAny _ _ (call (Value.ref 331) [Value.int _ _, Value.bool _]) _ _ _)); k_dflt (refine' ledC _ _ _ (by k_asm) (by k_asm) (by k_asm) (by k_asm) (by k_asm) (by first | exact rfl | assumption) (by ktr_room) (by ktr_units) (LRet.of ?_); k_whole; intro l' t' h' tk' F' N' hf'); (try dsimp only); (try k_fold)))
  (k_with "call ref" => ((k_dflt (show wpAny _ _ (call (Value.ref 338) [Value.str (Bop.txt _) _, Value.ref _, Value.ref _]) _ _ _)); k_dflt (refine' twoL _ _ _ _ _ _ _ _ _ _ (by k_asm) (by k_asm) (by k_asm) (by k_asm) (by k_asm) (by first | exact rfl | assumption) (by k_mem) (by k_mem) (by assumption) (by ktr_room) (by ktr_units) ?_; k_whole; intro l' t' x' u' h' tk' hx' hu' F' N' hf'); (try dsimp only); (try k_fold)))
  (k_with "call ref" => ((k_dflt (show wpAny _ _ (call (Value.ref 338) [Value.str (Str.ofString "/") _, Value.ref _, Value.ref _]) _ _ _)); k_dflt (refine' twoL Bop.div _ _ _ _ _ _ _ _ _ (by k_asm) (by k_asm) (by k_asm) (by k_asm) (by k_asm) (by first | exact rfl | assumption) (by k_mem) (by k_mem) (by assumption) (by ktr_room) (by ktr_units) ?_; k_whole; intro l' t' x' u' h' tk' hx' hu' F' N' hf'); (try dsimp only); (try k_fold)))
  (k_with "eval BoolOp" => ((with_reducible show wpAny _ _ (eval (Expr.BoolOp BoolOp.Or [Expr.Subscript _ _ _, Expr.Subscript _ _ _] _) _) _ _ _); refine or_uns (by assumption) ?_))
  (k_with "And" => first | k_dflt (exact ⟨rfl, ⟨_, rfl⟩⟩) | (refine ⟨rfl, ?_, fun tk => ?_⟩ <;> (try dsimp only)))
  trivial
theorem worth_lack (B : Below A₀ base outer h₀) (F : Fr h₀ L s.heap m) (X : (KQ w.params).In h₀) (N : News h₀ L s.heap news) (T : Top viewQ looseQ mean mg mb h₀) (hk : cs.kind = .function) (hd : dp + 40 < recursionLimit) (hu : un + 500 < cLine) (ret : PRetN h₀ L m news s Q lackT.lawW.1 lackT.lawW.2) :
    wpAny (MQ w) (ktrTop dp un gd cn cs L a ccd cl outer) (call (.ref 343) [.ref 298]) Q E s := by
  revert mean mg mb dp un gd cn cs a ccd cl outer A₀ base h₀ L m news s Q E
  refine @pad8 _ ?_; intro _ _ _ _ _ _ _ _
  refine @pad4 _ ?_; intro _ _ _ _
  intro mean mg mb dp un gd cn cs a ccd cl outer A₀ base h₀ L m news s Q E B F X N T hk hd hu ret
  have W1 : WorthTell w (.leaf .a1) := worth_leaf .a1
  have W2 : WorthTell w (.leaf .a0) := worth_leaf .a0
  have ok : PairOk .div (Tr.leaf .a1).lawW.2 (Tr.leaf .a0).lawW.1 (Tr.leaf .a0).lawW.2 := pair_ok (a := .leaf .a1) (b := .leaf .a0) ⟨trivial, trivial, fun h => absurd h (by decide)⟩
  refine pad8 fun _ _ _ _ _ _ _ _ => ?_
  refine pad8 fun _ _ _ _ _ _ _ _ => ?_
  refine pad8 fun _ _ _ _ _ _ _ _ => ?_
  refine pad4 fun _ _ _ _ => ?_
  (k_dflt (refine enterK fd343 (bs := [(Str.ofString "tree", .ref 298)]) (by exact rfl) (by exact rfl) (by k_asm) (by k_asm) (by k_asm) (by k_asm) (by k_asm) (by first | exact rfl | assumption) (by ktr_room) ?_; k_whole); intro g' L' h' FG' F' N' B' X' T' tk' qk ek; (try k_lift B'))
  k_steps
  all_goals (refine worthStep W1 (by assumption) (by assumption) (by assumption) rfl (.head _) (.leaf .a1 _) trivial (by unfold Tr.deep; ktr_room) (by unfold Tr.deep; ktr_units) (fun l1 t1 fr1 => ?_))
  all_goals (refine worthStep W2 (by assumption) (by assumption) (by assumption) rfl (.tail _ (.head _)) (.leaf .a0 _) trivial (by unfold Tr.deep; ktr_room) (by unfold Tr.deep; ktr_units) (fun l2 t2 fr2 => ?_))
  all_goals k_steps
  all_goals (first
    | (refine ret _ 0 none _ _ _ ?_ ?_ (by assumption) (by first | assumption | (exact vdrop1 (by assumption) (show ∀ r ∈ news, _ from by intro p hp; simp only [List.mem_cons, hp, or_true, true_or]))) (fun p hp => by first | exact Nat.ne_of_lt (ktn_ltOf (by ktr_rel) p hp) | exact (by assumption : ∀ q ∈ _, q.1 ≠ _) p (by simp only [List.mem_cons, hp, or_true])) <;> (assumption))
    | (refine ret _ _ (some _) _ _ _ ?_ ?_ (by assumption) (by first | assumption | (exact vdrop1 (by assumption) (show ∀ r ∈ news, _ from by intro p hp; simp only [List.mem_cons, hp, or_true, true_or]))) (fun p hp => by first | exact Nat.ne_of_lt (ktn_ltOf (by ktr_rel) p hp) | exact (by assumption : ∀ q ∈ _, q.1 ≠ _) p (by simp only [List.mem_cons, hp, or_true])) <;> (assumption))
    | (refine ret _ _ _ _ _ _ ?_ ?_ (by assumption) (by first | assumption | (exact vdrop1 (by assumption) (show ∀ r ∈ news, _ from by intro p hp; simp only [List.mem_cons, hp, or_true, true_or]))) (fun p hp => by first | exact Nat.ne_of_lt (ktn_ltOf (by ktr_rel) p hp) | exact (by assumption : ∀ q ∈ _, q.1 ≠ _) p (by simp only [List.mem_cons, hp, or_true])) <;> (assumption)))

theorem worth_bin (o : Bop) (D1 D2 : Tr) (W1 : WorthTell w D1) (W2 : WorthTell w D2) : WorthTell w (.bin o D1 D2) := by
  refine @pad4 _ ?_; intro _ _ _ _
  refine @pad2 _ ?_; intro _ _
  refine @pad1 _ ?_; intro _
  intro mean mg mb dp un gd cn cs a ccd cl outer A₀ base h₀ L m news s Q E v B F X N T hk ht hg hd hu ret
  have ok : PairOk o D1.lawW.2 D2.lawW.1 D2.lawW.2 := pair_ok hg
  obtain ⟨hg1, hg2, _⟩ := hg
  cases ht with
  | lack => exact worth_lack B F X N T hk (by simp only [Tr.deep] at hd; omega) (by simp only [Tr.deep] at hu; omega) ret
  | @bin D' _ t1 v1 v2 _ _ hm ht1 ht2 =>
  unfold Tr.deep at hd hu
  unfold Tr.lawW at ret
  have N2 := News.dup N hm
  refine pad2 fun _ _ => ?_
  (k_dflt (refine enterK fd343 (bs := [(Str.ofString "tree", .ref D')]) (by exact rfl) (by exact rfl) (by k_asm) (by k_asm) (by k_asm) (by k_asm) (by k_asm) (by first | exact rfl | assumption) (by ktr_room) ?_; k_whole); intro g' L' h' FG' F' N' B' X' T' tk' qk ek; (try k_lift B'))
  k_steps
  all_goals (refine worthStep W1 (by assumption) (by assumption) (by assumption) rfl (.head _) (ht1.mono (fun p hp => .tail _ (.tail _ hp))) hg1 (by ktr_room) (by ktr_units) (fun l1 t1 fr1 => ?_))
  all_goals (refine worthStep W2 (by assumption) (by assumption) (by assumption) rfl (.tail _ (.head _)) (ht2.mono (fun p hp => .tail _ (.tail _ (.tail _ hp)))) hg2 (by ktr_room) (by ktr_units) (fun l2 t2 fr2 => ?_))
  all_goals k_steps
  all_goals (first
    | (refine ret _ 0 none _ _ _ ?_ ?_ (by assumption) (by first | assumption | (exact vdrop1 (by assumption) (show ∀ r ∈ news, _ from by intro p hp; simp only [List.mem_cons, hp, or_true, true_or]))) (fun p hp => by first | exact Nat.ne_of_lt (ktn_ltOf (by ktr_rel) p hp) | exact (by assumption : ∀ q ∈ _, q.1 ≠ _) p (by simp only [List.mem_cons, hp, or_true])) <;> (assumption))
    | (refine ret _ _ (some _) _ _ _ ?_ ?_ (by assumption) (by first | assumption | (exact vdrop1 (by assumption) (show ∀ r ∈ news, _ from by intro p hp; simp only [List.mem_cons, hp, or_true, true_or]))) (fun p hp => by first | exact Nat.ne_of_lt (ktn_ltOf (by ktr_rel) p hp) | exact (by assumption : ∀ q ∈ _, q.1 ≠ _) p (by simp only [List.mem_cons, hp, or_true])) <;> (assumption))
    | (refine ret _ _ _ _ _ _ ?_ ?_ (by assumption) (by first | assumption | (exact vdrop1 (by assumption) (show ∀ r ∈ news, _ from by intro p hp; simp only [List.mem_cons, hp, or_true, true_or]))) (fun p hp => by first | exact Nat.ne_of_lt (ktn_ltOf (by ktr_rel) p hp) | exact (by assumption : ∀ q ∈ _, q.1 ≠ _) p (by simp only [List.mem_cons, hp, or_true])) <;> (assumption)))
end
end
end
section
open PySem PySem.W PyProof.Rows PySem.Calls PySem.Spec
section
local macro_rules | `(tactic| ktr_rel) => `(tactic| first | assumption | exact altsub (by assumption) (by intro p hp; simp only [List.mem_cons, hp, or_true, true_or]) | exact allLt_of (by assumption) | exact And.right (by assumption) | exact And.right (And.right (by assumption)) | exact And.right (And.right (And.right (by assumption))) | exact And.right (And.right (And.right (And.right (by assumption)))) | exact rr5 (by assumption) | exact rr5 (And.right (by assumption)) | exact rr5 (And.right (And.right (by assumption))) | exact rr5 (And.right (And.right (And.right (by assumption)))) | exact rr5 (And.right (And.right (And.right (And.right (by assumption))))) | exact rr5 (rr5 (by assumption)) | exact rr5 (rr5 (And.right (by assumption))) | exact rr5 (rr5 (And.right (And.right (by assumption)))) | exact rr5 (rr5 (And.right (And.right (And.right (by assumption))))) | exact rr5 (rr5 (And.right (And.right (And.right (And.right (by assumption)))))) | exact rr5 (rr5 (rr5 (by assumption))) | exact rr5 (rr5 (rr5 (And.right (by assumption)))) | exact rr5 (rr5 (rr5 (And.right (And.right (by assumption))))) | exact rr5 (rr5 (rr5 (And.right (And.right (And.right (by assumption)))))) | exact rr5 (rr5 (rr5 (And.right (And.right (And.right (And.right (by assumption))))))) | exact rr5 (rr5 (rr5 (rr5 (by assumption)))) | exact rr5 (rr5 (rr5 (rr5 (And.right (by assumption))))) | exact rr5 (rr5 (rr5 (rr5 (And.right (And.right (by assumption)))))) | exact rr5 (rr5 (rr5 (rr5 (And.right (And.right (And.right (by assumption))))))))
section
variable {w : World} {mean : ExcName → Option Value} {mg mb : Str → Option Value} {dp un : Nat} {gd : Option (List Code)} {cn : Str} {cs : Scope} {a : Addr} {ccd : Value} {cl : List (Str × Addr)} {outer : List Env} {A₀ : Around} {base h₀ : Heap} {L : Addr} {m : Str → Option Value} {news : List (Addr × Obj)} {s : Shared} {Q E : Value → Shared → Prop}
theorem kw78 : True := by
  k_with_none
  (k_with "eval Call" => ((with_reducible show wpAny _ _ (eval (Expr.Call (Expr.Name _ _) _ [] _) _) _ _ _); k_dflt (refine Call_ ?_)))
  (k_with "subscriptTail Name Constant ref int" => ((with_reducible show wpAny _ _ (subscriptTail _ _ (Value.ref _) (Value.int _ _)) _ _ _); k_dflt (first | (refine subT (by k_asm) (by k_mem) (by exact rfl) (by exact rfl) ?_ (by with_unfolding_all rfl); k_whole) | (refine subL (by k_asm) (by k_mem) (by exact rfl) (by exact rfl) ?_ (by with_unfolding_all rfl); k_whole))))
  (k_with "subscriptTail" => ((with_reducible show wpAny _ _ (subscriptTail _ _ (Value.ref _) (Value.int _ _)) _ _ _); k_dflt (first | (refine subT (by k_asm) (by k_mem) (by exact rfl) (by exact rfl) ?_ (by with_unfolding_all rfl); k_whole) | (refine subL (by k_asm) (by k_mem) (by exact rfl) (by exact rfl) ?_ (by with_unfolding_all rfl); k_whole))))
  (k_with "exec Assign cons ListComp" => (k_dflt (refine Assign_ListComp_T (F₀ := by k_asm) (by rfl) (by with_unfolding_all rfl) (by rfl) (by decide) (by rfl) (by decide) (by rfl) (by rfl) (by rfl) ?_ (by intro _; rfl))))
  (k_with "subscriptTail" => ((with_reducible show wpAny _ _ (subscriptTail _ (PySem.Expr.Slice _ _ _ _) (Value.ref _) (Value.ref _)) _ _ _); k_dflt (refine slice_tuple_from (a := 1) (by k_asm) (by k_asm) (News.isTup (by k_asm) (by k_mem)) (by decide) ?_ ?_)))
  (k_with "subscriptTail" => ((with_reducible show wpAny _ _ (subscriptTail _ (PySem.Expr.Slice _ _ _ _) (Value.ref 298) (Value.ref _)) _ _ _); k_dflt (refine slice_tuple_from (a := 1) (by k_asm) (by k_asm) (tup298 (Frag.In.keeps (by k_asm) (Fr.keep (by k_asm)))) (by decide) ?_ ?_)))
  (k_with "SrcTup" => (k_dflt (refine ⟨_, _, _, rfl, rfl, by k_asm, by k_asm, .head _, Nat.le_of_ble_eq_true rfl, fun gH => ?_⟩)))
  (k_with "call ref" => ((k_dflt (show wpAny _ _ (call (Value.ref 331) [Value.int _ _, Value.bool _]) _ _ _)); k_dflt (refine' ledC _ _ _ (by k_asm) (by k_asm) (by k_asm) (by k_asm) (by k_asm) (by first | exact rfl | assumption) (by ktr_room) (by ktr_units) (LRet.of ?_); k_whole; intro l' t' h' tk' F' N' hf'); (try dsimp only); (try k_fold)))
  (k_with "call ref" => ((k_dflt (show wpAny _ _ (call (Value.ref 338) [Value.str (Bop.txt _) _, Value.ref _, Value.ref _]) _ _ _)); k_dflt (refine' twoL _ _ _ _ _ _ _ _ _ _ (by k_asm) (by k_asm) (by k_asm) (by k_asm) (by k_asm) (by first | exact rfl | assumption) (by k_mem) (by k_mem) (by assumption) (by ktr_room) (by ktr_units) ?_; k_whole; intro l' t' x' u' h' tk' hx' hu' F' N' hf'); (try dsimp only); (try k_fold)))
  (k_with "call ref" => ((k_dflt (show wpAny _ _ (call (Value.ref 338) [Value.str (Str.ofString "/") _, Value.ref _, Value.ref _]) _ _ _)); k_dflt (refine' twoL Bop.div _ _ _ _ _ _ _ _ _ (by k_asm) (by k_asm) (by k_asm) (by k_asm) (by k_asm) (by first | exact rfl | assumption) (by k_mem) (by k_mem) (by assumption) (by ktr_room) (by ktr_units) ?_; k_whole; intro l' t' x' u' h' tk' hx' hu' F' N' hf'); (try dsimp only); (try k_fold)))
  (k_with "eval BoolOp" => ((with_reducible show wpAny _ _ (eval (Expr.BoolOp BoolOp.Or [Expr.Subscript _ _ _, Expr.Subscript _ _ _] _) _) _ _ _); refine or_uns (by assumption) ?_))
  (k_with "And" => first | k_dflt (exact ⟨rfl, ⟨_, rfl⟩⟩) | (refine ⟨rfl, ?_, fun tk => ?_⟩ <;> (try dsimp only)))
  trivial
theorem worth_un (o : Uop) (D1 : Tr) (W1 : WorthTell w D1) : WorthTell w (.un o D1) := by
  refine @pad8 _ ?_; intro _ _ _ _ _ _ _ _
  refine @pad1 _ ?_; intro _
  intro mean mg mb dp un gd cn cs a ccd cl outer A₀ base h₀ L m news s Q E v B F X N T hk ht hg hd hu ret
  cases ht with
  | @un D' _ t1 v1 _ hm ht1 =>
  unfold Tr.deep at hd hu
  unfold Tr.lawW at ret
  have hg1 : D1.Good := hg
  have N2 := News.dup N hm
  refine pad8 fun _ _ _ _ _ _ _ _ => ?_
  refine pad2 fun _ _ => ?_
  refine pad1 fun _ => ?_
  (k_dflt (refine enterK fd343 (bs := [(Str.ofString "tree", .ref D')]) (by exact rfl) (by exact rfl) (by k_asm) (by k_asm) (by k_asm) (by k_asm) (by k_asm) (by first | exact rfl | assumption) (by ktr_room) ?_; k_whole); intro g' L' h' FG' F' N' B' X' T' tk' qk ek; (try k_lift B'))
  k_steps
  all_goals (refine worthStep W1 (by assumption) (by assumption) (by assumption) rfl (.head _) (ht1.mono (fun p hp => .tail _ (.tail _ hp))) hg1 (by ktr_room) (by ktr_units) (fun l1 t1 fr1 => ?_))
  all_goals (generalize D1.lawW = z at *)
  all_goals (obtain ⟨x, u⟩ := z)
  all_goals (cases x)
  all_goals (dsimp only [optV] at *)
  all_goals k_steps
  all_goals (first
    | (refine ret l1 t1 none _ _ _ ?_ ?_ (by assumption) (vdrop1 (News.tl (by assumption)) (show ∀ r ∈ news, _ from fun p hp => by simp only [List.mem_cons, hp, or_true])) (fun p hp => fr1 p (by simp only [List.mem_cons, hp, or_true])) <;> (first | rfl | (cases o <;> first | rfl | (exfalso; simp_all (decide := true); done) | (simp_all (decide := true) [lawOne]; done)); skip))
    | (refine ret l1 t1 (some _) _ _ _ ?_ ?_ (by assumption) (vdrop1 (News.tl (by assumption)) (show ∀ r ∈ news, _ from fun p hp => by simp only [List.mem_cons, hp, or_true])) (fun p hp => fr1 p (by simp only [List.mem_cons, hp, or_true])) <;> (first | rfl | (cases o <;> first | rfl | (exfalso; simp_all (decide := true); done) | (simp_all (decide := true) [lawOne]; done)); skip))
    | (refine ret _ 0 none _ _ _ ?_ ?_ (by assumption) (by first | assumption | (exact vdrop1 (by assumption) (show ∀ r ∈ news, _ from by intro p hp; simp only [List.mem_cons, hp, or_true, true_or]))) (fun p hp => by first | exact Nat.ne_of_lt (ktn_ltOf (by ktr_rel) p hp) | exact (by assumption : ∀ q ∈ _, q.1 ≠ _) p (by simp only [List.mem_cons, hp, or_true])) <;> (first | rfl | (cases o <;> first | rfl | (exfalso; simp_all (decide := true); done) | (simp_all (decide := true) [lawOne]; done)); skip))
    | (refine ret _ _ (some _) _ _ _ ?_ ?_ (by assumption) (by first | assumption | (exact vdrop1 (by assumption) (show ∀ r ∈ news, _ from by intro p hp; simp only [List.mem_cons, hp, or_true, true_or]))) (fun p hp => by first | exact Nat.ne_of_lt (ktn_ltOf (by ktr_rel) p hp) | exact (by assumption : ∀ q ∈ _, q.1 ≠ _) p (by simp only [List.mem_cons, hp, or_true])) <;> (first | rfl | (cases o <;> first | rfl | (exfalso; simp_all (decide := true); done) | (simp_all (decide := true) [lawOne]; done)); skip))
    | (refine ret _ _ _ _ _ _ ?_ ?_ (by assumption) (by first | assumption | (exact vdrop1 (by assumption) (show ∀ r ∈ news, _ from by intro p hp; simp only [List.mem_cons, hp, or_true, true_or]))) (fun p hp => by first | exact Nat.ne_of_lt (ktn_ltOf (by ktr_rel) p hp) | exact (by assumption : ∀ q ∈ _, q.1 ≠ _) p (by simp only [List.mem_cons, hp, or_true])) <;> (first | rfl | (cases o <;> first | rfl | (exfalso; simp_all (decide := true); done) | (simp_all (decide := true) [lawOne]; done)); skip)))
end
end
end
section
open PySem PySem.W PyProof.Rows PySem.Calls PySem.Spec
section
local macro_rules | `(tactic| ktr_rel) => `(tactic| first | assumption | exact altsub (by assumption) (by intro p hp; simp only [List.mem_cons, hp, or_true, true_or]) | exact allLt_of (by assumption) | exact And.right (by assumption) | exact And.right (And.right (by assumption)) | exact And.right (And.right (And.right (by assumption))) | exact And.right (And.right (And.right (And.right (by assumption)))) | exact rr5 (by assumption) | exact rr5 (And.right (by assumption)) | exact rr5 (And.right (And.right (by assumption))) | exact rr5 (And.right (And.right (And.right (by assumption)))) | exact rr5 (And.right (And.right (And.right (And.right (by assumption))))) | exact rr5 (rr5 (by assumption)) | exact rr5 (rr5 (And.right (by assumption))) | exact rr5 (rr5 (And.right (And.right (by assumption)))) | exact rr5 (rr5 (And.right (And.right (And.right (by assumption))))) | exact rr5 (rr5 (And.right (And.right (And.right (And.right (by assumption)))))) | exact rr5 (rr5 (rr5 (by assumption))) | exact rr5 (rr5 (rr5 (And.right (by assumption)))) | exact rr5 (rr5 (rr5 (And.right (And.right (by assumption))))) | exact rr5 (rr5 (rr5 (And.right (And.right (And.right (by assumption)))))) | exact rr5 (rr5 (rr5 (And.right (And.right (And.right (And.right (by assumption))))))) | exact rr5 (rr5 (rr5 (rr5 (by assumption)))) | exact rr5 (rr5 (rr5 (rr5 (And.right (by assumption))))) | exact rr5 (rr5 (rr5 (rr5 (And.right (And.right (by assumption)))))) | exact rr5 (rr5 (rr5 (rr5 (And.right (And.right (And.right (by assumption))))))))
section
variable {w : World} {mean : ExcName → Option Value} {mg mb : Str → Option Value} {dp un : Nat} {gd : Option (List Code)} {cn : Str} {cs : Scope} {a : Addr} {ccd : Value} {cl : List (Str × Addr)} {outer : List Env} {A₀ : Around} {base h₀ : Heap} {L : Addr} {m : Str → Option Value} {news : List (Addr × Obj)} {s : Shared} {Q E : Value → Shared → Prop}
theorem kw79 : True := by
  k_with_none
  (k_with "eval Call" => ((with_reducible show wpAny _ _ (eval (Expr.Call (Expr.Name _ _) _ [] _) _) _ _ _); k_dflt (refine Call_ ?_)))
  (k_with "subscriptTail Name Constant ref int" => ((with_reducible show wpAny _ _ (subscriptTail _ _ (Value.ref _) (Value.int _ _)) _ _ _); k_dflt (first | (refine subT (by k_asm) (by k_mem) (by exact rfl) (by exact rfl) ?_ (by with_unfolding_all rfl); k_whole) | (refine subL (by k_asm) (by k_mem) (by exact rfl) (by exact rfl) ?_ (by with_unfolding_all rfl); k_whole))))
  (k_with "subscriptTail" => ((with_reducible show wpAny _ _ (subscriptTail _ _ (Value.ref _) (Value.int _ _)) _ _ _); k_dflt (first | (refine subT (by k_asm) (by k_mem) (by exact rfl) (by exact rfl) ?_ (by with_unfolding_all rfl); k_whole) | (refine subL (by k_asm) (by k_mem) (by exact rfl) (by exact rfl) ?_ (by with_unfolding_all rfl); k_whole))))
  (k_with "exec Assign cons ListComp" => (k_dflt (refine Assign_ListComp_T (F₀ := by k_asm) (by rfl) (by with_unfolding_all rfl) (by rfl) (by decide) (by rfl) (by decide) (by rfl) (by rfl) (by rfl) ?_ (by intro _; rfl))))
  (k_with "subscriptTail" => ((with_reducible show wpAny _ _ (subscriptTail _ (PySem.Expr.Slice _ _ _ _) (Value.ref _) (Value.ref _)) _ _ _); k_dflt (refine slice_tuple_from (a := 1) (by k_asm) (by k_asm) (News.isTup (by k_asm) (by k_mem)) (by decide) ?_ ?_)))
  (k_with "subscriptTail" => ((with_reducible show wpAny _ _ (subscriptTail _ (PySem.Expr.Slice _ _ _ _) (Value.ref 298) (Value.ref _)) _ _ _); k_dflt (refine slice_tuple_from (a := 1) (by k_asm) (by k_asm) (tup298 (Frag.In.keeps (by k_asm) (Fr.keep (by k_asm)))) (by decide) ?_ ?_)))
  (k_with "SrcTup" => (k_dflt (refine ⟨_, _, _, rfl, rfl, by k_asm, by k_asm, .head _, Nat.le_of_ble_eq_true rfl, fun gH => ?_⟩)))
  (k_with "call ref" => ((k_dflt (show wpAny _ _ (call (Value.ref 331) [Value.int _ _, Value.bool _]) _ _ _)); k_dflt (refine' ledC _ _ _ (by k_asm) (by k_asm) (by k_asm) (by k_asm) (by k_asm) (by first | exact rfl | assumption) (by ktr_room) (by ktr_units) (LRet.of ?_); k_whole; intro l' t' h' tk' F' N' hf'); (try dsimp only); (try k_fold)))
  (k_with "call ref" => ((k_dflt (show wpAny _ _ (call (Value.ref 338) [Value.str (Bop.txt _) _, Value.ref _, Value.ref _]) _ _ _)); k_dflt (refine' twoL _ _ _ _ _ _ _ _ _ _ (by k_asm) (by k_asm) (by k_asm) (by k_asm) (by k_asm) (by first | exact rfl | assumption) (by k_mem) (by k_mem) (by assumption) (by ktr_room) (by ktr_units) ?_; k_whole; intro l' t' x' u' h' tk' hx' hu' F' N' hf'); (try dsimp only); (try k_fold)))
  (k_with "call ref" => ((k_dflt (show wpAny _ _ (call (Value.ref 338) [Value.str (Str.ofString "/") _, Value.ref _, Value.ref _]) _ _ _)); k_dflt (refine' twoL Bop.div _ _ _ _ _ _ _ _ _ (by k_asm) (by k_asm) (by k_asm) (by k_asm) (by k_asm) (by first | exact rfl | assumption) (by k_mem) (by k_mem) (by assumption) (by ktr_room) (by ktr_units) ?_; k_whole; intro l' t' x' u' h' tk' hx' hu' F' N' hf'); (try dsimp only); (try k_fold)))
  (k_with "eval BoolOp" => ((with_reducible show wpAny _ _ (eval (Expr.BoolOp BoolOp.Or [Expr.Subscript _ _ _, Expr.Subscript _ _ _] _) _) _ _ _); refine or_uns (by assumption) ?_))
  (k_with "And" => first | k_dflt (exact ⟨rfl, ⟨_, rfl⟩⟩) | (refine ⟨rfl, ?_, fun tk => ?_⟩ <;> (try dsimp only)))
  trivial
theorem worth_cond_nxx (D1 D2 D3 : Tr) (x2 : Option Int) (x3 : Option Int) (z : Int) (u1 u2 u3 : Bool) (W1 : WorthTo w D1 none u1) (W2 : WorthTo w D2 x2 u2) (W3 : WorthTo w D3 x3 u3) : WorthTo w (.cond D1 D2 D3) (lawCond (none, u1) (x2, u2) (x3, u3)).1 (u2 || u3) := by
  intro mean mg mb dp un gd cn cs a ccd cl outer A₀ base h₀ L m news s Q E v B F X N T hk ht hg hd hu ret
  obtain ⟨hg1, hg2, hg3⟩ := hg
  cases ht with
  | @cond D' t1 v1 v2 v3 _ _ _ hm ht1 ht2 ht3 =>
  unfold Tr.deep at hd hu
  have hJ : JoinOr u2 u3 u2 u3 := ⟨⟩
  have N2 := News.dup N hm
  (k_dflt (refine enterK fd343 (bs := [(Str.ofString "tree", .ref D')]) (by exact rfl) (by exact rfl) (by k_asm) (by k_asm) (by k_asm) (by k_asm) (by k_asm) (by first | exact rfl | assumption) (by ktr_room) ?_; k_whole); intro g' L' h' FG' F' N' B' X' T' tk' qk ek; (try k_lift B'))
  k_steps
  all_goals (refine worthStep W1 (by assumption) (by assumption) (by assumption) rfl (.head _) (ht1.mono (fun p hp => .tail _ (.tail _ hp))) hg1 (by ktr_room) (by ktr_units) (fun l1 t1 fr1 => ?_))
  all_goals (refine worthStep W2 (by assumption) (by assumption) (by assumption) rfl (.tail _ (.head _)) (ht2.mono (fun p hp => .tail _ (.tail _ (.tail _ hp)))) hg2 (by ktr_room) (by ktr_units) (fun l2 t2 fr2 => ?_))
  all_goals (refine worthStep W3 (by assumption) (by assumption) (by assumption) rfl (.tail _ (.tail _ (.head _))) (ht3.mono (fun p hp => .tail _ (.tail _ (.tail _ (.tail _ hp))))) hg3 (by ktr_room) (by ktr_units) (fun l3 t3 fr3 => ?_))
  all_goals (dsimp only [optV])
  all_goals k_steps
  all_goals (first
    | (refine ret _ 0 none _ _ _ ?_ ?_ (by assumption) (by first | assumption | (exact vdrop1 (by assumption) (show ∀ r ∈ news, _ from by intro p hp; simp only [List.mem_cons, hp, or_true, true_or]))) (fun p hp => by first | exact Nat.ne_of_lt (ktn_ltOf (by ktr_rel) p hp) | exact (by assumption : ∀ q ∈ _, q.1 ≠ _) p (by simp only [List.mem_cons, hp, or_true])) <;> (first | rfl | simp_all [lawCond]))
    | (refine ret _ _ (some _) _ _ _ ?_ ?_ (by assumption) (by first | assumption | (exact vdrop1 (by assumption) (show ∀ r ∈ news, _ from by intro p hp; simp only [List.mem_cons, hp, or_true, true_or]))) (fun p hp => by first | exact Nat.ne_of_lt (ktn_ltOf (by ktr_rel) p hp) | exact (by assumption : ∀ q ∈ _, q.1 ≠ _) p (by simp only [List.mem_cons, hp, or_true])) <;> (first | rfl | simp_all [lawCond]))
    | (refine ret _ _ _ _ _ _ ?_ ?_ (by assumption) (by first | assumption | (exact vdrop1 (by assumption) (show ∀ r ∈ news, _ from by intro p hp; simp only [List.mem_cons, hp, or_true, true_or]))) (fun p hp => by first | exact Nat.ne_of_lt (ktn_ltOf (by ktr_rel) p hp) | exact (by assumption : ∀ q ∈ _, q.1 ≠ _) p (by simp only [List.mem_cons, hp, or_true])) <;> (first | rfl | simp_all [lawCond])))
theorem worth_cond_snn (D1 D2 D3 : Tr) (a1 : Int) (z z2 : Int) (u1 u2 u3 : Bool) (W1 : WorthTo w D1 (some a1) u1) (W2 : WorthTo w D2 none u2) (W3 : WorthTo w D3 none u3) : WorthTo w (.cond D1 D2 D3) (lawCond ((some a1), u1) (none, u2) (none, u3)).1 (u2 || u3) := by
  intro mean mg mb dp un gd cn cs a ccd cl outer A₀ base h₀ L m news s Q E v B F X N T hk ht hg hd hu ret
  obtain ⟨hg1, hg2, hg3⟩ := hg
  cases ht with
  | @cond D' t1 v1 v2 v3 _ _ _ hm ht1 ht2 ht3 =>
  unfold Tr.deep at hd hu
  have hJ : JoinOr u2 u3 u2 u3 := ⟨⟩
  have N2 := News.dup N hm
  (k_dflt (refine enterK fd343 (bs := [(Str.ofString "tree", .ref D')]) (by exact rfl) (by exact rfl) (by k_asm) (by k_asm) (by k_asm) (by k_asm) (by k_asm) (by first | exact rfl | assumption) (by ktr_room) ?_; k_whole); intro g' L' h' FG' F' N' B' X' T' tk' qk ek; (try k_lift B'))
  k_steps
  all_goals (refine worthStep W1 (by assumption) (by assumption) (by assumption) rfl (.head _) (ht1.mono (fun p hp => .tail _ (.tail _ hp))) hg1 (by ktr_room) (by ktr_units) (fun l1 t1 fr1 => ?_))
  all_goals (refine worthStep W2 (by assumption) (by assumption) (by assumption) rfl (.tail _ (.head _)) (ht2.mono (fun p hp => .tail _ (.tail _ (.tail _ hp)))) hg2 (by ktr_room) (by ktr_units) (fun l2 t2 fr2 => ?_))
  all_goals (refine worthStep W3 (by assumption) (by assumption) (by assumption) rfl (.tail _ (.tail _ (.head _))) (ht3.mono (fun p hp => .tail _ (.tail _ (.tail _ (.tail _ hp))))) hg3 (by ktr_room) (by ktr_units) (fun l3 t3 fr3 => ?_))
  all_goals (dsimp only [optV])
  all_goals k_steps
  all_goals (first
    | (refine ret _ 0 none _ _ _ ?_ ?_ (by assumption) (by first | assumption | (exact vdrop1 (by assumption) (show ∀ r ∈ news, _ from by intro p hp; simp only [List.mem_cons, hp, or_true, true_or]))) (fun p hp => by first | exact Nat.ne_of_lt (ktn_ltOf (by ktr_rel) p hp) | exact (by assumption : ∀ q ∈ _, q.1 ≠ _) p (by simp only [List.mem_cons, hp, or_true])) <;> (first | rfl | simp_all [lawCond]))
    | (refine ret _ _ (some _) _ _ _ ?_ ?_ (by assumption) (by first | assumption | (exact vdrop1 (by assumption) (show ∀ r ∈ news, _ from by intro p hp; simp only [List.mem_cons, hp, or_true, true_or]))) (fun p hp => by first | exact Nat.ne_of_lt (ktn_ltOf (by ktr_rel) p hp) | exact (by assumption : ∀ q ∈ _, q.1 ≠ _) p (by simp only [List.mem_cons, hp, or_true])) <;> (first | rfl | simp_all [lawCond]))
    | (refine ret _ _ _ _ _ _ ?_ ?_ (by assumption) (by first | assumption | (exact vdrop1 (by assumption) (show ∀ r ∈ news, _ from by intro p hp; simp only [List.mem_cons, hp, or_true, true_or]))) (fun p hp => by first | exact Nat.ne_of_lt (ktn_ltOf (by ktr_rel) p hp) | exact (by assumption : ∀ q ∈ _, q.1 ≠ _) p (by simp only [List.mem_cons, hp, or_true])) <;> (first | rfl | simp_all [lawCond])))
theorem worth_cond_sns (D1 D2 D3 : Tr) (a1 : Int) (z : Int) (a3 : Int) (u1 u2 u3 : Bool) (W1 : WorthTo w D1 (some a1) u1) (W2 : WorthTo w D2 none u2) (W3 : WorthTo w D3 (some a3) u3) : WorthTo w (.cond D1 D2 D3) (lawCond ((some a1), u1) (none, u2) ((some a3), u3)).1 (u2 || u3) := by
  intro mean mg mb dp un gd cn cs a ccd cl outer A₀ base h₀ L m news s Q E v B F X N T hk ht hg hd hu ret
  obtain ⟨hg1, hg2, hg3⟩ := hg
  cases ht with
  | @cond D' t1 v1 v2 v3 _ _ _ hm ht1 ht2 ht3 =>
  unfold Tr.deep at hd hu
  have hJ : JoinOr u2 u3 u2 u3 := ⟨⟩
  have N2 := News.dup N hm
  (k_dflt (refine enterK fd343 (bs := [(Str.ofString "tree", .ref D')]) (by exact rfl) (by exact rfl) (by k_asm) (by k_asm) (by k_asm) (by k_asm) (by k_asm) (by first | exact rfl | assumption) (by ktr_room) ?_; k_whole); intro g' L' h' FG' F' N' B' X' T' tk' qk ek; (try k_lift B'))
  k_steps
  all_goals (refine worthStep W1 (by assumption) (by assumption) (by assumption) rfl (.head _) (ht1.mono (fun p hp => .tail _ (.tail _ hp))) hg1 (by ktr_room) (by ktr_units) (fun l1 t1 fr1 => ?_))
  all_goals (refine worthStep W2 (by assumption) (by assumption) (by assumption) rfl (.tail _ (.head _)) (ht2.mono (fun p hp => .tail _ (.tail _ (.tail _ hp)))) hg2 (by ktr_room) (by ktr_units) (fun l2 t2 fr2 => ?_))
  all_goals (refine worthStep W3 (by assumption) (by assumption) (by assumption) rfl (.tail _ (.tail _ (.head _))) (ht3.mono (fun p hp => .tail _ (.tail _ (.tail _ (.tail _ hp))))) hg3 (by ktr_room) (by ktr_units) (fun l3 t3 fr3 => ?_))
  all_goals (dsimp only [optV])
  all_goals k_steps
  all_goals (first
    | (refine ret _ 0 none _ _ _ ?_ ?_ (by assumption) (by first | assumption | (exact vdrop1 (by assumption) (show ∀ r ∈ news, _ from by intro p hp; simp only [List.mem_cons, hp, or_true, true_or]))) (fun p hp => by first | exact Nat.ne_of_lt (ktn_ltOf (by ktr_rel) p hp) | exact (by assumption : ∀ q ∈ _, q.1 ≠ _) p (by simp only [List.mem_cons, hp, or_true])) <;> (first | rfl | simp_all [lawCond]))
    | (refine ret _ _ (some _) _ _ _ ?_ ?_ (by assumption) (by first | assumption | (exact vdrop1 (by assumption) (show ∀ r ∈ news, _ from by intro p hp; simp only [List.mem_cons, hp, or_true, true_or]))) (fun p hp => by first | exact Nat.ne_of_lt (ktn_ltOf (by ktr_rel) p hp) | exact (by assumption : ∀ q ∈ _, q.1 ≠ _) p (by simp only [List.mem_cons, hp, or_true])) <;> (first | rfl | simp_all [lawCond]))
    | (refine ret _ _ _ _ _ _ ?_ ?_ (by assumption) (by first | assumption | (exact vdrop1 (by assumption) (show ∀ r ∈ news, _ from by intro p hp; simp only [List.mem_cons, hp, or_true, true_or]))) (fun p hp => by first | exact Nat.ne_of_lt (ktn_ltOf (by ktr_rel) p hp) | exact (by assumption : ∀ q ∈ _, q.1 ≠ _) p (by simp only [List.mem_cons, hp, or_true])) <;> (first | rfl | simp_all [lawCond])))
theorem worth_cond_ssn (D1 D2 D3 : Tr) (a1 : Int) (a2 : Int) (z : Int) (u1 u2 u3 : Bool) (W1 : WorthTo w D1 (some a1) u1) (W2 : WorthTo w D2 (some a2) u2) (W3 : WorthTo w D3 none u3) : WorthTo w (.cond D1 D2 D3) (lawCond ((some a1), u1) ((some a2), u2) (none, u3)).1 (u2 || u3) := by
  intro mean mg mb dp un gd cn cs a ccd cl outer A₀ base h₀ L m news s Q E v B F X N T hk ht hg hd hu ret
  obtain ⟨hg1, hg2, hg3⟩ := hg
  cases ht with
  | @cond D' t1 v1 v2 v3 _ _ _ hm ht1 ht2 ht3 =>
  unfold Tr.deep at hd hu
  have hJ : JoinOr u2 u3 u2 u3 := ⟨⟩
  have N2 := News.dup N hm
  (k_dflt (refine enterK fd343 (bs := [(Str.ofString "tree", .ref D')]) (by exact rfl) (by exact rfl) (by k_asm) (by k_asm) (by k_asm) (by k_asm) (by k_asm) (by first | exact rfl | assumption) (by ktr_room) ?_; k_whole); intro g' L' h' FG' F' N' B' X' T' tk' qk ek; (try k_lift B'))
  k_steps
  all_goals (refine worthStep W1 (by assumption) (by assumption) (by assumption) rfl (.head _) (ht1.mono (fun p hp => .tail _ (.tail _ hp))) hg1 (by ktr_room) (by ktr_units) (fun l1 t1 fr1 => ?_))
  all_goals (refine worthStep W2 (by assumption) (by assumption) (by assumption) rfl (.tail _ (.head _)) (ht2.mono (fun p hp => .tail _ (.tail _ (.tail _ hp)))) hg2 (by ktr_room) (by ktr_units) (fun l2 t2 fr2 => ?_))
  all_goals (refine worthStep W3 (by assumption) (by assumption) (by assumption) rfl (.tail _ (.tail _ (.head _))) (ht3.mono (fun p hp => .tail _ (.tail _ (.tail _ (.tail _ hp))))) hg3 (by ktr_room) (by ktr_units) (fun l3 t3 fr3 => ?_))
  all_goals (dsimp only [optV])
  all_goals k_steps
  all_goals (first
    | (refine ret _ 0 none _ _ _ ?_ ?_ (by assumption) (by first | assumption | (exact vdrop1 (by assumption) (show ∀ r ∈ news, _ from by intro p hp; simp only [List.mem_cons, hp, or_true, true_or]))) (fun p hp => by first | exact Nat.ne_of_lt (ktn_ltOf (by ktr_rel) p hp) | exact (by assumption : ∀ q ∈ _, q.1 ≠ _) p (by simp only [List.mem_cons, hp, or_true])) <;> (first | rfl | simp_all [lawCond]))
    | (refine ret _ _ (some _) _ _ _ ?_ ?_ (by assumption) (by first | assumption | (exact vdrop1 (by assumption) (show ∀ r ∈ news, _ from by intro p hp; simp only [List.mem_cons, hp, or_true, true_or]))) (fun p hp => by first | exact Nat.ne_of_lt (ktn_ltOf (by ktr_rel) p hp) | exact (by assumption : ∀ q ∈ _, q.1 ≠ _) p (by simp only [List.mem_cons, hp, or_true])) <;> (first | rfl | simp_all [lawCond]))
    | (refine ret _ _ _ _ _ _ ?_ ?_ (by assumption) (by first | assumption | (exact vdrop1 (by assumption) (show ∀ r ∈ news, _ from by intro p hp; simp only [List.mem_cons, hp, or_true, true_or]))) (fun p hp => by first | exact Nat.ne_of_lt (ktn_ltOf (by ktr_rel) p hp) | exact (by assumption : ∀ q ∈ _, q.1 ≠ _) p (by simp only [List.mem_cons, hp, or_true])) <;> (first | rfl | simp_all [lawCond])))
theorem worth_cond_sss (D1 D2 D3 : Tr) (a1 : Int) (a2 : Int) (a3 : Int) (u1 u2 u3 : Bool) (W1 : WorthTo w D1 (some a1) u1) (W2 : WorthTo w D2 (some a2) u2) (W3 : WorthTo w D3 (some a3) u3) : WorthTo w (.cond D1 D2 D3) (lawCond ((some a1), u1) ((some a2), u2) ((some a3), u3)).1 (u2 || u3) := by
  intro mean mg mb dp un gd cn cs a ccd cl outer A₀ base h₀ L m news s Q E v B F X N T hk ht hg hd hu ret
  obtain ⟨hg1, hg2, hg3⟩ := hg
  cases ht with
  | @cond D' t1 v1 v2 v3 _ _ _ hm ht1 ht2 ht3 =>
  unfold Tr.deep at hd hu
  have hJ : JoinOr u2 u3 u2 u3 := ⟨⟩
  have N2 := News.dup N hm
  (k_dflt (refine enterK fd343 (bs := [(Str.ofString "tree", .ref D')]) (by exact rfl) (by exact rfl) (by k_asm) (by k_asm) (by k_asm) (by k_asm) (by k_asm) (by first | exact rfl | assumption) (by ktr_room) ?_; k_whole); intro g' L' h' FG' F' N' B' X' T' tk' qk ek; (try k_lift B'))
  k_steps
  all_goals (refine worthStep W1 (by assumption) (by assumption) (by assumption) rfl (.head _) (ht1.mono (fun p hp => .tail _ (.tail _ hp))) hg1 (by ktr_room) (by ktr_units) (fun l1 t1 fr1 => ?_))
  all_goals (refine worthStep W2 (by assumption) (by assumption) (by assumption) rfl (.tail _ (.head _)) (ht2.mono (fun p hp => .tail _ (.tail _ (.tail _ hp)))) hg2 (by ktr_room) (by ktr_units) (fun l2 t2 fr2 => ?_))
  all_goals (refine worthStep W3 (by assumption) (by assumption) (by assumption) rfl (.tail _ (.tail _ (.head _))) (ht3.mono (fun p hp => .tail _ (.tail _ (.tail _ (.tail _ hp))))) hg3 (by ktr_room) (by ktr_units) (fun l3 t3 fr3 => ?_))
  all_goals (dsimp only [optV])
  all_goals k_steps
  all_goals (first
    | (refine ret _ 0 none _ _ _ ?_ ?_ (by assumption) (by first | assumption | (exact vdrop1 (by assumption) (show ∀ r ∈ news, _ from by intro p hp; simp only [List.mem_cons, hp, or_true, true_or]))) (fun p hp => by first | exact Nat.ne_of_lt (ktn_ltOf (by ktr_rel) p hp) | exact (by assumption : ∀ q ∈ _, q.1 ≠ _) p (by simp only [List.mem_cons, hp, or_true])) <;> (first | rfl | simp_all [lawCond]))
    | (refine ret _ _ (some _) _ _ _ ?_ ?_ (by assumption) (by first | assumption | (exact vdrop1 (by assumption) (show ∀ r ∈ news, _ from by intro p hp; simp only [List.mem_cons, hp, or_true, true_or]))) (fun p hp => by first | exact Nat.ne_of_lt (ktn_ltOf (by ktr_rel) p hp) | exact (by assumption : ∀ q ∈ _, q.1 ≠ _) p (by simp only [List.mem_cons, hp, or_true])) <;> (first | rfl | simp_all [lawCond]))
    | (refine ret _ _ _ _ _ _ ?_ ?_ (by assumption) (by first | assumption | (exact vdrop1 (by assumption) (show ∀ r ∈ news, _ from by intro p hp; simp only [List.mem_cons, hp, or_true, true_or]))) (fun p hp => by first | exact Nat.ne_of_lt (ktn_ltOf (by ktr_rel) p hp) | exact (by assumption : ∀ q ∈ _, q.1 ≠ _) p (by simp only [List.mem_cons, hp, or_true])) <;> (first | rfl | simp_all [lawCond])))
theorem worth_cond (D1 D2 D3 : Tr) (W1 : WorthTell w D1) (W2 : WorthTell w D2) (W3 : WorthTell w D3) : WorthTell w (.cond D1 D2 D3) := by
  unfold WorthTell at *
  show WorthTo w (.cond D1 D2 D3) (lawCond (D1.lawW.1, D1.lawW.2) (D2.lawW.1, D2.lawW.2) (D3.lawW.1, D3.lawW.2)).1 (D2.lawW.2 || D3.lawW.2)
  cases h1 : D1.lawW.1 with
  | none => rw [h1] at W1; exact worth_cond_nxx D1 D2 D3 _ _ 0 _ _ _ W1 W2 W3
  | some a1 =>
    rw [h1] at W1
    cases h2 : D2.lawW.1 <;> cases h3 : D3.lawW.1 <;> rw [h2] at W2 <;> rw [h3] at W3
    · exact worth_cond_snn D1 D2 D3 _ 0 0 _ _ _ W1 W2 W3
    · exact worth_cond_sns D1 D2 D3 _ 0 _ _ _ _ W1 W2 W3
    · exact worth_cond_ssn D1 D2 D3 _ _ 0 _ _ _ W1 W2 W3
    · exact worth_cond_sss D1 D2 D3 _ _ _ _ _ _ W1 W2 W3
end
end
end
section
open PySem PySem.W PyProof.Rows PySem.Calls PySem.Spec PySem.Builtin PySem.Builtin.ObjectAttr
section
theorem kw80 : True := by
  k_with_none
  trivial
noncomputable def RaisableD (K : Frag) (C : Addr) (E : Value → Shared → Prop) (v : Value) (s₁ : Shared) : Prop :=
  ∃ e t d, v = .ref e ∧ K.In s₁.heap ∧ s₁.heap.get? e = some (excObj C t (some d)) ∧ E (.ref e) s₁
theorem exec_raiseD {prog : Program} {w : World} {A : Around} {E : Value → Shared → Prop} {s : Shared} {env : Env} {K : Frag} {C : Addr} {ex : PySem.Expr} {pos : Pos} {Q : Flow → Shared → Prop} {h₀ : Heap} (X₀ : K.In h₀) (hb : ktsIn K C "BaseException" = true) (hh : A.handled = none)
    (h : wpAny (model prog w) A (eval ex env) (RaisableD K C E) E s) : wpAny (model prog w) A (exec (.Raise (some ex) none pos) env) Q E s := by
  show wpAny _ _ (do standAt pos; raiseStmt env (some (do let v ← eval ex env; standAt pos; pure v)) none) _ _ _
  refine wpAny_bind (wpAny_standAt ?_)
  unfold raiseStmt
  dsimp only
  refine wpAny_bind (wpAny_bind (wpAny_mono h (fun v s₁ h₁ => wpAny_bind (wpAny_standAt (wpAny_pure ?_))) fun _ _ x => x))
  obtain ⟨e, t, d, rfl, X, he, hE⟩ := h₁
  obtain ⟨nm, qn, NS, bs, bm, hdct, sn, sub, ab, col, dd, k0, k1, k2, k3, k5, newId, hC, hbase, hbT⟩ := kts_cls X hb
  have hcB : (Value.ref C :: bm).contains (.type "BaseException") = true := by rw [List.contains_cons, hbase, Bool.or_true]
  obtain ⟨hp, g, dr, tk, os⟩ := s₁
  repeat (first | with_reducible refine wpAny_loadPart_at he ?_ | with_reducible refine wpAny_loadPart_at hC ?_ | (with_reducible refine wpAny_isSubtype_exc hC ?_; rw [hcB]) | wp_step)
  exact wpAny_raiseNew_none hh hE
end
end
section
open PySem PySem.W PyProof.Rows PySem.Calls PySem.Spec
section
section
variable {w : World} {mean : ExcName → Option Value} {mg mb : Str → Option Value} {dp un : Nat} {gd : Option (List Code)} {cn : Str} {cs : Scope} {a : Addr} {ccd : Value} {cl : List (Str × Addr)} {outer : List Env} {A₀ : Around} {base h₀ : Heap} {L : Addr} {news : List (Addr × Obj)} {s : Shared} {Q E : Value → Shared → Prop}
variable {c dc vl sl tl pl : Addr} {k1 k2 k3 k4 : Tok} {nv ns : Nat} {rest : List (Addr × Obj)} {us ps : List Value}
variable {keep : List (Addr × Obj)} {I : Addr} {lo : Obj} {QF : Flow → Shared → Prop} {file : Str} {line : Int}

theorem eats_top (B : Below A₀ base outer h₀) (X : (KQ w.params).In h₀) (T : Top viewQ looseQ mean mg mb h₀) (SA : SetsAt w h₀) (six : Six c dc vl sl) (hkeep : ∀ p ∈ keep, p.2.cls ≠ .type "list_iterator") (htl : (tl, lo) ∈ keep) (hd : dp + 100 < recursionLimit) (hu : un + 1500 < cLine) (D : Tr) (toks : List Value) (hT : TokensAt w keep file line toks D.words) (hdp : D.deep < 90) (S : Sta w keep rest vl sl [] [] [] [])
    (K0 : ∀ v', Kont w mean mg mb dp un gd outer h₀ L s E QF c dc vl sl tl pl k1 k2 k3 k4 keep I lo [] true ([] ++ [v']) ([] ++ [D.val]) [] [])
    (K1 : ∀ (p : Pend) (args : List Value) (ys : List V) (t3 : Tok), ys.length = p.ar → args.length = ys.length → p.run ys = D.val → Kont w mean mg mb dp un gd outer h₀ L s E QF c dc vl sl tl pl k1 k2 k3 k4 keep I lo [] true ([] ++ args) ([] ++ ys) ([] ++ [Value.str p.word t3]) ([] ++ [p.word])) :
    ListRest PySem.Challenge.rw_on0057_01.prog w (ktrTop dp un gd (Str.ofString "Condition.is_so") (pS (M 30 9)) L 288 (Value.ref 287) [] outer) E h₀ (envOf (Str.ofString "Condition.is_so") (pS (M 30 9)) L 288 (Value.ref 287)) (Str.ofString "token") bodyIS QF s I (tl, lo) toks (fun y => if y = Str.ofString "is_whole" then some (.bool false) else ([(Str.ofString "self", Value.ref c)] : List (Str × Value)).reverse.lookup y) ((c, instObj 291 dc) :: (dc, cdict w tl pl vl sl k1 k2 k3 k4) :: (vl, listOf [].toArray nv) :: (sl, listOf [].toArray ns) :: rest) := by
  have h := eats B X T SA six hkeep htl hd hu D [] [] [] [] [] toks (.inl ⟨rfl, rfl⟩) hT (by show 0 + _ < 800; omega) (by show 0 + _ < 800; omega) rfl K0 K1 nv ns rest none S
  rw [List.append_nil] at h
  rw [mF_start]
  exact h
end
theorem raisable_of {K : Frag} {E : Value → Shared → Prop} {s : Shared} {g : Heap} {L e t C d : Addr} {m : Str → Option Value} {news : List (Addr × Obj)} (X : K.In g) (F : Fr g L s.heap m) (N : News g L s.heap ((e, excObj C t (some d)) :: news)) (h : E (.ref e) s) : RaisableD K C E (.ref e) s :=
  ⟨e, t, d, rfl, X.keeps F.keep, (N _ (.head _)).1, h⟩
section
variable {w : World} {mean : ExcName → Option Value} {mg mb : Str → Option Value} {dp un : Nat} {gd : Option (List Code)} {cn : Str} {cs : Scope} {a : Addr} {ccd : Value} {cl : List (Str × Addr)} {outer : List Env} {A₀ : Around} {base h₀ : Heap} {L : Addr} {m : Str → Option Value} {news : List (Addr × Obj)} {s : Shared} {Q E : Value → Shared → Prop}
variable {c dc vl sl tl pl : Addr} {k1 k2 k3 k4 : Tok} {nv ns : Nat} {rest : List (Addr × Obj)} {us ps : List Value}
theorem redC0 (p : Pend) (args : List Value) (xs : List V) (t0 : Tok) (B : Below A₀ base outer h₀) (F : Fr h₀ L s.heap m) (X : (KQ w.params).In h₀) (N : News h₀ L s.heap ((c, instObj 291 dc) :: (dc, cdict w tl pl vl sl k1 k2 k3 k4) :: (vl, listOf args.toArray nv) :: (sl, listOf [Value.str p.word t0].toArray ns) :: rest)) (T : Top viewQ looseQ mean mg mb h₀) (hk : cs.kind = .function) (six : Six c dc vl sl) (ap : Apart rest vl sl) (ha : ValsAt w rest args xs) (hn : xs.length = p.ar)
    (hd : dp + 20 < recursionLimit) (hu : un + 220 < cLine)
    (ret : ∀ (xa da : Addr) (ka kb kc kt : Tok) (rest' : List (Addr × Obj)) (nv' ns' : Nat) (h' : Heap) (tk' : Nat), Fr h₀ L h' m → News h₀ L h' ((c, instObj 291 dc) :: (dc, cdict w tl pl vl sl k1 k2 k3 k4) :: (vl, listOf [Value.ref xa].toArray nv') :: (sl, listOf [].toArray ns') :: rest') → (∀ p ∈ rest, p ∈ rest') → Apart rest' vl sl → (xa, instObj 165 da) ∈ rest' → (da, vdict w (p.run xs).n (p.run xs).u (p.run xs).b ka kb kc kt) ∈ rest' → Q .none { s with heap := h', toks := tk' }) :
    wpAny (MQ w) (ktrTop dp un gd cn cs L a ccd cl outer) (call (.ref 253) [.ref c]) Q E s := by
  exact redC (us := []) (ps := []) p args xs t0 B F X N T hk six ap (by decide) (by decide) ha hn hd hu (fun v rest' nv' ns' h' tk' F' N' hs ap' hv => by
    obtain ⟨xa, da, ka, kb, kc, kt, rfl, m1, m2⟩ := hv
    exact ret xa da ka kb kc kt rest' nv' ns' h' tk' F' N' hs ap' m1 m2)
end
theorem keepOn {r1 r2 r3 r4 : List (Addr × Obj)} (a : ∀ p ∈ r1, p ∈ r2) (b : ∀ p ∈ r2, p ∈ r3) (c : ∀ p ∈ r3, p ∈ r4) : ∀ p ∈ r1, p ∈ r4 := fun p hp => c p (b p (a p hp))
theorem dup4 {h₀ h : Heap} {L : Addr} {p1 p2 p3 p4 x y q1 q2 : Addr × Obj} {rest : List (Addr × Obj)} (N : News h₀ L h (p1 :: p2 :: p3 :: p4 :: rest)) (hx : x ∈ rest) (hy : y ∈ rest) (h1 : q1 ∈ rest) (h2 : q2 ∈ rest) : News h₀ L h (q1 :: q2 :: x :: y :: p1 :: p2 :: p3 :: p4 :: rest) := fun p hp => N p (by
  simp only [List.mem_cons] at hp ⊢
  rcases hp with rfl | rfl | rfl | rfl | h | h | h | h | h <;> simp [*])
section
variable {w : World} {mean : ExcName → Option Value} {mg mb : Str → Option Value} {dp un : Nat} {gd : Option (List Code)} {cn : Str} {cs : Scope} {a : Addr} {ccd : Value} {cl : List (Str × Addr)} {outer : List Env} {A₀ : Around} {base h₀ : Heap} {L : Addr} {m : Str → Option Value} {news : List (Addr × Obj)} {s : Shared} {Q E : Value → Shared → Prop}
variable {c dc vl sl tl pl : Addr} {k1 k2 k3 k4 : Tok} {nv ns : Nat} {rest : List (Addr × Obj)} {us ps : List Value}
variable {dpl : Addr}
theorem kw82 : True := by
  (k_with "compareOp Eq ref ref" => ((with_reducible show wpAny _ _ (compareOp CmpOp.Eq (Value.ref _) (Value.ref _)) _ _ _); k_dflt (refine' some_eq_nil (by k_asm) (by k_mem) (by k_mem) (by assumption) (by units_room) ?_)))
  (k_with "compareOp NotEq ref ref" => ((with_reducible show wpAny _ _ (compareOp CmpOp.NotEq (Value.ref _) (Value.ref _)) _ _ _); k_dflt (refine' some_ne_nil (by k_asm) (by k_mem) (by k_mem) (by assumption) (by units_room) ?_)))
  (k_with "subscriptTail" => ((with_reducible show wpAny _ _ (subscriptTail _ _ (Value.ref _) (Value.int (-1) _)) _ _ _); k_dflt (refine' last_item (by k_asm) (by k_mem) ?_)))
  (k_with "call ref" => ((k_dflt (show wpAny _ _ (call (Value.ref 253) [Value.ref _]) _ _ _)); k_dflt (refine' redC0 _ _ _ _ (by k_asm) (by k_asm) (by k_asm) (by exact (by first | assumption | exact News.tl (by assumption) | exact News.tl (News.tl (by assumption)) | exact News.tl (News.tl (News.tl (by assumption))) | exact News.tl (News.tl (News.tl (News.tl (by assumption)))) | exact News.tl (News.tl (News.tl (News.tl (News.tl (by assumption))))) | exact News.tl (News.tl (News.tl (News.tl (News.tl (News.tl (by assumption)))))) | exact News.tl (News.tl (News.tl (News.tl (News.tl (News.tl (News.tl (by assumption))))))))) (by k_asm) (by first | exact rfl | assumption) (by assumption) (by assumption) (by assumption) (by assumption) (by ktr_room) (by ktr_units) ?_; k_whole; intro xa' da' ka1' ka2' ka3' ta' rest' nv' ns' h' tk' F' N' hs' ap' m1' m2'); (k_dflt (obtain ⟨_, _⟩ := id ap')); (k_dflt (have hq1' := hs' (_, instObj 106 _) (by assumption))); (k_dflt (have hq2' := hs' (_, tdict _ _ _ _ _ _ _ _ _ _ _ _ _) (by assumption))); (k_dflt (replace N' := dup4 N' m1' m2' hq1' hq2')); (try dsimp only); (try k_fold)))
  (k_with "call ref" => ((k_dflt (show wpAny _ _ (call (Value.ref 232) [Value.ref _, Value.str _ _]) _ _ _)); k_dflt (refine' faultC _ _ _ _ _ _ _ _ _ _ _ _ _ _ (by k_asm) (by k_asm) (by k_asm) (by exact (by first | assumption | exact News.tl (by assumption) | exact News.tl (News.tl (by assumption)) | exact News.tl (News.tl (News.tl (by assumption))) | exact News.tl (News.tl (News.tl (News.tl (by assumption)))) | exact News.tl (News.tl (News.tl (News.tl (News.tl (by assumption))))) | exact News.tl (News.tl (News.tl (News.tl (News.tl (News.tl (by assumption)))))) | exact News.tl (News.tl (News.tl (News.tl (News.tl (News.tl (News.tl (by assumption))))))))) (by k_asm) (by first | exact rfl | assumption) (by first | k_mem | assumption) (by first | k_mem | assumption) (by first | k_mem | (simp only [List.mem_cons, or_true, true_or, *]; done)) (by first | k_mem | (simp only [List.mem_cons, or_true, true_or, *]; done)) (by ktr_room) (by ktr_units) ?_; k_whole; intro x' tp' dx' kf1 kf2 kf3 h' tk' F' N' hfr'); (try dsimp only); (try k_fold)))
  (k_with "exec Raise some none" => (k_dflt (refine' exec_raiseD (C := 58) (by k_asm) (by kernel_rfl!) (by exact rfl) ?_; k_whole)))
  trivial
theorem isoC (D : Tr) (toks : List Value) (nt : Nat) (kind text file : Str) (line : Int) (j1 j2 j3 j4 u1 u2 u3 u4 : Tok) (B : Below A₀ base outer h₀) (F : Fr h₀ L s.heap m) (X : (KQ w.params).In h₀) (N : News h₀ L s.heap ((c, instObj 291 dc) :: (dc, cdict w tl pl vl sl k1 k2 k3 k4) :: (vl, listOf [].toArray nv) :: (sl, listOf [].toArray ns) :: rest)) (T : Top viewQ looseQ mean mg mb h₀) (hk : cs.kind = .function) (SA : SetsAt w h₀) (six : Six c dc vl sl) (ap : Apart rest vl sl) (hkeep : ∀ p ∈ rest, p.2.cls ≠ .type "list_iterator") (htl : (tl, listOf toks.toArray nt) ∈ rest) (hto : TokensAt w rest file line toks D.words) (hdp : D.deep < 90) (hp1 : (pl, instObj 106 dpl) ∈ rest) (hp2 : (dpl, tdict w kind text file line j1 j2 j3 j4 u1 u2 u3 u4) ∈ rest) (raised : D.val.b = true → ∀ (g' h' : Heap) (e d : Addr) (f1 f2 f3 t0 v3 v4 : Tok) (news' : List (Addr × Obj)) (tk' : Nat), Fr h₀ L g' m → RaisedD base g' (envX cn cs L a ccd cl :: outer) e 58 d news' h' → g'.UpToSlots h' → (d, edict w (Str.ofString "the condition divides by nought") file line f1 f2 f3 t0 v3 v4) ∈ news' → (∀ p ∈ rest, p ∈ news') → E (.ref e) { s with heap := h', toks := tk' })
    (hd : dp + 150 < recursionLimit) (hu : un + 3000 < cLine)
    (ret : D.val.b = false → ∀ (h' : Heap) (tk' : Nat), Fr h₀ L h' m → News h₀ L h' rest → Q (.bool (D.val.n != 0)) { s with heap := h', toks := tk' }) :
    wpAny (MQ w) (ktrTop dp un gd cn cs L a ccd cl outer) (call (.ref 288) [.ref c]) Q E s := by
  obtain ⟨e1, e2, e3, e4, e5, e6⟩ := id six
  (k_dflt (refine enterK fd288 (bs := [(Str.ofString "self", .ref c)]) (by exact rfl) (by exact rfl) (by k_asm) (by k_asm) (by k_asm) (by k_asm) (by k_asm) (by first | exact rfl | assumption) (by ktr_room) ?_; k_whole); intro g' L' h' FG' F' N' B' X' T' tk' qk ek; (try k_lift B'))
  have SA' := SA.keeps FG'.keep
  k_steps
  all_goals (rename Fr _ _ _ _ => lF; rename News _ _ _ _ => lN; rename Below _ _ _ _ => lB; rename Frag.In _ _ => lX; rename Top _ _ _ _ _ _ => lT)
  all_goals (refine iter_listUnr (lo := listOf toks.toArray nt) (vs := toks) rfl lF lN (.tail _ (.tail _ (.tail _ (.tail _ htl)))) rfl rfl fun I hI => ?_)
  all_goals (k_dflt (refine eats_top lB lX lT SA' six hkeep htl ?_ ?_ D toks hto hdp ⟨ap, fun p hp => hp, .nil, ⟨.nil, fun t ht => nomatch ht⟩⟩ ?_ ?_))
  · ktr_room
  · ktr_units
  · intro v2 nv2 ns2 rest2 tv S
    refine ListRest.zero (fun h2 tk2 F2 N2 => ?_)
    obtain ⟨a1, a2⟩ := S.ap
    cases S.vals with
    | cons va _ vr =>
      cases vr
      obtain ⟨xa, da, ka1, ka2, ka3, ta, rfl, m1, m2⟩ := va
      have hq1 := S.keep _ hp1
      have hq2 := S.keep _ hp2
      have N3 := News.dup (News.dup N2 (.tail _ (.tail _ (.tail _ (.tail _ m2))))) (.tail _ (.tail _ (.tail _ (.tail _ (.tail _ m1)))))
      replace N3 := News.dup (News.dup N3 (.tail _ (.tail _ (.tail _ (.tail _ (.tail _ (.tail _ hq2))))))) (.tail _ (.tail _ (.tail _ (.tail _ (.tail _ (.tail _ (.tail _ hq1)))))))
      clear N2 lN lF
      dsimp only
      k_steps
      all_goals first
        | (k_dflt (exact ret (by assumption) _ _ (by assumption) (cb_drop (by assumption) fun p hp => by simp only [List.mem_cons, S.keep p hp, or_true])))
        | (k_dflt (refine raisable_of lX (by assumption) (by assumption) ?_); k_unfold; k_dflt (refine leave_raiseD lB (by assumption) (by assumption) (by assumption) (fun h3 R U => ?_) (by exact rfl)); k_dflt (exact raised (by assumption) _ _ _ _ _ _ _ _ _ _ _ _ (by assumption) R U (.head _) (fun p hp => by simp only [List.mem_cons, S.keep p hp, or_true])))
  · intro p args ys t3 hn hl hr nv2 ns2 rest2 tv S
    refine ListRest.zero (fun h2 tk2 F2 N2 => ?_)
    obtain ⟨a1, a2⟩ := S.ap
    have hq1 := S.keep _ hp1
    have hq2 := S.keep _ hp2
    have hva : ValsAt w rest2 args ys := S.vals
    have hsg := S.sgs
    have hap := S.ap
    have lu0 : ([] : List Value).length < 900 := by decide
    clear lN lF
    rw [← hr] at ret raised
    dsimp only
    k_steps
    all_goals first
      | (k_dflt (refine ret (by assumption) _ _ (by assumption) (cb_drop (by assumption) ?_)); exact keepOn S.keep (by assumption) (fun p hp => by simp only [List.mem_cons, hp, or_true]))
      | (k_dflt (refine raisable_of lX (by assumption) (by assumption) ?_); k_unfold; k_dflt (refine leave_raiseD lB (by assumption) (by assumption) (by assumption) (fun h3 R U => ?_) (by exact rfl)); k_dflt (exact raised (by assumption) _ _ _ _ _ _ _ _ _ _ _ _ (by assumption) R U (.head _) (keepOn S.keep (by assumption) (fun p hp => by simp only [List.mem_cons, hp, or_true]))))
end
end
end
section
open PySem PySem.W PyProof.Rows PySem.Calls PySem.Spec
section
theorem kw83 : True := by
  k_with_none
  trivial
theorem worth_tell {w : World} : ∀ D : Tr, WorthTell w D
  | .leaf k => worth_leaf k
  | .un o t => worth_un o t (worth_tell t)
  | .bin o a b => worth_bin o a b (worth_tell a) (worth_tell b)
  | .cond a b c => worth_cond a b c (worth_tell a) (worth_tell b) (worth_tell c)
theorem shuf3 {h₀ h : Heap} {L : Addr} {p q k : Addr × Obj} {r : List (Addr × Obj)} (N : News h₀ L h (p :: q :: k :: r)) : News h₀ L h (k :: p :: q :: r) := cb_drop N fun x hx => by
  simp only [List.mem_cons] at hx ⊢
  rcases hx with h | h | h | h <;> simp [h]
noncomputable def fBody : List Stmt → List Stmt
  | _ :: .For _ _ b _ _ :: _ => b
  | _ => []
noncomputable def digit (c : Nat) : Bool := !(Builtin.Str.occurrences (Str.ofString "0123456789") ⟨#[c]⟩ 0 (Str.ofString "0123456789").length 1).isEmpty
section
variable {prog : Program} {w : World} {A : Around} {s : Shared} {Q E : Value → Shared → Prop}
theorem strHead {value slice : PySem.Expr} {x : Str} {t u : Tok} {c : Nat} (hc : x.cps[0]? = some c) (h : Q (.str ⟨#[c]⟩ s.toks) { s with toks := s.toks + 1 })
    (hs : subscripted slice false (.str x t) (.int 0 u) = operate [.str x t, .int 0 u] (getItem (.str x t) (.int 0 u)) := by with_unfolding_all rfl) (hg : ∀ r, letTemporaryGo value (.str x t) r = pure () := by intro _; with_unfolding_all rfl) :
    wpAny (model prog w) A (subscriptTail value slice (.str x t) (.int 0 u)) Q E s := by
  have hl : 0 < x.cps.size := (Array.getElem?_eq_some_iff.mp hc).1
  have e : seqIndex? 0 x.length = some 0 := by
    unfold seqIndex?
    simp only [if_neg (show ¬ ((0 : Int) < 0) by decide)]
    exact if_pos (by show (decide ((0 : Int) ≤ 0) && decide ((0 : Int) < ((x.cps.size : Nat) : Int))) = true; simp; omega)
  exact tail_any (typeIs_str _ _ _) PySem.F.slot_str_getitem.lookup (P.getItem_str rfl (by rw [e]; exact hc) h) hs
theorem in_str_b {x y : Str} {t u : Tok} {b : Bool} (e : (!(Builtin.Str.occurrences y x 0 y.length 1).isEmpty) = b) (h : Q (.bool b) s) : wpAny (model prog w) A (compareOp .In (.str x t) (.str y u)) Q E s := in_str (by rw [e]; exact h)
end
local macro_rules | `(tactic| k_ne) => `(tactic| assumption)
section
variable {w : World} {mean : ExcName → Option Value} {mg mb : Str → Option Value} {dp un : Nat} {gd : Option (List Code)} {cn : Str} {cs : Scope} {a : Addr} {ccd : Value} {cl : List (Str × Addr)} {outer : List Env} {A₀ : Around} {base h₀ : Heap} {L : Addr} {m : Str → Option Value} {news : List (Addr × Obj)} {s : Shared} {Q E : Value → Shared → Prop}
theorem kw84 : True := by
  (k_with "eval Call" => ((with_reducible show wpAny _ _ (eval (Expr.Call (Expr.Name _ _) _ [] _) _) _ _ _); k_dflt (refine Call_ ?_)))
  (k_with "call ref" => ((k_dflt (show wpAny _ _ (call (Value.ref 106) [Value.str _ _, Value.str _ _, Value.str _ _, Value.int _ _]) _ _ _)); k_dflt (refine' mkTok _ _ _ _ _ _ _ _ (by k_asm) (by k_asm) (by k_asm) (by k_asm) (by k_asm) (by first | exact rfl | assumption) (by ktr_room) (by ktr_units) ?_; k_whole; intro xk' dk' kj1' kj2' kj3' kj4' h' tk' F' N' l1 l2); (have l1b := l1); (replace l2 := ltN l2); (try simp only [AllLt, and_true] at l1); (try obtain ⟨_, _⟩ := l1); (try dsimp only); (try k_fold)))
  (k_with "subscriptTail" => ((with_reducible show wpAny _ _ (subscriptTail _ _ (Value.str _ _) (Value.int 0 _)) _ _ _); k_dflt (refine' strHead (by assumption) ?_)))
  (k_with "compareOp In str str" => ((with_reducible show wpAny _ _ (compareOp CmpOp.In (Value.str _ _) (Value.str _ _)) _ _ _); k_dflt (refine' in_str_b (by assumption) ?_)))
  (k_with "call builtin:list.pop" => ((with_reducible show wpAny _ _ (call (Value.builtin _) [Value.ref _]) _ _ _); k_dflt (refine' pop_mine (by k_asm) (by k_asm) (by k_upd) (by (first | omega | (simp only [List.length_append, List.length_cons, List.length_nil]; omega))) ?_); intro h' F' N'))
  (k_with "call builtin:list.append" => ((with_reducible show wpAny _ _ (call (Value.builtin _) [Value.ref _, _]) _ _ _); k_dflt (refine' append_mine (by k_asm) (by k_asm) (by k_upd) (by (first | omega | (simp only [List.length_append, List.length_cons, List.length_nil]; omega))) ?_); intro h' F' N'))
  trivial
theorem tokTurn {tl pl : Addr} {vt : Value} {toks : List Value} {nt : Nat} {x : Str} {c : Nat} {b : Bool} {ttk tln : Tok} {line : Int} (hc : x.cps[0]? = some c) (hb : (!(Builtin.Str.occurrences (Str.ofString "0123456789") ⟨#[c]⟩ 0 (Str.ofString "0123456789").length 1).isEmpty) = b) (ht : toks.length < 1000) (hap1 : ∀ p ∈ news, p.1 ≠ tl)
    (B : Below A₀ base outer h₀) (F : Fr h₀ L s.heap (fun y => if y = Str.ofString "text" then some (.str x ttk) else if y = Str.ofString "tokens" then some (.ref tl) else if y = Str.ofString "place" then some (.ref pl) else if y = Str.ofString "line" then some (.int line tln) else if y = Str.ofString "tree" then some vt else none)) (X : (KQ w.params).In h₀) (N : News h₀ L s.heap ((tl, listOf toks.toArray nt) :: news)) (T : Top viewQ looseQ mean mg mb h₀) (hd : dp + 20 < recursionLimit) (hu : un + 100 < cLine)
    {QF : Flow → Shared → Prop} (ret : ∀ (tok dtok : Addr) (j1 j2 j3 j4 u1 u2 u3 u4 : Tok) (n' : Nat) (h' : Heap) (tk' : Nat), Fr h₀ L h' (fun y => if y = Str.ofString "text" then some (.str x ttk) else if y = Str.ofString "tokens" then some (.ref tl) else if y = Str.ofString "place" then some (.ref pl) else if y = Str.ofString "line" then some (.int line tln) else if y = Str.ofString "tree" then some vt else none) → News h₀ L h' ((tl, listOf (toks ++ [Value.ref tok]).toArray n') :: (tok, instObj 106 dtok) :: (dtok, tdict w (if b then Str.ofString "number" else Str.ofString "punct") x (Str.ofString "t.h") line j1 j2 j3 j4 u1 u2 u3 u4) :: news) → QF .next { s with heap := h', toks := tk' }) :
    wpAny (MQ w) (ktrTop dp un gd (Str.ofString "_law_right") (pS (Mine.D 42)) L 350 (Value.ref 349) [] outer) (execs (fBody (pB (Mine.D 42))) (envOf (Str.ofString "_law_right") (pS (Mine.D 42)) L 350 (Value.ref 349))) QF E s := by
  k_dflt (show wpAny _ _ (execs (_ :: []) _) _ _ _)
  cases b with
  | true =>
    k_steps
    all_goals (refine ret _ _ _ _ _ _ _ _ _ _ _ _ _ (by assumption) (shuf3 (by assumption)))
  | false =>
    k_steps
    all_goals (refine ret _ _ _ _ _ _ _ _ _ _ _ _ _ (by assumption) (shuf3 (by assumption)))
end
end
end
section
open PySem PySem.W PyProof.Rows PySem.Calls PySem.Spec
section
theorem kw85 : True := by
  k_with_none
  trivial
noncomputable def mR (tl pl : Addr) (vt : Value) (line : Int) (tln : Tok) (tv : Option Value) : Str → Option Value := fun y => if y = Str.ofString "text" then tv else if y = Str.ofString "tokens" then some (.ref tl) else if y = Str.ofString "place" then some (.ref pl) else if y = Str.ofString "line" then some (.int line tln) else if y = Str.ofString "tree" then some vt else none
theorem mR_tok (tl pl : Addr) (vt : Value) (line : Int) (tln : Tok) (tv : Option Value) (v : Value) : (fun y => if y = Str.ofString "text" then some v else mR tl pl vt line tln tv y) = mR tl pl vt line tln (some v) := by
  funext y
  unfold mR
  by_cases h1 : y = Str.ofString "text"
  · subst h1; rfl
  · simp only [if_neg h1]
noncomputable def Word (p : Str × Str) : Prop := ∃ (c : Nat) (b : Bool), p.2.cps[0]? = some c ∧ (!(Builtin.Str.occurrences (Str.ofString "0123456789") ⟨#[c]⟩ 0 (Str.ofString "0123456789").length 1).isEmpty) = b ∧ p.1 = if b then Str.ofString "number" else Str.ofString "punct"
theorem word_num (k : Num) : Word (Str.ofString "number", k.txt) := by cases k <;> exact ⟨_, true, rfl, by kernel_rfl, rfl⟩
theorem word_uop (o : Uop) : Word (pun o.sign) := by cases o <;> exact ⟨_, false, rfl, by kernel_rfl, rfl⟩
theorem word_bop (o : Bop) : Word (pun o.txt) := by cases o <;> exact ⟨_, false, rfl, by kernel_rfl, rfl⟩
theorem word_open : Word (pun (Str.ofString "(")) := ⟨_, false, rfl, by kernel_rfl, rfl⟩
theorem word_close : Word (pun (Str.ofString ")")) := ⟨_, false, rfl, by kernel_rfl, rfl⟩
theorem word_quest : Word (pun (Str.ofString "?")) := ⟨_, false, rfl, by kernel_rfl, rfl⟩
theorem word_colon : Word (pun (Str.ofString ":")) := ⟨_, false, rfl, by kernel_rfl, rfl⟩
theorem word_brk {l : List (Str × Str)} (h : ∀ p ∈ l, Word p) : ∀ p ∈ brk l, Word p := fun p hp => by
  unfold brk at hp
  rcases List.mem_cons.mp hp with rfl | hp
  · exact word_open
  · rcases List.mem_append.mp hp with hp | hp
    · exact h p hp
    · rw [List.mem_singleton.mp hp]; exact word_close
theorem words_word : ∀ (D : Tr), ∀ p ∈ D.words, Word p
  | .leaf k, p, hp => by
    unfold Tr.words at hp
    rw [List.mem_singleton.mp hp]; exact word_num k
  | .un o t, p, hp => by
    unfold Tr.words at hp
    rcases List.mem_cons.mp hp with rfl | hp
    · exact word_uop o
    · exact word_brk (words_word t) p hp
  | .bin o a b, p, hp => by
    unfold Tr.words at hp
    rcases List.mem_append.mp hp with hp | hp
    · exact word_brk (words_word a) p hp
    · rcases List.mem_cons.mp hp with rfl | hp
      · exact word_bop o
      · exact word_brk (words_word b) p hp
  | .cond a b c, p, hp => by
    unfold Tr.words at hp
    rcases List.mem_append.mp hp with hp | hp
    · exact word_brk (words_word a) p hp
    · rcases List.mem_cons.mp hp with rfl | hp
      · exact word_quest
      · rcases List.mem_append.mp hp with hp | hp
        · exact word_brk (words_word b) p hp
        · rcases List.mem_cons.mp hp with rfl | hp
          · exact word_colon
          · exact word_brk (words_word c) p hp
theorem ne_obj {h₀ h : Heap} {L : Addr} {all : List (Addr × Obj)} {p q : Addr × Obj} (N : News h₀ L h all) (hp : p ∈ all) (hq : q ∈ all) (hc : p.2.cls ≠ q.2.cls) : p.1 ≠ q.1 := fun e => by
  have h1 := (N _ hp).1
  have h2 := (N _ hq).1
  rw [e, h2] at h1
  exact hc (by rw [Option.some.inj h1])
theorem TokensAt.mono {w : World} {k1 k2 : List (Addr × Obj)} {file : Str} {line : Int} : ∀ {vs : List Value} {ps : List (Str × Str)}, TokensAt w k1 file line vs ps → (∀ p ∈ k1, p ∈ k2) → TokensAt w k2 file line vs ps
  | _, _, .nil, _ => .nil
  | _, _, .cons a b, hs => by
    obtain ⟨tok, dtok, j1, j2, j3, j4, u1, u2, u3, u4, e, m1, m2⟩ := a
    exact .cons ⟨tok, dtok, j1, j2, j3, j4, u1, u2, u3, u4, e, hs _ m1, hs _ m2⟩ (b.mono hs)
theorem TokensAt.snoc {w : World} {k : List (Addr × Obj)} {file : Str} {line : Int} {v : Value} {p : Str × Str} (hv : TokAt w k file line v p.1 p.2) : ∀ {vs : List Value} {ps : List (Str × Str)}, TokensAt w k file line vs ps → TokensAt w k file line (vs ++ [v]) (ps ++ [p])
  | _, _, .nil => .cons hv .nil
  | _, _, .cons a b => .cons a (b.snoc hv)
noncomputable abbrev NoIt (news : List (Addr × Obj)) : Prop := ∀ p ∈ news, p.2.cls ≠ .type "list_iterator"
section
variable {w : World} {mean : ExcName → Option Value} {mg mb : Str → Option Value} {dp un : Nat} {gd : Option (List Code)} {cn : Str} {cs : Scope} {a : Addr} {ccd : Value} {cl : List (Str × Addr)} {outer : List Env} {A₀ : Around} {base h₀ : Heap} {L : Addr} {m : Str → Option Value} {news : List (Addr × Obj)} {s : Shared} {Q E : Value → Shared → Prop}

theorem tokLoop {tl pl wl I : Addr} {wo : Obj} {vt : Value} {tln : Tok} {line : Int} {QF : Flow → Shared → Prop} (B : Below A₀ base outer h₀) (X : (KQ w.params).In h₀) (T : Top viewQ looseQ mean mg mb h₀) (hd : dp + 20 < recursionLimit) (hu : un + 100 < cLine) :
    ∀ (ps : List (Str × Str)) (ws : List Value) (done : List (Str × Str)) (toks : List Value) (nt : Nat) (rest : List (Addr × Obj)) (tv : Option Value), StrsAre ws (ps.map (·.2)) → (∀ p ∈ ps, Word p) → (wl, wo) ∈ rest → (∀ p ∈ rest, p.1 ≠ tl) → NoIt rest → TokensAt w rest (Str.ofString "t.h") line toks done → toks.length + ps.length < 1000 →
      (∀ (toks' : List Value) (nt' : Nat) (rest' : List (Addr × Obj)) (tv' : Option Value), (∀ p ∈ rest, p ∈ rest') → (∀ p ∈ rest', p.1 ≠ tl) → NoIt rest' → TokensAt w rest' (Str.ofString "t.h") line toks' (done ++ ps) → ListRest PySem.Challenge.rw_on0057_01.prog w (ktrTop dp un gd (Str.ofString "_law_right") (pS (Mine.D 42)) L 350 (Value.ref 349) [] outer) E h₀ (envOf (Str.ofString "_law_right") (pS (Mine.D 42)) L 350 (Value.ref 349)) (Str.ofString "text") (fBody (pB (Mine.D 42))) QF s I (wl, wo) [] (mR tl pl vt line tln tv') ((tl, listOf toks'.toArray nt') :: rest')) →
      ListRest PySem.Challenge.rw_on0057_01.prog w (ktrTop dp un gd (Str.ofString "_law_right") (pS (Mine.D 42)) L 350 (Value.ref 349) [] outer) E h₀ (envOf (Str.ofString "_law_right") (pS (Mine.D 42)) L 350 (Value.ref 349)) (Str.ofString "text") (fBody (pB (Mine.D 42))) QF s I (wl, wo) ws (mR tl pl vt line tln tv) ((tl, listOf toks.toArray nt) :: rest)
  | [], ws, done, toks, nt, rest, tv, hw, _, _, hap, hni, ht, _, K => by
    cases hw
    exact K toks nt rest tv (fun p hp => hp) hap hni (by rw [List.append_nil]; exact ht)
  | p :: ps, ws, done, toks, nt, rest, tv, hw, hW, hwl, hap, hni, ht, hz, K => by
    cases hw with
    | @cons _ t vs _ hw' =>
    refine ListRest.succ fun it h tk hit F N => ?_
    rw [mR_tok] at F
    obtain ⟨c, b, hc, hb, hkind⟩ := hW p (.head _)
    have ktl : (Value.type "list") ≠ .type "list_iterator" := fun e => absurd (Value.type.inj e) (by decide)
    have ntl : tl ≠ I := ne_it N (.head _) hit (.tail _ (.head _)) ktl
    have N1 : News h₀ (envOf (Str.ofString "_law_right") (pS (Mine.D 42)) L 350 (Value.ref 349)).locals h ((tl, listOf toks.toArray nt) :: (I, it) :: rest) := fun q hq => N q (by
      simp only [List.mem_cons] at hq ⊢
      rcases hq with h | h | h <;> simp [h])
    refine tokTurn (pl := pl) (vt := vt) (line := line) (tln := tln) hc hb (by have : (p :: ps).length = ps.length + 1 := rfl; omega) (fun q hq => ?_) B F X N1 T hd hu (fun tok dtok j1 j2 j3 j4 u1 u2 u3 u4 n' h' tk' F' N' => ?_)
    · rcases List.mem_cons.mp hq with rfl | hq
      · exact fun e => ntl e.symm
      · exact hap q hq
    · have kt : (instObj 106 dtok).cls ≠ .type "list_iterator" := fun e => by cases e
      have kd : (tdict w (if b then Str.ofString "number" else Str.ofString "punct") p.2 (Str.ofString "t.h") line j1 j2 j3 j4 u1 u2 u3 u4).cls ≠ .type "list_iterator" := fun e => absurd (Value.type.inj e) (by decide)
      have hI' : (I, it) ∈ ((tl, listOf (toks ++ [Value.ref tok]).toArray n') :: (tok, instObj 106 dtok) :: (dtok, tdict w (if b then Str.ofString "number" else Str.ofString "punct") p.2 (Str.ofString "t.h") line j1 j2 j3 j4 u1 u2 u3 u4) :: (I, it) :: rest) := .tail _ (.tail _ (.tail _ (.head _)))
      have off1 : ∀ q ∈ ((tl, listOf (toks ++ [Value.ref tok]).toArray n') :: (tok, instObj 106 dtok) :: (dtok, tdict w (if b then Str.ofString "number" else Str.ofString "punct") p.2 (Str.ofString "t.h") line j1 j2 j3 j4 u1 u2 u3 u4) :: rest), q.1 ≠ I := fun q hq => by
        rcases List.mem_cons.mp hq with rfl | hq
        · exact ntl
        · rcases List.mem_cons.mp hq with rfl | hq
          · exact ne_it N' hI' hit (.tail _ (.head _)) kt
          · rcases List.mem_cons.mp hq with rfl | hq
            · exact ne_it N' hI' hit (.tail _ (.tail _ (.head _))) kd
            · exact ne_it N' hI' hit (.tail _ (.tail _ (.tail _ (.tail _ hq)))) (hni q hq)
      refine UnrEnd.intro F' N' ((tl, listOf (toks ++ [Value.ref tok]).toArray n') :: (tok, instObj 106 dtok) :: (dtok, tdict w (if b then Str.ofString "number" else Str.ofString "punct") p.2 (Str.ofString "t.h") line j1 j2 j3 j4 u1 u2 u3 u4) :: rest) (fun q hq => ?_) off1 ⟨.tail _ (.tail _ (.tail _ hwl)), ?_⟩
      · simp only [List.mem_cons] at hq ⊢
        rcases hq with h | h | h | h | h <;> simp [h]
      · refine tokLoop B X T hd hu ps vs (done ++ [p]) (toks ++ [Value.ref tok]) n' _ _ hw' (fun q hq => hW q (.tail _ hq)) (.tail _ (.tail _ hwl)) (fun q hq => ?_) (fun q hq => ?_) (TokensAt.snoc ⟨tok, dtok, j1, j2, j3, j4, u1, u2, u3, u4, rfl, .head _, by rw [hkind]; exact .tail _ (.head _)⟩ (ht.mono fun q hq => .tail _ (.tail _ hq))) (by rw [List.length_append]; have : (p :: ps).length = ps.length + 1 := rfl; show toks.length + 1 + ps.length < 1000; omega) (fun toks' nt' rest' tv' hs a1 a2 a3 => K toks' nt' rest' tv' (fun q hq => hs q (.tail _ (.tail _ hq))) a1 a2 (by rw [List.append_assoc] at a3; exact a3))
        · rcases List.mem_cons.mp hq with rfl | hq
          · exact ne_obj N' (.tail _ (.head _)) (.head _) (fun e => by cases e)
          · rcases List.mem_cons.mp hq with rfl | hq
            · exact ne_obj N' (.tail _ (.tail _ (.head _))) (.head _) (fun e => absurd (Value.type.inj e) (by decide))
            · exact hap q hq
        · rcases List.mem_cons.mp hq with rfl | hq
          · exact kt
          · rcases List.mem_cons.mp hq with rfl | hq
            · exact kd
            · exact hni q hq
end
end
end
section
open PySem PySem.W PyProof.Rows PySem.Calls PySem.Spec
section
variable {w : World} {A : Around} {E : Value → Shared → Prop} {s : Shared} {h₀ : Heap} {L e d : Addr} {m : Str → Option Value} {news : List (Addr × Obj)} {msg file : Str} {line : Int} {f1 f2 f3 t0 v3 v4 : Tok} {vs : Array Value} {expr : Bool}
theorem fault_inst {h : Heap} (N : News h₀ L h ((d, edict w msg file line f1 f2 f3 t0 v3 v4) :: (e, hotObj 58 d vs) :: news)) : InstAt h e (hotObj 58 d vs) 58 (some (edict w msg file line f1 f2 f3 t0 v3 v4)) := by
  constructor
  all_goals first | exact (N _ (.tail _ (.head _))).1 | rfl | exact (N _ (.head _)).1 | skip
theorem fault_file {Q : Value → Shared → Prop} (X : (KQ w.params).In h₀) (F : Fr h₀ L s.heap m) (N : News h₀ L s.heap ((d, edict w msg file line f1 f2 f3 t0 v3 v4) :: (e, hotObj 58 d vs) :: news)) (h : Q (.str file v3) { s with toks := s.toks + 1 }) :
    wpAny (MQ w) A (getAttr (.ref e) (Str.ofString "file") expr) Q E s :=
  exc_get (C := 58) (X.keeps F.keep) (fault_inst N) (by kernel_rfl) (by kernel_rfl) (by kernel_rfl) (by kernel_rfl) rfl h
theorem fault_line {Q : Value → Shared → Prop} (X : (KQ w.params).In h₀) (F : Fr h₀ L s.heap m) (N : News h₀ L s.heap ((d, edict w msg file line f1 f2 f3 t0 v3 v4) :: (e, hotObj 58 d vs) :: news)) (h : Q (.int line v4) { s with toks := s.toks + 1 }) :
    wpAny (MQ w) A (getAttr (.ref e) (Str.ofString "line") expr) Q E s :=
  exc_get (C := 58) (X.keeps F.keep) (fault_inst N) (by kernel_rfl) (by kernel_rfl) (by kernel_rfl) (by kernel_rfl) rfl h
end
end
section
open PySem PySem.W PyProof.Rows PySem.Calls PySem.Spec
structure Agree (x : V) (l : Option Int × Bool) : Prop where
  u : x.u = l.2
  bad : l.1 = none → x.b = true
  good : ∀ n, l.1 = some n → x.b = false ∧ x.n = n
theorem agree_num (k : Num) : Agree (numV k) (some k.val, k.uns) := ⟨rfl, fun h => (nomatch h), fun n h => by cases h; exact ⟨rfl, in_num k⟩⟩
theorem bit_not (n : Int) : Builtin.bitNot n = -1 - n := by unfold Builtin.bitNot; omega
theorem agree_one {o : Uop} {x : V} {l : Option Int × Bool} (h : Agree x l) : Agree (oneB o x) (lawOne o l) := by
  obtain ⟨l, u⟩ := l
  obtain ⟨hu, hb, hg⟩ := h
  cases l with
  | none =>
    have b := hb rfl
    cases o <;> exact ⟨by first | rfl | exact hu, fun _ => b, fun n q => by cases q⟩
  | some a =>
    obtain ⟨b, e⟩ := hg a rfl
    simp only at hu
    cases o
    · exact ⟨hu, fun q => (nomatch q), fun n q => by cases q; exact ⟨b, by show led32 (-x.n) x.u = led32 (0 - a) u; rw [e, hu, Int.zero_sub]⟩⟩
    · exact ⟨rfl, fun q => (nomatch q), fun n q => by cases q; exact ⟨b, by show (if x.n == 0 then (1 : Int) else 0) = _; rw [e]⟩⟩
    · exact ⟨hu, fun q => (nomatch q), fun n q => by cases q; exact ⟨b, by show led32 (Builtin.bitNot x.n) x.u = led32 (-1 - a) u; rw [e, hu, bit_not]⟩⟩
    · exact ⟨hu, fun q => (nomatch q), fun n q => by cases q; exact ⟨b, e⟩⟩
theorem agree_cond {x y z : V} {l m k : Option Int × Bool} (h1 : Agree x l) (h2 : Agree y m) (h3 : Agree z k) : Agree (chosenB x y z) (lawCond l m k) := by
  obtain ⟨l, u1⟩ := l
  obtain ⟨m, u2⟩ := m
  obtain ⟨k, u3⟩ := k
  obtain ⟨hu1, hb1, hg1⟩ := h1
  obtain ⟨hu2, hb2, hg2⟩ := h2
  obtain ⟨hu3, hb3, hg3⟩ := h3
  simp only at hu1 hu2 hu3 hb1 hb2 hb3 hg1 hg2 hg3
  have hu : (chosenB x y z).u = (u2 || u3) := by show (y.u || z.u) = _; rw [hu2, hu3]
  cases l with
  | none =>
    exact ⟨hu, fun _ => by show (x.b || _) = true; rw [hb1 rfl]; rfl, fun n q => by simp [lawCond] at q⟩
  | some a =>
    obtain ⟨b1, e1⟩ := hg1 a rfl
    by_cases ha : a = 0
    · subst ha
      have hn : (x.n != 0) = false := by rw [e1]; rfl
      cases k with
      | none => exact ⟨hu, fun _ => by show (x.b || (if (x.n != 0) = true then y.b else z.b)) = true; rw [hn, hb3 rfl]; simp, fun n q => by simp [lawCond] at q⟩
      | some c =>
        obtain ⟨b3, e3⟩ := hg3 c rfl
        refine ⟨hu, fun q => by simp [lawCond] at q, fun n q => ?_⟩
        simp [lawCond] at q
        refine ⟨by show (x.b || (if (x.n != 0) = true then y.b else z.b)) = false; rw [hn, b1, b3]; rfl, ?_⟩
        show led32 (if (x.n != 0) = true then y.n else z.n) (y.u || z.u) = n
        rw [hn, hu2, hu3, ← q, if_neg (by decide), e3]
    · have hn : (x.n != 0) = true := by rw [e1]; simpa using ha
      cases m with
      | none => exact ⟨hu, fun _ => by show (x.b || (if (x.n != 0) = true then y.b else z.b)) = true; rw [hn, hb2 rfl]; simp, fun n q => by simp [lawCond, ha] at q⟩
      | some c =>
        obtain ⟨b2, e2⟩ := hg2 c rfl
        refine ⟨hu, fun q => by simp [lawCond, ha] at q, fun n q => ?_⟩
        simp [lawCond, ha] at q
        refine ⟨by show (x.b || (if (x.n != 0) = true then y.b else z.b)) = false; rw [hn, b1, b2]; rfl, ?_⟩
        show led32 (if (x.n != 0) = true then y.n else z.n) (y.u || z.u) = n
        rw [hn, hu2, hu3, ← q, if_pos rfl, e2]
theorem and31_small {k : Num} (h0 : 0 ≤ k.val) (h1 : k.val ≤ 31) : Builtin.bitAnd k.val 31 = k.val := by
  cases k <;> first | rfl | (exfalso; revert h1; decide)
theorem twoB_log (o : Bop) (hg : o.grp = .log) (x y : V) : twoB o x y = ⟨if o.txt == Str.ofString "&&" then (if x.n != 0 && y.n != 0 then 1 else 0) else (if x.n != 0 || y.n != 0 then 1 else 0), false, if o.txt == Str.ofString "&&" then x.b || (x.n != 0 && y.b) else x.b || (x.n == 0 && y.b)⟩ := by
  cases o <;> first | rfl | exact absurd hg (by decide)
theorem twoB_cmp (o : Bop) (hg : o.grp = .cmp) (x y : V) : twoB o x y = ⟨if cmpS o.txt (led32 x.n (x.u || y.u)) (led32 y.n (x.u || y.u)) then 1 else 0, false, x.b || y.b⟩ := by
  cases o <;> first | rfl | exact absurd hg (by decide)
theorem twoB_ari (o : Bop) (hg : o.grp = .ari) (x y : V) : twoB o x y = V.mk' (ariP o (led32 x.n (x.u || y.u)) (led32 y.n (x.u || y.u))) (x.u || y.u) (x.b || y.b) := by
  cases o <;> first | rfl | exact absurd hg (by decide)
theorem twoB_div (o : Bop) (hg : o.grp = .div) (x y : V) : twoB o x y = if led32 y.n (x.u || y.u) == 0 then V.mk' 0 (x.u || y.u) true else V.mk' (if o.txt == Str.ofString "/" then Int.tdiv (led32 x.n (x.u || y.u)) (led32 y.n (x.u || y.u)) else led32 x.n (x.u || y.u) - Int.tdiv (led32 x.n (x.u || y.u)) (led32 y.n (x.u || y.u)) * led32 y.n (x.u || y.u)) (x.u || y.u) (x.b || y.b) := by
  cases o <;> first | rfl | exact absurd hg (by decide)
theorem twoB_shift (o : Bop) (hg : o.grp = .shift) (x y : V) : twoB o x y = V.mk' (if o.txt == Str.ofString "<<" then x.n * 2 ^ (Builtin.bitAnd y.n 31).toNat else x.n.fdiv (2 ^ (Builtin.bitAnd y.n 31).toNat)) x.u (x.b || y.b) := by
  cases o <;> first | rfl | exact absurd hg (by decide)
end
section
open PySem PySem.W PyProof.Rows PySem.Calls PySem.Spec
theorem led_zero (u : Bool) : led32 0 u = 0 := by cases u <;> rfl
theorem lt_log0 {o : Bop} (hg : o.grp = .log) (u : Bool) (q : Option Int) (v : Bool) : lawTwo o none u q v = (none, false) := by unfold lawTwo; rw [hg]
theorem lt_log1 {o : Bop} (hg : o.grp = .log) (a : Int) (u v : Bool) : lawTwo o (some a) u none v = (logSN o a, false) := by unfold lawTwo; rw [hg]
theorem lt_log2 {o : Bop} (hg : o.grp = .log) (a b : Int) (u v : Bool) : lawTwo o (some a) u (some b) v = (some (logS o a b), false) := by unfold lawTwo; rw [hg]
theorem log_or {o : Bop} (hg : o.grp = .log) : (o.txt == Str.ofString "||") = !(o.txt == Str.ofString "&&") := by cases o <;> first | rfl | exact absurd hg (by decide)
theorem log_core (k z w : Bool) : ((if (z == !k) = true then none else some (if k = true then (0 : Int) else 1)) = none → (if k = true then (false || (!z && true)) else (false || (z && true))) = true) ∧
    ∀ n : Int, (if (z == !k) = true then none else some (if k = true then (0 : Int) else 1)) = some n → (if k = true then (false || (!z && true)) else (false || (z && true))) = false ∧ (if k = true then (if (!z && w) = true then 1 else 0) else (if (!z || w) = true then 1 else 0)) = n := by
  cases k <;> cases z
  · exact ⟨fun h => (nomatch h), fun n h => by cases h; exact ⟨rfl, by cases w <;> rfl⟩⟩
  · exact ⟨fun _ => rfl, fun n h => (nomatch h)⟩
  · exact ⟨fun _ => rfl, fun n h => (nomatch h)⟩
  · exact ⟨fun h => (nomatch h), fun n h => by cases h; exact ⟨rfl, by cases w <;> rfl⟩⟩
theorem agree_log {o : Bop} (hg : o.grp = .log) {x y : V} {l m : Option Int × Bool} (h1 : Agree x l) (h2 : Agree y m) : Agree (twoB o x y) (lawTwo o l.1 l.2 m.1 m.2) := by
  rw [twoB_log o hg]
  cases hl : l.1 with
  | none =>
    rw [lt_log0 hg]
    exact ⟨rfl, fun _ => by show (if (o.txt == Str.ofString "&&") = true then x.b || (x.n != 0 && y.b) else x.b || (x.n == 0 && y.b)) = true; rw [h1.bad hl, Bool.true_or, Bool.true_or, ite_self], fun n q => nomatch q⟩
  | some a =>
    have p1 := h1.good a hl
    cases hm : m.1 with
    | none =>
      rw [lt_log1 hg, logSN, log_or hg, p1.1, p1.2, h2.bad hm]
      exact ⟨rfl, (log_core (o.txt == Str.ofString "&&") (a == 0) (y.n != 0)).1, (log_core (o.txt == Str.ofString "&&") (a == 0) (y.n != 0)).2⟩
    | some b =>
      have p2 := h2.good b hm
      rw [lt_log2 hg, p1.1, p1.2, p2.1, p2.2]
      exact ⟨rfl, fun q => (nomatch q), fun n q => ⟨by show (if (o.txt == Str.ofString "&&") = true then false || (a != 0 && false) else false || (a == 0 && false)) = false; rw [Bool.and_false, Bool.and_false, Bool.or_false, ite_self], Option.some.inj q⟩⟩
theorem agree_shift {o : Bop} (hg : o.grp = .shift) {x : V} {l : Option Int × Bool} (h1 : Agree x l) {k : Num} (h0 : 0 ≤ k.val) (h31 : k.val ≤ 31) : Agree (twoB o x (numV k)) (lawTwo o l.1 l.2 (some k.val) k.uns) := by
  obtain ⟨l, u1⟩ := l
  obtain ⟨hu1, hb1, hg1⟩ := h1
  simp only at hu1 hb1 hg1
  have ek : (numV k).n = k.val := in_num k
  rw [twoB_shift o hg, ek, and31_small h0 h31]
  unfold lawTwo
  rw [hg]
  cases l with
  | none => exact ⟨hu1, fun _ => by show (x.b || _) = true; rw [hb1 rfl]; rfl, fun n q => by cases q⟩
  | some a =>
    obtain ⟨b1, e1⟩ := hg1 a rfl
    refine ⟨hu1, fun q => (nomatch q), fun n q => ?_⟩
    have q' : some (shS o a k.val u1) = some n := q
    refine ⟨by show (x.b || false) = false; rw [b1]; rfl, ?_⟩
    show led32 (if (o.txt == Str.ofString "<<") = true then x.n * 2 ^ k.val.toNat else x.n.fdiv (2 ^ k.val.toNat)) x.u = n
    rw [e1, hu1, ← Option.some.inj q']
    unfold shS
    cases (o.txt == Str.ofString "<<") <;> rfl
theorem agree_cmp {o : Bop} (hg : o.grp = .cmp) {x y : V} {l m : Option Int × Bool} (h1 : Agree x l) (h2 : Agree y m) : Agree (twoB o x y) (lawTwo o l.1 l.2 m.1 m.2) := by
  obtain ⟨l, u1⟩ := l
  obtain ⟨m, u2⟩ := m
  obtain ⟨hu1, hb1, hg1⟩ := h1
  obtain ⟨hu2, hb2, hg2⟩ := h2
  simp only at hu1 hu2 hb1 hb2 hg1 hg2
  rw [twoB_cmp o hg]
  unfold lawTwo
  rw [hg]
  cases l with
  | none => exact ⟨rfl, fun _ => by show (x.b || y.b) = true; rw [hb1 rfl]; rfl, fun n q => by cases q⟩
  | some a => cases m with
    | none => exact ⟨rfl, fun _ => by show (x.b || y.b) = true; rw [hb2 rfl]; simp, fun n q => by cases q⟩
    | some b =>
      obtain ⟨b1, e1⟩ := hg1 a rfl
      obtain ⟨b2, e2⟩ := hg2 b rfl
      refine ⟨rfl, fun q => (nomatch q), fun n q => ⟨by show (x.b || y.b) = false; rw [b1, b2]; rfl, ?_⟩⟩
      rw [e1, e2, hu1, hu2]
      exact Option.some.inj q
theorem agree_ari {o : Bop} (hg : o.grp = .ari) {x y : V} {l m : Option Int × Bool} (h1 : Agree x l) (h2 : Agree y m) : Agree (twoB o x y) (lawTwo o l.1 l.2 m.1 m.2) := by
  obtain ⟨l, u1⟩ := l
  obtain ⟨m, u2⟩ := m
  obtain ⟨hu1, hb1, hg1⟩ := h1
  obtain ⟨hu2, hb2, hg2⟩ := h2
  simp only at hu1 hu2 hb1 hb2 hg1 hg2
  have hu : (x.u || y.u) = (u1 || u2) := by rw [hu1, hu2]
  rw [twoB_ari o hg]
  unfold lawTwo
  rw [hg]
  cases l with
  | none => exact ⟨hu, fun _ => by show (x.b || y.b) = true; rw [hb1 rfl]; rfl, fun n q => by cases q⟩
  | some a => cases m with
    | none => exact ⟨hu, fun _ => by show (x.b || y.b) = true; rw [hb2 rfl]; simp, fun n q => by cases q⟩
    | some b =>
      obtain ⟨b1, e1⟩ := hg1 a rfl
      obtain ⟨b2, e2⟩ := hg2 b rfl
      refine ⟨hu, fun q => (nomatch q), fun n q => ⟨by show (x.b || y.b) = false; rw [b1, b2]; rfl, ?_⟩⟩
      rw [e1, e2, hu1, hu2]
      exact Option.some.inj q
theorem agree_div {o : Bop} (hg : o.grp = .div) {x y : V} {l m : Option Int × Bool} (h1 : Agree x l) (h2 : Agree y m) (hin : ∀ b, m.1 = some b → b ≠ 0 → led32 b (l.2 || m.2) ≠ 0) : Agree (twoB o x y) (lawTwo o l.1 l.2 m.1 m.2) := by
  obtain ⟨l, u1⟩ := l
  obtain ⟨m, u2⟩ := m
  obtain ⟨hu1, hb1, hg1⟩ := h1
  obtain ⟨hu2, hb2, hg2⟩ := h2
  simp only at hu1 hu2 hb1 hb2 hg1 hg2 hin
  have hu : (x.u || y.u) = (u1 || u2) := by rw [hu1, hu2]
  have hU : (twoB o x y).u = (u1 || u2) := by rw [twoB_div o hg]; split <;> exact hu
  have hB : (x.b || y.b) = true → (twoB o x y).b = true := fun q => by rw [twoB_div o hg]; split; rfl; exact q
  have lw : ∀ p q, (lawTwo o p u1 q u2).2 = (u1 || u2) := fun p q => by unfold lawTwo; rw [hg]; cases p <;> cases q <;> rfl
  refine ⟨by rw [hU, lw], fun q => ?_, fun n q => ?_⟩
  · unfold lawTwo at q
    rw [hg] at q
    cases l with
    | none => exact hB (by rw [hb1 rfl]; rfl)
    | some a => cases m with
      | none => exact hB (by rw [hb2 rfl]; simp)
      | some b =>
        have q' : divS o a b (u1 || u2) = none := q
        unfold divS at q'
        split at q'
        · obtain ⟨b2, e2⟩ := hg2 b rfl
          rw [twoB_div o hg, e2]
          rename_i hb
          rw [hb, led_zero]
          rfl
        · cases q'
  · unfold lawTwo at q
    rw [hg] at q
    cases l with
    | none => cases q
    | some a => cases m with
      | none => cases q
      | some b =>
        obtain ⟨b1, e1⟩ := hg1 a rfl
        obtain ⟨b2, e2⟩ := hg2 b rfl
        have q' : divS o a b (u1 || u2) = some n := q
        unfold divS at q'
        split at q'
        · cases q'
        · rename_i hb
          have hz : led32 y.n (x.u || y.u) ≠ 0 := by rw [e2, hu]; exact hin b rfl hb
          rw [twoB_div o hg, if_neg (by simpa using hz)]
          refine ⟨by show (x.b || y.b) = false; rw [b1, b2]; rfl, ?_⟩
          rw [e1, e2, hu]
          exact Option.some.inj q'
theorem agree : ∀ D : Tr, D.Good → Agree D.val D.lawW
  | .leaf k, _ => agree_num k
  | .un o t, g => agree_one (agree t g)
  | .cond a b c, g => agree_cond (agree a g.1) (agree b g.2.1) (agree c g.2.2)
  | .bin o a b, g => by
    have ga := agree a g.1
    have gb := agree b g.2.1
    show Agree (twoB o a.val b.val) (lawTwo o a.lawW.1 a.lawW.2 b.lawW.1 b.lawW.2)
    cases hg : o.grp with
    | log => exact agree_log hg ga gb
    | shift =>
      obtain ⟨k, rfl, h0, h1⟩ := g.2.2 hg
      exact agree_shift hg ga h0 h1
    | div => exact agree_div hg ga gb fun n hn hz => in_nz (lawW_in b n hn) hz
    | cmp => exact agree_cmp hg ga gb
    | ari => exact agree_ari hg ga gb
end
section
open PySem PySem.W PyProof.Rows PySem.Calls PySem.Spec
section
noncomputable def Stop (P : Prop) : Prop := P
theorem stopU {P : Prop} (h : Stop P) : P := h
theorem mR_start (tl pl : Addr) (vt : Value) (line : Int) (tln : Tok) : (fun y => if y = Str.ofString "place" then some (Value.ref pl) else if y = Str.ofString "tokens" then some (.ref tl) else ([(Str.ofString "tree", vt), (Str.ofString "line", Value.int line tln)] : List (Str × Value)).reverse.lookup y) = mR tl pl vt line tln none := by
  funext y
  unfold mR
  by_cases h1 : y = Str.ofString "text"
  · subst h1; rfl
  · rw [if_neg h1]
    by_cases h2 : y = Str.ofString "place"
    · subst h2; rfl
    · rw [if_neg h2]
      by_cases h3 : y = Str.ofString "tokens"
      · rw [if_pos h3, if_pos h3]
      · rw [if_neg h3, if_neg h3, if_neg h2]
        show List.lookup y [(Str.ofString "line", Value.int line tln), (Str.ofString "tree", vt)] = _
        by_cases h4 : y = Str.ofString "line"
        · subst h4; rfl
        · rw [if_neg h4, List.lookup_cons, show (y == Str.ofString "line") = false from beq_eq_false_iff_ne.mpr h4]
          by_cases h5 : y = Str.ofString "tree"
          · subst h5; rfl
          · rw [if_neg h5]
            show List.lookup y [(Str.ofString "tree", vt)] = none
            rw [List.lookup_cons, show (y == Str.ofString "tree") = false from beq_eq_false_iff_ne.mpr h5]
            rfl
theorem worth_none {w : World} {D : Tr} (hx : D.lawW.1 = none) : WorthTo w D none D.lawW.2 := by
  rw [← hx]; exact worth_tell D
theorem worth_some {w : World} {D : Tr} {n : Int} (hx : D.lawW.1 = some n) : WorthTo w D (some n) D.lawW.2 := by
  rw [← hx]; exact worth_tell D
theorem iso_led {h₀ h : Heap} {L : Addr} {p1 p2 p3 p4 : Addr × Obj} {r : List (Addr × Obj)} (N : News h₀ L h (p1 :: p2 :: p3 :: p4 :: r)) : News h₀ L h (p3 :: p4 :: p2 :: p1 :: r) := cb_drop N fun x hx => by
  simp only [List.mem_cons] at hx ⊢
  rcases hx with h | h | h | h | h <;> simp [h]
theorem iso_six {c dc vl sl : Nat} (l2 : dc < c) (l3 : c < vl) (l4 : vl < sl) : Six c dc vl sl := ⟨by omega, by omega, by omega, by omega, by omega, by omega⟩
theorem iso_ap {c dc vl sl : Nat} {rest : List (Addr × Obj)} (l1 : AllLt dc rest) (l2 : dc < c) (l3 : c < vl) (l4 : vl < sl) : Apart rest vl sl :=
  ⟨fun p hp => by have h : @LT.lt Nat _ p.1 dc := ktn_ltOf l1 p hp; exact Nat.ne_of_lt (by omega), fun p hp => by have h : @LT.lt Nat _ p.1 dc := ktn_ltOf l1 p hp; exact Nat.ne_of_lt (by omega)⟩
theorem noIt_cons {d : Addr} {o : Obj} {r : List (Addr × Obj)} (hc : o.cls ≠ .type "list_iterator") (h : NoIt r) : NoIt ((d, o) :: r) := fun p hp => by
  rcases List.mem_cons.mp hp with rfl | hp
  · exact hc
  · exact h p hp
theorem apHead {p0 : Addr × Obj} {tl l : Addr} {o2 : Obj} {r : List (Addr × Obj)} (h : ∀ p ∈ p0 :: (tl, o2) :: r, p.1 ≠ l) : l ≠ tl := fun e => h (tl, o2) (.tail _ (.head _)) e.symm
theorem apAll {tl a b c d : Addr} {oa ob oc od : Obj} {news : List (Addr × Obj)} (ha : a ≠ tl) (hb : @Ne Nat b tl) (hc : @Ne Nat c tl) (hd : @Ne Nat d tl) (hn : AllLt tl news) : ∀ p ∈ (a, oa) :: (b, ob) :: (c, oc) :: (d, od) :: news, p.1 ≠ tl := fun p hp => by
  rcases List.mem_cons.mp hp with rfl | hp
  · exact ha
  · rcases List.mem_cons.mp hp with rfl | hp
    · exact hb
    · rcases List.mem_cons.mp hp with rfl | hp
      · exact hc
      · rcases List.mem_cons.mp hp with rfl | hp
        · exact hd
        · exact Nat.ne_of_lt (ktn_ltOf hn p hp)
theorem texts_snd (D : Tr) : D.texts = D.words.map (·.2) := rfl
end
end
section
open PySem PySem.W PyProof.Rows PySem.Calls PySem.Spec
section
section
variable {w : World} {mean : ExcName → Option Value} {mg mb : Str → Option Value} {dp un : Nat} {gd : Option (List Code)} {cn : Str} {cs : Scope} {a : Addr} {ccd : Value} {A₀ : Around} {base h₀ : Heap} {L : Addr} {m : Str → Option Value} {news : List (Addr × Obj)} {s : Shared} {Q E : Value → Shared → Prop}
theorem kw90 : True := by
  k_with_none
  (k_with "eval Call" => ((with_reducible show wpAny _ _ (eval (Expr.Call (Expr.Name _ _) _ [] _) _) _ _ _); k_dflt (refine Call_ ?_)))
  (k_with "call ref" => ((k_dflt (show wpAny _ _ (call (Value.ref 106) [Value.str _ _, Value.str _ _, Value.str _ _, Value.int _ _]) _ _ _)); k_dflt (refine' mkTok _ _ _ _ _ _ _ _ (by k_asm) (by k_asm) (by k_asm) (by k_asm) (by k_asm) (by first | exact rfl | assumption) (by ktr_room) (by ktr_units) ?_; k_whole; intro xk' dk' kj1' kj2' kj3' kj4' h' tk' F' N' l1 l2); (have l1b := l1); (replace l2 := ltN l2); (try simp only [AllLt, and_true] at l1); (try obtain ⟨_, _⟩ := l1); (try dsimp only); (try k_fold)))
  (k_with "call ref" => ((k_dflt (show wpAny _ _ (call (Value.ref 324) [_]) _ _ _)); k_dflt (refine' wordsUse (by assumption) (by k_asm) (by k_asm) (by k_asm) (by k_asm) (by k_asm) (by first | exact rfl | assumption) (by first | assumption | (exact TreeAt.mono (by assumption) (by intro p hp; simp only [List.mem_cons, hp, or_true, true_or]))) (by assumption) (by ktr_room) (by ktr_units) ?_; k_whole; intro l' ws' n' h' tk' F' N' hf' hs'); (try dsimp only); (try k_fold)))
  (k_with "exec For Name Call cons nil" => ((rename Fr _ _ _ _ => lF'); (with_unfolding_all refine' For_invVF lF' (by exact rfl) (by exact rfl) ?_; k_whole)))
  (k_with "pyIter ref" => ((k_dflt (show wpAny _ _ (pyIter (Value.ref _)) _ _ _)); refine stopU ?_))
  (k_with "call ref" => ((k_dflt (show wpAny _ _ (call (Value.ref 343) [_]) _ _ _)); k_dflt (refine' worthUse (by assumption) (by k_asm) (by k_asm) (by k_asm) (by k_asm) (by k_asm) (by first | exact rfl | assumption) (by first | assumption | (exact TreeAt.mono (by assumption) (by intro p hp; simp only [List.mem_cons, hp, or_true, true_or])) | (exact TreeAt.mono (by assumption) (fun p hp => .tail _ ((by assumption : ∀ q ∈ news, q ∈ _) p hp)))) (by assumption) (by ktr_room) (by ktr_units) ?_; k_whole; intro l' t' x' u' h' tk' hx' hu' F' N' hf'); (subst hx'); (try dsimp only [optV]); (try k_fold)))
  (k_with "call ref" => ((k_dflt (show wpAny _ _ (call (Value.ref 291) [Value.ref _, Value.ref _]) _ _ _)); k_dflt (refine' mkCond _ _ (by k_asm) (by k_asm) (by k_asm) (by k_asm) (by k_asm) (by first | exact rfl | assumption) (by ktr_room) (by ktr_units) ?_; k_whole; intro c' dc' vl' sl' kc1' kc2' kc3' kc4' nv' ns' h' tk' F' N' l1 l2 l3 l4); (try dsimp only); (try k_fold)))
  (k_with "call ref" => ((k_dflt (show wpAny _ _ (call (Value.ref 288) [Value.ref _]) _ _ _)); refine stopU ?_))
  (k_with "getAttr ref" => (first | ((with_reducible show wpAny _ _ (getAttr (Value.ref _) (Str.ofString "file") _) _ _ _); k_dflt (refine' fault_file (by k_asm) (by k_asm) (by k_asm) ?_)) | ((with_reducible show wpAny _ _ (getAttr (Value.ref _) (Str.ofString "line") _) _ _ _); k_dflt (refine' fault_line (by k_asm) (by k_asm) (by k_asm) ?_; ))))
  trivial
theorem rightN (D : Tr) (n : Int) (line : Int) (v : Value) (tln : Tok) (B : Below A₀ base [] h₀) (F : Fr h₀ L s.heap m) (X : (KQ w.params).In h₀) (N : News h₀ L s.heap news) (T : Top viewQ looseQ mean mg mb h₀) (hk : cs.kind = .function) (XB : (KQ w.params).In base) (TB : Top viewQ looseQ mean mg mb base) (SA : SetsAt w h₀)
    (ht : TreeAt news v D) (hg : D.Good) (hx : D.lawW.1 = none) (hdeep : D.deep ≤ 3) (hni : NoIt news) (hlen : D.texts.length < 900)
    (hd : dp + 200 < recursionLimit) (hu : un + 4000 < cLine)
    (ret : ∀ (h' : Heap) (tk' : Nat), Fr h₀ L h' m → News h₀ L h' news → Q (.bool true) { s with heap := h', toks := tk' }) :
    wpAny (MQ w) (ktrTop dp un gd cn cs L a ccd [] []) (call (.ref 350) [v, .int line tln]) Q E s := by
  have hWo : WordsTell w D := words_tell D
  have hW1 : WorthTo w D none D.lawW.2 := worth_none hx
  have hlen1 : D.texts.length < 1000 := by omega
  refine wpAny_call ?_
  (k_dflt (refine' code_defS0 (binds := [(Str.ofString "tree", v), (Str.ofString "line", .int line tln)]) ?k1 ?k2 ?k3 ?k4 ?k5 ?kA ?k6 ?k7 ?k8 ?k9 ?kB ?_ ?cK ?c2 ?c3 ?c4 ?c5; (case kA => exact rfl); (case k2 => k_asm); (case k1 => k_asm); (case k3 => k_asm); (case k4 => k_asm); (case k5 => k_asm); (case k6 | k7 => k_is); (case k8 => ktr_room); (case k9 => exact BindsTo.of_eq rfl); (case kB => exact locs rfl); (case cK => first | exact rfl | assumption); (case c2 | c3 | c4 => exact rfl); (case c5 => decide); k_whole; intro g' L' h' FG' F' N' B' X' T' D'; (try dsimp only); (try k_lift B'); (try k_fold)))
  k_steps
  all_goals (rename Fr _ _ _ _ => lF; rename News _ _ _ _ => lN; rename Below _ _ _ _ => lB; rename Frag.In _ _ => lX; rename Top _ _ _ _ _ _ => lT; rename StrsAre _ _ => lS)
  all_goals (unfold Stop)
  all_goals (rw [mR_start] at lF)
  all_goals (refine iter_listUnr rfl lF (shuf3 lN) (.tail _ (.head _)) rfl rfl fun I hI => ?_)
  all_goals (k_dflt (refine tokLoop lB lX lT ?_ ?_ D.words _ [] [] _ _ none lS (words_word D) (.head _) ?_ ?_ .nil (by rw [texts_snd, List.length_map] at hlen; show 0 + _ < 1000; omega) (fun toks nt rest tv hsub hap hni2 hto => ?_)))
  · ktr_room
  · ktr_units
  · exact apAll (apHead (by assumption)) (by k_ne) (by k_ne) (by k_ne) (And.right (And.right (by assumption)))
  · exact noIt_cons (by intro q; exact absurd (Value.type.inj q) (by decide)) (noIt_cons (by intro q; exact absurd (Value.type.inj q) (by decide)) (noIt_cons (by intro q; cases q) (noIt_cons (by intro q; exact absurd (Value.type.inj q) (by decide)) hni)))
  · refine ListRest.zero (fun h2 tk2 F2 N2 => ?_)
    unfold mR at F2
    clear lF lN
    have ht2 : TreeAt rest v D := ht.mono (fun p hp => hsub p (.tail _ (.tail _ (.tail _ (.tail _ hp)))))
    dsimp only
    k_steps
    all_goals (rename Fr _ _ _ _ => lF; rename News _ _ _ _ => lN; rename AllLt _ _ => q1; rename @LT.lt _ _ _ _ => q9)
    all_goals (unfold Stop)
    all_goals (dsimp only [optV] at lF)
    all_goals (k_dflt (refine isoC D toks _ _ _ _ _ _ _ _ _ _ _ _ _ lB lF lX (iso_led lN) lT rfl (SA.keeps FG'.keep) (iso_six (by assumption) (by assumption) (by assumption)) (iso_ap q1 (by assumption) (by assumption) (by assumption)) (noIt_cons (by intro q; exact absurd (Value.type.inj q) (by decide)) (noIt_cons (by intro q; exact absurd (Value.type.inj q) (by decide)) hni2)) (.tail _ (.head _)) (hto.mono (fun p hp => .tail _ (.tail _ hp))) (by omega) (.tail _ (.tail _ (hsub _ (.tail _ (.tail _ (.head _)))))) (.tail _ (.tail _ (hsub _ (.tail _ (.tail _ (.tail _ (.head _))))))) (fun hbad g3 h3 e d f1 f2 f3 t0 v3 v4 news3 tk3 F3 R3 U3 hd3 hk3 => ?_) (by ktr_room) (by ktr_units) (fun hb0 => absurd (((agree D hg).bad hx).symm.trans hb0) (by decide))))
    all_goals (k_dflt (refine caughtD R3 F3 lB U3 XB TB D' KtsTurn.refl (x := Str.ofString "DirectiveFault") (by kernel_rfl!) (by kernel_rfl!) (fun h5 g5 vs5 tk5 T5 F5 N5 B5 X5 P5 D5 => ?_)))
    all_goals (clear lF lN lB lX lT F3 R3 U3)
    all_goals (try clear D'); all_goals (try clear F'); all_goals (try clear N'); all_goals (try clear F2); all_goals (try clear N2)
    all_goals (have N6 := News.dup N5 (.tail _ hd3))
    all_goals (clear N5)
    all_goals k_steps
    all_goals (exact ret _ _ (by assumption) (cb_drop (by assumption) (fun p hp => .tail _ (.tail _ (.tail _ (.tail _ (hk3 p (.tail _ (.tail _ (hsub p (.tail _ (.tail _ (.tail _ (.tail _ hp))))))))))))))
end
end
end
section
open PySem PySem.W PyProof.Rows PySem.Calls PySem.Spec
section
section
variable {w : World} {mean : ExcName → Option Value} {mg mb : Str → Option Value} {dp un : Nat} {gd : Option (List Code)} {cn : Str} {cs : Scope} {a : Addr} {ccd : Value} {A₀ : Around} {base h₀ : Heap} {L : Addr} {m : Str → Option Value} {news : List (Addr × Obj)} {s : Shared} {Q E : Value → Shared → Prop}
theorem kw91 : True := by
  k_with_none
  (k_with "eval Call" => ((with_reducible show wpAny _ _ (eval (Expr.Call (Expr.Name _ _) _ [] _) _) _ _ _); k_dflt (refine Call_ ?_)))
  (k_with "call ref" => ((k_dflt (show wpAny _ _ (call (Value.ref 106) [Value.str _ _, Value.str _ _, Value.str _ _, Value.int _ _]) _ _ _)); k_dflt (refine' mkTok _ _ _ _ _ _ _ _ (by k_asm) (by k_asm) (by k_asm) (by k_asm) (by k_asm) (by first | exact rfl | assumption) (by ktr_room) (by ktr_units) ?_; k_whole; intro xk' dk' kj1' kj2' kj3' kj4' h' tk' F' N' l1 l2); (have l1b := l1); (replace l2 := ltN l2); (try simp only [AllLt, and_true] at l1); (try obtain ⟨_, _⟩ := l1); (try dsimp only); (try k_fold)))
  (k_with "call ref" => ((k_dflt (show wpAny _ _ (call (Value.ref 324) [_]) _ _ _)); k_dflt (refine' wordsUse (by assumption) (by k_asm) (by k_asm) (by k_asm) (by k_asm) (by k_asm) (by first | exact rfl | assumption) (by first | assumption | (exact TreeAt.mono (by assumption) (by intro p hp; simp only [List.mem_cons, hp, or_true, true_or]))) (by assumption) (by ktr_room) (by ktr_units) ?_; k_whole; intro l' ws' n' h' tk' F' N' hf' hs'); (try dsimp only); (try k_fold)))
  (k_with "exec For Name Call cons nil" => ((rename Fr _ _ _ _ => lF'); (with_unfolding_all refine' For_invVF lF' (by exact rfl) (by exact rfl) ?_; k_whole)))
  (k_with "pyIter ref" => ((k_dflt (show wpAny _ _ (pyIter (Value.ref _)) _ _ _)); refine stopU ?_))
  (k_with "call ref" => ((k_dflt (show wpAny _ _ (call (Value.ref 343) [_]) _ _ _)); k_dflt (refine' worthUse (by assumption) (by k_asm) (by k_asm) (by k_asm) (by k_asm) (by k_asm) (by first | exact rfl | assumption) (by first | assumption | (exact TreeAt.mono (by assumption) (by intro p hp; simp only [List.mem_cons, hp, or_true, true_or])) | (exact TreeAt.mono (by assumption) (fun p hp => .tail _ ((by assumption : ∀ q ∈ news, q ∈ _) p hp)))) (by assumption) (by ktr_room) (by ktr_units) ?_; k_whole; intro l' t' x' u' h' tk' hx' hu' F' N' hf'); (subst hx'); (try dsimp only [optV]); (try k_fold)))
  (k_with "call ref" => ((k_dflt (show wpAny _ _ (call (Value.ref 291) [Value.ref _, Value.ref _]) _ _ _)); k_dflt (refine' mkCond _ _ (by k_asm) (by k_asm) (by k_asm) (by k_asm) (by k_asm) (by first | exact rfl | assumption) (by ktr_room) (by ktr_units) ?_; k_whole; intro c' dc' vl' sl' kc1' kc2' kc3' kc4' nv' ns' h' tk' F' N' l1 l2 l3 l4); (try dsimp only); (try k_fold)))
  (k_with "call ref" => ((k_dflt (show wpAny _ _ (call (Value.ref 288) [Value.ref _]) _ _ _)); refine stopU ?_))
  (k_with "getAttr ref" => (first | ((with_reducible show wpAny _ _ (getAttr (Value.ref _) (Str.ofString "file") _) _ _ _); k_dflt (refine' fault_file (by k_asm) (by k_asm) (by k_asm) ?_)) | ((with_reducible show wpAny _ _ (getAttr (Value.ref _) (Str.ofString "line") _) _ _ _); k_dflt (refine' fault_line (by k_asm) (by k_asm) (by k_asm) ?_; ))))
  trivial
theorem rightS (D : Tr) (n : Int) (line : Int) (v : Value) (tln : Tok) (B : Below A₀ base [] h₀) (F : Fr h₀ L s.heap m) (X : (KQ w.params).In h₀) (N : News h₀ L s.heap news) (T : Top viewQ looseQ mean mg mb h₀) (hk : cs.kind = .function) (XB : (KQ w.params).In base) (TB : Top viewQ looseQ mean mg mb base) (SA : SetsAt w h₀)
    (ht : TreeAt news v D) (hg : D.Good) (hx : D.lawW.1 = some n) (hdeep : D.deep ≤ 3) (hni : NoIt news) (hlen : D.texts.length < 900)
    (hd : dp + 200 < recursionLimit) (hu : un + 4000 < cLine)
    (ret : ∀ (h' : Heap) (tk' : Nat), Fr h₀ L h' m → News h₀ L h' news → Q (.bool true) { s with heap := h', toks := tk' }) :
    wpAny (MQ w) (ktrTop dp un gd cn cs L a ccd [] []) (call (.ref 350) [v, .int line tln]) Q E s := by
  have hWo : WordsTell w D := words_tell D
  have hW1 : WorthTo w D (some n) D.lawW.2 := worth_some hx
  have hlen1 : D.texts.length < 1000 := by omega
  refine wpAny_call ?_
  (k_dflt (refine' code_defS0 (binds := [(Str.ofString "tree", v), (Str.ofString "line", .int line tln)]) ?k1 ?k2 ?k3 ?k4 ?k5 ?kA ?k6 ?k7 ?k8 ?k9 ?kB ?_ ?cK ?c2 ?c3 ?c4 ?c5; (case kA => exact rfl); (case k2 => k_asm); (case k1 => k_asm); (case k3 => k_asm); (case k4 => k_asm); (case k5 => k_asm); (case k6 | k7 => k_is); (case k8 => ktr_room); (case k9 => exact BindsTo.of_eq rfl); (case kB => exact locs rfl); (case cK => first | exact rfl | assumption); (case c2 | c3 | c4 => exact rfl); (case c5 => decide); k_whole; intro g' L' h' FG' F' N' B' X' T' D'; (try dsimp only); (try k_lift B'); (try k_fold)))
  k_steps
  all_goals (rename Fr _ _ _ _ => lF; rename News _ _ _ _ => lN; rename Below _ _ _ _ => lB; rename Frag.In _ _ => lX; rename Top _ _ _ _ _ _ => lT; rename StrsAre _ _ => lS)
  all_goals (unfold Stop)
  all_goals (rw [mR_start] at lF)
  all_goals (refine iter_listUnr rfl lF (shuf3 lN) (.tail _ (.head _)) rfl rfl fun I hI => ?_)
  all_goals (k_dflt (refine tokLoop lB lX lT ?_ ?_ D.words _ [] [] _ _ none lS (words_word D) (.head _) ?_ ?_ .nil (by rw [texts_snd, List.length_map] at hlen; show 0 + _ < 1000; omega) (fun toks nt rest tv hsub hap hni2 hto => ?_)))
  · ktr_room
  · ktr_units
  · exact apAll (apHead (by assumption)) (by k_ne) (by k_ne) (by k_ne) (And.right (And.right (by assumption)))
  · exact noIt_cons (by intro q; exact absurd (Value.type.inj q) (by decide)) (noIt_cons (by intro q; exact absurd (Value.type.inj q) (by decide)) (noIt_cons (by intro q; cases q) (noIt_cons (by intro q; exact absurd (Value.type.inj q) (by decide)) hni)))
  · refine ListRest.zero (fun h2 tk2 F2 N2 => ?_)
    unfold mR at F2
    clear lF lN
    have ht2 : TreeAt rest v D := ht.mono (fun p hp => hsub p (.tail _ (.tail _ (.tail _ (.tail _ hp)))))
    dsimp only
    k_steps
    all_goals (rename Fr _ _ _ _ => lF; rename News _ _ _ _ => lN; rename AllLt _ _ => q1; rename @LT.lt _ _ _ _ => q9)
    all_goals (unfold Stop)
    all_goals (dsimp only [optV] at lF)
    all_goals (k_dflt (refine isoC D toks _ _ _ _ _ _ _ _ _ _ _ _ _ lB lF lX (iso_led lN) lT rfl (SA.keeps FG'.keep) (iso_six (by assumption) (by assumption) (by assumption)) (iso_ap q1 (by assumption) (by assumption) (by assumption)) (noIt_cons (by intro q; exact absurd (Value.type.inj q) (by decide)) (noIt_cons (by intro q; exact absurd (Value.type.inj q) (by decide)) hni2)) (.tail _ (.head _)) (hto.mono (fun p hp => .tail _ (.tail _ hp))) (by omega) (.tail _ (.tail _ (hsub _ (.tail _ (.tail _ (.head _)))))) (.tail _ (.tail _ (hsub _ (.tail _ (.tail _ (.tail _ (.head _))))))) (fun hbad => absurd (((agree D hg).good n hx).1.symm.trans hbad) (by decide)) (by ktr_room) (by ktr_units) (fun hb0 h5 tk5 F5 N5 => ?_)))
    all_goals (rw [((agree D hg).good n hx).2])
    all_goals (clear lF lN)
    all_goals (try clear F2); all_goals (try clear N2)
    all_goals (dsimp only)
    all_goals k_steps
    all_goals (rw [show ((n != 0) == (n != 0)) = true from beq_self_eq_true _])
    all_goals (exact ret _ _ (by assumption) (cb_drop (by assumption) (fun p hp => .tail _ (.tail _ (hsub p (.tail _ (.tail _ (.tail _ (.tail _ hp)))))))))
end
end
end
section
open PySem PySem.W PyProof.Rows PySem.Calls PySem.Spec
section
theorem kw92 : True := by
  k_with_none
  trivial
theorem lt5 {p : Nat} (h : 1 ≤ p) : 1 + 4 ≤ 5 * p := Nat.mul_le_mul_left 5 h
theorem t1 {l p : Nat} (h : l + 4 ≤ 5 * p) : l + 3 + 4 ≤ 5 * (p * 3) := by omega
theorem t2 {l k p : Nat} (h : l + 4 ≤ 5 * p) (h' : k + 4 ≤ 5 * p) : l + k + 5 + 4 ≤ 5 * (p * 3) := by omega
theorem t3 {l k j p : Nat} (h : l + 4 ≤ 5 * p) (h' : k + 4 ≤ 5 * p) (h'' : j + 4 ≤ 5 * p) : l + k + j + 8 + 4 ≤ 5 * (p * 3) := by omega
theorem len_br {α : Type} {x z : α} {l : List α} : (x :: (l ++ [z])).length = l.length + 2 := by rw [List.length_cons, List.length_append]; rfl
theorem s2 {a b : Nat} : a + 2 + 1 + (b + 2) = a + b + 5 := by omega
theorem s3 {a b c : Nat} : a + 2 + 1 + (b + 2) + (1 + (c + 2)) = a + b + c + 8 := by omega
theorem len_bin {α : Type} {x z m : α} {a b : List α} : ((x :: (a ++ [z])) ++ [m] ++ (x :: (b ++ [z]))).length = a.length + b.length + 5 := by
  rw [List.length_append, List.length_append, len_br, len_br]; exact s2
theorem len_cond {α : Type} {x z m n : α} {a b c : List α} : ((x :: (a ++ [z])) ++ [m] ++ (x :: (b ++ [z])) ++ ([n] ++ (x :: (c ++ [z])))).length = a.length + b.length + c.length + 8 := by
  rw [List.length_append, List.length_append, List.length_append, List.length_append, len_br, len_br, len_br]; exact s3
theorem no_deep {n : Nat} {p : Prop} (h : n + 1 ≤ 0) : p := absurd h (Nat.not_succ_le_zero n)
theorem len_texts : ∀ (n : Nat) (D : Tr), D.deep ≤ n → D.texts.length + 4 ≤ 5 * 3 ^ n := by
  intro n
  induction n with
  | zero =>
    intro D h
    cases D with
    | leaf k => rw [texts_leaf]; show 1 + 4 ≤ 5 * 3 ^ 0; decide
    | un o t => exact no_deep h
    | bin o a b => exact no_deep h
    | cond a b c => exact no_deep h
  | succ n ih =>
    intro D h
    rw [Nat.pow_succ]
    cases D with
    | leaf k => rw [texts_leaf]; exact Nat.le_trans (lt5 (Nat.one_le_pow n 3 (by decide))) (Nat.mul_le_mul_left 5 (Nat.le_mul_of_pos_right _ (by decide)))
    | un o t =>
      have h : t.deep + 1 ≤ n + 1 := h
      rw [texts_un, List.length_cons, len_br]; exact t1 (ih t (Nat.le_of_succ_le_succ h))
    | bin o a b =>
      have h : max a.deep b.deep + 1 ≤ n + 1 := h
      have h := Nat.max_le.1 (Nat.le_of_succ_le_succ h)
      rw [texts_bin, len_bin]; exact t2 (ih a h.1) (ih b h.2)
    | cond a b c =>
      have h : max a.deep (max b.deep c.deep) + 1 ≤ n + 1 := h
      have h := Nat.max_le.1 (Nat.le_of_succ_le_succ h)
      have h' := Nat.max_le.1 h.2
      rw [texts_cond, len_cond]; exact t3 (ih a h.1) (ih b h'.1) (ih c h'.2)
theorem len_900 {D : Tr} (h : D.deep ≤ 3) : D.texts.length < 900 :=
  Nat.lt_of_le_of_lt (Nat.le_trans (Nat.le_add_right _ 4) (len_texts 3 D h)) (by decide)
theorem d4 {a b : Nat} (h : a ≤ 1) (h' : b ≤ 1) : max a b ≤ 2 := Nat.max_le.2 ⟨Nat.le_trans h (by decide), Nat.le_trans h' (by decide)⟩
theorem cells_of {ys : List Value} {zs : List Int} (h : IntsAre ys (List.map (fun k => k.fmod 2147483647) (List.take 60 zs))) : Cells ys := by
  refine ⟨_, h, fun z hz => ?_, ?_⟩
  · obtain ⟨k, _, rfl⟩ := List.mem_map.mp hz
    exact ⟨fm0 _ (by decide), fm1 _ (by decide)⟩
  · rw [List.length_map, List.length_take]; exact Nat.le_trans (Nat.min_le_left _ _) (by decide)
noncomputable def Tr.goodB : Tr → Bool
  | .leaf _ => true
  | .un _ t => t.goodB
  | .bin o a b => a.goodB && b.goodB && (match o with | .shl => false | .shr => false | _ => true)
  | .cond a b c => a.goodB && b.goodB && c.goodB
theorem good_of : ∀ {D : Tr}, D.goodB = true → D.Good
  | .leaf _, _ => trivial
  | .un _ t, h => good_of (D := t) h
  | .bin o a b, h => by
    unfold Tr.goodB at h
    simp only [Bool.and_eq_true] at h
    refine ⟨good_of h.1.1, good_of h.1.2, fun q => ?_⟩
    cases o <;> first | exact absurd q (by decide) | (exact absurd h.2 (by decide))
  | .cond a b c, h => by
    unfold Tr.goodB at h
    simp only [Bool.and_eq_true] at h
    exact ⟨good_of h.1.1, good_of h.1.2, good_of h.2⟩
inductive Corner : Value → Prop where
  | z (t : Tok) : Corner (.str (Str.ofString "0") t)
  | o (t : Tok) : Corner (.str (Str.ofString "1") t)
  | t (t : Tok) : Corner (.str (Str.ofString "2") t)
  | l : Corner (.ref 298)
theorem Corner.tree {news : List (Addr × Obj)} {v : Value} (h : Corner v) : ∃ D : Tr, TreeAt news v D ∧ D.Good ∧ D.deep ≤ 1 := by
  cases h with
  | z t => exact ⟨_, TreeAt.leaf .a0 t, trivial, by decide⟩
  | o t => exact ⟨_, TreeAt.leaf .a1 t, trivial, by decide⟩
  | t t => exact ⟨_, TreeAt.leaf .a2 t, trivial, by decide⟩
  | l => exact ⟨_, TreeAt.lack, good_of rfl, by decide⟩
theorem hD_bin {news : List (Addr × Obj)} {D' : Addr} {t : Tok} {v1 v2 : Value} (o : Bop) (ho : o.grp ≠ .shift) (hm : (D', tupL [.str o.txt t, v1, v2]) ∈ news) (c1 : Corner v1) (c2 : Corner v2) : ∃ D : Tr, TreeAt news (.ref D') D ∧ D.Good ∧ D.deep ≤ 3 := by
  obtain ⟨A, a1, a2, a3⟩ := c1.tree (news := news)
  obtain ⟨B, b1, b2, b3⟩ := c2.tree (news := news)
  exact ⟨.bin o A B, .bin hm a1 b1, ⟨a2, b2, fun q => absurd q ho⟩, Nat.succ_le_succ (d4 a3 b3)⟩
theorem hD_cond {news : List (Addr × Obj)} {D' : Addr} {t : Tok} {v1 v2 v3 : Value} (hm : (D', tupL [.str (Str.ofString "?") t, v1, v2, v3]) ∈ news) (c1 : Corner v1) (c2 : Corner v2) (c3 : Corner v3) : ∃ D : Tr, TreeAt news (.ref D') D ∧ D.Good ∧ D.deep ≤ 3 := by
  obtain ⟨A, a1, a2, a3⟩ := c1.tree (news := news)
  obtain ⟨B, b1, b2, b3⟩ := c2.tree (news := news)
  obtain ⟨C, k1, k2, k3⟩ := c3.tree (news := news)
  exact ⟨.cond A B C, .cond hm a1 b1 k1, ⟨a2, b2, k2⟩, Nat.succ_le_succ (Nat.max_le.2 ⟨Nat.le_trans a3 (by decide), d4 b3 k3⟩)⟩
section
variable {w : World} {mean : ExcName → Option Value} {mg mb : Str → Option Value} {dp un : Nat} {gd : Option (List Code)} {cn : Str} {cs : Scope} {a : Addr} {ccd : Value} {A₀ : Around} {base h₀ : Heap} {L : Addr} {m : Str → Option Value} {news : List (Addr × Obj)} {s : Shared} {Q E : Value → Shared → Prop}

theorem rightC (line : Int) (v : Value) (tln : Tok) (B : Below A₀ base [] h₀) (F : Fr h₀ L s.heap m) (X : (KQ w.params).In h₀) (N : News h₀ L s.heap news) (T : Top viewQ looseQ mean mg mb h₀) (hk : cs.kind = .function) (XB : (KQ w.params).In base) (TB : Top viewQ looseQ mean mg mb base) (SA : SetsAt w h₀)
    (hD : ∃ D : Tr, TreeAt news v D ∧ D.Good ∧ D.deep ≤ 3) (hni : NoIt news)
    (hd : dp + 200 < recursionLimit) (hu : un + 4000 < cLine)
    (ret : ∀ (h' : Heap) (tk' : Nat), Fr h₀ L h' m → News h₀ L h' news → Q (.bool true) { s with heap := h', toks := tk' }) :
    wpAny (MQ w) (ktrTop dp un gd cn cs L a ccd [] []) (call (.ref 350) [v, .int line tln]) Q E s := by
  obtain ⟨D, ht, hg, hdeep⟩ := hD
  cases hx : D.lawW.1 with
  | none => exact rightN D 0 line v tln B F X N T hk XB TB SA ht hg hx hdeep hni (len_900 hdeep) hd hu ret
  | some n => exact rightS D n line v tln B F X N T hk XB TB SA ht hg hx hdeep hni (len_900 hdeep) hd hu ret
end
end
end
section
open PySem PySem.W PyProof.Rows PySem.Calls PySem.Spec
section
theorem it_no {o : Obj} {n : String} (h : o.cls = .type n) (hn : n ≠ "list_iterator") : o.cls ≠ .type "list_iterator" := fun q => hn (Value.type.inj (h.symm.trans q))
theorem noIt_nil : NoIt [] := fun _ h => nomatch h
theorem apOk_nil {wl : Addr} : ApOk wl [] := fun _ h => nomatch h
theorem kw94 : True := by
  (k_with "eval Call" => ((with_reducible show wpAny _ _ (eval (Expr.Call (Expr.Name _ _) _ [] _) _) _ _ _); k_dflt (refine Call_ ?_)))
  (k_with "call ref" => ((k_dflt (show wpAny _ _ (call (Value.ref 350) [_, Value.int _ _]) _ _ _)); k_dflt (refine' rightC _ _ _ (by k_asm) (by k_asm) (by k_asm) (by k_asm) (by k_asm) (by exact rfl) (by assumption) (by assumption) (by assumption) (by first | exact ⟨_, by assumption, by assumption, by assumption⟩ | exact hD_bin .and (by decide) (.head _) (by (first | assumption | exact .z _ | exact .o _ | exact .t _ | exact .l)) (by (first | assumption | exact .z _ | exact .o _ | exact .t _ | exact .l)) | exact hD_bin .or (by decide) (.head _) (by (first | assumption | exact .z _ | exact .o _ | exact .t _ | exact .l)) (by (first | assumption | exact .z _ | exact .o _ | exact .t _ | exact .l)) | exact hD_cond (.head _) (by (first | assumption | exact .z _ | exact .o _ | exact .t _ | exact .l)) (by (first | assumption | exact .z _ | exact .o _ | exact .t _ | exact .l)) (by (first | assumption | exact .z _ | exact .o _ | exact .t _ | exact .l))) (by (repeat' (first | assumption | (refine noIt_cons ?_ ?_) | exact noIt_nil | exact it_no rfl (by decide) | exact it_no (by assumption) (by decide) | assumption))) (by ktr_room) (by ktr_units) ?_; k_whole; intro h' tk' F' N'); (try dsimp only); (try k_fold)))
  trivial
noncomputable def cBody : List Stmt → List Stmt
  | _ :: _ :: .For _ _ [.For _ _ b _ _] _ _ :: _ => b
  | _ => []
section
variable {w : World} {mean : ExcName → Option Value} {mg mb : Str → Option Value} {dp un : Nat} {gd : Option (List Code)} {cn : Str} {cs : Scope} {a : Addr} {ccd : Value} {A₀ : Around} {base h₀ : Heap} {L : Addr} {m : Str → Option Value} {news : List (Addr × Obj)} {s : Shared} {Q E : Value → Shared → Prop}
theorem cornerBody {v1 v2 : Value} (c1 : Corner v1) (c2 : Corner v2) (B : Below A₀ base [] h₀) (F : Fr h₀ L s.heap (fun y => if y = Str.ofString "other" then some v2 else if y = Str.ofString "one" then some v1 else m y)) (X : (KQ w.params).In h₀) (N : News h₀ L s.heap news) (T : Top viewQ looseQ mean mg mb h₀) (XB : (KQ w.params).In base) (TB : Top viewQ looseQ mean mg mb base) (SA : SetsAt w h₀) (hni : NoIt news)
    (hd : dp + 300 < recursionLimit) (hu : un + 5000 < cLine) {QF : Flow → Shared → Prop}
    (ret : ∀ (h' : Heap) (tk' : Nat), Fr h₀ L h' (fun y => if y = Str.ofString "other" then some v2 else if y = Str.ofString "one" then some v1 else m y) → News h₀ L h' news → QF .next { s with heap := h', toks := tk' }) :
    wpAny (MQ w) (ktrTop dp un gd dL.name dL.scope L a ccd [] []) (execs (cBody dL.body) (envOf dL.name dL.scope L a ccd)) QF E s := by
  k_dflt (show wpAny _ _ (execs (_ :: _ :: []) _) _ _ _)
  k_steps
  all_goals (refine ret _ _ (by assumption) (cb_drop (by assumption) (fun p hp => by simp only [List.mem_cons, hp, or_true])))
theorem mC_eq {m' : Str → Option Value} {v1 v2 : Value} (e2 : m' (Str.ofString "other") = some v2) (e1 : m' (Str.ofString "one") = some v1) : (fun y => if y = Str.ofString "other" then some v2 else if y = Str.ofString "one" then some v1 else m' y) = m' := by
  funext y
  by_cases h : y = Str.ofString "other"
  · subst h; rw [if_pos rfl, e2]
  · rw [if_neg h]
    by_cases h2 : y = Str.ofString "one"
    · subst h2; rw [if_pos rfl, e1]
    · rw [if_neg h2]
theorem cornerTurn {v1 v2 : Value} {m' : Str → Option Value} (e2 : m' (Str.ofString "other") = some v2) (e1 : m' (Str.ofString "one") = some v1) (c1 : Corner v1) (c2 : Corner v2) (B : Below A₀ base [] h₀) (F : Fr h₀ L s.heap m') (X : (KQ w.params).In h₀) (N : News h₀ L s.heap news) (T : Top viewQ looseQ mean mg mb h₀) (XB : (KQ w.params).In base) (TB : Top viewQ looseQ mean mg mb base) (SA : SetsAt w h₀) (hni : NoIt news)
    (hd : dp + 300 < recursionLimit) (hu : un + 5000 < cLine) {QF : Flow → Shared → Prop}
    (ret : ∀ (h' : Heap) (tk' : Nat), Fr h₀ L h' m' → News h₀ L h' news → QF .next { s with heap := h', toks := tk' }) :
    wpAny (MQ w) (ktrTop dp un gd dL.name dL.scope L a ccd [] []) (execs (cBody dL.body) (envOf dL.name dL.scope L a ccd)) QF E s :=
  cornerBody c1 c2 B (m := m') (by rw [mC_eq e2 e1]; exact F) X N T XB TB SA hni hd hu (fun h' tk' F' N' => ret h' tk' (by rw [mC_eq e2 e1] at F'; exact F') N')
end
end
end
section
open PySem PySem.W PyProof.Rows PySem.Calls PySem.Spec
section
theorem kw95 : True := by
  k_with_none
  trivial
theorem noIt_ap {wl : Addr} {r : List (Addr × Obj)} (h : ApOk wl r) : NoIt r := fun p hp => (h p hp).2
theorem kw96 : True := by
  (k_with "eval Call" => ((with_reducible show wpAny _ _ (eval (Expr.Call (Expr.Name _ _) _ [] _) _) _ _ _); k_dflt (refine Call_ ?_)))
  (k_with "call ref" => ((k_dflt (show wpAny _ _ (call (Value.ref 350) [_, Value.int _ _]) _ _ _)); k_dflt (refine' rightC _ _ _ (by k_asm) (by k_asm) (by k_asm) (by k_asm) (by k_asm) (by exact rfl) (by assumption) (by assumption) (by assumption) (by first | exact ⟨_, by assumption, by assumption, by assumption⟩ | exact ⟨_, TreeAt.mono (by assumption) (fun p hp => .tail _ hp), by assumption, by assumption⟩ | exact hD_bin .and (by decide) (.head _) (by (first | assumption | exact .z _ | exact .o _ | exact .t _ | exact .l)) (by (first | assumption | exact .z _ | exact .o _ | exact .t _ | exact .l)) | exact hD_bin .or (by decide) (.head _) (by (first | assumption | exact .z _ | exact .o _ | exact .t _ | exact .l)) (by (first | assumption | exact .z _ | exact .o _ | exact .t _ | exact .l)) | exact hD_cond (.head _) (by (first | assumption | exact .z _ | exact .o _ | exact .t _ | exact .l)) (by (first | assumption | exact .z _ | exact .o _ | exact .t _ | exact .l)) (by (first | assumption | exact .z _ | exact .o _ | exact .t _ | exact .l))) (by (repeat' (first | assumption | exact noIt_ap (by assumption) | (refine noIt_cons ?_ ?_) | exact noIt_nil | exact it_no rfl (by decide) | exact it_no (by assumption) (by decide) | assumption))) (by ktr_room) (by ktr_units) ?_; k_whole; intro h' tk' F' N'); (try dsimp only); (try k_fold)))
  (k_with "call ref" => ((k_dflt (show wpAny _ _ (call (Value.ref 319) [Value.ref _, Value.int _ _]) _ _ _)); k_dflt (refine' treeUse (by assumption) (by rfl) (by k_asm) (by k_asm) (by k_asm) (by exact (by first | k_asm | exact swapN (by assumption) | exact swapN2 (by assumption))) (by k_asm) (by exact rfl) (by assumption) (by assumption) (by assumption) (by first | assumption | decide) (by first | assumption | decide) (by first | assumption | decide) (by ktr_room) (by ktr_units) ?_; k_whole; intro v' sp' st' t1' t2' n' h' tk' rest' D' hsub' hap' hcl' ht' hdp' hgd' hsp' hs0' hs1' F' N'); (try dsimp only); (try k_fold)))
  trivial
theorem unswapN2 {h₀ h : Heap} {L : Addr} {p q k : Addr × Obj} {r : List (Addr × Obj)} (N : News h₀ L h (k :: p :: q :: r)) : News h₀ L h (p :: q :: k :: r) := cb_drop N fun x hx => by
  simp only [List.mem_cons] at hx ⊢
  rcases hx with h | h | h | h <;> simp [h]
noncomputable def tBody : List Stmt → List Stmt
  | _ :: _ :: _ :: .For _ _ b _ _ :: _ => b
  | _ => []
section
variable {w : World} {mean : ExcName → Option Value} {mg mb : Str → Option Value} {dp un : Nat} {gd : Option (List Code)} {cn : Str} {cs : Scope} {a : Addr} {ccd : Value} {A₀ : Around} {base h₀ : Heap} {L : Addr} {m : Str → Option Value} {news : List (Addr × Obj)} {s : Shared} {Q E : Value → Shared → Prop}
variable {wl cl1 : Addr} {sp st : Int} {t1 t2 : Tok} {nw nc : Nat} {cells : List Value}
theorem treeBody {k : Int} {tk : Tok} (B : Below A₀ base [] h₀) (F : Fr h₀ L s.heap (fun y => if y = Str.ofString "turn" then some (Value.int k tk) else if y = Str.ofString "well" then some (.ref wl) else m y)) (X : (KQ w.params).In h₀) (N : News h₀ L s.heap ((wl, listOf [Value.ref cl1, Value.int sp t1, Value.int st t2].toArray nw) :: news)) (T : Top viewQ looseQ mean mg mb h₀) (XB : (KQ w.params).In base) (TB : Top viewQ looseQ mean mg mb base) (SA : SetsAt w h₀) (hcl : (cl1, listOf cells.toArray nc) ∈ news) (hap : ApOk wl news) (hc : Cells cells) (hsp : 0 ≤ sp) (hs0 : 0 ≤ st) (hs1 : st < 997)
    (hd : dp + 300 < recursionLimit) (hu : un + 5000 < cLine) {QF : Flow → Shared → Prop}
    (ret : ∀ (sp' st' : Int) (t1' t2' : Tok) (n' : Nat) (h' : Heap) (tk' : Nat), 0 ≤ sp' → 0 ≤ st' → st' < 997 → Fr h₀ L h' (fun y => if y = Str.ofString "turn" then some (Value.int k tk) else if y = Str.ofString "well" then some (.ref wl) else m y) → News h₀ L h' ((wl, listOf [Value.ref cl1, Value.int sp' t1', Value.int st' t2'].toArray n') :: news) → QF .next { s with heap := h', toks := tk' }) :
    wpAny (MQ w) (ktrTop dp un gd dL.name dL.scope L a ccd [] []) (execs (tBody dL.body) (envOf dL.name dL.scope L a ccd)) QF E s := by
  have hT3 : TreeTell w 3 := tree_tell 3
  k_dflt (show wpAny _ _ (execs (_ :: []) _) _ _ _)
  k_steps
  all_goals (refine ret _ _ _ _ _ _ _ ?_ ?_ ?_ (by assumption) (vdrop1 (by assumption) (by assumption)) <;> assumption)
theorem mT_eq {m' : Str → Option Value} {k : Int} {tk : Tok} {wl : Addr} (e2 : m' (Str.ofString "turn") = some (Value.int k tk)) (e1 : m' (Str.ofString "well") = some (.ref wl)) : (fun y => if y = Str.ofString "turn" then some (Value.int k tk) else if y = Str.ofString "well" then some (.ref wl) else m' y) = m' := by
  funext y
  by_cases h : y = Str.ofString "turn"
  · subst h; rw [if_pos rfl, e2]
  · rw [if_neg h]
    by_cases h2 : y = Str.ofString "well"
    · subst h2; rw [if_pos rfl, e1]
    · rw [if_neg h2]
theorem treeTurn {k : Int} {tk : Tok} {m' : Str → Option Value} (B : Below A₀ base [] h₀) (F : Fr h₀ L s.heap m') (X : (KQ w.params).In h₀) (N : News h₀ L s.heap ((wl, listOf [Value.ref cl1, Value.int sp t1, Value.int st t2].toArray nw) :: news)) (e2 : m' (Str.ofString "turn") = some (Value.int k tk)) (e1 : m' (Str.ofString "well") = some (.ref wl)) (T : Top viewQ looseQ mean mg mb h₀) (XB : (KQ w.params).In base) (TB : Top viewQ looseQ mean mg mb base) (SA : SetsAt w h₀) (hcl : (cl1, listOf cells.toArray nc) ∈ news) (hap : ApOk wl news) (hc : Cells cells) (hsp : 0 ≤ sp) (hs0 : 0 ≤ st) (hs1 : st < 997)
    (hd : dp + 300 < recursionLimit) (hu : un + 5000 < cLine) {QF : Flow → Shared → Prop}
    (ret : ∀ (sp' st' : Int) (t1' t2' : Tok) (n' : Nat) (h' : Heap) (tk' : Nat), 0 ≤ sp' → 0 ≤ st' → st' < 997 → Fr h₀ L h' m' → News h₀ L h' ((wl, listOf [Value.ref cl1, Value.int sp' t1', Value.int st' t2'].toArray n') :: news) → QF .next { s with heap := h', toks := tk' }) :
    wpAny (MQ w) (ktrTop dp un gd dL.name dL.scope L a ccd [] []) (execs (tBody dL.body) (envOf dL.name dL.scope L a ccd)) QF E s :=
  treeBody (m := m') B (by rw [mT_eq e2 e1]; exact F) X N T XB TB SA hcl hap hc hsp hs0 hs1 hd hu (fun sp' st' t1' t2' n' h' tk' a1 a2 a3 F' N' => ret sp' st' t1' t2' n' h' tk' a1 a2 a3 (by rw [mT_eq e2 e1] at F'; exact F') N')
end
end
end
section
open PySem PySem.W PyProof.Rows PySem.Calls PySem.Spec
section
variable {w : World} {mean : ExcName → Option Value} {mg mb : Str → Option Value} {dp un : Nat} {gd : Option (List Code)} {a : Addr} {ccd : Value} {A₀ : Around} {base h₀ : Heap} {L : Addr} {news : List (Addr × Obj)} {s : Shared} {E : Value → Shared → Prop} {x : Str} {px : Pos} {body : List Stmt} {vs : List Value} {G : (Str → Option Value) → Prop} {Q : Flow → Shared → Prop}
theorem kw97 : True := by
  k_with_none
  trivial
theorem itemsTup {I : Addr} {keep : List (Addr × Obj)} (hx : dL.scope.names.lookup x = some .local) (hI : ∀ p ∈ news, p.1 < I) (hk : SubL keep news)
    (step : ∀ v, v ∈ vs → ∀ m (it : Obj) (h : Heap) (tk : Nat), G m → it.cls = .type "tuple_iterator" → Fr h₀ L h (fun y => if y = x then some v else m y) → News h₀ L h ((I, it) :: news) → ∀ {QF : Flow → Shared → Prop}, (∀ m' h' tk', G m' → Fr h₀ L h' m' → News h₀ L h' ((I, it) :: news) → QF .next { s with heap := h', toks := tk' }) → wpAny (MQ w) (ktrTop dp un gd dL.name dL.scope L a ccd [] []) (execs body (envOf dL.name dL.scope L a ccd)) QF E { s with heap := h, toks := tk })
    (fin : ∀ m h tk, G m → Fr h₀ L h m → News h₀ L h news → Q .next { s with heap := h, toks := tk }) :
    ∀ (r : List Value) (m : Str → Option Value), (∀ v ∈ r, v ∈ vs) → G m → ItemsRest PySem.Challenge.rw_on0057_01.prog w (ktrTop dp un gd dL.name dL.scope L a ccd [] []) E h₀ (envOf dL.name dL.scope L a ccd) (.Name x px) body Q s [(I, "tuple_iterator")] keep (r.map .val) m news := by
  intro r
  induction r with
  | nil => intro m _ hG; exact ItemsRest.zero (fun h tk F N => fin m h tk hG F N)
  | cons v r ih =>
    intro m hr hG
    refine ItemsRest.val (fun h tk F => AllObj.cons (fun it hc => AllObj.nil (fun N => ?_)))
    refine PyProof.Rows.assign_Name ?_
    refine storeX_L (s := { s with heap := h, toks := tk }) (cn := dL.name) (cs := dL.scope) (cl := []) F N (fun h₁ F₁ N₁ => ?_) rfl hx
    refine step v (hr v (.head _)) m it h₁ _ hG hc F₁ N₁ (fun m' h' tk' hG' F' N' => ?_)
    refine ⟨h', tk', m', news, rfl, F', N', fun p hp q hq => ?_, hk, ih m' (fun v hv => hr v (.tail _ hv)) hG'⟩
    rw [List.mem_singleton.mp hq]
    exact Nat.ne_of_lt (hI p hp)
theorem forTup {y : Str} {py pos : Pos} {m : Str → Option Value} {tp : Addr} {lo : Obj} {n : Nat} (hx : dL.scope.names.lookup x = some .local) (hy : dL.scope.names.lookup y = some .local) (hyd : (y == ("__debug__" : Str)) = false) (F : Fr h₀ L s.heap m) (N : News h₀ L s.heap news) (hm : m y = some (.ref tp)) (hl : (tp, lo) ∈ news) (hc : lo.cls = .type "tuple") (hd : lo.data = .seq vs.toArray n) (hG : G m)
    (hE : PassesOwn (MQ w) (ktrTop dp un gd dL.name dL.scope L a ccd [] []) (envOf dL.name dL.scope L a ccd) E)
    (step : ∀ I, (∀ p ∈ news, p.1 < I) → ∀ v, v ∈ vs → ∀ m (it : Obj) (h : Heap) (tk : Nat), G m → it.cls = .type "tuple_iterator" → Fr h₀ L h (fun y => if y = x then some v else m y) → News h₀ L h ((I, it) :: news) → ∀ {QF : Flow → Shared → Prop}, (∀ m' h' tk', G m' → Fr h₀ L h' m' → News h₀ L h' ((I, it) :: news) → QF .next { s with heap := h', toks := tk' }) → wpAny (MQ w) (ktrTop dp un gd dL.name dL.scope L a ccd [] []) (execs body (envOf dL.name dL.scope L a ccd)) QF E { s with heap := h, toks := tk })
    (fin : ∀ m h tk, G m → Fr h₀ L h m → News h₀ L h news → Q .next { s with heap := h, toks := tk }) :
    wpAny (MQ w) (ktrTop dp un gd dL.name dL.scope L a ccd [] []) (exec (.For (.Name x px) (.Name y py) body [] pos) (envOf dL.name dL.scope L a ccd)) Q E s :=
  For_turns (env := envOf dL.name dL.scope L a ccd) F (nameX_L (cn := dL.name) (cs := dL.scope) (cl := []) F hm (iter_tupTurns (env := envOf dL.name dL.scope L a ccd) rfl F N hl hc hd (fun I hI => itemsTup hx hI (show SubL [(tp, lo)] news from ⟨hl, trivial⟩) (step I hI) fin vs m (fun _ h => h) hG)) rfl hy hyd) (by intro _; rfl) hE
noncomputable def cLoop : List Stmt → List Stmt
  | _ :: _ :: f :: _ => [f]
  | _ => []
theorem NoIt.tup {I : Addr} {it : Obj} (hc : it.cls = .type "tuple_iterator") (h : NoIt news) : NoIt ((I, it) :: news) := noIt_cons (it_no hc (by decide)) h
theorem cornersLoop {m : Str → Option Value} {tp : Addr} {u1 u2 : Tok} {n : Nat} (B : Below A₀ base [] h₀) (F : Fr h₀ L s.heap m) (X : (KQ w.params).In h₀) (N : News h₀ L s.heap news) (T : Top viewQ looseQ mean mg mb h₀) (XB : (KQ w.params).In base) (TB : Top viewQ looseQ mean mg mb base) (SA : SetsAt w h₀) (hni : NoIt news)
    (hd : dp + 300 < recursionLimit) (hu : un + 5000 < cLine) (hE : PassesOwn (MQ w) (ktrTop dp un gd dL.name dL.scope L a ccd [] []) (envOf dL.name dL.scope L a ccd) E)
    (hm : m (Str.ofString "corners") = some (.ref tp)) (hl : (tp, ({ cls := .type "tuple", data := .seq [.str (Str.ofString "0") u1, .str (Str.ofString "1") u2, .ref 298].toArray n } : Obj)) ∈ news) {v0 : Option Value} (hw : m (Str.ofString "well") = v0)
    (ret : ∀ (m' : Str → Option Value) (h' : Heap) (tk' : Nat), m' (Str.ofString "well") = v0 → Fr h₀ L h' m' → News h₀ L h' news → Q .next { s with heap := h', toks := tk' }) :
    wpAny (MQ w) (ktrTop dp un gd dL.name dL.scope L a ccd [] []) (exec ((cLoop dL.body).headD default) (envOf dL.name dL.scope L a ccd)) Q E s := by
  have hcor : ∀ v ∈ ([.str (Str.ofString "0") u1, .str (Str.ofString "1") u2, .ref 298] : List Value), Corner v := by
    intro v hv
    simp only [List.mem_cons, List.not_mem_nil, or_false] at hv
    rcases hv with rfl | rfl | rfl
    · exact .z _
    · exact .o _
    · exact .l
  k_dflt (refine forTup (G := fun m => m (Str.ofString "corners") = some (.ref tp) ∧ m (Str.ofString "well") = v0) (hx := by rfl) (hy := by rfl) (hyd := by decide) F N hm hl rfl rfl ⟨hm, hw⟩ hE ?_ (fun m h tk hG F' N' => ret m h tk hG.2 F' N'))
  intro I hI v1 hv1 m1 it1 h1 tk1 hG1 hc1 F1 N1 QF1 ret1
  refine wpAny_execs_cons ?_
  k_dflt (refine forTup (G := fun m => m (Str.ofString "one") = some v1 ∧ m (Str.ofString "corners") = some (.ref tp) ∧ m (Str.ofString "well") = v0) (hx := by rfl) (hy := by rfl) (hyd := by decide) F1 N1 (tp := tp) ?_ (.tail _ hl) rfl rfl ⟨?_, ?_, ?_⟩ hE ?_ (fun m h tk hG F' N' => wpAny_execs_nil (ret1 m h tk hG.2 F' N')))
  · rw [if_neg (by decide)]; exact hG1.1
  · rw [if_pos rfl]
  · rw [if_neg (by decide)]; exact hG1.1
  · rw [if_neg (by decide)]; exact hG1.2
  intro I2 hI2 v2 hv2 m2 it2 h2 tk2 hG2 hc2 F2 N2 QF2 ret2
  refine cornerTurn (v1 := v1) (v2 := v2) (if_pos rfl) ?_ (hcor v1 hv1) (hcor v2 hv2) B F2 X N2 T XB TB SA (NoIt.tup hc2 (NoIt.tup hc1 hni)) hd hu (fun h' tk' F' N' => ret2 _ h' tk' ⟨?_, ?_, ?_⟩ F' N')
  all_goals (rw [if_neg (by decide)])
  · exact hG2.1
  · exact hG2.1
  · exact hG2.2.1
  · exact hG2.2.2
end
end
section
open PySem PySem.W PyProof.Rows PySem.Calls PySem.Spec
section
theorem unrEnd4 {h₀ : Heap} {L I a1 a2 a3 a4 : Addr} {o1 o2 o3 o4 it : Obj} {rest : (Str → Option Value) → List (Addr × Obj) → Prop} {s₁ : Shared} {h' : Heap} {tk : Nat} {m' : Str → Option Value} (F : Fr h₀ L h' m') (N : News h₀ L h' [(I, it), (a1, o1), (a2, o2), (a3, o3), (a4, o4)])
    (n1 : @Ne Nat a1 I) (n2 : @Ne Nat a2 I) (n3 : @Ne Nat a3 I) (n4 : @Ne Nat a4 I) (r : rest m' [(a1, o1), (a2, o2), (a3, o3), (a4, o4)]) : UnrEnd h₀ L s₁ I it rest { s₁ with heap := h', toks := tk } :=
  UnrEnd.intro F N _ (fun p hp => hp) (fun p hp => by
    simp only [List.mem_cons, List.not_mem_nil, or_false] at hp
    rcases hp with rfl | rfl | rfl | rfl
    · exact n1
    · exact n2
    · exact n3
    · exact n4) r
theorem kw99 : True := by
  (k_with "eval Call" => ((with_reducible show wpAny _ _ (eval (Expr.Call (Expr.Name _ _) _ [] _) _) _ _ _); k_dflt (refine Call_ ?_)))
  (k_with "call ref" => ((k_dflt (show wpAny _ _ (call (Value.ref 350) [_, Value.int _ _]) _ _ _)); k_dflt (refine' rightC _ _ _ (by k_asm) (by k_asm) (by k_asm) (by k_asm) (by k_asm) (by exact rfl) (by assumption) (by assumption) (by assumption) (by first | exact ⟨_, by assumption, by assumption, by assumption⟩ | exact ⟨_, TreeAt.mono (by assumption) (fun p hp => .tail _ hp), by assumption, by assumption⟩ | exact hD_bin .and (by decide) (.head _) (by (first | assumption | exact .z _ | exact .o _ | exact .t _ | exact .l)) (by (first | assumption | exact .z _ | exact .o _ | exact .t _ | exact .l)) | exact hD_bin .or (by decide) (.head _) (by (first | assumption | exact .z _ | exact .o _ | exact .t _ | exact .l)) (by (first | assumption | exact .z _ | exact .o _ | exact .t _ | exact .l)) | exact hD_cond (.head _) (by (first | assumption | exact .z _ | exact .o _ | exact .t _ | exact .l)) (by (first | assumption | exact .z _ | exact .o _ | exact .t _ | exact .l)) (by (first | assumption | exact .z _ | exact .o _ | exact .t _ | exact .l))) (by (repeat' (first | assumption | exact noIt_ap (by assumption) | (refine noIt_cons ?_ ?_) | exact noIt_nil | exact it_no rfl (by decide) | exact it_no (by assumption) (by decide) | assumption))) (by ktr_room) (by ktr_units) ?_; k_whole; intro h' tk' F' N'); (try dsimp only); (try k_fold)))
  (k_with "exec For Name Name cons nil" => ((k_dflt (refine' cornersLoop (by k_asm) (by k_asm) (by k_asm) (by k_asm) (by k_asm) (by assumption) (by assumption) (by assumption) (by (repeat' (first | assumption | exact noIt_ap (by assumption) | (refine noIt_cons ?_ ?_) | exact noIt_nil | exact it_no rfl (by decide) | exact it_no (by assumption) (by decide) | assumption))) (by ktr_room) (by ktr_units) (by passes_own) (by exact rfl) (by k_mem) (by exact rfl) ?_; k_whole; intro m' h' tk' hw' F' N')); (try dsimp only); (try k_fold)))
  (k_with "execs cons" => ((k_dflt (show wpAny _ _ (execs (Stmt.If (Expr.UnaryOp _ _ _) _ _ _ :: []) _) _ _ _)); k_dflt (refine' treeTurn (by k_asm) (by k_asm) (by k_asm) (by exact swapN2 (by k_asm)) (by exact rfl) (by first | exact rfl | ((try dsimp only); (repeat (with_reducible refine lk_miss (by decide +kernel) ?_)); assumption)) (by k_asm) (by assumption) (by assumption) (by assumption) (by exact .tail _ (.tail _ (.head _))) (by (repeat' (first | assumption | (refine apCons ?_ ?_ ?_) | exact apOk_nil | exact it_no rfl (by decide) | exact it_no (by assumption) (by decide) | k_ne | assumption))) (by first | assumption | exact cells_of (by assumption)) (by first | assumption | decide) (by first | assumption | decide) (by first | assumption | decide) (by ktr_room) (by ktr_units) ?_; k_whole; intro sp' st' t1' t2' n' h' tk' hsp' hs0' hs1' F' N'; (replace N' := unswapN2 N')); (try dsimp only); (try k_fold)))
  (k_with "UnrEnd" => (k_dflt (refine' unrEnd4 (by k_asm) (by k_asm) (by k_ne) (by k_ne) (by k_ne) (by k_ne) ?_; k_whole)))
  trivial
theorem lawWalk : WalkO viewQ looseQ (XL viewQ []) myHook.says PySem.Challenge.rw_on0057_01.row.toRowW dL [] fun f vs => PySem.call f vs := by
  intro w s₀ s₁ mg mb G Y fa o pm cd doc dV kV ho hd hcd hD hmg hg args vals as hpre hlay hrd hwl hlo
  have KX := kIn_of (as := asQ) (e := as_eq) Y.1
  have SAX : SetsAt w s₁.heap := Y.2
  have X := (Ground.X G).1
  have V := (Ground.X G).2
  refine Ground.open G ?_
  intro T B D TE TW
  try (refine guard_noD D (by decide +kernel) ?_; clear D)
  obtain ⟨_, _, M⟩ := bmod_of_top T
  have TA := at_of_top T
  try (obtain ⟨_, _, he, B0⟩ := based_of_top T rfl hmg ho hd; have he' : cd = _ := he; subst he'; clear he)
  clear hmg
  wrow_args hpre hlay hrd hwl hlo
  all_goals (
    first | refine callC_kw (enter_call ?_) | refine enter_call ?_ | refine callC_kw (enter_callW ?_) | refine enter_callW ?_ | w_how
    w_top on
    try refine codeAny_mono ?_ (fun _ _ g => GoodW.toG g)
    have K0 := below_caller (Top.heap T)
    w_call any ho hd hcd hD T F
    clear hd TA
    k_drop
    skip)
  all_goals try k_fold
  all_goals (rename Top _ _ _ _ _ _ => lT)
  all_goals (have lT2 : Top viewQ looseQ (ExcName.means s₀.heap) mg mb s₁.heap := (show looseW viewQ looseQ = looseQ from by kernel_rfl) ▸ lT)
  all_goals (rename Below _ _ _ _ => lK; have lK2 : Below callerA s₁.heap [] s₁.heap := lK)
  all_goals (clear lK)
  all_goals k_steps
end
end
end
section
open PySem PySem.W PyProof.Rows
theorem promisedQ : PySem.Challenge.rw_on0057_01.row.toRowW.promised := by w_witness2
end

end Mine
open PySem PySem.W PyProof.Rows
set_option maxRecDepth 100000 in
set_option maxHeartbeats 8000000 in
theorem PySem.Challenge.cw_on0057_01_holds : PySem.Challenge.rw_on0057_01.Holds :=
  Mine.top_law Mine.promisedQ Mine.lawWalk
