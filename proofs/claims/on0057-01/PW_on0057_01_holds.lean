import PyProof.Rows.All
import Wide.All
import OpenK.AllK
import Wide.FinOn
import KE.BitLaws
import Lean
import PySem.Challenge.RW_on0057_01
set_option Elab.async false
set_option maxRecDepth 100000
set_option linter.all false
set_option maxHeartbeats 4000000
namespace Mine
noncomputable section
open PySem PySem.W PyProof.Rows PySem.Calls
abbrev pw : Program := PySem.Challenge.pw_on0057_01
def pass0 : Stmt := .Pass ⟨0, 0, 0, 0⟩
def D (i : Nat) : Stmt := (PySem.Challenge.pw_on0057_01.main.body[i]?).getD pass0
def M (i j : Nat) : Stmt := match D i with
  | .ClassDef _ _ _ b _ _ _ _ _ _ _ => (b[j]?).getD pass0
  | s => s
def pA : Stmt → Arguments
  | .FunctionDef _ a _ _ _ _ _ _ _ _ => a
  | _ => { posonlyargs := [], args := [], vararg := none, kwonlyargs := [], kw_defaults := [], kwarg := none, defaults := [] }
def pB : Stmt → List Stmt
  | .FunctionDef _ _ b _ _ _ _ _ _ _ => b
  | _ => []
def pS : Stmt → Scope
  | .FunctionDef _ _ _ _ _ _ s _ _ _ => s
  | _ => PySem.Challenge.pw_on0057_01.main.scope
def bE : List Stmt := behindTheImports PySem.Challenge.pw_on0057_01
def env0 : Env := { scope := PySem.Challenge.pw_on0057_01.main.scope, locals := mainNs, globals := mainNs, cells := [], code := .ref 13, frame := some 14 }
def cE : Code := .body bE env0
def topB : List Frame := [topFrame ⟨0, 0, 0, 0⟩]
def life0 : Life := {}
abbrev nd := BT.node
abbrev nl := BT.nil
def addT (s : Array (Int × Value) × Nat × SetTable) (h : Int) (x : Value) : Array (Int × Value) × Nat × SetTable :=
  let r := layNew s.2.2 s.1 h x
  let t : SetTable := { r.2.1 with plain := false }
  match !r.2.2.1 && t.tooFull with
  | true => ((relayAll t r.1 (SetTable.grown r.1.size)).1, s.2.1 + 1 + 1, (relayAll t r.1 (SetTable.grown r.1.size)).2.1)
  | false => (r.1, s.2.1 + 1, t)
def addS (P : Params) (s : Array (Int × Value) × Nat × SetTable) (c : Str × Nat) : Array (Int × Value) × Nat × SetTable := addT s (PyData.keyHash P c.1) (.str c.1 c.2)
def start0 (P : Params) : Array (Int × Value) × Nat × SetTable := (#[], 0, SetTable.fresh 0 0 (!P.followText "set-order"))
def addsOf (P : Params) (l : List (Str × Nat)) : Array (Int × Value) × Nat × SetTable := l.foldl (addS P) (start0 P)
def setObj (s : Array (Int × Value) × Nat × SetTable) : Obj := ⟨.type "set", none, .set s.1 s.2.1 s.2.2, #[]⟩
def csD : List (Str × Nat) := [("0", 255), ("1", 257), ("2", 259), ("3", 261), ("4", 263), ("5", 265), ("6", 267), ("7", 269), ("8", 271), ("9", 273)]
def csH : List (Str × Nat) := [("0", 277), ("1", 279), ("2", 281), ("3", 283), ("4", 285), ("5", 287), ("6", 289), ("7", 291), ("8", 293), ("9", 295), ("a", 297), ("b", 299), ("c", 301), ("d", 303), ("e", 305), ("f", 307), ("A", 309), ("B", 311), ("C", 313), ("D", 315), ("E", 317), ("F", 319)]
def csO : List (Str × Nat) := [("0", 323), ("1", 325), ("2", 327), ("3", 329), ("4", 331), ("5", 333), ("6", 335), ("7", 337)]
def csS : List (Str × Nat) := [("", 340), ("u", 341), ("l", 342), ("ul", 343), ("lu", 344)]
def setD (P : Params) : Obj := setObj (addsOf P csD)
def setH (P : Params) : Obj := setObj (addsOf P csH)
def setO (P : Params) : Obj := setObj (addsOf P csO)
def setSx (P : Params) : Array (Int × Value) × Nat × SetTable := ((addsOf P csS).1, (addsOf P csS).2.1 + 1, { (addsOf P csS).2.2 with led := false })
def setS (P : Params) : Obj := setObj (setSx P)
def o11_z (P : Params) : Obj := ⟨(.type "tuple"), none, (.seq #[] 0), #[]⟩
def o12_z (P : Params) : Obj := ⟨.none, none, (.fields #[]), #[]⟩
def o13_z (P : Params) : Obj := ⟨(.type "code"), none, (.fields #[(.str "<module>" 182), (.str "<module>" 183), (.str "/claim/cut.py" 184), (.int 1 0), (.int 0 0), (.int 0 0), (.int 0 0), (.int 0 0), (.ref 11), (.bool false), (.int 181 0), (.ref 12), .none, .none, .none, .none, (.int 185 0), (.int 1 0), (.str "/claim/cut.py" 186)]), #[]⟩
def o14_z (P : Params) : Obj := ⟨(.type "frame"), none, .plain, #[(some (.ref 13)), (some (.ref 3)), (some (.ref 3)), none, (some (.str "__main__" 164)), none, (some (.ref 0))]⟩
def T_z (P : Params) : BT := (nd (boot_o_0 P) (nd (boot_o_1 P) (nd (boot_o_3 P) (nd (boot_o_7 P) nl nl) (nd (o11_z P) nl nl)) (nd (boot_o_5 P) (nd (boot_o_9 P) nl nl) (nd (o13_z P) nl nl))) (nd (boot_o_2 P) (nd (boot_o_4 P) (nd (boot_o_8 P) nl nl) (nd (o12_z P) nl nl)) (nd (boot_o_6 P) (nd (boot_o_10 P) nl nl) (nd (o14_z P) nl nl))))
def S_z (w : World) (os : OsState) : SharedT := ⟨T_z w.params, 15, life0, Array.mk [], boot_drawn, 187, os⟩
def o2_a (P : Params) : Obj := ⟨.none, none, (.dict #[⟨PyData.keyHash P "type.__subclasses__.Exception.0", (.str "type.__subclasses__.Exception.0" 232), (.int 45 0)⟩, ⟨PyData.keyHash P "type.__subclasses__.Exception.n", (.str "type.__subclasses__.Exception.n" 233), (.int 1 0)⟩] 2), #[]⟩
def o3_a (P : Params) : Obj := ⟨(.type "dict"), none, (.dict #[⟨PyData.keyHash P "__name__", (.str "__name__" 165), (.str "corecc.scanner" 252)⟩, ⟨PyData.keyHash P "__doc__", (.str "__doc__" 166), .none⟩, ⟨PyData.keyHash P "__package__", (.str "__package__" 167), .none⟩, ⟨PyData.keyHash P "__loader__", (.str "__loader__" 168), (.builtin "__main__.__loader__#opaque")⟩, ⟨PyData.keyHash P "__spec__", (.str "__spec__" 169), .none⟩, ⟨PyData.keyHash P "__annotations__", (.str "__annotations__" 170), (.ref 6)⟩, ⟨PyData.keyHash P "__builtins__", (.str "__builtins__" 171), (.ref 4)⟩, ⟨PyData.keyHash P "__file__", (.str "__file__" 173), (.str "/claim/cut.py" 172)⟩, ⟨PyData.keyHash P "__cached__", (.str "__cached__" 174), .none⟩, ⟨PyData.keyHash P "_wall", (.str "_wall" 193), (.ref 21)⟩, ⟨PyData.keyHash P "CompileFault", (.str "CompileFault" 235), (.ref 45)⟩, ⟨PyData.keyHash P "DirectiveFault", (.str "DirectiveFault" 251), (.ref 58)⟩] 12), #[]⟩
def o12_a (P : Params) : Obj := ⟨.none, none, (.fields #[(.int 1 0), (.int 0 0), (.ref 20), (.int 5 0), (.int 0 0), (.ref 27), (.int 15 0), (.int 0 0), (.ref 54)]), #[]⟩
def o15_a (P : Params) : Obj := ⟨(.type "tuple"), none, (.seq #[] 0), #[]⟩
def o16_a (P : Params) : Obj := ⟨.none, none, (.fields #[]), #[]⟩
def o17_a (P : Params) : Obj := ⟨(.type "tuple"), none, (.seq #[(.str "k" 190)] 0), #[]⟩
def o18_a (P : Params) : Obj := ⟨(.type "tuple"), none, (.seq #[] 0), #[]⟩
def o19_a (P : Params) : Obj := ⟨.none, none, (.func { name := "_wall", qualname := "_wall", params := pA (D 0), body := .stmts (pB (D 0)), scope := pS (D 0), globals := 0, closure := [], defaults := .none, kwdefaults := .none, doc := .none, pyModule := .none, annotations := none, code := .none, closureTuple := .none, builtins := 0 }), #[]⟩
def o20_a (P : Params) : Obj := ⟨(.type "code"), none, (.fields #[(.str "_wall" 187), (.str "_wall" 188), (.str "/claim/cut.py" 189), (.int 1 0), (.int 1 0), (.int 0 0), (.int 0 0), (.int 3 0), (.ref 15), (.bool true), (.int 181 0), (.ref 16), .none, (.ref 17), (.ref 18), (.ref 19), (.int 191 0), (.int 1 0), (.str "/claim/cut.py" 192)]), #[]⟩
def o21_a (P : Params) : Obj := ⟨(.type "function"), none, (.func { name := "_wall", qualname := "_wall", params := pA (D 0), body := .stmts (pB (D 0)), scope := pS (D 0), globals := 3, closure := [], defaults := .none, kwdefaults := .none, doc := .none, pyModule := (.str "__main__" 164), annotations := none, code := (.ref 20), closureTuple := .none, builtins := 0 }), #[]⟩
def o22_a (P : Params) : Obj := ⟨(.type "tuple"), none, (.seq #[(.type "Exception")] 0), #[]⟩
def o23_a (P : Params) : Obj := ⟨(.type "builtin_function_or_method"), none, (.fields #[(.builtin "type.__prepare__"), (.type "type")]), #[]⟩
def o24_a (P : Params) : Obj := ⟨(.type "dict"), none, (.dict #[⟨PyData.keyHash P "__module__", (.str "__module__" 203), (.str "corecc.errors" 194)⟩, ⟨PyData.keyHash P "__qualname__", (.str "__qualname__" 205), (.str "CompileFault" 204)⟩, ⟨PyData.keyHash P "__firstlineno__", (.str "__firstlineno__" 207), (.int 5 206)⟩, ⟨PyData.keyHash P "__init__", (.str "__init__" 217), (.ref 35)⟩, ⟨PyData.keyHash P "place", (.str "place" 224), (.ref 42)⟩, ⟨PyData.keyHash P "__static_attributes__", (.str "__static_attributes__" 228), (.ref 43)⟩] 6), #[]⟩
def o25_a (P : Params) : Obj := ⟨(.type "tuple"), none, (.seq #[] 0), #[]⟩
def o26_a (P : Params) : Obj := ⟨.none, none, (.fields #[(.int 7 0), (.int 4 0), (.ref 34), (.int 13 0), (.int 4 0), (.ref 41)]), #[]⟩
def o27_a (P : Params) : Obj := ⟨(.type "code"), none, (.fields #[(.str "CompileFault" 198), (.str "CompileFault" 199), (.str "/claim/cut.py" 200), (.int 5 0), (.int 0 0), (.int 0 0), (.int 0 0), (.int 0 0), (.ref 25), (.bool false), (.int 181 0), (.ref 26), .none, .none, .none, .none, (.int 201 0), (.int 5 0), (.str "/claim/cut.py" 202)]), #[]⟩
def o28_a (P : Params) : Obj := ⟨(.type "frame"), none, .plain, #[(some (.ref 27)), (some (.ref 3)), (some (.ref 24)), none, (some (.str "corecc.errors" 194)), none, (some (.ref 0))]⟩
def o29_a (P : Params) : Obj := ⟨(.type "tuple"), none, (.seq #[] 0), #[]⟩
def o30_a (P : Params) : Obj := ⟨.none, none, (.fields #[]), #[]⟩
def o31_a (P : Params) : Obj := ⟨(.type "tuple"), none, (.seq #[(.str "self" 211), (.str "word" 212), (.str "file" 213), (.str "line" 214)] 0), #[]⟩
def o32_a (P : Params) : Obj := ⟨(.type "tuple"), none, (.seq #[] 0), #[]⟩
def o33_a (P : Params) : Obj := ⟨.none, none, (.func { name := "__init__", qualname := "CompileFault.__init__", params := pA (M 2 0), body := .stmts (pB (M 2 0)), scope := pS (M 2 0), globals := 0, closure := [], defaults := .none, kwdefaults := .none, doc := .none, pyModule := .none, annotations := none, code := .none, closureTuple := .none, builtins := 0 }), #[]⟩
def o34_a (P : Params) : Obj := ⟨(.type "code"), none, (.fields #[(.str "__init__" 208), (.str "CompileFault.__init__" 209), (.str "/claim/cut.py" 210), (.int 7 0), (.int 4 0), (.int 0 0), (.int 0 0), (.int 3 0), (.ref 29), (.bool true), (.int 181 0), (.ref 30), .none, (.ref 31), (.ref 32), (.ref 33), (.int 215 0), (.int 7 0), (.str "/claim/cut.py" 216)]), #[]⟩
def o35_a (P : Params) : Obj := ⟨(.type "function"), none, (.func { name := "__init__", qualname := "CompileFault.__init__", params := pA (M 2 0), body := .stmts (pB (M 2 0)), scope := pS (M 2 0), globals := 3, closure := [], defaults := .none, kwdefaults := .none, doc := .none, pyModule := (.str "corecc.errors" 194), annotations := none, code := (.ref 34), closureTuple := .none, builtins := 0 }), #[]⟩
def o36_a (P : Params) : Obj := ⟨(.type "tuple"), none, (.seq #[] 0), #[]⟩
def o37_a (P : Params) : Obj := ⟨.none, none, (.fields #[]), #[]⟩
def o38_a (P : Params) : Obj := ⟨(.type "tuple"), none, (.seq #[(.str "self" 221)] 0), #[]⟩
def o39_a (P : Params) : Obj := ⟨(.type "tuple"), none, (.seq #[] 0), #[]⟩
def o40_a (P : Params) : Obj := ⟨.none, none, (.func { name := "place", qualname := "CompileFault.place", params := pA (M 2 1), body := .stmts (pB (M 2 1)), scope := pS (M 2 1), globals := 0, closure := [], defaults := .none, kwdefaults := .none, doc := .none, pyModule := .none, annotations := none, code := .none, closureTuple := .none, builtins := 0 }), #[]⟩
def o41_a (P : Params) : Obj := ⟨(.type "code"), none, (.fields #[(.str "place" 218), (.str "CompileFault.place" 219), (.str "/claim/cut.py" 220), (.int 13 0), (.int 1 0), (.int 0 0), (.int 0 0), (.int 3 0), (.ref 36), (.bool true), (.int 181 0), (.ref 37), .none, (.ref 38), (.ref 39), (.ref 40), (.int 222 0), (.int 13 0), (.str "/claim/cut.py" 223)]), #[]⟩
def o42_a (P : Params) : Obj := ⟨(.type "function"), none, (.func { name := "place", qualname := "CompileFault.place", params := pA (M 2 1), body := .stmts (pB (M 2 1)), scope := pS (M 2 1), globals := 3, closure := [], defaults := .none, kwdefaults := .none, doc := .none, pyModule := (.str "corecc.errors" 194), annotations := none, code := (.ref 41), closureTuple := .none, builtins := 0 }), #[]⟩
def o43_a (P : Params) : Obj := ⟨(.type "tuple"), none, (.seq #[(.str "file" 225), (.str "line" 226), (.str "word" 227)] 0), #[]⟩
def o44_a (P : Params) : Obj := ⟨(.type "dict"), none, (.dict #[⟨PyData.keyHash P "__module__", (.str "__module__" 203), (.str "corecc.errors" 194)⟩, ⟨PyData.keyHash P "__firstlineno__", (.str "__firstlineno__" 207), (.int 5 206)⟩, ⟨PyData.keyHash P "__init__", (.str "__init__" 217), (.ref 35)⟩, ⟨PyData.keyHash P "place", (.str "place" 224), (.ref 42)⟩, ⟨PyData.keyHash P "__static_attributes__", (.str "__static_attributes__" 228), (.ref 43)⟩, ⟨PyData.keyHash P "__weakref__", (.str "__weakref__" 230), (.ref 46)⟩, ⟨PyData.keyHash P "__doc__", (.str "__doc__" 231), .none⟩] 3), #[]⟩
def o45_a (P : Params) : Obj := ⟨(.type "type"), none, (.cls { name := "CompileFault", bases := [(.type "Exception")], mro := [(.ref 45), (.type "Exception"), (.type "BaseException"), (.type "object")], ns := 44, qualname := "CompileFault", hasDict := true, slotNames := [], subclasses := [(.ref 58)], abstract := false, collection := none, hasDel := false }), #[(some (.ref 22)), none, (some (.str "CompileFault" 196)), (some (.str "CompileFault" 204)), (some (.builtin "Exception.__new__")), (some (.bool true))]⟩
def o46_a (P : Params) : Obj := ⟨(.type "getset_descriptor"), none, (.fields #[(.str "__weakref__" 229), (.ref 45), (.builtin "ExceptionGroup.__weakref__"), .none]), #[]⟩
def o47_a (P : Params) : Obj := ⟨(.type "super"), none, (.fields #[(.ref 45), (.ref 45), (.ref 45)]), #[]⟩
def o48_a (P : Params) : Obj := ⟨(.type "builtin_function_or_method"), none, (.fields #[(.builtin "object.__init_subclass__"), (.ref 45)]), #[]⟩
def o49_a (P : Params) : Obj := ⟨(.type "tuple"), none, (.seq #[(.ref 45)] 0), #[]⟩
def o50_a (P : Params) : Obj := ⟨(.type "builtin_function_or_method"), none, (.fields #[(.builtin "type.__prepare__"), (.type "type")]), #[]⟩
def o51_a (P : Params) : Obj := ⟨(.type "dict"), none, (.dict #[⟨PyData.keyHash P "__module__", (.str "__module__" 243), (.str "corecc.errors" 194)⟩, ⟨PyData.keyHash P "__qualname__", (.str "__qualname__" 245), (.str "DirectiveFault" 244)⟩, ⟨PyData.keyHash P "__firstlineno__", (.str "__firstlineno__" 247), (.int 15 246)⟩, ⟨PyData.keyHash P "__static_attributes__", (.str "__static_attributes__" 248), (.ref 56)⟩] 4), #[]⟩
def o52_a (P : Params) : Obj := ⟨(.type "tuple"), none, (.seq #[] 0), #[]⟩
def o53_a (P : Params) : Obj := ⟨.none, none, (.fields #[]), #[]⟩
def o54_a (P : Params) : Obj := ⟨(.type "code"), none, (.fields #[(.str "DirectiveFault" 238), (.str "DirectiveFault" 239), (.str "/claim/cut.py" 240), (.int 15 0), (.int 0 0), (.int 0 0), (.int 0 0), (.int 0 0), (.ref 52), (.bool false), (.int 181 0), (.ref 53), .none, .none, .none, .none, (.int 241 0), (.int 15 0), (.str "/claim/cut.py" 242)]), #[]⟩
def o55_a (P : Params) : Obj := ⟨(.type "frame"), none, .plain, #[(some (.ref 54)), (some (.ref 3)), (some (.ref 51)), none, (some (.str "corecc.errors" 194)), none, (some (.ref 0))]⟩
def o56_a (P : Params) : Obj := ⟨(.type "tuple"), none, (.seq #[] 0), #[]⟩
def o57_a (P : Params) : Obj := ⟨(.type "dict"), none, (.dict #[⟨PyData.keyHash P "__module__", (.str "__module__" 243), (.str "corecc.errors" 194)⟩, ⟨PyData.keyHash P "__firstlineno__", (.str "__firstlineno__" 247), (.int 15 246)⟩, ⟨PyData.keyHash P "__static_attributes__", (.str "__static_attributes__" 248), (.ref 56)⟩, ⟨PyData.keyHash P "__doc__", (.str "__doc__" 249), .none⟩] 2), #[]⟩
def o58_a (P : Params) : Obj := ⟨(.type "type"), none, (.cls { name := "DirectiveFault", bases := [(.ref 45)], mro := [(.ref 58), (.ref 45), (.type "Exception"), (.type "BaseException"), (.type "object")], ns := 57, qualname := "DirectiveFault", hasDict := true, slotNames := [], subclasses := [], abstract := false, collection := none, hasDel := false }), #[(some (.ref 49)), none, (some (.str "DirectiveFault" 236)), (some (.str "DirectiveFault" 244)), (some (.builtin "Exception.__new__")), (some (.bool true))]⟩
def o59_a (P : Params) : Obj := ⟨(.type "super"), none, (.fields #[(.ref 58), (.ref 58), (.ref 58)]), #[]⟩
def o60_a (P : Params) : Obj := ⟨(.type "builtin_function_or_method"), none, (.fields #[(.builtin "object.__init_subclass__"), (.ref 58)]), #[]⟩
def T_a (P : Params) : BT := (nd (boot_o_0 P) (nd (boot_o_1 P) (nd (o3_a P) (nd (boot_o_7 P) (nd (o15_a P) (nd (o31_a P) nl nl) (nd (o47_a P) nl nl)) (nd (o23_a P) (nd (o39_a P) nl nl) (nd (o55_a P) nl nl))) (nd (o11_z P) (nd (o19_a P) (nd (o35_a P) nl nl) (nd (o51_a P) nl nl)) (nd (o27_a P) (nd (o43_a P) nl nl) (nd (o59_a P) nl nl)))) (nd (boot_o_5 P) (nd (boot_o_9 P) (nd (o17_a P) (nd (o33_a P) nl nl) (nd (o49_a P) nl nl)) (nd (o25_a P) (nd (o41_a P) nl nl) (nd (o57_a P) nl nl))) (nd (o13_z P) (nd (o21_a P) (nd (o37_a P) nl nl) (nd (o53_a P) nl nl)) (nd (o29_a P) (nd (o45_a P) nl nl) nl)))) (nd (o2_a P) (nd (boot_o_4 P) (nd (boot_o_8 P) (nd (o16_a P) (nd (o32_a P) nl nl) (nd (o48_a P) nl nl)) (nd (o24_a P) (nd (o40_a P) nl nl) (nd (o56_a P) nl nl))) (nd (o12_a P) (nd (o20_a P) (nd (o36_a P) nl nl) (nd (o52_a P) nl nl)) (nd (o28_a P) (nd (o44_a P) nl nl) (nd (o60_a P) nl nl)))) (nd (boot_o_6 P) (nd (boot_o_10 P) (nd (o18_a P) (nd (o34_a P) nl nl) (nd (o50_a P) nl nl)) (nd (o26_a P) (nd (o42_a P) nl nl) (nd (o58_a P) nl nl))) (nd (o14_z P) (nd (o22_a P) (nd (o38_a P) nl nl) (nd (o54_a P) nl nl)) (nd (o30_a P) (nd (o46_a P) nl nl) nl)))))
def S_a (w : World) (os : OsState) : SharedT := ⟨T_a w.params, 61, life0, Array.mk [], boot_drawn, 254, os⟩
def o3_b (P : Params) : Obj := ⟨(.type "dict"), none, (.dict #[⟨PyData.keyHash P "__name__", (.str "__name__" 165), (.str "corecc.scanner" 252)⟩, ⟨PyData.keyHash P "__doc__", (.str "__doc__" 166), .none⟩, ⟨PyData.keyHash P "__package__", (.str "__package__" 167), .none⟩, ⟨PyData.keyHash P "__loader__", (.str "__loader__" 168), (.builtin "__main__.__loader__#opaque")⟩, ⟨PyData.keyHash P "__spec__", (.str "__spec__" 169), .none⟩, ⟨PyData.keyHash P "__annotations__", (.str "__annotations__" 170), (.ref 6)⟩, ⟨PyData.keyHash P "__builtins__", (.str "__builtins__" 171), (.ref 4)⟩, ⟨PyData.keyHash P "__file__", (.str "__file__" 173), (.str "/claim/cut.py" 172)⟩, ⟨PyData.keyHash P "__cached__", (.str "__cached__" 174), .none⟩, ⟨PyData.keyHash P "_wall", (.str "_wall" 193), (.ref 21)⟩, ⟨PyData.keyHash P "CompileFault", (.str "CompileFault" 235), (.ref 45)⟩, ⟨PyData.keyHash P "DirectiveFault", (.str "DirectiveFault" 251), (.ref 58)⟩, ⟨PyData.keyHash P "DIGITS", (.str "DIGITS" 275), (.ref 61)⟩] 13), #[]⟩
def o62_b (P : Params) : Obj := ⟨(.type "str_ascii_iterator"), none, (.fields #[.none, (.int 10 0)]), #[]⟩
def o63_b (P : Params) : Obj := ⟨(.type "tuple"), none, (.seq #[] 0), #[]⟩
def o64_b (P : Params) : Obj := ⟨(.type "StopIteration"), none, (.fields #[(.ref 63), .none, .none, .none, (.bool false), .none]), #[]⟩
def T_b (P : Params) : BT := (nd (boot_o_0 P) (nd (boot_o_1 P) (nd (o3_b P) (nd (boot_o_7 P) (nd (o15_a P) (nd (o31_a P) (nd (o63_b P) nl nl) nl) (nd (o47_a P) nl nl)) (nd (o23_a P) (nd (o39_a P) nl nl) (nd (o55_a P) nl nl))) (nd (o11_z P) (nd (o19_a P) (nd (o35_a P) nl nl) (nd (o51_a P) nl nl)) (nd (o27_a P) (nd (o43_a P) nl nl) (nd (o59_a P) nl nl)))) (nd (boot_o_5 P) (nd (boot_o_9 P) (nd (o17_a P) (nd (o33_a P) nl nl) (nd (o49_a P) nl nl)) (nd (o25_a P) (nd (o41_a P) nl nl) (nd (o57_a P) nl nl))) (nd (o13_z P) (nd (o21_a P) (nd (o37_a P) nl nl) (nd (o53_a P) nl nl)) (nd (o29_a P) (nd (o45_a P) nl nl) (nd (setD P) nl nl))))) (nd (o2_a P) (nd (boot_o_4 P) (nd (boot_o_8 P) (nd (o16_a P) (nd (o32_a P) (nd (o64_b P) nl nl) nl) (nd (o48_a P) nl nl)) (nd (o24_a P) (nd (o40_a P) nl nl) (nd (o56_a P) nl nl))) (nd (o12_a P) (nd (o20_a P) (nd (o36_a P) nl nl) (nd (o52_a P) nl nl)) (nd (o28_a P) (nd (o44_a P) nl nl) (nd (o60_a P) nl nl)))) (nd (boot_o_6 P) (nd (boot_o_10 P) (nd (o18_a P) (nd (o34_a P) nl nl) (nd (o50_a P) nl nl)) (nd (o26_a P) (nd (o42_a P) nl nl) (nd (o58_a P) nl nl))) (nd (o14_z P) (nd (o22_a P) (nd (o38_a P) nl nl) (nd (o54_a P) nl nl)) (nd (o30_a P) (nd (o46_a P) nl nl) (nd (o62_b P) nl nl))))))
def S_b (w : World) (os : OsState) : SharedT := ⟨T_b w.params, 65, life0, Array.mk [], boot_drawn, 276, os⟩
def o3_c (P : Params) : Obj := ⟨(.type "dict"), none, (.dict #[⟨PyData.keyHash P "__name__", (.str "__name__" 165), (.str "corecc.scanner" 252)⟩, ⟨PyData.keyHash P "__doc__", (.str "__doc__" 166), .none⟩, ⟨PyData.keyHash P "__package__", (.str "__package__" 167), .none⟩, ⟨PyData.keyHash P "__loader__", (.str "__loader__" 168), (.builtin "__main__.__loader__#opaque")⟩, ⟨PyData.keyHash P "__spec__", (.str "__spec__" 169), .none⟩, ⟨PyData.keyHash P "__annotations__", (.str "__annotations__" 170), (.ref 6)⟩, ⟨PyData.keyHash P "__builtins__", (.str "__builtins__" 171), (.ref 4)⟩, ⟨PyData.keyHash P "__file__", (.str "__file__" 173), (.str "/claim/cut.py" 172)⟩, ⟨PyData.keyHash P "__cached__", (.str "__cached__" 174), .none⟩, ⟨PyData.keyHash P "_wall", (.str "_wall" 193), (.ref 21)⟩, ⟨PyData.keyHash P "CompileFault", (.str "CompileFault" 235), (.ref 45)⟩, ⟨PyData.keyHash P "DirectiveFault", (.str "DirectiveFault" 251), (.ref 58)⟩, ⟨PyData.keyHash P "DIGITS", (.str "DIGITS" 275), (.ref 61)⟩, ⟨PyData.keyHash P "HEX_DIGITS", (.str "HEX_DIGITS" 321), (.ref 65)⟩] 14), #[]⟩
def o66_c (P : Params) : Obj := ⟨(.type "str_ascii_iterator"), none, (.fields #[.none, (.int 22 0)]), #[]⟩
def o67_c (P : Params) : Obj := ⟨(.type "tuple"), none, (.seq #[] 0), #[]⟩
def o68_c (P : Params) : Obj := ⟨(.type "StopIteration"), none, (.fields #[(.ref 67), .none, .none, .none, (.bool false), .none]), #[]⟩
def T_c (P : Params) : BT := (nd (boot_o_0 P) (nd (boot_o_1 P) (nd (o3_c P) (nd (boot_o_7 P) (nd (o15_a P) (nd (o31_a P) (nd (o63_b P) nl nl) nl) (nd (o47_a P) nl nl)) (nd (o23_a P) (nd (o39_a P) nl nl) (nd (o55_a P) nl nl))) (nd (o11_z P) (nd (o19_a P) (nd (o35_a P) (nd (o67_c P) nl nl) nl) (nd (o51_a P) nl nl)) (nd (o27_a P) (nd (o43_a P) nl nl) (nd (o59_a P) nl nl)))) (nd (boot_o_5 P) (nd (boot_o_9 P) (nd (o17_a P) (nd (o33_a P) (nd (setH P) nl nl) nl) (nd (o49_a P) nl nl)) (nd (o25_a P) (nd (o41_a P) nl nl) (nd (o57_a P) nl nl))) (nd (o13_z P) (nd (o21_a P) (nd (o37_a P) nl nl) (nd (o53_a P) nl nl)) (nd (o29_a P) (nd (o45_a P) nl nl) (nd (setD P) nl nl))))) (nd (o2_a P) (nd (boot_o_4 P) (nd (boot_o_8 P) (nd (o16_a P) (nd (o32_a P) (nd (o64_b P) nl nl) nl) (nd (o48_a P) nl nl)) (nd (o24_a P) (nd (o40_a P) nl nl) (nd (o56_a P) nl nl))) (nd (o12_a P) (nd (o20_a P) (nd (o36_a P) (nd (o68_c P) nl nl) nl) (nd (o52_a P) nl nl)) (nd (o28_a P) (nd (o44_a P) nl nl) (nd (o60_a P) nl nl)))) (nd (boot_o_6 P) (nd (boot_o_10 P) (nd (o18_a P) (nd (o34_a P) (nd (o66_c P) nl nl) nl) (nd (o50_a P) nl nl)) (nd (o26_a P) (nd (o42_a P) nl nl) (nd (o58_a P) nl nl))) (nd (o14_z P) (nd (o22_a P) (nd (o38_a P) nl nl) (nd (o54_a P) nl nl)) (nd (o30_a P) (nd (o46_a P) nl nl) (nd (o62_b P) nl nl))))))
def S_c (w : World) (os : OsState) : SharedT := ⟨T_c w.params, 69, life0, Array.mk [], boot_drawn, 322, os⟩
def o3_d (P : Params) : Obj := ⟨(.type "dict"), none, (.dict #[⟨PyData.keyHash P "__name__", (.str "__name__" 165), (.str "corecc.scanner" 252)⟩, ⟨PyData.keyHash P "__doc__", (.str "__doc__" 166), .none⟩, ⟨PyData.keyHash P "__package__", (.str "__package__" 167), .none⟩, ⟨PyData.keyHash P "__loader__", (.str "__loader__" 168), (.builtin "__main__.__loader__#opaque")⟩, ⟨PyData.keyHash P "__spec__", (.str "__spec__" 169), .none⟩, ⟨PyData.keyHash P "__annotations__", (.str "__annotations__" 170), (.ref 6)⟩, ⟨PyData.keyHash P "__builtins__", (.str "__builtins__" 171), (.ref 4)⟩, ⟨PyData.keyHash P "__file__", (.str "__file__" 173), (.str "/claim/cut.py" 172)⟩, ⟨PyData.keyHash P "__cached__", (.str "__cached__" 174), .none⟩, ⟨PyData.keyHash P "_wall", (.str "_wall" 193), (.ref 21)⟩, ⟨PyData.keyHash P "CompileFault", (.str "CompileFault" 235), (.ref 45)⟩, ⟨PyData.keyHash P "DirectiveFault", (.str "DirectiveFault" 251), (.ref 58)⟩, ⟨PyData.keyHash P "DIGITS", (.str "DIGITS" 275), (.ref 61)⟩, ⟨PyData.keyHash P "HEX_DIGITS", (.str "HEX_DIGITS" 321), (.ref 65)⟩, ⟨PyData.keyHash P "OCTAL_DIGITS", (.str "OCTAL_DIGITS" 339), (.ref 69)⟩] 15), #[]⟩
def o70_d (P : Params) : Obj := ⟨(.type "str_ascii_iterator"), none, (.fields #[.none, (.int 8 0)]), #[]⟩
def o71_d (P : Params) : Obj := ⟨(.type "tuple"), none, (.seq #[] 0), #[]⟩
def o72_d (P : Params) : Obj := ⟨(.type "StopIteration"), none, (.fields #[(.ref 71), .none, .none, .none, (.bool false), .none]), #[]⟩
def T_d (P : Params) : BT := (nd (boot_o_0 P) (nd (boot_o_1 P) (nd (o3_d P) (nd (boot_o_7 P) (nd (o15_a P) (nd (o31_a P) (nd (o63_b P) nl nl) nl) (nd (o47_a P) nl nl)) (nd (o23_a P) (nd (o39_a P) (nd (o71_d P) nl nl) nl) (nd (o55_a P) nl nl))) (nd (o11_z P) (nd (o19_a P) (nd (o35_a P) (nd (o67_c P) nl nl) nl) (nd (o51_a P) nl nl)) (nd (o27_a P) (nd (o43_a P) nl nl) (nd (o59_a P) nl nl)))) (nd (boot_o_5 P) (nd (boot_o_9 P) (nd (o17_a P) (nd (o33_a P) (nd (setH P) nl nl) nl) (nd (o49_a P) nl nl)) (nd (o25_a P) (nd (o41_a P) nl nl) (nd (o57_a P) nl nl))) (nd (o13_z P) (nd (o21_a P) (nd (o37_a P) (nd (setO P) nl nl) nl) (nd (o53_a P) nl nl)) (nd (o29_a P) (nd (o45_a P) nl nl) (nd (setD P) nl nl))))) (nd (o2_a P) (nd (boot_o_4 P) (nd (boot_o_8 P) (nd (o16_a P) (nd (o32_a P) (nd (o64_b P) nl nl) nl) (nd (o48_a P) nl nl)) (nd (o24_a P) (nd (o40_a P) (nd (o72_d P) nl nl) nl) (nd (o56_a P) nl nl))) (nd (o12_a P) (nd (o20_a P) (nd (o36_a P) (nd (o68_c P) nl nl) nl) (nd (o52_a P) nl nl)) (nd (o28_a P) (nd (o44_a P) nl nl) (nd (o60_a P) nl nl)))) (nd (boot_o_6 P) (nd (boot_o_10 P) (nd (o18_a P) (nd (o34_a P) (nd (o66_c P) nl nl) nl) (nd (o50_a P) nl nl)) (nd (o26_a P) (nd (o42_a P) nl nl) (nd (o58_a P) nl nl))) (nd (o14_z P) (nd (o22_a P) (nd (o38_a P) (nd (o70_d P) nl nl) nl) (nd (o54_a P) nl nl)) (nd (o30_a P) (nd (o46_a P) nl nl) (nd (o62_b P) nl nl))))))
def S_d (w : World) (os : OsState) : SharedT := ⟨T_d w.params, 73, life0, Array.mk [], boot_drawn, 340, os⟩
def o3_e (P : Params) : Obj := ⟨(.type "dict"), none, (.dict #[⟨PyData.keyHash P "__name__", (.str "__name__" 165), (.str "corecc.scanner" 252)⟩, ⟨PyData.keyHash P "__doc__", (.str "__doc__" 166), .none⟩, ⟨PyData.keyHash P "__package__", (.str "__package__" 167), .none⟩, ⟨PyData.keyHash P "__loader__", (.str "__loader__" 168), (.builtin "__main__.__loader__#opaque")⟩, ⟨PyData.keyHash P "__spec__", (.str "__spec__" 169), .none⟩, ⟨PyData.keyHash P "__annotations__", (.str "__annotations__" 170), (.ref 6)⟩, ⟨PyData.keyHash P "__builtins__", (.str "__builtins__" 171), (.ref 4)⟩, ⟨PyData.keyHash P "__file__", (.str "__file__" 173), (.str "/claim/cut.py" 172)⟩, ⟨PyData.keyHash P "__cached__", (.str "__cached__" 174), .none⟩, ⟨PyData.keyHash P "_wall", (.str "_wall" 193), (.ref 21)⟩, ⟨PyData.keyHash P "CompileFault", (.str "CompileFault" 235), (.ref 45)⟩, ⟨PyData.keyHash P "DirectiveFault", (.str "DirectiveFault" 251), (.ref 58)⟩, ⟨PyData.keyHash P "DIGITS", (.str "DIGITS" 275), (.ref 61)⟩, ⟨PyData.keyHash P "HEX_DIGITS", (.str "HEX_DIGITS" 321), (.ref 65)⟩, ⟨PyData.keyHash P "OCTAL_DIGITS", (.str "OCTAL_DIGITS" 339), (.ref 69)⟩, ⟨PyData.keyHash P "SUFFIXES", (.str "SUFFIXES" 350), (.ref 73)⟩] 16), #[]⟩
def T_e (P : Params) : BT := (nd (boot_o_0 P) (nd (boot_o_1 P) (nd (o3_e P) (nd (boot_o_7 P) (nd (o15_a P) (nd (o31_a P) (nd (o63_b P) nl nl) nl) (nd (o47_a P) nl nl)) (nd (o23_a P) (nd (o39_a P) (nd (o71_d P) nl nl) nl) (nd (o55_a P) nl nl))) (nd (o11_z P) (nd (o19_a P) (nd (o35_a P) (nd (o67_c P) nl nl) nl) (nd (o51_a P) nl nl)) (nd (o27_a P) (nd (o43_a P) nl nl) (nd (o59_a P) nl nl)))) (nd (boot_o_5 P) (nd (boot_o_9 P) (nd (o17_a P) (nd (o33_a P) (nd (setH P) nl nl) nl) (nd (o49_a P) nl nl)) (nd (o25_a P) (nd (o41_a P) (nd (setS P) nl nl) nl) (nd (o57_a P) nl nl))) (nd (o13_z P) (nd (o21_a P) (nd (o37_a P) (nd (setO P) nl nl) nl) (nd (o53_a P) nl nl)) (nd (o29_a P) (nd (o45_a P) nl nl) (nd (setD P) nl nl))))) (nd (o2_a P) (nd (boot_o_4 P) (nd (boot_o_8 P) (nd (o16_a P) (nd (o32_a P) (nd (o64_b P) nl nl) nl) (nd (o48_a P) nl nl)) (nd (o24_a P) (nd (o40_a P) (nd (o72_d P) nl nl) nl) (nd (o56_a P) nl nl))) (nd (o12_a P) (nd (o20_a P) (nd (o36_a P) (nd (o68_c P) nl nl) nl) (nd (o52_a P) nl nl)) (nd (o28_a P) (nd (o44_a P) nl nl) (nd (o60_a P) nl nl)))) (nd (boot_o_6 P) (nd (boot_o_10 P) (nd (o18_a P) (nd (o34_a P) (nd (o66_c P) nl nl) nl) (nd (o50_a P) nl nl)) (nd (o26_a P) (nd (o42_a P) nl nl) (nd (o58_a P) nl nl))) (nd (o14_z P) (nd (o22_a P) (nd (o38_a P) (nd (o70_d P) nl nl) nl) (nd (o54_a P) nl nl)) (nd (o30_a P) (nd (o46_a P) nl nl) (nd (o62_b P) nl nl))))))
def S_e (w : World) (os : OsState) : SharedT := ⟨T_e w.params, 74, life0, Array.mk [], boot_drawn, 351, os⟩
def o3_f (P : Params) : Obj := ⟨(.type "dict"), none, (.dict #[⟨PyData.keyHash P "__name__", (.str "__name__" 165), (.str "corecc.scanner" 252)⟩, ⟨PyData.keyHash P "__doc__", (.str "__doc__" 166), .none⟩, ⟨PyData.keyHash P "__package__", (.str "__package__" 167), .none⟩, ⟨PyData.keyHash P "__loader__", (.str "__loader__" 168), (.builtin "__main__.__loader__#opaque")⟩, ⟨PyData.keyHash P "__spec__", (.str "__spec__" 169), .none⟩, ⟨PyData.keyHash P "__annotations__", (.str "__annotations__" 170), (.ref 6)⟩, ⟨PyData.keyHash P "__builtins__", (.str "__builtins__" 171), (.ref 4)⟩, ⟨PyData.keyHash P "__file__", (.str "__file__" 173), (.str "/claim/cut.py" 172)⟩, ⟨PyData.keyHash P "__cached__", (.str "__cached__" 174), .none⟩, ⟨PyData.keyHash P "_wall", (.str "_wall" 193), (.ref 21)⟩, ⟨PyData.keyHash P "CompileFault", (.str "CompileFault" 235), (.ref 45)⟩, ⟨PyData.keyHash P "DirectiveFault", (.str "DirectiveFault" 251), (.ref 58)⟩, ⟨PyData.keyHash P "DIGITS", (.str "DIGITS" 275), (.ref 61)⟩, ⟨PyData.keyHash P "HEX_DIGITS", (.str "HEX_DIGITS" 321), (.ref 65)⟩, ⟨PyData.keyHash P "OCTAL_DIGITS", (.str "OCTAL_DIGITS" 339), (.ref 69)⟩, ⟨PyData.keyHash P "SUFFIXES", (.str "SUFFIXES" 350), (.ref 73)⟩, ⟨PyData.keyHash P "MOST_OCTET", (.str "MOST_OCTET" 352), (.int 255 351)⟩, ⟨PyData.keyHash P "MOST_WIDE", (.str "MOST_WIDE" 354), (.int 4294967295 353)⟩, ⟨PyData.keyHash P "ESCAPES", (.str "ESCAPES" 388), (.ref 74)⟩, ⟨PyData.keyHash P "Token", (.str "Token" 445), (.ref 106)⟩] 20), #[]⟩
def o12_f (P : Params) : Obj := ⟨.none, none, (.fields #[(.int 1 0), (.int 0 0), (.ref 20), (.int 5 0), (.int 0 0), (.ref 27), (.int 15 0), (.int 0 0), (.ref 54), (.int 25 0), (.int 0 0), (.ref 80)]), #[]⟩
def o74_f (P : Params) : Obj := ⟨(.type "dict"), none, (.dict #[⟨PyData.keyHash P "a", (.str "a" 355), (.int 7 356)⟩, ⟨PyData.keyHash P "b", (.str "b" 357), (.int 8 358)⟩, ⟨PyData.keyHash P "f", (.str "f" 359), (.int 12 360)⟩, ⟨PyData.keyHash P "n", (.str "n" 361), (.int 10 362)⟩, ⟨PyData.keyHash P "r", (.str "r" 363), (.int 13 364)⟩, ⟨PyData.keyHash P "t", (.str "t" 365), (.int 9 366)⟩, ⟨PyData.keyHash P "v", (.str "v" 367), (.int 11 368)⟩, ⟨PyData.keyHash P "\\", (.str "\\" 369), (.int 92 370)⟩, ⟨PyData.keyHash P "'", (.str "'" 371), (.int 39 372)⟩, ⟨PyData.keyHash P "\"", (.str "\"" 373), (.int 34 374)⟩, ⟨PyData.keyHash P "?", (.str "?" 375), (.int 63 376)⟩] 11), #[]⟩
def o75_f (P : Params) : Obj := ⟨(.type "tuple"), none, (.seq #[] 0), #[]⟩
def o76_f (P : Params) : Obj := ⟨(.type "builtin_function_or_method"), none, (.fields #[(.builtin "type.__prepare__"), (.type "type")]), #[]⟩
def o77_f (P : Params) : Obj := ⟨(.type "dict"), none, (.dict #[⟨PyData.keyHash P "__module__", (.str "__module__" 396), (.str "corecc.scanner" 252)⟩, ⟨PyData.keyHash P "__qualname__", (.str "__qualname__" 398), (.str "Token" 397)⟩, ⟨PyData.keyHash P "__firstlineno__", (.str "__firstlineno__" 400), (.int 25 399)⟩, ⟨PyData.keyHash P "space", (.str "space" 401), (.bool false)⟩, ⟨PyData.keyHash P "starts", (.str "starts" 402), (.bool false)⟩, ⟨PyData.keyHash P "end_line", (.str "end_line" 404), (.int 0 403)⟩, ⟨PyData.keyHash P "hidden", (.str "hidden" 405), (.ref 82)⟩, ⟨PyData.keyHash P "value", (.str "value" 406), .none⟩, ⟨PyData.keyHash P "type", (.str "type" 407), .none⟩, ⟨PyData.keyHash P "__init__", (.str "__init__" 418), (.ref 89)⟩, ⟨PyData.keyHash P "copy", (.str "copy" 425), (.ref 96)⟩, ⟨PyData.keyHash P "is_punct", (.str "is_punct" 433), (.ref 103)⟩, ⟨PyData.keyHash P "__static_attributes__", (.str "__static_attributes__" 438), (.ref 104)⟩] 13), #[]⟩
def o78_f (P : Params) : Obj := ⟨(.type "tuple"), none, (.seq #[] 0), #[]⟩
def o79_f (P : Params) : Obj := ⟨.none, none, (.fields #[(.int 33 0), (.int 4 0), (.ref 88), (.int 39 0), (.int 4 0), (.ref 95), (.int 42 0), (.int 4 0), (.ref 102)]), #[]⟩
def o80_f (P : Params) : Obj := ⟨(.type "code"), none, (.fields #[(.str "Token" 391), (.str "Token" 392), (.str "/claim/cut.py" 393), (.int 25 0), (.int 0 0), (.int 0 0), (.int 0 0), (.int 0 0), (.ref 78), (.bool false), (.int 181 0), (.ref 79), .none, .none, .none, .none, (.int 394 0), (.int 25 0), (.str "/claim/cut.py" 395)]), #[]⟩
def o81_f (P : Params) : Obj := ⟨(.type "frame"), none, .plain, #[(some (.ref 80)), (some (.ref 3)), (some (.ref 77)), none, (some (.str "corecc.scanner" 252)), none, (some (.ref 0))]⟩
def o82_f (P : Params) : Obj := ⟨(.type "tuple"), none, (.seq #[] 0), #[]⟩
def o83_f (P : Params) : Obj := ⟨(.type "tuple"), none, (.seq #[] 0), #[]⟩
def o84_f (P : Params) : Obj := ⟨.none, none, (.fields #[]), #[]⟩
def o85_f (P : Params) : Obj := ⟨(.type "tuple"), none, (.seq #[(.str "self" 411), (.str "kind" 412), (.str "text" 413), (.str "file" 414), (.str "line" 415)] 0), #[]⟩
def o86_f (P : Params) : Obj := ⟨(.type "tuple"), none, (.seq #[] 0), #[]⟩
def o87_f (P : Params) : Obj := ⟨.none, none, (.func { name := "__init__", qualname := "Token.__init__", params := pA (M 12 6), body := .stmts (pB (M 12 6)), scope := pS (M 12 6), globals := 0, closure := [], defaults := .none, kwdefaults := .none, doc := .none, pyModule := .none, annotations := none, code := .none, closureTuple := .none, builtins := 0 }), #[]⟩
def o88_f (P : Params) : Obj := ⟨(.type "code"), none, (.fields #[(.str "__init__" 408), (.str "Token.__init__" 409), (.str "/claim/cut.py" 410), (.int 33 0), (.int 5 0), (.int 0 0), (.int 0 0), (.int 3 0), (.ref 83), (.bool true), (.int 181 0), (.ref 84), .none, (.ref 85), (.ref 86), (.ref 87), (.int 416 0), (.int 33 0), (.str "/claim/cut.py" 417)]), #[]⟩
def o89_f (P : Params) : Obj := ⟨(.type "function"), none, (.func { name := "__init__", qualname := "Token.__init__", params := pA (M 12 6), body := .stmts (pB (M 12 6)), scope := pS (M 12 6), globals := 3, closure := [], defaults := .none, kwdefaults := .none, doc := .none, pyModule := (.str "corecc.scanner" 252), annotations := none, code := (.ref 88), closureTuple := .none, builtins := 0 }), #[]⟩
def o90_f (P : Params) : Obj := ⟨(.type "tuple"), none, (.seq #[] 0), #[]⟩
def o91_f (P : Params) : Obj := ⟨.none, none, (.fields #[]), #[]⟩
def o92_f (P : Params) : Obj := ⟨(.type "tuple"), none, (.seq #[(.str "self" 422)] 0), #[]⟩
def o93_f (P : Params) : Obj := ⟨(.type "tuple"), none, (.seq #[] 0), #[]⟩
def o94_f (P : Params) : Obj := ⟨.none, none, (.func { name := "copy", qualname := "Token.copy", params := pA (M 12 7), body := .stmts (pB (M 12 7)), scope := pS (M 12 7), globals := 0, closure := [], defaults := .none, kwdefaults := .none, doc := .none, pyModule := .none, annotations := none, code := .none, closureTuple := .none, builtins := 0 }), #[]⟩
def o95_f (P : Params) : Obj := ⟨(.type "code"), none, (.fields #[(.str "copy" 419), (.str "Token.copy" 420), (.str "/claim/cut.py" 421), (.int 39 0), (.int 1 0), (.int 0 0), (.int 0 0), (.int 3 0), (.ref 90), (.bool true), (.int 181 0), (.ref 91), .none, (.ref 92), (.ref 93), (.ref 94), (.int 423 0), (.int 39 0), (.str "/claim/cut.py" 424)]), #[]⟩
def o96_f (P : Params) : Obj := ⟨(.type "function"), none, (.func { name := "copy", qualname := "Token.copy", params := pA (M 12 7), body := .stmts (pB (M 12 7)), scope := pS (M 12 7), globals := 3, closure := [], defaults := .none, kwdefaults := .none, doc := .none, pyModule := (.str "corecc.scanner" 252), annotations := none, code := (.ref 95), closureTuple := .none, builtins := 0 }), #[]⟩
def o97_f (P : Params) : Obj := ⟨(.type "tuple"), none, (.seq #[] 0), #[]⟩
def o98_f (P : Params) : Obj := ⟨.none, none, (.fields #[]), #[]⟩
def o99_f (P : Params) : Obj := ⟨(.type "tuple"), none, (.seq #[(.str "self" 429), (.str "text" 430)] 0), #[]⟩
def o100_f (P : Params) : Obj := ⟨(.type "tuple"), none, (.seq #[] 0), #[]⟩
def o101_f (P : Params) : Obj := ⟨.none, none, (.func { name := "is_punct", qualname := "Token.is_punct", params := pA (M 12 8), body := .stmts (pB (M 12 8)), scope := pS (M 12 8), globals := 0, closure := [], defaults := .none, kwdefaults := .none, doc := .none, pyModule := .none, annotations := none, code := .none, closureTuple := .none, builtins := 0 }), #[]⟩
def o102_f (P : Params) : Obj := ⟨(.type "code"), none, (.fields #[(.str "is_punct" 426), (.str "Token.is_punct" 427), (.str "/claim/cut.py" 428), (.int 42 0), (.int 2 0), (.int 0 0), (.int 0 0), (.int 3 0), (.ref 97), (.bool true), (.int 181 0), (.ref 98), .none, (.ref 99), (.ref 100), (.ref 101), (.int 431 0), (.int 42 0), (.str "/claim/cut.py" 432)]), #[]⟩
def o103_f (P : Params) : Obj := ⟨(.type "function"), none, (.func { name := "is_punct", qualname := "Token.is_punct", params := pA (M 12 8), body := .stmts (pB (M 12 8)), scope := pS (M 12 8), globals := 3, closure := [], defaults := .none, kwdefaults := .none, doc := .none, pyModule := (.str "corecc.scanner" 252), annotations := none, code := (.ref 102), closureTuple := .none, builtins := 0 }), #[]⟩
def o104_f (P : Params) : Obj := ⟨(.type "tuple"), none, (.seq #[(.str "file" 434), (.str "kind" 435), (.str "line" 436), (.str "text" 437)] 0), #[]⟩
def o105_f (P : Params) : Obj := ⟨(.type "dict"), none, (.dict #[⟨PyData.keyHash P "__module__", (.str "__module__" 396), (.str "corecc.scanner" 252)⟩, ⟨PyData.keyHash P "__firstlineno__", (.str "__firstlineno__" 400), (.int 25 399)⟩, ⟨PyData.keyHash P "space", (.str "space" 401), (.bool false)⟩, ⟨PyData.keyHash P "starts", (.str "starts" 402), (.bool false)⟩, ⟨PyData.keyHash P "end_line", (.str "end_line" 404), (.int 0 403)⟩, ⟨PyData.keyHash P "hidden", (.str "hidden" 405), (.ref 82)⟩, ⟨PyData.keyHash P "value", (.str "value" 406), .none⟩, ⟨PyData.keyHash P "type", (.str "type" 407), .none⟩, ⟨PyData.keyHash P "__init__", (.str "__init__" 418), (.ref 89)⟩, ⟨PyData.keyHash P "copy", (.str "copy" 425), (.ref 96)⟩, ⟨PyData.keyHash P "is_punct", (.str "is_punct" 433), (.ref 103)⟩, ⟨PyData.keyHash P "__static_attributes__", (.str "__static_attributes__" 438), (.ref 104)⟩, ⟨PyData.keyHash P "__dict__", (.str "__dict__" 440), (.ref 107)⟩, ⟨PyData.keyHash P "__weakref__", (.str "__weakref__" 442), (.ref 108)⟩, ⟨PyData.keyHash P "__doc__", (.str "__doc__" 443), .none⟩] 4), #[]⟩
def o106_f (P : Params) : Obj := ⟨(.type "type"), none, (.cls { name := "Token", bases := [(.type "object")], mro := [(.ref 106), (.type "object")], ns := 105, qualname := "Token", hasDict := true, slotNames := [], subclasses := [], abstract := false, collection := none, hasDel := false }), #[none, none, (some (.str "Token" 389)), (some (.str "Token" 397)), (some (.builtin "object.__new__")), (some (.bool true))]⟩
def o107_f (P : Params) : Obj := ⟨(.type "getset_descriptor"), none, (.fields #[(.str "__dict__" 439), (.ref 106), (.builtin "function.__dict__"), (.builtin "function.__dict__#set")]), #[]⟩
def o108_f (P : Params) : Obj := ⟨(.type "getset_descriptor"), none, (.fields #[(.str "__weakref__" 441), (.ref 106), (.builtin "ExceptionGroup.__weakref__"), .none]), #[]⟩
def o109_f (P : Params) : Obj := ⟨(.type "super"), none, (.fields #[(.ref 106), (.ref 106), (.ref 106)]), #[]⟩
def o110_f (P : Params) : Obj := ⟨(.type "builtin_function_or_method"), none, (.fields #[(.builtin "object.__init_subclass__"), (.ref 106)]), #[]⟩
def T_f (P : Params) : BT := (nd (boot_o_0 P) (nd (boot_o_1 P) (nd (o3_f P) (nd (boot_o_7 P) (nd (o15_a P) (nd (o31_a P) (nd (o63_b P) nl nl) (nd (o95_f P) nl nl)) (nd (o47_a P) (nd (o79_f P) nl nl) nl)) (nd (o23_a P) (nd (o39_a P) (nd (o71_d P) nl nl) (nd (o103_f P) nl nl)) (nd (o55_a P) (nd (o87_f P) nl nl) nl))) (nd (o11_z P) (nd (o19_a P) (nd (o35_a P) (nd (o67_c P) nl nl) (nd (o99_f P) nl nl)) (nd (o51_a P) (nd (o83_f P) nl nl) nl)) (nd (o27_a P) (nd (o43_a P) (nd (o75_f P) nl nl) (nd (o107_f P) nl nl)) (nd (o59_a P) (nd (o91_f P) nl nl) nl)))) (nd (boot_o_5 P) (nd (boot_o_9 P) (nd (o17_a P) (nd (o33_a P) (nd (setH P) nl nl) (nd (o97_f P) nl nl)) (nd (o49_a P) (nd (o81_f P) nl nl) nl)) (nd (o25_a P) (nd (o41_a P) (nd (setS P) nl nl) (nd (o105_f P) nl nl)) (nd (o57_a P) (nd (o89_f P) nl nl) nl))) (nd (o13_z P) (nd (o21_a P) (nd (o37_a P) (nd (setO P) nl nl) (nd (o101_f P) nl nl)) (nd (o53_a P) (nd (o85_f P) nl nl) nl)) (nd (o29_a P) (nd (o45_a P) (nd (o77_f P) nl nl) (nd (o109_f P) nl nl)) (nd (setD P) (nd (o93_f P) nl nl) nl))))) (nd (o2_a P) (nd (boot_o_4 P) (nd (boot_o_8 P) (nd (o16_a P) (nd (o32_a P) (nd (o64_b P) nl nl) (nd (o96_f P) nl nl)) (nd (o48_a P) (nd (o80_f P) nl nl) nl)) (nd (o24_a P) (nd (o40_a P) (nd (o72_d P) nl nl) (nd (o104_f P) nl nl)) (nd (o56_a P) (nd (o88_f P) nl nl) nl))) (nd (o12_f P) (nd (o20_a P) (nd (o36_a P) (nd (o68_c P) nl nl) (nd (o100_f P) nl nl)) (nd (o52_a P) (nd (o84_f P) nl nl) nl)) (nd (o28_a P) (nd (o44_a P) (nd (o76_f P) nl nl) (nd (o108_f P) nl nl)) (nd (o60_a P) (nd (o92_f P) nl nl) nl)))) (nd (boot_o_6 P) (nd (boot_o_10 P) (nd (o18_a P) (nd (o34_a P) (nd (o66_c P) nl nl) (nd (o98_f P) nl nl)) (nd (o50_a P) (nd (o82_f P) nl nl) nl)) (nd (o26_a P) (nd (o42_a P) (nd (o74_f P) nl nl) (nd (o106_f P) nl nl)) (nd (o58_a P) (nd (o90_f P) nl nl) nl))) (nd (o14_z P) (nd (o22_a P) (nd (o38_a P) (nd (o70_d P) nl nl) (nd (o102_f P) nl nl)) (nd (o54_a P) (nd (o86_f P) nl nl) nl)) (nd (o30_a P) (nd (o46_a P) (nd (o78_f P) nl nl) (nd (o110_f P) nl nl)) (nd (o62_b P) (nd (o94_f P) nl nl) nl))))))
def S_f (w : World) (os : OsState) : SharedT := ⟨T_f w.params, 111, life0, Array.mk [], boot_drawn, 446, os⟩
def o3_g (P : Params) : Obj := ⟨(.type "dict"), none, (.dict #[⟨PyData.keyHash P "__name__", (.str "__name__" 165), (.str "corecc.preprocess" 497)⟩, ⟨PyData.keyHash P "__doc__", (.str "__doc__" 166), .none⟩, ⟨PyData.keyHash P "__package__", (.str "__package__" 167), .none⟩, ⟨PyData.keyHash P "__loader__", (.str "__loader__" 168), (.builtin "__main__.__loader__#opaque")⟩, ⟨PyData.keyHash P "__spec__", (.str "__spec__" 169), .none⟩, ⟨PyData.keyHash P "__annotations__", (.str "__annotations__" 170), (.ref 6)⟩, ⟨PyData.keyHash P "__builtins__", (.str "__builtins__" 171), (.ref 4)⟩, ⟨PyData.keyHash P "__file__", (.str "__file__" 173), (.str "/claim/cut.py" 172)⟩, ⟨PyData.keyHash P "__cached__", (.str "__cached__" 174), .none⟩, ⟨PyData.keyHash P "_wall", (.str "_wall" 193), (.ref 21)⟩, ⟨PyData.keyHash P "CompileFault", (.str "CompileFault" 235), (.ref 45)⟩, ⟨PyData.keyHash P "DirectiveFault", (.str "DirectiveFault" 251), (.ref 58)⟩, ⟨PyData.keyHash P "DIGITS", (.str "DIGITS" 275), (.ref 61)⟩, ⟨PyData.keyHash P "HEX_DIGITS", (.str "HEX_DIGITS" 321), (.ref 65)⟩, ⟨PyData.keyHash P "OCTAL_DIGITS", (.str "OCTAL_DIGITS" 339), (.ref 69)⟩, ⟨PyData.keyHash P "SUFFIXES", (.str "SUFFIXES" 350), (.ref 73)⟩, ⟨PyData.keyHash P "MOST_OCTET", (.str "MOST_OCTET" 352), (.int 255 351)⟩, ⟨PyData.keyHash P "MOST_WIDE", (.str "MOST_WIDE" 354), (.int 4294967295 353)⟩, ⟨PyData.keyHash P "ESCAPES", (.str "ESCAPES" 388), (.ref 74)⟩, ⟨PyData.keyHash P "Token", (.str "Token" 445), (.ref 106)⟩, ⟨PyData.keyHash P "number_parts", (.str "number_parts" 459), (.ref 117)⟩, ⟨PyData.keyHash P "escape_at", (.str "escape_at" 469), (.ref 124)⟩, ⟨PyData.keyHash P "literal_values", (.str "literal_values" 482), (.ref 131)⟩, ⟨PyData.keyHash P "literal_octets", (.str "literal_octets" 489), (.ref 138)⟩, ⟨PyData.keyHash P "wide_values", (.str "wide_values" 496), (.ref 145)⟩, ⟨PyData.keyHash P "ALL_BITS", (.str "ALL_BITS" 500), (.int 4294967295 499)⟩, ⟨PyData.keyHash P "TOP_BIT", (.str "TOP_BIT" 502), (.int 2147483648 501)⟩, ⟨PyData.keyHash P "LEVELS", (.str "LEVELS" 557), (.ref 146)⟩, ⟨PyData.keyHash P "SIGNS_AHEAD", (.str "SIGNS_AHEAD" 570), (.ref 148)⟩] 29), #[]⟩
def o12_g (P : Params) : Obj := ⟨.none, none, (.fields #[(.int 1 0), (.int 0 0), (.ref 20), (.int 5 0), (.int 0 0), (.ref 27), (.int 15 0), (.int 0 0), (.ref 54), (.int 25 0), (.int 0 0), (.ref 80), (.int 44 0), (.int 0 0), (.ref 116), (.int 65 0), (.int 0 0), (.ref 123), (.int 80 0), (.int 0 0), (.ref 130), (.int 94 0), (.int 0 0), (.ref 137), (.int 96 0), (.int 0 0), (.ref 144)]), #[]⟩
def o111_g (P : Params) : Obj := ⟨(.type "tuple"), none, (.seq #[] 0), #[]⟩
def o112_g (P : Params) : Obj := ⟨.none, none, (.fields #[]), #[]⟩
def o113_g (P : Params) : Obj := ⟨(.type "tuple"), none, (.seq #[(.str "text" 449), (.str "end" 450), (.str "digits" 451), (.str "suffix" 452), (.str "base" 453), (.str "good" 454), (.str "value" 455), (.str "sign" 456)] 0), #[]⟩
def o114_g (P : Params) : Obj := ⟨(.type "tuple"), none, (.seq #[] 0), #[]⟩
def o115_g (P : Params) : Obj := ⟨.none, none, (.func { name := "number_parts", qualname := "number_parts", params := pA (D 13), body := .stmts (pB (D 13)), scope := pS (D 13), globals := 0, closure := [], defaults := .none, kwdefaults := .none, doc := .none, pyModule := .none, annotations := none, code := .none, closureTuple := .none, builtins := 0 }), #[]⟩
def o116_g (P : Params) : Obj := ⟨(.type "code"), none, (.fields #[(.str "number_parts" 446), (.str "number_parts" 447), (.str "/claim/cut.py" 448), (.int 44 0), (.int 1 0), (.int 0 0), (.int 0 0), (.int 3 0), (.ref 111), (.bool true), (.int 181 0), (.ref 112), .none, (.ref 113), (.ref 114), (.ref 115), (.int 457 0), (.int 44 0), (.str "/claim/cut.py" 458)]), #[]⟩
def o117_g (P : Params) : Obj := ⟨(.type "function"), none, (.func { name := "number_parts", qualname := "number_parts", params := pA (D 13), body := .stmts (pB (D 13)), scope := pS (D 13), globals := 3, closure := [], defaults := .none, kwdefaults := .none, doc := .none, pyModule := (.str "corecc.scanner" 252), annotations := none, code := (.ref 116), closureTuple := .none, builtins := 0 }), #[]⟩
def o118_g (P : Params) : Obj := ⟨(.type "tuple"), none, (.seq #[] 0), #[]⟩
def o119_g (P : Params) : Obj := ⟨.none, none, (.fields #[]), #[]⟩
def o120_g (P : Params) : Obj := ⟨(.type "tuple"), none, (.seq #[(.str "inner" 463), (.str "at" 464), (.str "sign" 465), (.str "end" 466)] 0), #[]⟩
def o121_g (P : Params) : Obj := ⟨(.type "tuple"), none, (.seq #[] 0), #[]⟩
def o122_g (P : Params) : Obj := ⟨.none, none, (.func { name := "escape_at", qualname := "escape_at", params := pA (D 14), body := .stmts (pB (D 14)), scope := pS (D 14), globals := 0, closure := [], defaults := .none, kwdefaults := .none, doc := .none, pyModule := .none, annotations := none, code := .none, closureTuple := .none, builtins := 0 }), #[]⟩
def o123_g (P : Params) : Obj := ⟨(.type "code"), none, (.fields #[(.str "escape_at" 460), (.str "escape_at" 461), (.str "/claim/cut.py" 462), (.int 65 0), (.int 2 0), (.int 0 0), (.int 0 0), (.int 3 0), (.ref 118), (.bool true), (.int 181 0), (.ref 119), .none, (.ref 120), (.ref 121), (.ref 122), (.int 467 0), (.int 65 0), (.str "/claim/cut.py" 468)]), #[]⟩
def o124_g (P : Params) : Obj := ⟨(.type "function"), none, (.func { name := "escape_at", qualname := "escape_at", params := pA (D 14), body := .stmts (pB (D 14)), scope := pS (D 14), globals := 3, closure := [], defaults := .none, kwdefaults := .none, doc := .none, pyModule := (.str "corecc.scanner" 252), annotations := none, code := (.ref 123), closureTuple := .none, builtins := 0 }), #[]⟩
def o125_g (P : Params) : Obj := ⟨(.type "tuple"), none, (.seq #[] 0), #[]⟩
def o126_g (P : Params) : Obj := ⟨.none, none, (.fields #[]), #[]⟩
def o127_g (P : Params) : Obj := ⟨(.type "tuple"), none, (.seq #[(.str "text" 473), (.str "most" 474), (.str "inner" 475), (.str "found" 476), (.str "at" 477), (.str "told" 478), (.str "value" 479)] 0), #[]⟩
def o128_g (P : Params) : Obj := ⟨(.type "tuple"), none, (.seq #[] 0), #[]⟩
def o129_g (P : Params) : Obj := ⟨.none, none, (.func { name := "literal_values", qualname := "literal_values", params := pA (D 15), body := .stmts (pB (D 15)), scope := pS (D 15), globals := 0, closure := [], defaults := .none, kwdefaults := .none, doc := .none, pyModule := .none, annotations := none, code := .none, closureTuple := .none, builtins := 0 }), #[]⟩
def o130_g (P : Params) : Obj := ⟨(.type "code"), none, (.fields #[(.str "literal_values" 470), (.str "literal_values" 471), (.str "/claim/cut.py" 472), (.int 80 0), (.int 2 0), (.int 0 0), (.int 0 0), (.int 3 0), (.ref 125), (.bool true), (.int 181 0), (.ref 126), .none, (.ref 127), (.ref 128), (.ref 129), (.int 480 0), (.int 80 0), (.str "/claim/cut.py" 481)]), #[]⟩
def o131_g (P : Params) : Obj := ⟨(.type "function"), none, (.func { name := "literal_values", qualname := "literal_values", params := pA (D 15), body := .stmts (pB (D 15)), scope := pS (D 15), globals := 3, closure := [], defaults := .none, kwdefaults := .none, doc := .none, pyModule := (.str "corecc.scanner" 252), annotations := none, code := (.ref 130), closureTuple := .none, builtins := 0 }), #[]⟩
def o132_g (P : Params) : Obj := ⟨(.type "tuple"), none, (.seq #[] 0), #[]⟩
def o133_g (P : Params) : Obj := ⟨.none, none, (.fields #[]), #[]⟩
def o134_g (P : Params) : Obj := ⟨(.type "tuple"), none, (.seq #[(.str "text" 486)] 0), #[]⟩
def o135_g (P : Params) : Obj := ⟨(.type "tuple"), none, (.seq #[] 0), #[]⟩
def o136_g (P : Params) : Obj := ⟨.none, none, (.func { name := "literal_octets", qualname := "literal_octets", params := pA (D 16), body := .stmts (pB (D 16)), scope := pS (D 16), globals := 0, closure := [], defaults := .none, kwdefaults := .none, doc := .none, pyModule := .none, annotations := none, code := .none, closureTuple := .none, builtins := 0 }), #[]⟩
def o137_g (P : Params) : Obj := ⟨(.type "code"), none, (.fields #[(.str "literal_octets" 483), (.str "literal_octets" 484), (.str "/claim/cut.py" 485), (.int 94 0), (.int 1 0), (.int 0 0), (.int 0 0), (.int 3 0), (.ref 132), (.bool true), (.int 181 0), (.ref 133), .none, (.ref 134), (.ref 135), (.ref 136), (.int 487 0), (.int 94 0), (.str "/claim/cut.py" 488)]), #[]⟩
def o138_g (P : Params) : Obj := ⟨(.type "function"), none, (.func { name := "literal_octets", qualname := "literal_octets", params := pA (D 16), body := .stmts (pB (D 16)), scope := pS (D 16), globals := 3, closure := [], defaults := .none, kwdefaults := .none, doc := .none, pyModule := (.str "corecc.scanner" 252), annotations := none, code := (.ref 137), closureTuple := .none, builtins := 0 }), #[]⟩
def o139_g (P : Params) : Obj := ⟨(.type "tuple"), none, (.seq #[] 0), #[]⟩
def o140_g (P : Params) : Obj := ⟨.none, none, (.fields #[]), #[]⟩
def o141_g (P : Params) : Obj := ⟨(.type "tuple"), none, (.seq #[(.str "text" 493)] 0), #[]⟩
def o142_g (P : Params) : Obj := ⟨(.type "tuple"), none, (.seq #[] 0), #[]⟩
def o143_g (P : Params) : Obj := ⟨.none, none, (.func { name := "wide_values", qualname := "wide_values", params := pA (D 17), body := .stmts (pB (D 17)), scope := pS (D 17), globals := 0, closure := [], defaults := .none, kwdefaults := .none, doc := .none, pyModule := .none, annotations := none, code := .none, closureTuple := .none, builtins := 0 }), #[]⟩
def o144_g (P : Params) : Obj := ⟨(.type "code"), none, (.fields #[(.str "wide_values" 490), (.str "wide_values" 491), (.str "/claim/cut.py" 492), (.int 96 0), (.int 1 0), (.int 0 0), (.int 0 0), (.int 3 0), (.ref 139), (.bool true), (.int 181 0), (.ref 140), .none, (.ref 141), (.ref 142), (.ref 143), (.int 494 0), (.int 96 0), (.str "/claim/cut.py" 495)]), #[]⟩
def o145_g (P : Params) : Obj := ⟨(.type "function"), none, (.func { name := "wide_values", qualname := "wide_values", params := pA (D 17), body := .stmts (pB (D 17)), scope := pS (D 17), globals := 3, closure := [], defaults := .none, kwdefaults := .none, doc := .none, pyModule := (.str "corecc.scanner" 252), annotations := none, code := (.ref 144), closureTuple := .none, builtins := 0 }), #[]⟩
def o146_g (P : Params) : Obj := ⟨(.type "dict"), none, (.dict #[⟨PyData.keyHash P "*", (.str "*" 503), (.int 10 504)⟩, ⟨PyData.keyHash P "/", (.str "/" 506), (.int 10 507)⟩, ⟨PyData.keyHash P "%", (.str "%" 509), (.int 10 510)⟩, ⟨PyData.keyHash P "+", (.str "+" 512), (.int 9 513)⟩, ⟨PyData.keyHash P "-", (.str "-" 515), (.int 9 516)⟩, ⟨PyData.keyHash P "<<", (.str "<<" 518), (.int 8 519)⟩, ⟨PyData.keyHash P ">>", (.str ">>" 521), (.int 8 522)⟩, ⟨PyData.keyHash P "<", (.str "<" 524), (.int 7 525)⟩, ⟨PyData.keyHash P "<=", (.str "<=" 527), (.int 7 528)⟩, ⟨PyData.keyHash P ">", (.str ">" 530), (.int 7 531)⟩, ⟨PyData.keyHash P ">=", (.str ">=" 533), (.int 7 534)⟩, ⟨PyData.keyHash P "==", (.str "==" 536), (.int 6 537)⟩, ⟨PyData.keyHash P "!=", (.str "!=" 539), (.int 6 540)⟩, ⟨PyData.keyHash P "&", (.str "&" 542), (.int 5 543)⟩, ⟨PyData.keyHash P "^", (.str "^" 545), (.int 4 546)⟩, ⟨PyData.keyHash P "|", (.str "|" 548), (.int 3 549)⟩, ⟨PyData.keyHash P "&&", (.str "&&" 551), (.int 2 552)⟩, ⟨PyData.keyHash P "||", (.str "||" 554), (.int 1 555)⟩] 18), #[]⟩
def o147_g (P : Params) : Obj := ⟨(.type "dict"), none, (.dict #[⟨PyData.keyHash P "||", (.str "||" 554), (.int 1 555)⟩] 1), #[]⟩
def o148_g (P : Params) : Obj := ⟨(.type "dict"), none, (.dict #[⟨PyData.keyHash P "+", (.str "+" 558), (.str "plus" 559)⟩, ⟨PyData.keyHash P "-", (.str "-" 560), (.str "minus" 561)⟩, ⟨PyData.keyHash P "!", (.str "!" 562), (.str "not" 563)⟩, ⟨PyData.keyHash P "~", (.str "~" 564), (.str "turned" 565)⟩] 4), #[]⟩
def T_g (P : Params) : BT := (nd (boot_o_0 P) (nd (boot_o_1 P) (nd (o3_g P) (nd (boot_o_7 P) (nd (o15_a P) (nd (o31_a P) (nd (o63_b P) (nd (o127_g P) nl nl) nl) (nd (o95_f P) nl nl)) (nd (o47_a P) (nd (o79_f P) (nd (o143_g P) nl nl) nl) (nd (o111_g P) nl nl))) (nd (o23_a P) (nd (o39_a P) (nd (o71_d P) (nd (o135_g P) nl nl) nl) (nd (o103_f P) nl nl)) (nd (o55_a P) (nd (o87_f P) nl nl) (nd (o119_g P) nl nl)))) (nd (o11_z P) (nd (o19_a P) (nd (o35_a P) (nd (o67_c P) (nd (o131_g P) nl nl) nl) (nd (o99_f P) nl nl)) (nd (o51_a P) (nd (o83_f P) (nd (o147_g P) nl nl) nl) (nd (o115_g P) nl nl))) (nd (o27_a P) (nd (o43_a P) (nd (o75_f P) (nd (o139_g P) nl nl) nl) (nd (o107_f P) nl nl)) (nd (o59_a P) (nd (o91_f P) nl nl) (nd (o123_g P) nl nl))))) (nd (boot_o_5 P) (nd (boot_o_9 P) (nd (o17_a P) (nd (o33_a P) (nd (setH P) (nd (o129_g P) nl nl) nl) (nd (o97_f P) nl nl)) (nd (o49_a P) (nd (o81_f P) (nd (o145_g P) nl nl) nl) (nd (o113_g P) nl nl))) (nd (o25_a P) (nd (o41_a P) (nd (setS P) (nd (o137_g P) nl nl) nl) (nd (o105_f P) nl nl)) (nd (o57_a P) (nd (o89_f P) nl nl) (nd (o121_g P) nl nl)))) (nd (o13_z P) (nd (o21_a P) (nd (o37_a P) (nd (setO P) (nd (o133_g P) nl nl) nl) (nd (o101_f P) nl nl)) (nd (o53_a P) (nd (o85_f P) nl nl) (nd (o117_g P) nl nl))) (nd (o29_a P) (nd (o45_a P) (nd (o77_f P) (nd (o141_g P) nl nl) nl) (nd (o109_f P) nl nl)) (nd (setD P) (nd (o93_f P) nl nl) (nd (o125_g P) nl nl)))))) (nd (o2_a P) (nd (boot_o_4 P) (nd (boot_o_8 P) (nd (o16_a P) (nd (o32_a P) (nd (o64_b P) (nd (o128_g P) nl nl) nl) (nd (o96_f P) nl nl)) (nd (o48_a P) (nd (o80_f P) (nd (o144_g P) nl nl) nl) (nd (o112_g P) nl nl))) (nd (o24_a P) (nd (o40_a P) (nd (o72_d P) (nd (o136_g P) nl nl) nl) (nd (o104_f P) nl nl)) (nd (o56_a P) (nd (o88_f P) nl nl) (nd (o120_g P) nl nl)))) (nd (o12_g P) (nd (o20_a P) (nd (o36_a P) (nd (o68_c P) (nd (o132_g P) nl nl) nl) (nd (o100_f P) nl nl)) (nd (o52_a P) (nd (o84_f P) (nd (o148_g P) nl nl) nl) (nd (o116_g P) nl nl))) (nd (o28_a P) (nd (o44_a P) (nd (o76_f P) (nd (o140_g P) nl nl) nl) (nd (o108_f P) nl nl)) (nd (o60_a P) (nd (o92_f P) nl nl) (nd (o124_g P) nl nl))))) (nd (boot_o_6 P) (nd (boot_o_10 P) (nd (o18_a P) (nd (o34_a P) (nd (o66_c P) (nd (o130_g P) nl nl) nl) (nd (o98_f P) nl nl)) (nd (o50_a P) (nd (o82_f P) (nd (o146_g P) nl nl) nl) (nd (o114_g P) nl nl))) (nd (o26_a P) (nd (o42_a P) (nd (o74_f P) (nd (o138_g P) nl nl) nl) (nd (o106_f P) nl nl)) (nd (o58_a P) (nd (o90_f P) nl nl) (nd (o122_g P) nl nl)))) (nd (o14_z P) (nd (o22_a P) (nd (o38_a P) (nd (o70_d P) (nd (o134_g P) nl nl) nl) (nd (o102_f P) nl nl)) (nd (o54_a P) (nd (o86_f P) nl nl) (nd (o118_g P) nl nl))) (nd (o30_a P) (nd (o46_a P) (nd (o78_f P) (nd (o142_g P) nl nl) nl) (nd (o110_f P) nl nl)) (nd (o62_b P) (nd (o94_f P) nl nl) (nd (o126_g P) nl nl)))))))
def S_g (w : World) (os : OsState) : SharedT := ⟨T_g w.params, 149, life0, Array.mk [], boot_drawn, 571, os⟩
def o3_h (P : Params) : Obj := ⟨(.type "dict"), none, (.dict #[⟨PyData.keyHash P "__name__", (.str "__name__" 165), (.str "corecc.preprocess" 497)⟩, ⟨PyData.keyHash P "__doc__", (.str "__doc__" 166), .none⟩, ⟨PyData.keyHash P "__package__", (.str "__package__" 167), .none⟩, ⟨PyData.keyHash P "__loader__", (.str "__loader__" 168), (.builtin "__main__.__loader__#opaque")⟩, ⟨PyData.keyHash P "__spec__", (.str "__spec__" 169), .none⟩, ⟨PyData.keyHash P "__annotations__", (.str "__annotations__" 170), (.ref 6)⟩, ⟨PyData.keyHash P "__builtins__", (.str "__builtins__" 171), (.ref 4)⟩, ⟨PyData.keyHash P "__file__", (.str "__file__" 173), (.str "/claim/cut.py" 172)⟩, ⟨PyData.keyHash P "__cached__", (.str "__cached__" 174), .none⟩, ⟨PyData.keyHash P "_wall", (.str "_wall" 193), (.ref 21)⟩, ⟨PyData.keyHash P "CompileFault", (.str "CompileFault" 235), (.ref 45)⟩, ⟨PyData.keyHash P "DirectiveFault", (.str "DirectiveFault" 251), (.ref 58)⟩, ⟨PyData.keyHash P "DIGITS", (.str "DIGITS" 275), (.ref 61)⟩, ⟨PyData.keyHash P "HEX_DIGITS", (.str "HEX_DIGITS" 321), (.ref 65)⟩, ⟨PyData.keyHash P "OCTAL_DIGITS", (.str "OCTAL_DIGITS" 339), (.ref 69)⟩, ⟨PyData.keyHash P "SUFFIXES", (.str "SUFFIXES" 350), (.ref 73)⟩, ⟨PyData.keyHash P "MOST_OCTET", (.str "MOST_OCTET" 352), (.int 255 351)⟩, ⟨PyData.keyHash P "MOST_WIDE", (.str "MOST_WIDE" 354), (.int 4294967295 353)⟩, ⟨PyData.keyHash P "ESCAPES", (.str "ESCAPES" 388), (.ref 74)⟩, ⟨PyData.keyHash P "Token", (.str "Token" 445), (.ref 106)⟩, ⟨PyData.keyHash P "number_parts", (.str "number_parts" 459), (.ref 117)⟩, ⟨PyData.keyHash P "escape_at", (.str "escape_at" 469), (.ref 124)⟩, ⟨PyData.keyHash P "literal_values", (.str "literal_values" 482), (.ref 131)⟩, ⟨PyData.keyHash P "literal_octets", (.str "literal_octets" 489), (.ref 138)⟩, ⟨PyData.keyHash P "wide_values", (.str "wide_values" 496), (.ref 145)⟩, ⟨PyData.keyHash P "ALL_BITS", (.str "ALL_BITS" 500), (.int 4294967295 499)⟩, ⟨PyData.keyHash P "TOP_BIT", (.str "TOP_BIT" 502), (.int 2147483648 501)⟩, ⟨PyData.keyHash P "LEVELS", (.str "LEVELS" 557), (.ref 146)⟩, ⟨PyData.keyHash P "SIGNS_AHEAD", (.str "SIGNS_AHEAD" 570), (.ref 148)⟩, ⟨PyData.keyHash P "Value", (.str "Value" 603), (.ref 165)⟩, ⟨PyData.keyHash P "truth", (.str "truth" 611), (.ref 176)⟩, ⟨PyData.keyHash P "quotient", (.str "quotient" 620), (.ref 183)⟩, ⟨PyData.keyHash P "one_sided", (.str "one_sided" 628), (.ref 190)⟩, ⟨PyData.keyHash P "compared", (.str "compared" 637), (.ref 197)⟩, ⟨PyData.keyHash P "two_sided", (.str "two_sided" 651), (.ref 204)⟩, ⟨PyData.keyHash P "chosen", (.str "chosen" 661), (.ref 211)⟩] 36), #[]⟩
def o12_h (P : Params) : Obj := ⟨.none, none, (.fields #[(.int 1 0), (.int 0 0), (.ref 20), (.int 5 0), (.int 0 0), (.ref 27), (.int 15 0), (.int 0 0), (.ref 54), (.int 25 0), (.int 0 0), (.ref 80), (.int 44 0), (.int 0 0), (.ref 116), (.int 65 0), (.int 0 0), (.ref 123), (.int 80 0), (.int 0 0), (.ref 130), (.int 94 0), (.int 0 0), (.ref 137), (.int 96 0), (.int 0 0), (.ref 144), (.int 103 0), (.int 0 0), (.ref 154), (.int 112 0), (.int 0 0), (.ref 175), (.int 114 0), (.int 0 0), (.ref 182), (.int 117 0), (.int 0 0), (.ref 189), (.int 125 0), (.int 0 0), (.ref 196), (.int 135 0), (.int 0 0), (.ref 203), (.int 165 0), (.int 0 0), (.ref 210)]), #[]⟩
def o149_h (P : Params) : Obj := ⟨(.type "tuple"), none, (.seq #[] 0), #[]⟩
def o150_h (P : Params) : Obj := ⟨(.type "builtin_function_or_method"), none, (.fields #[(.builtin "type.__prepare__"), (.type "type")]), #[]⟩
def o151_h (P : Params) : Obj := ⟨(.type "dict"), none, (.dict #[⟨PyData.keyHash P "__module__", (.str "__module__" 578), (.str "corecc.preprocess" 497)⟩, ⟨PyData.keyHash P "__qualname__", (.str "__qualname__" 580), (.str "Value" 579)⟩, ⟨PyData.keyHash P "__firstlineno__", (.str "__firstlineno__" 582), (.int 103 581)⟩, ⟨PyData.keyHash P "__init__", (.str "__init__" 592), (.ref 162)⟩, ⟨PyData.keyHash P "__static_attributes__", (.str "__static_attributes__" 596), (.ref 163)⟩] 5), #[]⟩
def o152_h (P : Params) : Obj := ⟨(.type "tuple"), none, (.seq #[] 0), #[]⟩
def o153_h (P : Params) : Obj := ⟨.none, none, (.fields #[(.int 105 0), (.int 4 0), (.ref 161)]), #[]⟩
def o154_h (P : Params) : Obj := ⟨(.type "code"), none, (.fields #[(.str "Value" 573), (.str "Value" 574), (.str "/claim/cut.py" 575), (.int 103 0), (.int 0 0), (.int 0 0), (.int 0 0), (.int 0 0), (.ref 152), (.bool false), (.int 181 0), (.ref 153), .none, .none, .none, .none, (.int 576 0), (.int 103 0), (.str "/claim/cut.py" 577)]), #[]⟩
def o155_h (P : Params) : Obj := ⟨(.type "frame"), none, .plain, #[(some (.ref 154)), (some (.ref 3)), (some (.ref 151)), none, (some (.str "corecc.preprocess" 497)), none, (some (.ref 0))]⟩
def o156_h (P : Params) : Obj := ⟨(.type "tuple"), none, (.seq #[] 0), #[]⟩
def o157_h (P : Params) : Obj := ⟨.none, none, (.fields #[]), #[]⟩
def o158_h (P : Params) : Obj := ⟨(.type "tuple"), none, (.seq #[(.str "self" 586), (.str "number" 587), (.str "is_unsigned" 588), (.str "is_bad" 589)] 0), #[]⟩
def o159_h (P : Params) : Obj := ⟨(.type "tuple"), none, (.seq #[] 0), #[]⟩
def o160_h (P : Params) : Obj := ⟨.none, none, (.func { name := "__init__", qualname := "Value.__init__", params := pA (M 23 0), body := .stmts (pB (M 23 0)), scope := pS (M 23 0), globals := 0, closure := [], defaults := .none, kwdefaults := .none, doc := .none, pyModule := .none, annotations := none, code := .none, closureTuple := .none, builtins := 0 }), #[]⟩
def o161_h (P : Params) : Obj := ⟨(.type "code"), none, (.fields #[(.str "__init__" 583), (.str "Value.__init__" 584), (.str "/claim/cut.py" 585), (.int 105 0), (.int 4 0), (.int 0 0), (.int 0 0), (.int 3 0), (.ref 156), (.bool true), (.int 181 0), (.ref 157), .none, (.ref 158), (.ref 159), (.ref 160), (.int 590 0), (.int 105 0), (.str "/claim/cut.py" 591)]), #[]⟩
def o162_h (P : Params) : Obj := ⟨(.type "function"), none, (.func { name := "__init__", qualname := "Value.__init__", params := pA (M 23 0), body := .stmts (pB (M 23 0)), scope := pS (M 23 0), globals := 3, closure := [], defaults := .none, kwdefaults := .none, doc := .none, pyModule := (.str "corecc.preprocess" 497), annotations := none, code := (.ref 161), closureTuple := .none, builtins := 0 }), #[]⟩
def o163_h (P : Params) : Obj := ⟨(.type "tuple"), none, (.seq #[(.str "is_bad" 593), (.str "is_unsigned" 594), (.str "number" 595)] 0), #[]⟩
def o164_h (P : Params) : Obj := ⟨(.type "dict"), none, (.dict #[⟨PyData.keyHash P "__module__", (.str "__module__" 578), (.str "corecc.preprocess" 497)⟩, ⟨PyData.keyHash P "__firstlineno__", (.str "__firstlineno__" 582), (.int 103 581)⟩, ⟨PyData.keyHash P "__init__", (.str "__init__" 592), (.ref 162)⟩, ⟨PyData.keyHash P "__static_attributes__", (.str "__static_attributes__" 596), (.ref 163)⟩, ⟨PyData.keyHash P "__dict__", (.str "__dict__" 598), (.ref 166)⟩, ⟨PyData.keyHash P "__weakref__", (.str "__weakref__" 600), (.ref 167)⟩, ⟨PyData.keyHash P "__doc__", (.str "__doc__" 601), .none⟩] 4), #[]⟩
def o165_h (P : Params) : Obj := ⟨(.type "type"), none, (.cls { name := "Value", bases := [(.type "object")], mro := [(.ref 165), (.type "object")], ns := 164, qualname := "Value", hasDict := true, slotNames := [], subclasses := [], abstract := false, collection := none, hasDel := false }), #[none, none, (some (.str "Value" 571)), (some (.str "Value" 579)), (some (.builtin "object.__new__")), (some (.bool true))]⟩
def o166_h (P : Params) : Obj := ⟨(.type "getset_descriptor"), none, (.fields #[(.str "__dict__" 597), (.ref 165), (.builtin "function.__dict__"), (.builtin "function.__dict__#set")]), #[]⟩
def o167_h (P : Params) : Obj := ⟨(.type "getset_descriptor"), none, (.fields #[(.str "__weakref__" 599), (.ref 165), (.builtin "ExceptionGroup.__weakref__"), .none]), #[]⟩
def o168_h (P : Params) : Obj := ⟨(.type "super"), none, (.fields #[(.ref 165), (.ref 165), (.ref 165)]), #[]⟩
def o169_h (P : Params) : Obj := ⟨(.type "builtin_function_or_method"), none, (.fields #[(.builtin "object.__init_subclass__"), (.ref 165)]), #[]⟩
def o170_h (P : Params) : Obj := ⟨(.type "tuple"), none, (.seq #[] 0), #[]⟩
def o171_h (P : Params) : Obj := ⟨.none, none, (.fields #[]), #[]⟩
def o172_h (P : Params) : Obj := ⟨(.type "tuple"), none, (.seq #[(.str "is_so" 607), (.str "is_bad" 608)] 0), #[]⟩
def o173_h (P : Params) : Obj := ⟨(.type "tuple"), none, (.seq #[] 0), #[]⟩
def o174_h (P : Params) : Obj := ⟨.none, none, (.func { name := "truth", qualname := "truth", params := pA (D 24), body := .stmts (pB (D 24)), scope := pS (D 24), globals := 0, closure := [], defaults := .none, kwdefaults := .none, doc := .none, pyModule := .none, annotations := none, code := .none, closureTuple := .none, builtins := 0 }), #[]⟩
def o175_h (P : Params) : Obj := ⟨(.type "code"), none, (.fields #[(.str "truth" 604), (.str "truth" 605), (.str "/claim/cut.py" 606), (.int 112 0), (.int 2 0), (.int 0 0), (.int 0 0), (.int 3 0), (.ref 170), (.bool true), (.int 181 0), (.ref 171), .none, (.ref 172), (.ref 173), (.ref 174), (.int 609 0), (.int 112 0), (.str "/claim/cut.py" 610)]), #[]⟩
def o176_h (P : Params) : Obj := ⟨(.type "function"), none, (.func { name := "truth", qualname := "truth", params := pA (D 24), body := .stmts (pB (D 24)), scope := pS (D 24), globals := 3, closure := [], defaults := .none, kwdefaults := .none, doc := .none, pyModule := (.str "corecc.preprocess" 497), annotations := none, code := (.ref 175), closureTuple := .none, builtins := 0 }), #[]⟩
def o177_h (P : Params) : Obj := ⟨(.type "tuple"), none, (.seq #[] 0), #[]⟩
def o178_h (P : Params) : Obj := ⟨.none, none, (.fields #[]), #[]⟩
def o179_h (P : Params) : Obj := ⟨(.type "tuple"), none, (.seq #[(.str "one" 615), (.str "two" 616), (.str "found" 617)] 0), #[]⟩
def o180_h (P : Params) : Obj := ⟨(.type "tuple"), none, (.seq #[] 0), #[]⟩
def o181_h (P : Params) : Obj := ⟨.none, none, (.func { name := "quotient", qualname := "quotient", params := pA (D 25), body := .stmts (pB (D 25)), scope := pS (D 25), globals := 0, closure := [], defaults := .none, kwdefaults := .none, doc := .none, pyModule := .none, annotations := none, code := .none, closureTuple := .none, builtins := 0 }), #[]⟩
def o182_h (P : Params) : Obj := ⟨(.type "code"), none, (.fields #[(.str "quotient" 612), (.str "quotient" 613), (.str "/claim/cut.py" 614), (.int 114 0), (.int 2 0), (.int 0 0), (.int 0 0), (.int 3 0), (.ref 177), (.bool true), (.int 181 0), (.ref 178), .none, (.ref 179), (.ref 180), (.ref 181), (.int 618 0), (.int 114 0), (.str "/claim/cut.py" 619)]), #[]⟩
def o183_h (P : Params) : Obj := ⟨(.type "function"), none, (.func { name := "quotient", qualname := "quotient", params := pA (D 25), body := .stmts (pB (D 25)), scope := pS (D 25), globals := 3, closure := [], defaults := .none, kwdefaults := .none, doc := .none, pyModule := (.str "corecc.preprocess" 497), annotations := none, code := (.ref 182), closureTuple := .none, builtins := 0 }), #[]⟩
def o184_h (P : Params) : Obj := ⟨(.type "tuple"), none, (.seq #[] 0), #[]⟩
def o185_h (P : Params) : Obj := ⟨.none, none, (.fields #[]), #[]⟩
def o186_h (P : Params) : Obj := ⟨(.type "tuple"), none, (.seq #[(.str "word" 624), (.str "a" 625)] 0), #[]⟩
def o187_h (P : Params) : Obj := ⟨(.type "tuple"), none, (.seq #[] 0), #[]⟩
def o188_h (P : Params) : Obj := ⟨.none, none, (.func { name := "one_sided", qualname := "one_sided", params := pA (D 26), body := .stmts (pB (D 26)), scope := pS (D 26), globals := 0, closure := [], defaults := .none, kwdefaults := .none, doc := .none, pyModule := .none, annotations := none, code := .none, closureTuple := .none, builtins := 0 }), #[]⟩
def o189_h (P : Params) : Obj := ⟨(.type "code"), none, (.fields #[(.str "one_sided" 621), (.str "one_sided" 622), (.str "/claim/cut.py" 623), (.int 117 0), (.int 2 0), (.int 0 0), (.int 0 0), (.int 3 0), (.ref 184), (.bool true), (.int 181 0), (.ref 185), .none, (.ref 186), (.ref 187), (.ref 188), (.int 626 0), (.int 117 0), (.str "/claim/cut.py" 627)]), #[]⟩
def o190_h (P : Params) : Obj := ⟨(.type "function"), none, (.func { name := "one_sided", qualname := "one_sided", params := pA (D 26), body := .stmts (pB (D 26)), scope := pS (D 26), globals := 3, closure := [], defaults := .none, kwdefaults := .none, doc := .none, pyModule := (.str "corecc.preprocess" 497), annotations := none, code := (.ref 189), closureTuple := .none, builtins := 0 }), #[]⟩
def o191_h (P : Params) : Obj := ⟨(.type "tuple"), none, (.seq #[] 0), #[]⟩
def o192_h (P : Params) : Obj := ⟨.none, none, (.fields #[]), #[]⟩
def o193_h (P : Params) : Obj := ⟨(.type "tuple"), none, (.seq #[(.str "word" 632), (.str "one" 633), (.str "two" 634)] 0), #[]⟩
def o194_h (P : Params) : Obj := ⟨(.type "tuple"), none, (.seq #[] 0), #[]⟩
def o195_h (P : Params) : Obj := ⟨.none, none, (.func { name := "compared", qualname := "compared", params := pA (D 27), body := .stmts (pB (D 27)), scope := pS (D 27), globals := 0, closure := [], defaults := .none, kwdefaults := .none, doc := .none, pyModule := .none, annotations := none, code := .none, closureTuple := .none, builtins := 0 }), #[]⟩
def o196_h (P : Params) : Obj := ⟨(.type "code"), none, (.fields #[(.str "compared" 629), (.str "compared" 630), (.str "/claim/cut.py" 631), (.int 125 0), (.int 3 0), (.int 0 0), (.int 0 0), (.int 3 0), (.ref 191), (.bool true), (.int 181 0), (.ref 192), .none, (.ref 193), (.ref 194), (.ref 195), (.int 635 0), (.int 125 0), (.str "/claim/cut.py" 636)]), #[]⟩
def o197_h (P : Params) : Obj := ⟨(.type "function"), none, (.func { name := "compared", qualname := "compared", params := pA (D 27), body := .stmts (pB (D 27)), scope := pS (D 27), globals := 3, closure := [], defaults := .none, kwdefaults := .none, doc := .none, pyModule := (.str "corecc.preprocess" 497), annotations := none, code := (.ref 196), closureTuple := .none, builtins := 0 }), #[]⟩
def o198_h (P : Params) : Obj := ⟨(.type "tuple"), none, (.seq #[] 0), #[]⟩
def o199_h (P : Params) : Obj := ⟨.none, none, (.fields #[]), #[]⟩
def o200_h (P : Params) : Obj := ⟨(.type "tuple"), none, (.seq #[(.str "word" 641), (.str "a" 642), (.str "b" 643), (.str "is_bad" 644), (.str "is_unsigned" 645), (.str "one" 646), (.str "two" 647), (.str "found" 648)] 0), #[]⟩
def o201_h (P : Params) : Obj := ⟨(.type "tuple"), none, (.seq #[] 0), #[]⟩
def o202_h (P : Params) : Obj := ⟨.none, none, (.func { name := "two_sided", qualname := "two_sided", params := pA (D 28), body := .stmts (pB (D 28)), scope := pS (D 28), globals := 0, closure := [], defaults := .none, kwdefaults := .none, doc := .none, pyModule := .none, annotations := none, code := .none, closureTuple := .none, builtins := 0 }), #[]⟩
def o203_h (P : Params) : Obj := ⟨(.type "code"), none, (.fields #[(.str "two_sided" 638), (.str "two_sided" 639), (.str "/claim/cut.py" 640), (.int 135 0), (.int 3 0), (.int 0 0), (.int 0 0), (.int 3 0), (.ref 198), (.bool true), (.int 181 0), (.ref 199), .none, (.ref 200), (.ref 201), (.ref 202), (.int 649 0), (.int 135 0), (.str "/claim/cut.py" 650)]), #[]⟩
def o204_h (P : Params) : Obj := ⟨(.type "function"), none, (.func { name := "two_sided", qualname := "two_sided", params := pA (D 28), body := .stmts (pB (D 28)), scope := pS (D 28), globals := 3, closure := [], defaults := .none, kwdefaults := .none, doc := .none, pyModule := (.str "corecc.preprocess" 497), annotations := none, code := (.ref 203), closureTuple := .none, builtins := 0 }), #[]⟩
def o205_h (P : Params) : Obj := ⟨(.type "tuple"), none, (.seq #[] 0), #[]⟩
def o206_h (P : Params) : Obj := ⟨.none, none, (.fields #[]), #[]⟩
def o207_h (P : Params) : Obj := ⟨(.type "tuple"), none, (.seq #[(.str "test" 655), (.str "a" 656), (.str "b" 657), (.str "taken" 658)] 0), #[]⟩
def o208_h (P : Params) : Obj := ⟨(.type "tuple"), none, (.seq #[] 0), #[]⟩
def o209_h (P : Params) : Obj := ⟨.none, none, (.func { name := "chosen", qualname := "chosen", params := pA (D 29), body := .stmts (pB (D 29)), scope := pS (D 29), globals := 0, closure := [], defaults := .none, kwdefaults := .none, doc := .none, pyModule := .none, annotations := none, code := .none, closureTuple := .none, builtins := 0 }), #[]⟩
def o210_h (P : Params) : Obj := ⟨(.type "code"), none, (.fields #[(.str "chosen" 652), (.str "chosen" 653), (.str "/claim/cut.py" 654), (.int 165 0), (.int 3 0), (.int 0 0), (.int 0 0), (.int 3 0), (.ref 205), (.bool true), (.int 181 0), (.ref 206), .none, (.ref 207), (.ref 208), (.ref 209), (.int 659 0), (.int 165 0), (.str "/claim/cut.py" 660)]), #[]⟩
def o211_h (P : Params) : Obj := ⟨(.type "function"), none, (.func { name := "chosen", qualname := "chosen", params := pA (D 29), body := .stmts (pB (D 29)), scope := pS (D 29), globals := 3, closure := [], defaults := .none, kwdefaults := .none, doc := .none, pyModule := (.str "corecc.preprocess" 497), annotations := none, code := (.ref 210), closureTuple := .none, builtins := 0 }), #[]⟩
def T_h (P : Params) : BT := (nd (boot_o_0 P) (nd (boot_o_1 P) (nd (o3_h P) (nd (boot_o_7 P) (nd (o15_a P) (nd (o31_a P) (nd (o63_b P) (nd (o127_g P) nl nl) (nd (o191_h P) nl nl)) (nd (o95_f P) (nd (o159_h P) nl nl) nl)) (nd (o47_a P) (nd (o79_f P) (nd (o143_g P) nl nl) (nd (o207_h P) nl nl)) (nd (o111_g P) (nd (o175_h P) nl nl) nl))) (nd (o23_a P) (nd (o39_a P) (nd (o71_d P) (nd (o135_g P) nl nl) (nd (o199_h P) nl nl)) (nd (o103_f P) (nd (o167_h P) nl nl) nl)) (nd (o55_a P) (nd (o87_f P) (nd (o151_h P) nl nl) nl) (nd (o119_g P) (nd (o183_h P) nl nl) nl)))) (nd (o11_z P) (nd (o19_a P) (nd (o35_a P) (nd (o67_c P) (nd (o131_g P) nl nl) (nd (o195_h P) nl nl)) (nd (o99_f P) (nd (o163_h P) nl nl) nl)) (nd (o51_a P) (nd (o83_f P) (nd (o147_g P) nl nl) (nd (o211_h P) nl nl)) (nd (o115_g P) (nd (o179_h P) nl nl) nl))) (nd (o27_a P) (nd (o43_a P) (nd (o75_f P) (nd (o139_g P) nl nl) (nd (o203_h P) nl nl)) (nd (o107_f P) (nd (o171_h P) nl nl) nl)) (nd (o59_a P) (nd (o91_f P) (nd (o155_h P) nl nl) nl) (nd (o123_g P) (nd (o187_h P) nl nl) nl))))) (nd (boot_o_5 P) (nd (boot_o_9 P) (nd (o17_a P) (nd (o33_a P) (nd (setH P) (nd (o129_g P) nl nl) (nd (o193_h P) nl nl)) (nd (o97_f P) (nd (o161_h P) nl nl) nl)) (nd (o49_a P) (nd (o81_f P) (nd (o145_g P) nl nl) (nd (o209_h P) nl nl)) (nd (o113_g P) (nd (o177_h P) nl nl) nl))) (nd (o25_a P) (nd (o41_a P) (nd (setS P) (nd (o137_g P) nl nl) (nd (o201_h P) nl nl)) (nd (o105_f P) (nd (o169_h P) nl nl) nl)) (nd (o57_a P) (nd (o89_f P) (nd (o153_h P) nl nl) nl) (nd (o121_g P) (nd (o185_h P) nl nl) nl)))) (nd (o13_z P) (nd (o21_a P) (nd (o37_a P) (nd (setO P) (nd (o133_g P) nl nl) (nd (o197_h P) nl nl)) (nd (o101_f P) (nd (o165_h P) nl nl) nl)) (nd (o53_a P) (nd (o85_f P) (nd (o149_h P) nl nl) nl) (nd (o117_g P) (nd (o181_h P) nl nl) nl))) (nd (o29_a P) (nd (o45_a P) (nd (o77_f P) (nd (o141_g P) nl nl) (nd (o205_h P) nl nl)) (nd (o109_f P) (nd (o173_h P) nl nl) nl)) (nd (setD P) (nd (o93_f P) (nd (o157_h P) nl nl) nl) (nd (o125_g P) (nd (o189_h P) nl nl) nl)))))) (nd (o2_a P) (nd (boot_o_4 P) (nd (boot_o_8 P) (nd (o16_a P) (nd (o32_a P) (nd (o64_b P) (nd (o128_g P) nl nl) (nd (o192_h P) nl nl)) (nd (o96_f P) (nd (o160_h P) nl nl) nl)) (nd (o48_a P) (nd (o80_f P) (nd (o144_g P) nl nl) (nd (o208_h P) nl nl)) (nd (o112_g P) (nd (o176_h P) nl nl) nl))) (nd (o24_a P) (nd (o40_a P) (nd (o72_d P) (nd (o136_g P) nl nl) (nd (o200_h P) nl nl)) (nd (o104_f P) (nd (o168_h P) nl nl) nl)) (nd (o56_a P) (nd (o88_f P) (nd (o152_h P) nl nl) nl) (nd (o120_g P) (nd (o184_h P) nl nl) nl)))) (nd (o12_h P) (nd (o20_a P) (nd (o36_a P) (nd (o68_c P) (nd (o132_g P) nl nl) (nd (o196_h P) nl nl)) (nd (o100_f P) (nd (o164_h P) nl nl) nl)) (nd (o52_a P) (nd (o84_f P) (nd (o148_g P) nl nl) nl) (nd (o116_g P) (nd (o180_h P) nl nl) nl))) (nd (o28_a P) (nd (o44_a P) (nd (o76_f P) (nd (o140_g P) nl nl) (nd (o204_h P) nl nl)) (nd (o108_f P) (nd (o172_h P) nl nl) nl)) (nd (o60_a P) (nd (o92_f P) (nd (o156_h P) nl nl) nl) (nd (o124_g P) (nd (o188_h P) nl nl) nl))))) (nd (boot_o_6 P) (nd (boot_o_10 P) (nd (o18_a P) (nd (o34_a P) (nd (o66_c P) (nd (o130_g P) nl nl) (nd (o194_h P) nl nl)) (nd (o98_f P) (nd (o162_h P) nl nl) nl)) (nd (o50_a P) (nd (o82_f P) (nd (o146_g P) nl nl) (nd (o210_h P) nl nl)) (nd (o114_g P) (nd (o178_h P) nl nl) nl))) (nd (o26_a P) (nd (o42_a P) (nd (o74_f P) (nd (o138_g P) nl nl) (nd (o202_h P) nl nl)) (nd (o106_f P) (nd (o170_h P) nl nl) nl)) (nd (o58_a P) (nd (o90_f P) (nd (o154_h P) nl nl) nl) (nd (o122_g P) (nd (o186_h P) nl nl) nl)))) (nd (o14_z P) (nd (o22_a P) (nd (o38_a P) (nd (o70_d P) (nd (o134_g P) nl nl) (nd (o198_h P) nl nl)) (nd (o102_f P) (nd (o166_h P) nl nl) nl)) (nd (o54_a P) (nd (o86_f P) (nd (o150_h P) nl nl) nl) (nd (o118_g P) (nd (o182_h P) nl nl) nl))) (nd (o30_a P) (nd (o46_a P) (nd (o78_f P) (nd (o142_g P) nl nl) (nd (o206_h P) nl nl)) (nd (o110_f P) (nd (o174_h P) nl nl) nl)) (nd (o62_b P) (nd (o94_f P) (nd (o158_h P) nl nl) nl) (nd (o126_g P) (nd (o190_h P) nl nl) nl)))))))
def S_h (w : World) (os : OsState) : SharedT := ⟨T_h w.params, 212, life0, Array.mk [], boot_drawn, 662, os⟩
def o3_i (P : Params) : Obj := ⟨(.type "dict"), none, (.dict #[⟨PyData.keyHash P "__name__", (.str "__name__" 165), (.str "corecc.preprocess" 497)⟩, ⟨PyData.keyHash P "__doc__", (.str "__doc__" 166), .none⟩, ⟨PyData.keyHash P "__package__", (.str "__package__" 167), .none⟩, ⟨PyData.keyHash P "__loader__", (.str "__loader__" 168), (.builtin "__main__.__loader__#opaque")⟩, ⟨PyData.keyHash P "__spec__", (.str "__spec__" 169), .none⟩, ⟨PyData.keyHash P "__annotations__", (.str "__annotations__" 170), (.ref 6)⟩, ⟨PyData.keyHash P "__builtins__", (.str "__builtins__" 171), (.ref 4)⟩, ⟨PyData.keyHash P "__file__", (.str "__file__" 173), (.str "/claim/cut.py" 172)⟩, ⟨PyData.keyHash P "__cached__", (.str "__cached__" 174), .none⟩, ⟨PyData.keyHash P "_wall", (.str "_wall" 193), (.ref 21)⟩, ⟨PyData.keyHash P "CompileFault", (.str "CompileFault" 235), (.ref 45)⟩, ⟨PyData.keyHash P "DirectiveFault", (.str "DirectiveFault" 251), (.ref 58)⟩, ⟨PyData.keyHash P "DIGITS", (.str "DIGITS" 275), (.ref 61)⟩, ⟨PyData.keyHash P "HEX_DIGITS", (.str "HEX_DIGITS" 321), (.ref 65)⟩, ⟨PyData.keyHash P "OCTAL_DIGITS", (.str "OCTAL_DIGITS" 339), (.ref 69)⟩, ⟨PyData.keyHash P "SUFFIXES", (.str "SUFFIXES" 350), (.ref 73)⟩, ⟨PyData.keyHash P "MOST_OCTET", (.str "MOST_OCTET" 352), (.int 255 351)⟩, ⟨PyData.keyHash P "MOST_WIDE", (.str "MOST_WIDE" 354), (.int 4294967295 353)⟩, ⟨PyData.keyHash P "ESCAPES", (.str "ESCAPES" 388), (.ref 74)⟩, ⟨PyData.keyHash P "Token", (.str "Token" 445), (.ref 106)⟩, ⟨PyData.keyHash P "number_parts", (.str "number_parts" 459), (.ref 117)⟩, ⟨PyData.keyHash P "escape_at", (.str "escape_at" 469), (.ref 124)⟩, ⟨PyData.keyHash P "literal_values", (.str "literal_values" 482), (.ref 131)⟩, ⟨PyData.keyHash P "literal_octets", (.str "literal_octets" 489), (.ref 138)⟩, ⟨PyData.keyHash P "wide_values", (.str "wide_values" 496), (.ref 145)⟩, ⟨PyData.keyHash P "ALL_BITS", (.str "ALL_BITS" 500), (.int 4294967295 499)⟩, ⟨PyData.keyHash P "TOP_BIT", (.str "TOP_BIT" 502), (.int 2147483648 501)⟩, ⟨PyData.keyHash P "LEVELS", (.str "LEVELS" 557), (.ref 146)⟩, ⟨PyData.keyHash P "SIGNS_AHEAD", (.str "SIGNS_AHEAD" 570), (.ref 148)⟩, ⟨PyData.keyHash P "Value", (.str "Value" 603), (.ref 165)⟩, ⟨PyData.keyHash P "truth", (.str "truth" 611), (.ref 176)⟩, ⟨PyData.keyHash P "quotient", (.str "quotient" 620), (.ref 183)⟩, ⟨PyData.keyHash P "one_sided", (.str "one_sided" 628), (.ref 190)⟩, ⟨PyData.keyHash P "compared", (.str "compared" 637), (.ref 197)⟩, ⟨PyData.keyHash P "two_sided", (.str "two_sided" 651), (.ref 204)⟩, ⟨PyData.keyHash P "chosen", (.str "chosen" 661), (.ref 211)⟩, ⟨PyData.keyHash P "Condition", (.str "Condition" 773), (.ref 291)⟩] 37), #[]⟩
def o12_i (P : Params) : Obj := ⟨.none, none, (.fields #[(.int 1 0), (.int 0 0), (.ref 20), (.int 5 0), (.int 0 0), (.ref 27), (.int 15 0), (.int 0 0), (.ref 54), (.int 25 0), (.int 0 0), (.ref 80), (.int 44 0), (.int 0 0), (.ref 116), (.int 65 0), (.int 0 0), (.ref 123), (.int 80 0), (.int 0 0), (.ref 130), (.int 94 0), (.int 0 0), (.ref 137), (.int 96 0), (.int 0 0), (.ref 144), (.int 103 0), (.int 0 0), (.ref 154), (.int 112 0), (.int 0 0), (.ref 175), (.int 114 0), (.int 0 0), (.ref 182), (.int 117 0), (.int 0 0), (.ref 189), (.int 125 0), (.int 0 0), (.ref 196), (.int 135 0), (.int 0 0), (.ref 203), (.int 165 0), (.int 0 0), (.ref 210), (.int 168 0), (.int 0 0), (.ref 217)]), #[]⟩
def o212_i (P : Params) : Obj := ⟨(.type "tuple"), none, (.seq #[] 0), #[]⟩
def o213_i (P : Params) : Obj := ⟨(.type "builtin_function_or_method"), none, (.fields #[(.builtin "type.__prepare__"), (.type "type")]), #[]⟩
def o214_i (P : Params) : Obj := ⟨(.type "dict"), none, (.dict #[⟨PyData.keyHash P "__module__", (.str "__module__" 669), (.str "corecc.preprocess" 497)⟩, ⟨PyData.keyHash P "__qualname__", (.str "__qualname__" 671), (.str "Condition" 670)⟩, ⟨PyData.keyHash P "__firstlineno__", (.str "__firstlineno__" 673), (.int 168 672)⟩, ⟨PyData.keyHash P "__init__", (.str "__init__" 682), (.ref 225)⟩, ⟨PyData.keyHash P "fault", (.str "fault" 690), (.ref 232)⟩, ⟨PyData.keyHash P "operand", (.str "operand" 699), (.ref 239)⟩, ⟨PyData.keyHash P "character", (.str "character" 709), (.ref 246)⟩, ⟨PyData.keyHash P "reduce", (.str "reduce" 719), (.ref 253)⟩, ⟨PyData.keyHash P "level", (.str "level" 726), (.ref 260)⟩, ⟨PyData.keyHash P "reduce_to", (.str "reduce_to" 735), (.ref 267)⟩, ⟨PyData.keyHash P "begin", (.str "begin" 743), (.ref 274)⟩, ⟨PyData.keyHash P "go_on", (.str "go_on" 752), (.ref 281)⟩, ⟨PyData.keyHash P "is_so", (.str "is_so" 761), (.ref 288)⟩, ⟨PyData.keyHash P "__static_attributes__", (.str "__static_attributes__" 766), (.ref 289)⟩] 14), #[]⟩
def o215_i (P : Params) : Obj := ⟨(.type "tuple"), none, (.seq #[] 0), #[]⟩
def o216_i (P : Params) : Obj := ⟨.none, none, (.fields #[(.int 170 0), (.int 4 0), (.ref 224), (.int 176 0), (.int 4 0), (.ref 231), (.int 179 0), (.int 4 0), (.ref 238), (.int 189 0), (.int 4 0), (.ref 245), (.int 196 0), (.int 4 0), (.ref 252), (.int 209 0), (.int 4 0), (.ref 259), (.int 214 0), (.int 4 0), (.ref 266), (.int 221 0), (.int 4 0), (.ref 273), (.int 231 0), (.int 4 0), (.ref 280), (.int 252 0), (.int 4 0), (.ref 287)]), #[]⟩
def o217_i (P : Params) : Obj := ⟨(.type "code"), none, (.fields #[(.str "Condition" 664), (.str "Condition" 665), (.str "/claim/cut.py" 666), (.int 168 0), (.int 0 0), (.int 0 0), (.int 0 0), (.int 0 0), (.ref 215), (.bool false), (.int 181 0), (.ref 216), .none, .none, .none, .none, (.int 667 0), (.int 168 0), (.str "/claim/cut.py" 668)]), #[]⟩
def o218_i (P : Params) : Obj := ⟨(.type "frame"), none, .plain, #[(some (.ref 217)), (some (.ref 3)), (some (.ref 214)), none, (some (.str "corecc.preprocess" 497)), none, (some (.ref 0))]⟩
def o219_i (P : Params) : Obj := ⟨(.type "tuple"), none, (.seq #[] 0), #[]⟩
def o220_i (P : Params) : Obj := ⟨.none, none, (.fields #[]), #[]⟩
def o221_i (P : Params) : Obj := ⟨(.type "tuple"), none, (.seq #[(.str "self" 677), (.str "tokens" 678), (.str "place" 679)] 0), #[]⟩
def o222_i (P : Params) : Obj := ⟨(.type "tuple"), none, (.seq #[] 0), #[]⟩
def o223_i (P : Params) : Obj := ⟨.none, none, (.func { name := "__init__", qualname := "Condition.__init__", params := pA (M 30 0), body := .stmts (pB (M 30 0)), scope := pS (M 30 0), globals := 0, closure := [], defaults := .none, kwdefaults := .none, doc := .none, pyModule := .none, annotations := none, code := .none, closureTuple := .none, builtins := 0 }), #[]⟩
def o224_i (P : Params) : Obj := ⟨(.type "code"), none, (.fields #[(.str "__init__" 674), (.str "Condition.__init__" 675), (.str "/claim/cut.py" 676), (.int 170 0), (.int 3 0), (.int 0 0), (.int 0 0), (.int 3 0), (.ref 219), (.bool true), (.int 181 0), (.ref 220), .none, (.ref 221), (.ref 222), (.ref 223), (.int 680 0), (.int 170 0), (.str "/claim/cut.py" 681)]), #[]⟩
def o225_i (P : Params) : Obj := ⟨(.type "function"), none, (.func { name := "__init__", qualname := "Condition.__init__", params := pA (M 30 0), body := .stmts (pB (M 30 0)), scope := pS (M 30 0), globals := 3, closure := [], defaults := .none, kwdefaults := .none, doc := .none, pyModule := (.str "corecc.preprocess" 497), annotations := none, code := (.ref 224), closureTuple := .none, builtins := 0 }), #[]⟩
def o226_i (P : Params) : Obj := ⟨(.type "tuple"), none, (.seq #[] 0), #[]⟩
def o227_i (P : Params) : Obj := ⟨.none, none, (.fields #[]), #[]⟩
def o228_i (P : Params) : Obj := ⟨(.type "tuple"), none, (.seq #[(.str "self" 686), (.str "word" 687)] 0), #[]⟩
def o229_i (P : Params) : Obj := ⟨(.type "tuple"), none, (.seq #[] 0), #[]⟩
def o230_i (P : Params) : Obj := ⟨.none, none, (.func { name := "fault", qualname := "Condition.fault", params := pA (M 30 1), body := .stmts (pB (M 30 1)), scope := pS (M 30 1), globals := 0, closure := [], defaults := .none, kwdefaults := .none, doc := .none, pyModule := .none, annotations := none, code := .none, closureTuple := .none, builtins := 0 }), #[]⟩
def o231_i (P : Params) : Obj := ⟨(.type "code"), none, (.fields #[(.str "fault" 683), (.str "Condition.fault" 684), (.str "/claim/cut.py" 685), (.int 176 0), (.int 2 0), (.int 0 0), (.int 0 0), (.int 3 0), (.ref 226), (.bool true), (.int 181 0), (.ref 227), .none, (.ref 228), (.ref 229), (.ref 230), (.int 688 0), (.int 176 0), (.str "/claim/cut.py" 689)]), #[]⟩
def o232_i (P : Params) : Obj := ⟨(.type "function"), none, (.func { name := "fault", qualname := "Condition.fault", params := pA (M 30 1), body := .stmts (pB (M 30 1)), scope := pS (M 30 1), globals := 3, closure := [], defaults := .none, kwdefaults := .none, doc := .none, pyModule := (.str "corecc.preprocess" 497), annotations := none, code := (.ref 231), closureTuple := .none, builtins := 0 }), #[]⟩
def o233_i (P : Params) : Obj := ⟨(.type "tuple"), none, (.seq #[] 0), #[]⟩
def o234_i (P : Params) : Obj := ⟨.none, none, (.fields #[]), #[]⟩
def o235_i (P : Params) : Obj := ⟨(.type "tuple"), none, (.seq #[(.str "self" 694), (.str "token" 695), (.str "parts" 696)] 0), #[]⟩
def o236_i (P : Params) : Obj := ⟨(.type "tuple"), none, (.seq #[] 0), #[]⟩
def o237_i (P : Params) : Obj := ⟨.none, none, (.func { name := "operand", qualname := "Condition.operand", params := pA (M 30 2), body := .stmts (pB (M 30 2)), scope := pS (M 30 2), globals := 0, closure := [], defaults := .none, kwdefaults := .none, doc := .none, pyModule := .none, annotations := none, code := .none, closureTuple := .none, builtins := 0 }), #[]⟩
def o238_i (P : Params) : Obj := ⟨(.type "code"), none, (.fields #[(.str "operand" 691), (.str "Condition.operand" 692), (.str "/claim/cut.py" 693), (.int 179 0), (.int 2 0), (.int 0 0), (.int 0 0), (.int 3 0), (.ref 233), (.bool true), (.int 181 0), (.ref 234), .none, (.ref 235), (.ref 236), (.ref 237), (.int 697 0), (.int 179 0), (.str "/claim/cut.py" 698)]), #[]⟩
def o239_i (P : Params) : Obj := ⟨(.type "function"), none, (.func { name := "operand", qualname := "Condition.operand", params := pA (M 30 2), body := .stmts (pB (M 30 2)), scope := pS (M 30 2), globals := 3, closure := [], defaults := .none, kwdefaults := .none, doc := .none, pyModule := (.str "corecc.preprocess" 497), annotations := none, code := (.ref 238), closureTuple := .none, builtins := 0 }), #[]⟩
def o240_i (P : Params) : Obj := ⟨(.type "tuple"), none, (.seq #[] 0), #[]⟩
def o241_i (P : Params) : Obj := ⟨.none, none, (.fields #[]), #[]⟩
def o242_i (P : Params) : Obj := ⟨(.type "tuple"), none, (.seq #[(.str "self" 703), (.str "text" 704), (.str "wide" 705), (.str "found" 706)] 0), #[]⟩
def o243_i (P : Params) : Obj := ⟨(.type "tuple"), none, (.seq #[] 0), #[]⟩
def o244_i (P : Params) : Obj := ⟨.none, none, (.func { name := "character", qualname := "Condition.character", params := pA (M 30 3), body := .stmts (pB (M 30 3)), scope := pS (M 30 3), globals := 0, closure := [], defaults := .none, kwdefaults := .none, doc := .none, pyModule := .none, annotations := none, code := .none, closureTuple := .none, builtins := 0 }), #[]⟩
def o245_i (P : Params) : Obj := ⟨(.type "code"), none, (.fields #[(.str "character" 700), (.str "Condition.character" 701), (.str "/claim/cut.py" 702), (.int 189 0), (.int 2 0), (.int 0 0), (.int 0 0), (.int 3 0), (.ref 240), (.bool true), (.int 181 0), (.ref 241), .none, (.ref 242), (.ref 243), (.ref 244), (.int 707 0), (.int 189 0), (.str "/claim/cut.py" 708)]), #[]⟩
def o246_i (P : Params) : Obj := ⟨(.type "function"), none, (.func { name := "character", qualname := "Condition.character", params := pA (M 30 3), body := .stmts (pB (M 30 3)), scope := pS (M 30 3), globals := 3, closure := [], defaults := .none, kwdefaults := .none, doc := .none, pyModule := (.str "corecc.preprocess" 497), annotations := none, code := (.ref 245), closureTuple := .none, builtins := 0 }), #[]⟩
def o247_i (P : Params) : Obj := ⟨(.type "tuple"), none, (.seq #[] 0), #[]⟩
def o248_i (P : Params) : Obj := ⟨.none, none, (.fields #[]), #[]⟩
def o249_i (P : Params) : Obj := ⟨(.type "tuple"), none, (.seq #[(.str "self" 713), (.str "word" 714), (.str "other" 715), (.str "value" 716)] 0), #[]⟩
def o250_i (P : Params) : Obj := ⟨(.type "tuple"), none, (.seq #[] 0), #[]⟩
def o251_i (P : Params) : Obj := ⟨.none, none, (.func { name := "reduce", qualname := "Condition.reduce", params := pA (M 30 4), body := .stmts (pB (M 30 4)), scope := pS (M 30 4), globals := 0, closure := [], defaults := .none, kwdefaults := .none, doc := .none, pyModule := .none, annotations := none, code := .none, closureTuple := .none, builtins := 0 }), #[]⟩
def o252_i (P : Params) : Obj := ⟨(.type "code"), none, (.fields #[(.str "reduce" 710), (.str "Condition.reduce" 711), (.str "/claim/cut.py" 712), (.int 196 0), (.int 1 0), (.int 0 0), (.int 0 0), (.int 3 0), (.ref 247), (.bool true), (.int 181 0), (.ref 248), .none, (.ref 249), (.ref 250), (.ref 251), (.int 717 0), (.int 196 0), (.str "/claim/cut.py" 718)]), #[]⟩
def o253_i (P : Params) : Obj := ⟨(.type "function"), none, (.func { name := "reduce", qualname := "Condition.reduce", params := pA (M 30 4), body := .stmts (pB (M 30 4)), scope := pS (M 30 4), globals := 3, closure := [], defaults := .none, kwdefaults := .none, doc := .none, pyModule := (.str "corecc.preprocess" 497), annotations := none, code := (.ref 252), closureTuple := .none, builtins := 0 }), #[]⟩
def o254_i (P : Params) : Obj := ⟨(.type "tuple"), none, (.seq #[] 0), #[]⟩
def o255_i (P : Params) : Obj := ⟨.none, none, (.fields #[]), #[]⟩
def o256_i (P : Params) : Obj := ⟨(.type "tuple"), none, (.seq #[(.str "self" 723)] 0), #[]⟩
def o257_i (P : Params) : Obj := ⟨(.type "tuple"), none, (.seq #[] 0), #[]⟩
def o258_i (P : Params) : Obj := ⟨.none, none, (.func { name := "level", qualname := "Condition.level", params := pA (M 30 5), body := .stmts (pB (M 30 5)), scope := pS (M 30 5), globals := 0, closure := [], defaults := .none, kwdefaults := .none, doc := .none, pyModule := .none, annotations := none, code := .none, closureTuple := .none, builtins := 0 }), #[]⟩
def o259_i (P : Params) : Obj := ⟨(.type "code"), none, (.fields #[(.str "level" 720), (.str "Condition.level" 721), (.str "/claim/cut.py" 722), (.int 209 0), (.int 1 0), (.int 0 0), (.int 0 0), (.int 3 0), (.ref 254), (.bool true), (.int 181 0), (.ref 255), .none, (.ref 256), (.ref 257), (.ref 258), (.int 724 0), (.int 209 0), (.str "/claim/cut.py" 725)]), #[]⟩
def o260_i (P : Params) : Obj := ⟨(.type "function"), none, (.func { name := "level", qualname := "Condition.level", params := pA (M 30 5), body := .stmts (pB (M 30 5)), scope := pS (M 30 5), globals := 3, closure := [], defaults := .none, kwdefaults := .none, doc := .none, pyModule := (.str "corecc.preprocess" 497), annotations := none, code := (.ref 259), closureTuple := .none, builtins := 0 }), #[]⟩
def o261_i (P : Params) : Obj := ⟨(.type "tuple"), none, (.seq #[] 0), #[]⟩
def o262_i (P : Params) : Obj := ⟨.none, none, (.fields #[]), #[]⟩
def o263_i (P : Params) : Obj := ⟨(.type "tuple"), none, (.seq #[(.str "self" 730), (.str "word" 731), (.str "fault" 732)] 0), #[]⟩
def o264_i (P : Params) : Obj := ⟨(.type "tuple"), none, (.seq #[] 0), #[]⟩
def o265_i (P : Params) : Obj := ⟨.none, none, (.func { name := "reduce_to", qualname := "Condition.reduce_to", params := pA (M 30 6), body := .stmts (pB (M 30 6)), scope := pS (M 30 6), globals := 0, closure := [], defaults := .none, kwdefaults := .none, doc := .none, pyModule := .none, annotations := none, code := .none, closureTuple := .none, builtins := 0 }), #[]⟩
def o266_i (P : Params) : Obj := ⟨(.type "code"), none, (.fields #[(.str "reduce_to" 727), (.str "Condition.reduce_to" 728), (.str "/claim/cut.py" 729), (.int 214 0), (.int 3 0), (.int 0 0), (.int 0 0), (.int 3 0), (.ref 261), (.bool true), (.int 181 0), (.ref 262), .none, (.ref 263), (.ref 264), (.ref 265), (.int 733 0), (.int 214 0), (.str "/claim/cut.py" 734)]), #[]⟩
def o267_i (P : Params) : Obj := ⟨(.type "function"), none, (.func { name := "reduce_to", qualname := "Condition.reduce_to", params := pA (M 30 6), body := .stmts (pB (M 30 6)), scope := pS (M 30 6), globals := 3, closure := [], defaults := .none, kwdefaults := .none, doc := .none, pyModule := (.str "corecc.preprocess" 497), annotations := none, code := (.ref 266), closureTuple := .none, builtins := 0 }), #[]⟩
def o268_i (P : Params) : Obj := ⟨(.type "tuple"), none, (.seq #[] 0), #[]⟩
def o269_i (P : Params) : Obj := ⟨.none, none, (.fields #[]), #[]⟩
def o270_i (P : Params) : Obj := ⟨(.type "tuple"), none, (.seq #[(.str "self" 739), (.str "token" 740)] 0), #[]⟩
def o271_i (P : Params) : Obj := ⟨(.type "tuple"), none, (.seq #[] 0), #[]⟩
def o272_i (P : Params) : Obj := ⟨.none, none, (.func { name := "begin", qualname := "Condition.begin", params := pA (M 30 7), body := .stmts (pB (M 30 7)), scope := pS (M 30 7), globals := 0, closure := [], defaults := .none, kwdefaults := .none, doc := .none, pyModule := .none, annotations := none, code := .none, closureTuple := .none, builtins := 0 }), #[]⟩
def o273_i (P : Params) : Obj := ⟨(.type "code"), none, (.fields #[(.str "begin" 736), (.str "Condition.begin" 737), (.str "/claim/cut.py" 738), (.int 221 0), (.int 2 0), (.int 0 0), (.int 0 0), (.int 3 0), (.ref 268), (.bool true), (.int 181 0), (.ref 269), .none, (.ref 270), (.ref 271), (.ref 272), (.int 741 0), (.int 221 0), (.str "/claim/cut.py" 742)]), #[]⟩
def o274_i (P : Params) : Obj := ⟨(.type "function"), none, (.func { name := "begin", qualname := "Condition.begin", params := pA (M 30 7), body := .stmts (pB (M 30 7)), scope := pS (M 30 7), globals := 3, closure := [], defaults := .none, kwdefaults := .none, doc := .none, pyModule := (.str "corecc.preprocess" 497), annotations := none, code := (.ref 273), closureTuple := .none, builtins := 0 }), #[]⟩
def o275_i (P : Params) : Obj := ⟨(.type "tuple"), none, (.seq #[] 0), #[]⟩
def o276_i (P : Params) : Obj := ⟨.none, none, (.fields #[]), #[]⟩
def o277_i (P : Params) : Obj := ⟨(.type "tuple"), none, (.seq #[(.str "self" 747), (.str "token" 748), (.str "word" 749)] 0), #[]⟩
def o278_i (P : Params) : Obj := ⟨(.type "tuple"), none, (.seq #[] 0), #[]⟩
def o279_i (P : Params) : Obj := ⟨.none, none, (.func { name := "go_on", qualname := "Condition.go_on", params := pA (M 30 8), body := .stmts (pB (M 30 8)), scope := pS (M 30 8), globals := 0, closure := [], defaults := .none, kwdefaults := .none, doc := .none, pyModule := .none, annotations := none, code := .none, closureTuple := .none, builtins := 0 }), #[]⟩
def o280_i (P : Params) : Obj := ⟨(.type "code"), none, (.fields #[(.str "go_on" 744), (.str "Condition.go_on" 745), (.str "/claim/cut.py" 746), (.int 231 0), (.int 2 0), (.int 0 0), (.int 0 0), (.int 3 0), (.ref 275), (.bool true), (.int 181 0), (.ref 276), .none, (.ref 277), (.ref 278), (.ref 279), (.int 750 0), (.int 231 0), (.str "/claim/cut.py" 751)]), #[]⟩
def o281_i (P : Params) : Obj := ⟨(.type "function"), none, (.func { name := "go_on", qualname := "Condition.go_on", params := pA (M 30 8), body := .stmts (pB (M 30 8)), scope := pS (M 30 8), globals := 3, closure := [], defaults := .none, kwdefaults := .none, doc := .none, pyModule := (.str "corecc.preprocess" 497), annotations := none, code := (.ref 280), closureTuple := .none, builtins := 0 }), #[]⟩
def o282_i (P : Params) : Obj := ⟨(.type "tuple"), none, (.seq #[] 0), #[]⟩
def o283_i (P : Params) : Obj := ⟨.none, none, (.fields #[]), #[]⟩
def o284_i (P : Params) : Obj := ⟨(.type "tuple"), none, (.seq #[(.str "self" 756), (.str "is_whole" 757), (.str "token" 758)] 0), #[]⟩
def o285_i (P : Params) : Obj := ⟨(.type "tuple"), none, (.seq #[] 0), #[]⟩
def o286_i (P : Params) : Obj := ⟨.none, none, (.func { name := "is_so", qualname := "Condition.is_so", params := pA (M 30 9), body := .stmts (pB (M 30 9)), scope := pS (M 30 9), globals := 0, closure := [], defaults := .none, kwdefaults := .none, doc := .none, pyModule := .none, annotations := none, code := .none, closureTuple := .none, builtins := 0 }), #[]⟩
def o287_i (P : Params) : Obj := ⟨(.type "code"), none, (.fields #[(.str "is_so" 753), (.str "Condition.is_so" 754), (.str "/claim/cut.py" 755), (.int 252 0), (.int 1 0), (.int 0 0), (.int 0 0), (.int 3 0), (.ref 282), (.bool true), (.int 181 0), (.ref 283), .none, (.ref 284), (.ref 285), (.ref 286), (.int 759 0), (.int 252 0), (.str "/claim/cut.py" 760)]), #[]⟩
def o288_i (P : Params) : Obj := ⟨(.type "function"), none, (.func { name := "is_so", qualname := "Condition.is_so", params := pA (M 30 9), body := .stmts (pB (M 30 9)), scope := pS (M 30 9), globals := 3, closure := [], defaults := .none, kwdefaults := .none, doc := .none, pyModule := (.str "corecc.preprocess" 497), annotations := none, code := (.ref 287), closureTuple := .none, builtins := 0 }), #[]⟩
def o289_i (P : Params) : Obj := ⟨(.type "tuple"), none, (.seq #[(.str "place" 762), (.str "signs" 763), (.str "tokens" 764), (.str "values" 765)] 0), #[]⟩
def o290_i (P : Params) : Obj := ⟨(.type "dict"), none, (.dict #[⟨PyData.keyHash P "__module__", (.str "__module__" 669), (.str "corecc.preprocess" 497)⟩, ⟨PyData.keyHash P "__firstlineno__", (.str "__firstlineno__" 673), (.int 168 672)⟩, ⟨PyData.keyHash P "__init__", (.str "__init__" 682), (.ref 225)⟩, ⟨PyData.keyHash P "fault", (.str "fault" 690), (.ref 232)⟩, ⟨PyData.keyHash P "operand", (.str "operand" 699), (.ref 239)⟩, ⟨PyData.keyHash P "character", (.str "character" 709), (.ref 246)⟩, ⟨PyData.keyHash P "reduce", (.str "reduce" 719), (.ref 253)⟩, ⟨PyData.keyHash P "level", (.str "level" 726), (.ref 260)⟩, ⟨PyData.keyHash P "reduce_to", (.str "reduce_to" 735), (.ref 267)⟩, ⟨PyData.keyHash P "begin", (.str "begin" 743), (.ref 274)⟩, ⟨PyData.keyHash P "go_on", (.str "go_on" 752), (.ref 281)⟩, ⟨PyData.keyHash P "is_so", (.str "is_so" 761), (.ref 288)⟩, ⟨PyData.keyHash P "__static_attributes__", (.str "__static_attributes__" 766), (.ref 289)⟩, ⟨PyData.keyHash P "__dict__", (.str "__dict__" 768), (.ref 292)⟩, ⟨PyData.keyHash P "__weakref__", (.str "__weakref__" 770), (.ref 293)⟩, ⟨PyData.keyHash P "__doc__", (.str "__doc__" 771), .none⟩] 4), #[]⟩
def o291_i (P : Params) : Obj := ⟨(.type "type"), none, (.cls { name := "Condition", bases := [(.type "object")], mro := [(.ref 291), (.type "object")], ns := 290, qualname := "Condition", hasDict := true, slotNames := [], subclasses := [], abstract := false, collection := none, hasDel := false }), #[none, none, (some (.str "Condition" 662)), (some (.str "Condition" 670)), (some (.builtin "object.__new__")), (some (.bool true))]⟩
def o292_i (P : Params) : Obj := ⟨(.type "getset_descriptor"), none, (.fields #[(.str "__dict__" 767), (.ref 291), (.builtin "function.__dict__"), (.builtin "function.__dict__#set")]), #[]⟩
def o293_i (P : Params) : Obj := ⟨(.type "getset_descriptor"), none, (.fields #[(.str "__weakref__" 769), (.ref 291), (.builtin "ExceptionGroup.__weakref__"), .none]), #[]⟩
def o294_i (P : Params) : Obj := ⟨(.type "super"), none, (.fields #[(.ref 291), (.ref 291), (.ref 291)]), #[]⟩
def o295_i (P : Params) : Obj := ⟨(.type "builtin_function_or_method"), none, (.fields #[(.builtin "object.__init_subclass__"), (.ref 291)]), #[]⟩
def T_i (P : Params) : BT := (nd (boot_o_0 P) (nd (boot_o_1 P) (nd (o3_i P) (nd (boot_o_7 P) (nd (o15_a P) (nd (o31_a P) (nd (o63_b P) (nd (o127_g P) (nd (o255_i P) nl nl) nl) (nd (o191_h P) nl nl)) (nd (o95_f P) (nd (o159_h P) (nd (o287_i P) nl nl) nl) (nd (o223_i P) nl nl))) (nd (o47_a P) (nd (o79_f P) (nd (o143_g P) (nd (o271_i P) nl nl) nl) (nd (o207_h P) nl nl)) (nd (o111_g P) (nd (o175_h P) nl nl) (nd (o239_i P) nl nl)))) (nd (o23_a P) (nd (o39_a P) (nd (o71_d P) (nd (o135_g P) (nd (o263_i P) nl nl) nl) (nd (o199_h P) nl nl)) (nd (o103_f P) (nd (o167_h P) (nd (o295_i P) nl nl) nl) (nd (o231_i P) nl nl))) (nd (o55_a P) (nd (o87_f P) (nd (o151_h P) (nd (o279_i P) nl nl) nl) (nd (o215_i P) nl nl)) (nd (o119_g P) (nd (o183_h P) nl nl) (nd (o247_i P) nl nl))))) (nd (o11_z P) (nd (o19_a P) (nd (o35_a P) (nd (o67_c P) (nd (o131_g P) (nd (o259_i P) nl nl) nl) (nd (o195_h P) nl nl)) (nd (o99_f P) (nd (o163_h P) (nd (o291_i P) nl nl) nl) (nd (o227_i P) nl nl))) (nd (o51_a P) (nd (o83_f P) (nd (o147_g P) (nd (o275_i P) nl nl) nl) (nd (o211_h P) nl nl)) (nd (o115_g P) (nd (o179_h P) nl nl) (nd (o243_i P) nl nl)))) (nd (o27_a P) (nd (o43_a P) (nd (o75_f P) (nd (o139_g P) (nd (o267_i P) nl nl) nl) (nd (o203_h P) nl nl)) (nd (o107_f P) (nd (o171_h P) nl nl) (nd (o235_i P) nl nl))) (nd (o59_a P) (nd (o91_f P) (nd (o155_h P) (nd (o283_i P) nl nl) nl) (nd (o219_i P) nl nl)) (nd (o123_g P) (nd (o187_h P) nl nl) (nd (o251_i P) nl nl)))))) (nd (boot_o_5 P) (nd (boot_o_9 P) (nd (o17_a P) (nd (o33_a P) (nd (setH P) (nd (o129_g P) (nd (o257_i P) nl nl) nl) (nd (o193_h P) nl nl)) (nd (o97_f P) (nd (o161_h P) (nd (o289_i P) nl nl) nl) (nd (o225_i P) nl nl))) (nd (o49_a P) (nd (o81_f P) (nd (o145_g P) (nd (o273_i P) nl nl) nl) (nd (o209_h P) nl nl)) (nd (o113_g P) (nd (o177_h P) nl nl) (nd (o241_i P) nl nl)))) (nd (o25_a P) (nd (o41_a P) (nd (setS P) (nd (o137_g P) (nd (o265_i P) nl nl) nl) (nd (o201_h P) nl nl)) (nd (o105_f P) (nd (o169_h P) nl nl) (nd (o233_i P) nl nl))) (nd (o57_a P) (nd (o89_f P) (nd (o153_h P) (nd (o281_i P) nl nl) nl) (nd (o217_i P) nl nl)) (nd (o121_g P) (nd (o185_h P) nl nl) (nd (o249_i P) nl nl))))) (nd (o13_z P) (nd (o21_a P) (nd (o37_a P) (nd (setO P) (nd (o133_g P) (nd (o261_i P) nl nl) nl) (nd (o197_h P) nl nl)) (nd (o101_f P) (nd (o165_h P) (nd (o293_i P) nl nl) nl) (nd (o229_i P) nl nl))) (nd (o53_a P) (nd (o85_f P) (nd (o149_h P) (nd (o277_i P) nl nl) nl) (nd (o213_i P) nl nl)) (nd (o117_g P) (nd (o181_h P) nl nl) (nd (o245_i P) nl nl)))) (nd (o29_a P) (nd (o45_a P) (nd (o77_f P) (nd (o141_g P) (nd (o269_i P) nl nl) nl) (nd (o205_h P) nl nl)) (nd (o109_f P) (nd (o173_h P) nl nl) (nd (o237_i P) nl nl))) (nd (setD P) (nd (o93_f P) (nd (o157_h P) (nd (o285_i P) nl nl) nl) (nd (o221_i P) nl nl)) (nd (o125_g P) (nd (o189_h P) nl nl) (nd (o253_i P) nl nl))))))) (nd (o2_a P) (nd (boot_o_4 P) (nd (boot_o_8 P) (nd (o16_a P) (nd (o32_a P) (nd (o64_b P) (nd (o128_g P) (nd (o256_i P) nl nl) nl) (nd (o192_h P) nl nl)) (nd (o96_f P) (nd (o160_h P) (nd (o288_i P) nl nl) nl) (nd (o224_i P) nl nl))) (nd (o48_a P) (nd (o80_f P) (nd (o144_g P) (nd (o272_i P) nl nl) nl) (nd (o208_h P) nl nl)) (nd (o112_g P) (nd (o176_h P) nl nl) (nd (o240_i P) nl nl)))) (nd (o24_a P) (nd (o40_a P) (nd (o72_d P) (nd (o136_g P) (nd (o264_i P) nl nl) nl) (nd (o200_h P) nl nl)) (nd (o104_f P) (nd (o168_h P) nl nl) (nd (o232_i P) nl nl))) (nd (o56_a P) (nd (o88_f P) (nd (o152_h P) (nd (o280_i P) nl nl) nl) (nd (o216_i P) nl nl)) (nd (o120_g P) (nd (o184_h P) nl nl) (nd (o248_i P) nl nl))))) (nd (o12_i P) (nd (o20_a P) (nd (o36_a P) (nd (o68_c P) (nd (o132_g P) (nd (o260_i P) nl nl) nl) (nd (o196_h P) nl nl)) (nd (o100_f P) (nd (o164_h P) (nd (o292_i P) nl nl) nl) (nd (o228_i P) nl nl))) (nd (o52_a P) (nd (o84_f P) (nd (o148_g P) (nd (o276_i P) nl nl) nl) (nd (o212_i P) nl nl)) (nd (o116_g P) (nd (o180_h P) nl nl) (nd (o244_i P) nl nl)))) (nd (o28_a P) (nd (o44_a P) (nd (o76_f P) (nd (o140_g P) (nd (o268_i P) nl nl) nl) (nd (o204_h P) nl nl)) (nd (o108_f P) (nd (o172_h P) nl nl) (nd (o236_i P) nl nl))) (nd (o60_a P) (nd (o92_f P) (nd (o156_h P) (nd (o284_i P) nl nl) nl) (nd (o220_i P) nl nl)) (nd (o124_g P) (nd (o188_h P) nl nl) (nd (o252_i P) nl nl)))))) (nd (boot_o_6 P) (nd (boot_o_10 P) (nd (o18_a P) (nd (o34_a P) (nd (o66_c P) (nd (o130_g P) (nd (o258_i P) nl nl) nl) (nd (o194_h P) nl nl)) (nd (o98_f P) (nd (o162_h P) (nd (o290_i P) nl nl) nl) (nd (o226_i P) nl nl))) (nd (o50_a P) (nd (o82_f P) (nd (o146_g P) (nd (o274_i P) nl nl) nl) (nd (o210_h P) nl nl)) (nd (o114_g P) (nd (o178_h P) nl nl) (nd (o242_i P) nl nl)))) (nd (o26_a P) (nd (o42_a P) (nd (o74_f P) (nd (o138_g P) (nd (o266_i P) nl nl) nl) (nd (o202_h P) nl nl)) (nd (o106_f P) (nd (o170_h P) nl nl) (nd (o234_i P) nl nl))) (nd (o58_a P) (nd (o90_f P) (nd (o154_h P) (nd (o282_i P) nl nl) nl) (nd (o218_i P) nl nl)) (nd (o122_g P) (nd (o186_h P) nl nl) (nd (o250_i P) nl nl))))) (nd (o14_z P) (nd (o22_a P) (nd (o38_a P) (nd (o70_d P) (nd (o134_g P) (nd (o262_i P) nl nl) nl) (nd (o198_h P) nl nl)) (nd (o102_f P) (nd (o166_h P) (nd (o294_i P) nl nl) nl) (nd (o230_i P) nl nl))) (nd (o54_a P) (nd (o86_f P) (nd (o150_h P) (nd (o278_i P) nl nl) nl) (nd (o214_i P) nl nl)) (nd (o118_g P) (nd (o182_h P) nl nl) (nd (o246_i P) nl nl)))) (nd (o30_a P) (nd (o46_a P) (nd (o78_f P) (nd (o142_g P) (nd (o270_i P) nl nl) nl) (nd (o206_h P) nl nl)) (nd (o110_f P) (nd (o174_h P) nl nl) (nd (o238_i P) nl nl))) (nd (o62_b P) (nd (o94_f P) (nd (o158_h P) (nd (o286_i P) nl nl) nl) (nd (o222_i P) nl nl)) (nd (o126_g P) (nd (o190_h P) nl nl) (nd (o254_i P) nl nl))))))))
def S_i (w : World) (os : OsState) : SharedT := ⟨T_i w.params, 296, life0, Array.mk [], boot_drawn, 774, os⟩
def o3_j (P : Params) : Obj := ⟨(.type "dict"), none, (.dict #[⟨PyData.keyHash P "__name__", (.str "__name__" 165), (.str "law_on0057_01" 774)⟩, ⟨PyData.keyHash P "__doc__", (.str "__doc__" 166), .none⟩, ⟨PyData.keyHash P "__package__", (.str "__package__" 167), .none⟩, ⟨PyData.keyHash P "__loader__", (.str "__loader__" 168), (.builtin "__main__.__loader__#opaque")⟩, ⟨PyData.keyHash P "__spec__", (.str "__spec__" 169), .none⟩, ⟨PyData.keyHash P "__annotations__", (.str "__annotations__" 170), (.ref 6)⟩, ⟨PyData.keyHash P "__builtins__", (.str "__builtins__" 171), (.ref 4)⟩, ⟨PyData.keyHash P "__file__", (.str "__file__" 173), (.str "/claim/cut.py" 172)⟩, ⟨PyData.keyHash P "__cached__", (.str "__cached__" 174), .none⟩, ⟨PyData.keyHash P "_wall", (.str "_wall" 193), (.ref 21)⟩, ⟨PyData.keyHash P "CompileFault", (.str "CompileFault" 235), (.ref 45)⟩, ⟨PyData.keyHash P "DirectiveFault", (.str "DirectiveFault" 251), (.ref 58)⟩, ⟨PyData.keyHash P "DIGITS", (.str "DIGITS" 275), (.ref 61)⟩, ⟨PyData.keyHash P "HEX_DIGITS", (.str "HEX_DIGITS" 321), (.ref 65)⟩, ⟨PyData.keyHash P "OCTAL_DIGITS", (.str "OCTAL_DIGITS" 339), (.ref 69)⟩, ⟨PyData.keyHash P "SUFFIXES", (.str "SUFFIXES" 350), (.ref 73)⟩, ⟨PyData.keyHash P "MOST_OCTET", (.str "MOST_OCTET" 352), (.int 255 351)⟩, ⟨PyData.keyHash P "MOST_WIDE", (.str "MOST_WIDE" 354), (.int 4294967295 353)⟩, ⟨PyData.keyHash P "ESCAPES", (.str "ESCAPES" 388), (.ref 74)⟩, ⟨PyData.keyHash P "Token", (.str "Token" 445), (.ref 106)⟩, ⟨PyData.keyHash P "number_parts", (.str "number_parts" 459), (.ref 117)⟩, ⟨PyData.keyHash P "escape_at", (.str "escape_at" 469), (.ref 124)⟩, ⟨PyData.keyHash P "literal_values", (.str "literal_values" 482), (.ref 131)⟩, ⟨PyData.keyHash P "literal_octets", (.str "literal_octets" 489), (.ref 138)⟩, ⟨PyData.keyHash P "wide_values", (.str "wide_values" 496), (.ref 145)⟩, ⟨PyData.keyHash P "ALL_BITS", (.str "ALL_BITS" 500), (.int 4294967295 499)⟩, ⟨PyData.keyHash P "TOP_BIT", (.str "TOP_BIT" 502), (.int 2147483648 501)⟩, ⟨PyData.keyHash P "LEVELS", (.str "LEVELS" 557), (.ref 146)⟩, ⟨PyData.keyHash P "SIGNS_AHEAD", (.str "SIGNS_AHEAD" 570), (.ref 148)⟩, ⟨PyData.keyHash P "Value", (.str "Value" 603), (.ref 165)⟩, ⟨PyData.keyHash P "truth", (.str "truth" 611), (.ref 176)⟩, ⟨PyData.keyHash P "quotient", (.str "quotient" 620), (.ref 183)⟩, ⟨PyData.keyHash P "one_sided", (.str "one_sided" 628), (.ref 190)⟩, ⟨PyData.keyHash P "compared", (.str "compared" 637), (.ref 197)⟩, ⟨PyData.keyHash P "two_sided", (.str "two_sided" 651), (.ref 204)⟩, ⟨PyData.keyHash P "chosen", (.str "chosen" 661), (.ref 211)⟩, ⟨PyData.keyHash P "Condition", (.str "Condition" 773), (.ref 291)⟩, ⟨PyData.keyHash P "_law_numbers", (.str "_law_numbers" 788), (.ref 296)⟩, ⟨PyData.keyHash P "_law_signs", (.str "_law_signs" 809), (.ref 297)⟩, ⟨PyData.keyHash P "_law_lack", (.str "_law_lack" 813), (.ref 298)⟩, ⟨PyData.keyHash P "_law_draw", (.str "_law_draw" 825), (.ref 305)⟩, ⟨PyData.keyHash P "_law_pick", (.str "_law_pick" 833), (.ref 312)⟩, ⟨PyData.keyHash P "_law_tree", (.str "_law_tree" 844), (.ref 319)⟩, ⟨PyData.keyHash P "_law_words", (.str "_law_words" 850), (.ref 324)⟩, ⟨PyData.keyHash P "_law_led", (.str "_law_led" 859), (.ref 331)⟩, ⟨PyData.keyHash P "_law_two", (.str "_law_two" 876), (.ref 338)⟩, ⟨PyData.keyHash P "_law_worth", (.str "_law_worth" 882), (.ref 343)⟩, ⟨PyData.keyHash P "_law_right", (.str "_law_right" 896), (.ref 350)⟩, ⟨PyData.keyHash P "law", (.str "law" 902), (.ref 355)⟩] 49), #[]⟩
def o12_j (P : Params) : Obj := ⟨.none, none, (.fields #[(.int 1 0), (.int 0 0), (.ref 20), (.int 5 0), (.int 0 0), (.ref 27), (.int 15 0), (.int 0 0), (.ref 54), (.int 25 0), (.int 0 0), (.ref 80), (.int 44 0), (.int 0 0), (.ref 116), (.int 65 0), (.int 0 0), (.ref 123), (.int 80 0), (.int 0 0), (.ref 130), (.int 94 0), (.int 0 0), (.ref 137), (.int 96 0), (.int 0 0), (.ref 144), (.int 103 0), (.int 0 0), (.ref 154), (.int 112 0), (.int 0 0), (.ref 175), (.int 114 0), (.int 0 0), (.ref 182), (.int 117 0), (.int 0 0), (.ref 189), (.int 125 0), (.int 0 0), (.ref 196), (.int 135 0), (.int 0 0), (.ref 203), (.int 165 0), (.int 0 0), (.ref 210), (.int 168 0), (.int 0 0), (.ref 217), (.int 267 0), (.int 0 0), (.ref 304), (.int 274 0), (.int 0 0), (.ref 311), (.int 276 0), (.int 0 0), (.ref 318), (.int 289 0), (.int 0 0), (.ref 323), (.int 296 0), (.int 0 0), (.ref 330), (.int 299 0), (.int 0 0), (.ref 337), (.int 319 0), (.int 0 0), (.ref 342), (.int 336 0), (.int 0 0), (.ref 349), (.int 346 0), (.int 0 0), (.ref 354)]), #[]⟩
def o296_j (P : Params) : Obj := ⟨(.type "tuple"), none, (.seq #[(.str "0" 776), (.str "1" 777), (.str "2" 778), (.str "3" 779), (.str "7" 780), (.str "5u" 781), (.str "4294967295" 782), (.str "2147483647" 783), (.str "0x80000000" 784), (.str "0u" 785), (.str "1u" 786), (.str "31" 787)] 0), #[]⟩
def o297_j (P : Params) : Obj := ⟨(.type "tuple"), none, (.seq #[(.str "&&" 789), (.str "||" 790), (.str "/" 791), (.str "%" 792), (.str "+" 793), (.str "-" 794), (.str "*" 795), (.str "<" 796), (.str "<=" 797), (.str ">" 798), (.str ">=" 799), (.str "==" 800), (.str "!=" 801), (.str "&" 802), (.str "|" 803), (.str "^" 804), (.str "&&" 805), (.str "||" 806), (.str "<<" 807), (.str ">>" 808)] 0), #[]⟩
def o298_j (P : Params) : Obj := ⟨(.type "tuple"), none, (.seq #[(.str "/" 810), (.str "1" 811), (.str "0" 812)] 0), #[]⟩
def o299_j (P : Params) : Obj := ⟨(.type "tuple"), none, (.seq #[] 0), #[]⟩
def o300_j (P : Params) : Obj := ⟨.none, none, (.fields #[]), #[]⟩
def o301_j (P : Params) : Obj := ⟨(.type "tuple"), none, (.seq #[(.str "well" 817), (.str "size" 818), (.str "cells" 819), (.str "spot" 820), (.str "is_there" 821), (.str "cell" 822)] 0), #[]⟩
def o302_j (P : Params) : Obj := ⟨(.type "tuple"), none, (.seq #[] 0), #[]⟩
def o303_j (P : Params) : Obj := ⟨.none, none, (.func { name := "_law_draw", qualname := "_law_draw", params := pA (D 35), body := .stmts (pB (D 35)), scope := pS (D 35), globals := 0, closure := [], defaults := .none, kwdefaults := .none, doc := .none, pyModule := .none, annotations := none, code := .none, closureTuple := .none, builtins := 0 }), #[]⟩
def o304_j (P : Params) : Obj := ⟨(.type "code"), none, (.fields #[(.str "_law_draw" 814), (.str "_law_draw" 815), (.str "/claim/cut.py" 816), (.int 267 0), (.int 2 0), (.int 0 0), (.int 0 0), (.int 3 0), (.ref 299), (.bool true), (.int 181 0), (.ref 300), .none, (.ref 301), (.ref 302), (.ref 303), (.int 823 0), (.int 267 0), (.str "/claim/cut.py" 824)]), #[]⟩
def o305_j (P : Params) : Obj := ⟨(.type "function"), none, (.func { name := "_law_draw", qualname := "_law_draw", params := pA (D 35), body := .stmts (pB (D 35)), scope := pS (D 35), globals := 3, closure := [], defaults := .none, kwdefaults := .none, doc := .none, pyModule := (.str "law_on0057_01" 774), annotations := none, code := (.ref 304), closureTuple := .none, builtins := 0 }), #[]⟩
def o306_j (P : Params) : Obj := ⟨(.type "tuple"), none, (.seq #[] 0), #[]⟩
def o307_j (P : Params) : Obj := ⟨.none, none, (.fields #[]), #[]⟩
def o308_j (P : Params) : Obj := ⟨(.type "tuple"), none, (.seq #[(.str "well" 829), (.str "menu" 830)] 0), #[]⟩
def o309_j (P : Params) : Obj := ⟨(.type "tuple"), none, (.seq #[] 0), #[]⟩
def o310_j (P : Params) : Obj := ⟨.none, none, (.func { name := "_law_pick", qualname := "_law_pick", params := pA (D 36), body := .stmts (pB (D 36)), scope := pS (D 36), globals := 0, closure := [], defaults := .none, kwdefaults := .none, doc := .none, pyModule := .none, annotations := none, code := .none, closureTuple := .none, builtins := 0 }), #[]⟩
def o311_j (P : Params) : Obj := ⟨(.type "code"), none, (.fields #[(.str "_law_pick" 826), (.str "_law_pick" 827), (.str "/claim/cut.py" 828), (.int 274 0), (.int 2 0), (.int 0 0), (.int 0 0), (.int 3 0), (.ref 306), (.bool true), (.int 181 0), (.ref 307), .none, (.ref 308), (.ref 309), (.ref 310), (.int 831 0), (.int 274 0), (.str "/claim/cut.py" 832)]), #[]⟩
def o312_j (P : Params) : Obj := ⟨(.type "function"), none, (.func { name := "_law_pick", qualname := "_law_pick", params := pA (D 36), body := .stmts (pB (D 36)), scope := pS (D 36), globals := 3, closure := [], defaults := .none, kwdefaults := .none, doc := .none, pyModule := (.str "law_on0057_01" 774), annotations := none, code := (.ref 311), closureTuple := .none, builtins := 0 }), #[]⟩
def o313_j (P : Params) : Obj := ⟨(.type "tuple"), none, (.seq #[] 0), #[]⟩
def o314_j (P : Params) : Obj := ⟨.none, none, (.fields #[]), #[]⟩
def o315_j (P : Params) : Obj := ⟨(.type "tuple"), none, (.seq #[(.str "well" 837), (.str "deep" 838), (.str "way" 839), (.str "mark" 840), (.str "one" 841)] 0), #[]⟩
def o316_j (P : Params) : Obj := ⟨(.type "tuple"), none, (.seq #[] 0), #[]⟩
def o317_j (P : Params) : Obj := ⟨.none, none, (.func { name := "_law_tree", qualname := "_law_tree", params := pA (D 37), body := .stmts (pB (D 37)), scope := pS (D 37), globals := 0, closure := [], defaults := .none, kwdefaults := .none, doc := .none, pyModule := .none, annotations := none, code := .none, closureTuple := .none, builtins := 0 }), #[]⟩
def o318_j (P : Params) : Obj := ⟨(.type "code"), none, (.fields #[(.str "_law_tree" 834), (.str "_law_tree" 835), (.str "/claim/cut.py" 836), (.int 276 0), (.int 2 0), (.int 0 0), (.int 0 0), (.int 3 0), (.ref 313), (.bool true), (.int 181 0), (.ref 314), .none, (.ref 315), (.ref 316), (.ref 317), (.int 842 0), (.int 276 0), (.str "/claim/cut.py" 843)]), #[]⟩
def o319_j (P : Params) : Obj := ⟨(.type "function"), none, (.func { name := "_law_tree", qualname := "_law_tree", params := pA (D 37), body := .stmts (pB (D 37)), scope := pS (D 37), globals := 3, closure := [], defaults := .none, kwdefaults := .none, doc := .none, pyModule := (.str "law_on0057_01" 774), annotations := none, code := (.ref 318), closureTuple := .none, builtins := 0 }), #[]⟩
def o320_j (P : Params) : Obj := ⟨(.type "tuple"), none, (.seq #[] 0), #[]⟩
def o321_j (P : Params) : Obj := ⟨.none, none, (.fields #[]), #[]⟩
def o322_j (P : Params) : Obj := ⟨.none, none, (.func { name := "_law_words", qualname := "_law_words", params := pA (D 38), body := .stmts (pB (D 38)), scope := pS (D 38), globals := 0, closure := [], defaults := .none, kwdefaults := .none, doc := .none, pyModule := .none, annotations := none, code := .none, closureTuple := .none, builtins := 0 }), #[]⟩
def o323_j (P : Params) : Obj := ⟨(.type "code"), none, (.fields #[(.str "_law_words" 845), (.str "_law_words" 846), (.str "/claim/cut.py" 847), (.int 289 0), (.int 1 0), (.int 0 0), (.int 0 0), (.int 3 0), (.ref 320), (.bool true), (.int 181 0), (.ref 321), .none, .none, .none, (.ref 322), (.int 848 0), (.int 289 0), (.str "/claim/cut.py" 849)]), #[]⟩
def o324_j (P : Params) : Obj := ⟨(.type "function"), none, (.func { name := "_law_words", qualname := "_law_words", params := pA (D 38), body := .stmts (pB (D 38)), scope := pS (D 38), globals := 3, closure := [], defaults := .none, kwdefaults := .none, doc := .none, pyModule := (.str "law_on0057_01" 774), annotations := none, code := (.ref 323), closureTuple := .none, builtins := 0 }), #[]⟩
def o325_j (P : Params) : Obj := ⟨(.type "tuple"), none, (.seq #[] 0), #[]⟩
def o326_j (P : Params) : Obj := ⟨.none, none, (.fields #[]), #[]⟩
def o327_j (P : Params) : Obj := ⟨(.type "tuple"), none, (.seq #[(.str "number" 854), (.str "has_none" 855), (.str "low" 856)] 0), #[]⟩
def o328_j (P : Params) : Obj := ⟨(.type "tuple"), none, (.seq #[] 0), #[]⟩
def o329_j (P : Params) : Obj := ⟨.none, none, (.func { name := "_law_led", qualname := "_law_led", params := pA (D 39), body := .stmts (pB (D 39)), scope := pS (D 39), globals := 0, closure := [], defaults := .none, kwdefaults := .none, doc := .none, pyModule := .none, annotations := none, code := .none, closureTuple := .none, builtins := 0 }), #[]⟩
def o330_j (P : Params) : Obj := ⟨(.type "code"), none, (.fields #[(.str "_law_led" 851), (.str "_law_led" 852), (.str "/claim/cut.py" 853), (.int 296 0), (.int 2 0), (.int 0 0), (.int 0 0), (.int 3 0), (.ref 325), (.bool true), (.int 181 0), (.ref 326), .none, (.ref 327), (.ref 328), (.ref 329), (.int 857 0), (.int 296 0), (.str "/claim/cut.py" 858)]), #[]⟩
def o331_j (P : Params) : Obj := ⟨(.type "function"), none, (.func { name := "_law_led", qualname := "_law_led", params := pA (D 39), body := .stmts (pB (D 39)), scope := pS (D 39), globals := 3, closure := [], defaults := .none, kwdefaults := .none, doc := .none, pyModule := (.str "law_on0057_01" 774), annotations := none, code := (.ref 330), closureTuple := .none, builtins := 0 }), #[]⟩
def o332_j (P : Params) : Obj := ⟨(.type "tuple"), none, (.seq #[] 0), #[]⟩
def o333_j (P : Params) : Obj := ⟨.none, none, (.fields #[]), #[]⟩
def o334_j (P : Params) : Obj := ⟨(.type "tuple"), none, (.seq #[(.str "mark" 863), (.str "one" 864), (.str "other" 865), (.str "a" 866), (.str "a_none" 867), (.str "b" 868), (.str "b_none" 869), (.str "has_none" 870), (.str "came" 871), (.str "whole" 872), (.str "found" 873)] 0), #[]⟩
def o335_j (P : Params) : Obj := ⟨(.type "tuple"), none, (.seq #[] 0), #[]⟩
def o336_j (P : Params) : Obj := ⟨.none, none, (.func { name := "_law_two", qualname := "_law_two", params := pA (D 40), body := .stmts (pB (D 40)), scope := pS (D 40), globals := 0, closure := [], defaults := .none, kwdefaults := .none, doc := .none, pyModule := .none, annotations := none, code := .none, closureTuple := .none, builtins := 0 }), #[]⟩
def o337_j (P : Params) : Obj := ⟨(.type "code"), none, (.fields #[(.str "_law_two" 860), (.str "_law_two" 861), (.str "/claim/cut.py" 862), (.int 299 0), (.int 3 0), (.int 0 0), (.int 0 0), (.int 3 0), (.ref 332), (.bool true), (.int 181 0), (.ref 333), .none, (.ref 334), (.ref 335), (.ref 336), (.int 874 0), (.int 299 0), (.str "/claim/cut.py" 875)]), #[]⟩
def o338_j (P : Params) : Obj := ⟨(.type "function"), none, (.func { name := "_law_two", qualname := "_law_two", params := pA (D 40), body := .stmts (pB (D 40)), scope := pS (D 40), globals := 3, closure := [], defaults := .none, kwdefaults := .none, doc := .none, pyModule := (.str "law_on0057_01" 774), annotations := none, code := (.ref 337), closureTuple := .none, builtins := 0 }), #[]⟩
def o339_j (P : Params) : Obj := ⟨(.type "tuple"), none, (.seq #[] 0), #[]⟩
def o340_j (P : Params) : Obj := ⟨.none, none, (.fields #[]), #[]⟩
def o341_j (P : Params) : Obj := ⟨.none, none, (.func { name := "_law_worth", qualname := "_law_worth", params := pA (D 41), body := .stmts (pB (D 41)), scope := pS (D 41), globals := 0, closure := [], defaults := .none, kwdefaults := .none, doc := .none, pyModule := .none, annotations := none, code := .none, closureTuple := .none, builtins := 0 }), #[]⟩
def o342_j (P : Params) : Obj := ⟨(.type "code"), none, (.fields #[(.str "_law_worth" 877), (.str "_law_worth" 878), (.str "/claim/cut.py" 879), (.int 319 0), (.int 1 0), (.int 0 0), (.int 0 0), (.int 3 0), (.ref 339), (.bool true), (.int 181 0), (.ref 340), .none, .none, .none, (.ref 341), (.int 880 0), (.int 319 0), (.str "/claim/cut.py" 881)]), #[]⟩
def o343_j (P : Params) : Obj := ⟨(.type "function"), none, (.func { name := "_law_worth", qualname := "_law_worth", params := pA (D 41), body := .stmts (pB (D 41)), scope := pS (D 41), globals := 3, closure := [], defaults := .none, kwdefaults := .none, doc := .none, pyModule := (.str "law_on0057_01" 774), annotations := none, code := (.ref 342), closureTuple := .none, builtins := 0 }), #[]⟩
def o344_j (P : Params) : Obj := ⟨(.type "tuple"), none, (.seq #[] 0), #[]⟩
def o345_j (P : Params) : Obj := ⟨.none, none, (.fields #[]), #[]⟩
def o346_j (P : Params) : Obj := ⟨(.type "tuple"), none, (.seq #[(.str "tree" 886), (.str "line" 887), (.str "place" 888), (.str "tokens" 889), (.str "text" 890), (.str "due" 891), (.str "came" 892), (.str "caught" 893)] 0), #[]⟩
def o347_j (P : Params) : Obj := ⟨(.type "tuple"), none, (.seq #[] 0), #[]⟩
def o348_j (P : Params) : Obj := ⟨.none, none, (.func { name := "_law_right", qualname := "_law_right", params := pA (D 42), body := .stmts (pB (D 42)), scope := pS (D 42), globals := 0, closure := [], defaults := .none, kwdefaults := .none, doc := .none, pyModule := .none, annotations := none, code := .none, closureTuple := .none, builtins := 0 }), #[]⟩
def o349_j (P : Params) : Obj := ⟨(.type "code"), none, (.fields #[(.str "_law_right" 883), (.str "_law_right" 884), (.str "/claim/cut.py" 885), (.int 336 0), (.int 2 0), (.int 0 0), (.int 0 0), (.int 3 0), (.ref 344), (.bool true), (.int 181 0), (.ref 345), .none, (.ref 346), (.ref 347), (.ref 348), (.int 894 0), (.int 336 0), (.str "/claim/cut.py" 895)]), #[]⟩
def o350_j (P : Params) : Obj := ⟨(.type "function"), none, (.func { name := "_law_right", qualname := "_law_right", params := pA (D 42), body := .stmts (pB (D 42)), scope := pS (D 42), globals := 3, closure := [], defaults := .none, kwdefaults := .none, doc := .none, pyModule := (.str "law_on0057_01" 774), annotations := none, code := (.ref 349), closureTuple := .none, builtins := 0 }), #[]⟩
def o351_j (P : Params) : Obj := ⟨(.type "tuple"), none, (.seq #[] 0), #[]⟩
def o352_j (P : Params) : Obj := ⟨.none, none, (.fields #[]), #[]⟩
def o353_j (P : Params) : Obj := ⟨.none, none, (.func { name := "law", qualname := "law", params := pA (D 43), body := .stmts (pB (D 43)), scope := pS (D 43), globals := 0, closure := [], defaults := .none, kwdefaults := .none, doc := .none, pyModule := .none, annotations := none, code := .none, closureTuple := .none, builtins := 0 }), #[]⟩
def o354_j (P : Params) : Obj := ⟨(.type "code"), none, (.fields #[(.str "law" 897), (.str "law" 898), (.str "/claim/cut.py" 899), (.int 346 0), (.int 1 0), (.int 0 0), (.int 0 0), (.int 3 0), (.ref 351), (.bool true), (.int 181 0), (.ref 352), .none, .none, .none, (.ref 353), (.int 900 0), (.int 346 0), (.str "/claim/cut.py" 901)]), #[]⟩
def o355_j (P : Params) : Obj := ⟨(.type "function"), none, (.func { name := "law", qualname := "law", params := pA (D 43), body := .stmts (pB (D 43)), scope := pS (D 43), globals := 3, closure := [], defaults := .none, kwdefaults := .none, doc := .none, pyModule := (.str "law_on0057_01" 774), annotations := none, code := (.ref 354), closureTuple := .none, builtins := 0 }), #[]⟩
def T_j (P : Params) : BT := (nd (boot_o_0 P) (nd (boot_o_1 P) (nd (o3_j P) (nd (boot_o_7 P) (nd (o15_a P) (nd (o31_a P) (nd (o63_b P) (nd (o127_g P) (nd (o255_i P) nl nl) nl) (nd (o191_h P) (nd (o319_j P) nl nl) nl)) (nd (o95_f P) (nd (o159_h P) (nd (o287_i P) nl nl) nl) (nd (o223_i P) (nd (o351_j P) nl nl) nl))) (nd (o47_a P) (nd (o79_f P) (nd (o143_g P) (nd (o271_i P) nl nl) nl) (nd (o207_h P) (nd (o335_j P) nl nl) nl)) (nd (o111_g P) (nd (o175_h P) (nd (o303_j P) nl nl) nl) (nd (o239_i P) nl nl)))) (nd (o23_a P) (nd (o39_a P) (nd (o71_d P) (nd (o135_g P) (nd (o263_i P) nl nl) nl) (nd (o199_h P) (nd (o327_j P) nl nl) nl)) (nd (o103_f P) (nd (o167_h P) (nd (o295_i P) nl nl) nl) (nd (o231_i P) nl nl))) (nd (o55_a P) (nd (o87_f P) (nd (o151_h P) (nd (o279_i P) nl nl) nl) (nd (o215_i P) (nd (o343_j P) nl nl) nl)) (nd (o119_g P) (nd (o183_h P) (nd (o311_j P) nl nl) nl) (nd (o247_i P) nl nl))))) (nd (o11_z P) (nd (o19_a P) (nd (o35_a P) (nd (o67_c P) (nd (o131_g P) (nd (o259_i P) nl nl) nl) (nd (o195_h P) (nd (o323_j P) nl nl) nl)) (nd (o99_f P) (nd (o163_h P) (nd (o291_i P) nl nl) nl) (nd (o227_i P) (nd (o355_j P) nl nl) nl))) (nd (o51_a P) (nd (o83_f P) (nd (o147_g P) (nd (o275_i P) nl nl) nl) (nd (o211_h P) (nd (o339_j P) nl nl) nl)) (nd (o115_g P) (nd (o179_h P) (nd (o307_j P) nl nl) nl) (nd (o243_i P) nl nl)))) (nd (o27_a P) (nd (o43_a P) (nd (o75_f P) (nd (o139_g P) (nd (o267_i P) nl nl) nl) (nd (o203_h P) (nd (o331_j P) nl nl) nl)) (nd (o107_f P) (nd (o171_h P) (nd (o299_j P) nl nl) nl) (nd (o235_i P) nl nl))) (nd (o59_a P) (nd (o91_f P) (nd (o155_h P) (nd (o283_i P) nl nl) nl) (nd (o219_i P) (nd (o347_j P) nl nl) nl)) (nd (o123_g P) (nd (o187_h P) (nd (o315_j P) nl nl) nl) (nd (o251_i P) nl nl)))))) (nd (boot_o_5 P) (nd (boot_o_9 P) (nd (o17_a P) (nd (o33_a P) (nd (setH P) (nd (o129_g P) (nd (o257_i P) nl nl) nl) (nd (o193_h P) (nd (o321_j P) nl nl) nl)) (nd (o97_f P) (nd (o161_h P) (nd (o289_i P) nl nl) nl) (nd (o225_i P) (nd (o353_j P) nl nl) nl))) (nd (o49_a P) (nd (o81_f P) (nd (o145_g P) (nd (o273_i P) nl nl) nl) (nd (o209_h P) (nd (o337_j P) nl nl) nl)) (nd (o113_g P) (nd (o177_h P) (nd (o305_j P) nl nl) nl) (nd (o241_i P) nl nl)))) (nd (o25_a P) (nd (o41_a P) (nd (setS P) (nd (o137_g P) (nd (o265_i P) nl nl) nl) (nd (o201_h P) (nd (o329_j P) nl nl) nl)) (nd (o105_f P) (nd (o169_h P) (nd (o297_j P) nl nl) nl) (nd (o233_i P) nl nl))) (nd (o57_a P) (nd (o89_f P) (nd (o153_h P) (nd (o281_i P) nl nl) nl) (nd (o217_i P) (nd (o345_j P) nl nl) nl)) (nd (o121_g P) (nd (o185_h P) (nd (o313_j P) nl nl) nl) (nd (o249_i P) nl nl))))) (nd (o13_z P) (nd (o21_a P) (nd (o37_a P) (nd (setO P) (nd (o133_g P) (nd (o261_i P) nl nl) nl) (nd (o197_h P) (nd (o325_j P) nl nl) nl)) (nd (o101_f P) (nd (o165_h P) (nd (o293_i P) nl nl) nl) (nd (o229_i P) nl nl))) (nd (o53_a P) (nd (o85_f P) (nd (o149_h P) (nd (o277_i P) nl nl) nl) (nd (o213_i P) (nd (o341_j P) nl nl) nl)) (nd (o117_g P) (nd (o181_h P) (nd (o309_j P) nl nl) nl) (nd (o245_i P) nl nl)))) (nd (o29_a P) (nd (o45_a P) (nd (o77_f P) (nd (o141_g P) (nd (o269_i P) nl nl) nl) (nd (o205_h P) (nd (o333_j P) nl nl) nl)) (nd (o109_f P) (nd (o173_h P) (nd (o301_j P) nl nl) nl) (nd (o237_i P) nl nl))) (nd (setD P) (nd (o93_f P) (nd (o157_h P) (nd (o285_i P) nl nl) nl) (nd (o221_i P) (nd (o349_j P) nl nl) nl)) (nd (o125_g P) (nd (o189_h P) (nd (o317_j P) nl nl) nl) (nd (o253_i P) nl nl))))))) (nd (o2_a P) (nd (boot_o_4 P) (nd (boot_o_8 P) (nd (o16_a P) (nd (o32_a P) (nd (o64_b P) (nd (o128_g P) (nd (o256_i P) nl nl) nl) (nd (o192_h P) (nd (o320_j P) nl nl) nl)) (nd (o96_f P) (nd (o160_h P) (nd (o288_i P) nl nl) nl) (nd (o224_i P) (nd (o352_j P) nl nl) nl))) (nd (o48_a P) (nd (o80_f P) (nd (o144_g P) (nd (o272_i P) nl nl) nl) (nd (o208_h P) (nd (o336_j P) nl nl) nl)) (nd (o112_g P) (nd (o176_h P) (nd (o304_j P) nl nl) nl) (nd (o240_i P) nl nl)))) (nd (o24_a P) (nd (o40_a P) (nd (o72_d P) (nd (o136_g P) (nd (o264_i P) nl nl) nl) (nd (o200_h P) (nd (o328_j P) nl nl) nl)) (nd (o104_f P) (nd (o168_h P) (nd (o296_j P) nl nl) nl) (nd (o232_i P) nl nl))) (nd (o56_a P) (nd (o88_f P) (nd (o152_h P) (nd (o280_i P) nl nl) nl) (nd (o216_i P) (nd (o344_j P) nl nl) nl)) (nd (o120_g P) (nd (o184_h P) (nd (o312_j P) nl nl) nl) (nd (o248_i P) nl nl))))) (nd (o12_j P) (nd (o20_a P) (nd (o36_a P) (nd (o68_c P) (nd (o132_g P) (nd (o260_i P) nl nl) nl) (nd (o196_h P) (nd (o324_j P) nl nl) nl)) (nd (o100_f P) (nd (o164_h P) (nd (o292_i P) nl nl) nl) (nd (o228_i P) nl nl))) (nd (o52_a P) (nd (o84_f P) (nd (o148_g P) (nd (o276_i P) nl nl) nl) (nd (o212_i P) (nd (o340_j P) nl nl) nl)) (nd (o116_g P) (nd (o180_h P) (nd (o308_j P) nl nl) nl) (nd (o244_i P) nl nl)))) (nd (o28_a P) (nd (o44_a P) (nd (o76_f P) (nd (o140_g P) (nd (o268_i P) nl nl) nl) (nd (o204_h P) (nd (o332_j P) nl nl) nl)) (nd (o108_f P) (nd (o172_h P) (nd (o300_j P) nl nl) nl) (nd (o236_i P) nl nl))) (nd (o60_a P) (nd (o92_f P) (nd (o156_h P) (nd (o284_i P) nl nl) nl) (nd (o220_i P) (nd (o348_j P) nl nl) nl)) (nd (o124_g P) (nd (o188_h P) (nd (o316_j P) nl nl) nl) (nd (o252_i P) nl nl)))))) (nd (boot_o_6 P) (nd (boot_o_10 P) (nd (o18_a P) (nd (o34_a P) (nd (o66_c P) (nd (o130_g P) (nd (o258_i P) nl nl) nl) (nd (o194_h P) (nd (o322_j P) nl nl) nl)) (nd (o98_f P) (nd (o162_h P) (nd (o290_i P) nl nl) nl) (nd (o226_i P) (nd (o354_j P) nl nl) nl))) (nd (o50_a P) (nd (o82_f P) (nd (o146_g P) (nd (o274_i P) nl nl) nl) (nd (o210_h P) (nd (o338_j P) nl nl) nl)) (nd (o114_g P) (nd (o178_h P) (nd (o306_j P) nl nl) nl) (nd (o242_i P) nl nl)))) (nd (o26_a P) (nd (o42_a P) (nd (o74_f P) (nd (o138_g P) (nd (o266_i P) nl nl) nl) (nd (o202_h P) (nd (o330_j P) nl nl) nl)) (nd (o106_f P) (nd (o170_h P) (nd (o298_j P) nl nl) nl) (nd (o234_i P) nl nl))) (nd (o58_a P) (nd (o90_f P) (nd (o154_h P) (nd (o282_i P) nl nl) nl) (nd (o218_i P) (nd (o346_j P) nl nl) nl)) (nd (o122_g P) (nd (o186_h P) (nd (o314_j P) nl nl) nl) (nd (o250_i P) nl nl))))) (nd (o14_z P) (nd (o22_a P) (nd (o38_a P) (nd (o70_d P) (nd (o134_g P) (nd (o262_i P) nl nl) nl) (nd (o198_h P) (nd (o326_j P) nl nl) nl)) (nd (o102_f P) (nd (o166_h P) (nd (o294_i P) nl nl) nl) (nd (o230_i P) nl nl))) (nd (o54_a P) (nd (o86_f P) (nd (o150_h P) (nd (o278_i P) nl nl) nl) (nd (o214_i P) (nd (o342_j P) nl nl) nl)) (nd (o118_g P) (nd (o182_h P) (nd (o310_j P) nl nl) nl) (nd (o246_i P) nl nl)))) (nd (o30_a P) (nd (o46_a P) (nd (o78_f P) (nd (o142_g P) (nd (o270_i P) nl nl) nl) (nd (o206_h P) (nd (o334_j P) nl nl) nl)) (nd (o110_f P) (nd (o174_h P) (nd (o302_j P) nl nl) nl) (nd (o238_i P) nl nl))) (nd (o62_b P) (nd (o94_f P) (nd (o158_h P) (nd (o286_i P) nl nl) nl) (nd (o222_i P) (nd (o350_j P) nl nl) nl)) (nd (o126_g P) (nd (o190_h P) (nd (o318_j P) nl nl) nl) (nd (o254_i P) nl nl))))))))
def S_j (w : World) (os : OsState) : SharedT := ⟨T_j w.params, 356, life0, Array.mk [], boot_drawn, 903, os⟩
end
noncomputable section
open PySem PySem.W PyProof.Rows PySem.Calls
def sts_a : List Stmt := (PySem.Challenge.pw_on0057_01.main.body.drop 0).take 5
theorem seg_a (w : World) : (fun os => segRunT treeTable PySem.Challenge.pw_on0057_01 w 11 (some (.ref 6)) 1 524 (S_z w os) (piecesOf sts_a env0 cE ⟨0, 0, 0, 0⟩ topB)) = fun os => some (.next, S_a w os, cE, ⟨17, 0, 17, 8⟩) := by kernel_rfl
def sts_f : List Stmt := (PySem.Challenge.pw_on0057_01.main.body.drop 9).take 4
theorem seg_f0 (v : World) : (fun w : World => (fun os => segRunT treeTable PySem.Challenge.pw_on0057_01 w 11 (some (.ref 6)) 1 543 (S_e w os) (piecesOf sts_f env0 cE ⟨21, 0, 21, 8⟩ topB)) = fun os => some (.next, S_f w os, cE, ⟨25, 0, 43, 16⟩)) (v.withFollow "special-get-raises" false) := by kernel_rfl
theorem seg_f1 (v : World) : (fun w : World => (fun os => segRunT treeTable PySem.Challenge.pw_on0057_01 w 11 (some (.ref 6)) 1 543 (S_e w os) (piecesOf sts_f env0 cE ⟨21, 0, 21, 8⟩ topB)) = fun os => some (.next, S_f w os, cE, ⟨25, 0, 43, 16⟩)) (v.withFollow "special-get-raises" true) := by kernel_rfl
theorem seg_f (w : World) : (fun os => segRunT treeTable PySem.Challenge.pw_on0057_01 w 11 (some (.ref 6)) 1 543 (S_e w os) (piecesOf sts_f env0 cE ⟨21, 0, 21, 8⟩ topB)) = fun os => some (.next, S_f w os, cE, ⟨25, 0, 43, 16⟩) := byRow2 "special-get-raises" (P := fun w => (fun os => segRunT treeTable PySem.Challenge.pw_on0057_01 w 11 (some (.ref 6)) 1 543 (S_e w os) (piecesOf sts_f env0 cE ⟨21, 0, 21, 8⟩ topB)) = fun os => some (.next, S_f w os, cE, ⟨25, 0, 43, 16⟩)) seg_f0 seg_f1 w
def sts_g : List Stmt := (PySem.Challenge.pw_on0057_01.main.body.drop 13).take 10
theorem seg_g0 (v : World) : (fun w : World => (fun os => segRunT treeTable PySem.Challenge.pw_on0057_01 w 11 (some (.ref 6)) 1 552 (S_f w os) (piecesOf sts_g env0 cE ⟨25, 0, 43, 16⟩ topB)) = fun os => some (.next, S_g w os, cE, ⟨102, 0, 102, 11⟩)) (v.withFollow "special-get-raises" false) := by kernel_rfl
theorem seg_g1 (v : World) : (fun w : World => (fun os => segRunT treeTable PySem.Challenge.pw_on0057_01 w 11 (some (.ref 6)) 1 552 (S_f w os) (piecesOf sts_g env0 cE ⟨25, 0, 43, 16⟩ topB)) = fun os => some (.next, S_g w os, cE, ⟨102, 0, 102, 11⟩)) (v.withFollow "special-get-raises" true) := by kernel_rfl
theorem seg_g (w : World) : (fun os => segRunT treeTable PySem.Challenge.pw_on0057_01 w 11 (some (.ref 6)) 1 552 (S_f w os) (piecesOf sts_g env0 cE ⟨25, 0, 43, 16⟩ topB)) = fun os => some (.next, S_g w os, cE, ⟨102, 0, 102, 11⟩) := byRow2 "special-get-raises" (P := fun w => (fun os => segRunT treeTable PySem.Challenge.pw_on0057_01 w 11 (some (.ref 6)) 1 552 (S_f w os) (piecesOf sts_g env0 cE ⟨25, 0, 43, 16⟩ topB)) = fun os => some (.next, S_g w os, cE, ⟨102, 0, 102, 11⟩)) seg_g0 seg_g1 w
def sts_h : List Stmt := (PySem.Challenge.pw_on0057_01.main.body.drop 23).take 7
theorem seg_h (w : World) : (fun os => segRunT treeTable PySem.Challenge.pw_on0057_01 w 11 (some (.ref 6)) 1 417 (S_g w os) (piecesOf sts_h env0 cE ⟨102, 0, 102, 11⟩ topB)) = fun os => some (.next, S_h w os, cE, ⟨165, 0, 167, 91⟩) := by kernel_rfl
def sts_i : List Stmt := (PySem.Challenge.pw_on0057_01.main.body.drop 30).take 1
theorem seg_i (w : World) : (fun os => segRunT treeTable PySem.Challenge.pw_on0057_01 w 11 (some (.ref 6)) 1 522 (S_h w os) (piecesOf sts_i env0 cE ⟨165, 0, 167, 91⟩ topB)) = fun os => some (.next, S_i w os, cE, ⟨168, 0, 262, 41⟩) := by kernel_rfl
def sts_j : List Stmt := (PySem.Challenge.pw_on0057_01.main.body.drop 31).take 13
theorem seg_j (w : World) : (fun os => segRunT treeTable PySem.Challenge.pw_on0057_01 w 11 (some (.ref 6)) 1 356 (S_i w os) (piecesOf sts_j env0 cE ⟨168, 0, 262, 41⟩ topB)) = fun os => some (.next, S_j w os, cE, ⟨346, 0, 358, 15⟩) := by kernel_rfl
end
section
open PySem PySem.W PyProof.Rows PySem.Calls
section
variable {w : World}
abbrev P0 : Program := PySem.Challenge.pw_on0057_01
theorem segGoT_add {tb : String → Option Builtin} {p : Program} {w : World} {n₀ : Nat} {ann : Option Value} {b : Nat} : ∀ {n m : Nat} {s s' : SharedT} {t t' : Thread} {r : SharedT × Thread},
    segGoT tb p w n₀ ann b n s t = some (s', t') → segGoT tb p w n₀ ann b m s' t' = some r → segGoT tb p w n₀ ann b (n + m) s t = some r
  | 0, m, s, s', t, t', r, h, k => by cases h; rw [Nat.zero_add]; exact k
  | n + 1, m, s, s', t, t', r, h, k => by
    rw [show n + 1 + m = n + m + 1 by omega]
    unfold segGoT at h ⊢
    cases he : endAt b t with
    | some f => rw [he] at h; cases h
    | none =>
      rw [he] at h
      cases hk : stepOk n₀ ann t with
      | false => rw [hk] at h; cases h
      | true =>
        rw [hk] at h
        cases hs : stepT (denote tb) p w s t with
        | none => rw [hs] at h; cases h
        | some q => obtain ⟨s₂, t₂⟩ := q; rw [hs] at h; exact segGoT_add h k
theorem segRunT_go {tb : String → Option Builtin} {p : Program} {w : World} {n₀ : Nat} {ann : Option Value} {b : Nat} : ∀ {n m : Nat} {s s' : SharedT} {t t' : Thread} {r : Flow × SharedT × Code × Pos},
    segGoT tb p w n₀ ann b n s t = some (s', t') → segRunT tb p w n₀ ann b m s' t' = some r → segRunT tb p w n₀ ann b (n + m) s t = some r
  | 0, m, s, s', t, t', r, h, k => by cases h; rw [Nat.zero_add]; exact k
  | n + 1, m, s, s', t, t', r, h, k => by
    rw [show n + 1 + m = n + m + 1 by omega]
    unfold segGoT at h
    unfold segRunT
    cases he : endAt b t with
    | some f => rw [he] at h; cases h
    | none =>
      rw [he] at h
      cases hk : stepOk n₀ ann t with
      | false => rw [hk] at h; cases h
      | true =>
        rw [hk] at h
        cases hs : stepT (denote tb) p w s t with
        | none => rw [hs] at h; cases h
        | some q => obtain ⟨s₂, t₂⟩ := q; rw [hs] at h; exact segRunT_go h k
theorem segRunT_mono {tb : String → Option Builtin} {p : Program} {w : World} {n₀ : Nat} {ann : Option Value} {b : Nat} (k : Nat) : ∀ {n : Nat} {s : SharedT} {t : Thread} {r : Flow × SharedT × Code × Pos},
    segRunT tb p w n₀ ann b n s t = some r → segRunT tb p w n₀ ann b (n + k) s t = some r
  | 0, s, t, r, h => by cases h
  | n + 1, s, t, r, h => by
    rw [show n + 1 + k = n + k + 1 by omega]
    unfold segRunT at h ⊢
    cases he : endAt b t with
    | some f => rw [he] at h; exact h
    | none =>
      rw [he] at h
      cases hk : stepOk n₀ ann t with
      | false => rw [hk] at h; cases h
      | true =>
        rw [hk] at h
        cases hs : stepT (denote tb) p w s t with
        | none => rw [hs] at h; cases h
        | some q => obtain ⟨s₂, t₂⟩ := q; rw [hs] at h; exact segRunT_mono k h

def Go (w : World) (k : Nat) (s : SharedT) (t : Thread) (s' : SharedT) (t' : Thread) : Prop :=
  ∃ n, n ≤ k ∧ segGoT treeTable P0 w 11 (some (.ref 6)) 1 n s t = some (s', t')
theorem Go.of {n : Nat} {s s' : SharedT} {t t' : Thread} (h : segGoT treeTable P0 w 11 (some (.ref 6)) 1 n s t = some (s', t')) : Go w n s t s' t' := ⟨n, Nat.le_refl _, h⟩
theorem Go.trans {k l : Nat} {s s' s'' : SharedT} {t t' t'' : Thread} (a : Go w k s t s' t') (b : Go w l s' t' s'' t'') : Go w (k + l) s t s'' t'' := by
  obtain ⟨n, hn, h⟩ := a
  obtain ⟨m, hm, h'⟩ := b
  exact ⟨n + m, by omega, segGoT_add h h'⟩
theorem Go.run {k N : Nat} {s s' : SharedT} {t t' : Thread} {r : Flow × SharedT × Code × Pos} (a : Go w k s t s' t') (b : segRunT treeTable P0 w 11 (some (.ref 6)) 1 N s' t' = some r) :
    segRunT treeTable P0 w 11 (some (.ref 6)) 1 (k + N) s t = some r := by
  obtain ⟨n, hn, h⟩ := a
  have := segRunT_mono (k - n) (segRunT_go h b)
  rw [show n + N + (k - n) = k + N by omega] at this
  exact this

def Does (w : World) (code : Code) (pos : Pos) (st : List Frame) {α : Type} (k : Nat) (m : Sem α) (s s' : SharedT) (a : α) : Prop :=
  ∀ (K : α → Sem Fin) (H : Value → Sem Fin) (gd : Bool → Bool) (lv : List Value → List Value), Go w k s ⟨m.wrap K H gd lv, code, pos, st⟩ s' ⟨K a, code, pos, st⟩
variable {code : Code} {pos : Pos} {st : List Frame} {α β : Type}
theorem bind_wrap (m : Sem α) (f : α → Sem β) {γ : Type} (K : β → Sem γ) (H : Value → Sem γ) (gd : Bool → Bool) (lv : List Value → List Value) :
    (m >>= f).wrap K H gd lv = m.wrap (fun a => (f a).wrap K H gd lv) H gd lv := by
  show (m.bind f).wrap K H gd lv = _
  induction m <;> simp only [Sem.bind, Sem.wrap, *]
theorem keep_wrap (vs : List Value) (m : Sem α) {γ : Type} (K : α → Sem γ) (H : Value → Sem γ) (gd : Bool → Bool) (lv : List Value → List Value) :
    (m.keep vs).wrap K H gd lv = m.wrap K H gd (fun l => lv (vs ++ l)) := by
  induction m <;> simp only [Sem.keep, Sem.wrap, *]
theorem Does.pure {s : SharedT} {a : α} : Does w code pos st 0 (Pure.pure a : Sem α) s s a := fun K H gd lv => ⟨0, Nat.le_refl _, rfl⟩
theorem Does.bind {k l : Nat} {m : Sem α} {f : α → Sem β} {s s' s'' : SharedT} {a : α} {b : β} (x : Does w code pos st k m s s' a) (y : Does w code pos st l (f a) s' s'' b) :
    Does w code pos st (k + l) (m >>= f) s s'' b := fun K H gd lv => by
  rw [bind_wrap]
  exact (x _ H gd lv).trans (y K H gd lv)
theorem Does.keep {k : Nat} {m : Sem α} {s s' : SharedT} {a : α} {vs : List Value} (x : Does w code pos st k m s s' a) : Does w code pos st k (m.keep vs) s s' a := fun K H gd lv => by
  rw [keep_wrap]; exact x K H gd _
theorem Does.holding {k : Nat} {m : Sem α} {s s' : SharedT} {a : α} {vs : List Value} (x : Does w code pos st k m s s' a) : Does w code pos st k (PySem.holding vs m) s s' a := by
  unfold PySem.holding
  split
  · exact x
  · exact x.keep
theorem Does.le {k l : Nat} {m : Sem α} {s s' : SharedT} {a : α} (x : Does w code pos st k m s s' a) (h : k ≤ l) : Does w code pos st l m s s' a := fun K H gd lv =>
  let ⟨n, hn, e⟩ := x K H gd lv; ⟨n, Nat.le_trans hn h, e⟩
def Calm (_ : Code) (_ : Pos) (_ : List Frame) : Prop := True
theorem go1 {s : SharedT} {t : Thread} {s' : SharedT} {t' : Thread} (he : endAt 1 t = none) (hk : stepOk 11 (some (.ref 6)) t = true) (hs : stepT (denote treeTable) P0 w s t = some (s', t')) : Go w 1 s t s' t' :=
  ⟨1, Nat.le_refl _, by unfold segGoT; rw [he, hk, hs]; rfl⟩
theorem Does.rule (hc : Calm code pos st) {tag : String} {s : SharedT} : Does w code pos st 1 (PySem.rule tag) s s () := fun K H gd lv => by
  refine go1 (by unfold endAt; split <;> simp_all [PySem.rule, Sem.wrap]) ?_ ?_
  · simp [stepOk, Thread.calm, Thread.atCollectorCode, Thread.yieldsInsideHandler, PySem.rule, Sem.wrap]
  · obtain ⟨T, n, life, gens, drawn, toks, os⟩ := s; rfl
theorem Does.ask (hc : Calm code pos st) {s : SharedT} : Does w code pos st 1 PySem.ask s s ⟨P0, w.params⟩ := fun K H gd lv => by
  refine go1 (by unfold endAt; split <;> simp_all [PySem.ask, Sem.wrap]) ?_ ?_
  · simp [stepOk, Thread.calm, Thread.atCollectorCode, Thread.yieldsInsideHandler, PySem.ask, Sem.wrap]
  · obtain ⟨T, n, life, gens, drawn, toks, os⟩ := s; rfl
theorem Does.load (hc : Calm code pos st) {s : SharedT} {a : Addr} {o : Obj} (hlt : Nat.blt a s.n = true) (hg : s.tree.get a = some o) (ha : alive o = some o) : Does w code pos st 1 (PySem.load a) s s o := fun K H gd lv => by
  refine go1 (by unfold endAt; split <;> simp_all [PySem.load, Sem.wrap]) ?_ ?_
  · simp [stepOk, Thread.calm, Thread.atCollectorCode, Thread.yieldsInsideHandler, PySem.load, Sem.wrap]
  · obtain ⟨T, n, life, gens, drawn, toks, os⟩ := s
    simp only at hlt hg
    simp only [PySem.load, Sem.wrap, stepT, hlt, hg, ha]
theorem Does.update (hc : Calm code pos st) {s : SharedT} {a : Addr} {o : Obj} {f : Obj → Obj} (hlt : Nat.blt a s.n = true) (hg : s.tree.get a = some o) (ha : alive o = some o) (hn : Nat.ble 11 a = true) :
    Does w code pos st 1 (PySem.update a f) s { s with tree := s.tree.set a f } () := fun K H gd lv => by
  refine go1 (by unfold endAt; split <;> simp_all [PySem.update, Sem.wrap]) ?_ ?_
  · simp only [stepOk, Thread.calm, Thread.atCollectorCode, Thread.yieldsInsideHandler, PySem.update, Sem.wrap, hn]; rfl
  · obtain ⟨T, n, life, gens, drawn, toks, os⟩ := s
    simp only at hlt hg
    simp only [PySem.update, Sem.wrap, stepT, hlt, hg, ha]
end
end
section
open PySem PySem.W PyProof.Rows PySem.Calls
section
theorem set_const (f : Obj → Obj) : ∀ (T : BT) (a : Nat) (o : Obj), T.get a = some o → T.set a f = T.set a (fun _ => f o)
  | .nil, a, o, h => by cases h
  | .node v l r, a, o, h => by
    rw [BT.get_node] at h
    rw [BT.set_node, BT.set_node]
    by_cases h0 : a = 0
    · simp only [h0, if_true] at h ⊢; cases h; rfl
    · by_cases h1 : a % 2 = 1
      · simp only [h0, h1, if_true, if_false] at h ⊢; rw [set_const f l _ o h]
      · simp only [h0, h1, if_false] at h ⊢; rw [set_const f r _ o h]
theorem set_set (f g : Obj → Obj) : ∀ (T : BT) (a : Nat), (T.set a f).set a g = T.set a (fun o => g (f o))
  | .nil, a => rfl
  | .node v l r, a => by
    rw [BT.set_node, BT.set_node]
    by_cases h0 : a = 0
    · simp only [h0, if_true]; rw [BT.set_node]; simp
    · by_cases h1 : a % 2 = 1
      · simp only [h0, h1, if_true, if_false]; rw [BT.set_node]; simp only [h0, h1, if_true, if_false]; rw [set_set f g l]
      · simp only [h0, h1, if_false]; rw [BT.set_node]; simp only [h0, h1, if_false]; rw [set_set f g r]

theorem insertAt_perm {α : Type} (xs : Array α) (p : Nat) (x : α) : (SetTable.insertAt xs p x).toList.Perm (x :: xs.toList) := by
  unfold SetTable.insertAt
  simp only [Array.toList_append, Array.toList_push, Array.toList_extract]
  have e : (xs.toList.extract 0 p ++ [x]) ++ xs.toList.extract p xs.size = xs.toList.take p ++ x :: xs.toList.drop p := by
    simp [List.extract_eq_take_drop, List.append_assoc]
    rw [List.take_of_length_le (by simp)]
  rw [e]
  exact (List.perm_middle).trans (by rw [List.take_append_drop])
theorem standIn_fits (t : SetTable) (n : Nat) : (t.standIn n).place.size = n ∧ (t.standIn n).fill ≤ (t.standIn n).mask := by
  constructor
  · simp [SetTable.standIn]
  · simp [SetTable.standIn, SetTable.fill]; omega
theorem orStandIn_fits (t : SetTable) (n : Nat) : (t.orStandIn n).place.size = n ∧ (t.orStandIn n).fill ≤ (t.orStandIn n).mask := by
  unfold SetTable.orStandIn
  split
  · rename_i h
    simp only [SetTable.fits, Bool.and_eq_true, beq_iff_eq, decide_eq_true_eq] at h
    exact h
  · exact standIn_fits t n
theorem layNew_fits (t : SetTable) (es : Array (Int × Value)) (h : Int) (x : Value) :
    ((layNew t es h x).2.1.place.size = (layNew t es h x).1.size ∧ (layNew t es h x).2.1.fill ≤ (layNew t es h x).2.1.mask) ∧ (layNew t es h x).1.toList.Perm ((h, x) :: es.toList) := by
  unfold layNew
  split
  · exact ⟨orStandIn_fits _ _, insertAt_perm _ _ _⟩
  · refine ⟨?_, ?_⟩
    · have := standIn_fits t (es.size + 1)
      simpa using this
    · simp
theorem filterMap_rangeL {α : Type} : ∀ l : List α, (List.range l.length).filterMap (fun i => l[i]?) = l
  | [] => rfl
  | a :: l => by
    rw [List.length_cons, List.range_succ_eq_map, List.filterMap_cons]
    simp only [List.getElem?_cons_zero, List.filterMap_map]
    congr 1
    exact filterMap_rangeL l
theorem filterMap_range {α : Type} (es : Array α) : (List.range es.size).filterMap (fun i => es[i]?) = es.toList := by
  have := filterMap_rangeL es.toList
  simpa using this
theorem relayAll_fits (t : SetTable) (es : Array (Int × Value)) (n : Nat) :
    ((relayAll t es n).2.1.place.size = (relayAll t es n).1.size ∧ (relayAll t es n).2.1.fill ≤ (relayAll t es n).2.1.mask) ∧ (relayAll t es n).1.toList.Perm es.toList := by
  unfold relayAll
  split
  · rename_i t' order hq
    dsimp only
    split
    · rename_i hc
      simp only [Bool.and_eq_true, SetTable.fits, beq_iff_eq, decide_eq_true_eq, coversAll, List.isPerm_iff] at hc
      refine ⟨hc.2, ?_⟩
      have := hc.1.filterMap (fun i => es[i]?)
      rw [filterMap_range] at this
      simpa using this
    · exact ⟨standIn_fits _ _, List.Perm.refl _⟩
  · exact ⟨standIn_fits _ _, List.Perm.refl _⟩

structure Inv (s : Array (Int × Value) × Nat × SetTable) (cs : List (Str × Nat)) : Prop where
  size : s.2.2.place.size = s.1.size
  fill : s.2.2.fill ≤ s.2.2.mask
  perm : (s.1.toList.map (·.2)).Perm (cs.map fun c => Value.str c.1 c.2)
theorem inv_start (P : Params) : Inv (start0 P) [] := ⟨rfl, by simp [start0, SetTable.fresh, SetTable.fill], by simp [start0]⟩
theorem inv_add {s : Array (Int × Value) × Nat × SetTable} {cs : List (Str × Nat)} (I : Inv s cs) (h : Int) (c : Str × Nat) : Inv (addT s h (.str c.1 c.2)) (c :: cs) := by
  obtain ⟨⟨a1, a2⟩, a3⟩ := layNew_fits s.2.2 s.1 h (.str c.1 c.2)
  have hp : (((layNew s.2.2 s.1 h (.str c.1 c.2)).1.toList).map (·.2)).Perm ((c :: cs).map fun c => Value.str c.1 c.2) := by
    refine (a3.map _).trans ?_
    simp only [List.map_cons]
    exact I.perm.cons _
  unfold addT
  dsimp only
  split
  · obtain ⟨⟨b1, b2⟩, b3⟩ := relayAll_fits { (layNew s.2.2 s.1 h (.str c.1 c.2)).2.1 with plain := false } (layNew s.2.2 s.1 h (.str c.1 c.2)).1 (SetTable.grown (layNew s.2.2 s.1 h (.str c.1 c.2)).1.size)
    exact ⟨b1, b2, (b3.map _).trans hp⟩
  · exact ⟨a1, a2, hp⟩
theorem Inv.size_eq {s : Array (Int × Value) × Nat × SetTable} {cs : List (Str × Nat)} (I : Inv s cs) : s.1.size = cs.length := by
  have := I.perm.length_eq
  simpa using this
theorem Inv.mem {s : Array (Int × Value) × Nat × SetTable} {cs : List (Str × Nat)} (I : Inv s cs) {e : Int × Value} (he : e ∈ s.1) : ∃ c ∈ cs, e.2 = .str c.1 c.2 := by
  have : e.2 ∈ s.1.toList.map (·.2) := List.mem_map.mpr ⟨e, Array.mem_toList_iff.mpr he, rfl⟩
  obtain ⟨c, hc, h⟩ := List.mem_map.mp (I.perm.mem_iff.mp this)
  exact ⟨c, hc, h.symm⟩
theorem Inv.exact {s : Array (Int × Value) × Nat × SetTable} {cs : List (Str × Nat)} (I : Inv s cs) : s.1.all (fun e => isExactStrKey e.2) = true := by
  rw [Array.all_eq_true']
  intro e he
  obtain ⟨c, _, h⟩ := I.mem he
  rw [h]; rfl
theorem Inv.scan {s : Array (Int × Value) × Nat × SetTable} {cs : List (Str × Nat)} (I : Inv s cs) (hl : cs.length ≤ 1000) {x : Value} (hx : x.scannable = true) : byScan x s.1 = true := by
  unfold byScan
  rw [hx]
  have hz := I.size_eq
  have : s.1.all (fun e => e.2.scannable) = true := by
    rw [Array.all_eq_true']
    intro e he
    obtain ⟨c, _, h⟩ := I.mem he
    rw [h]; rfl
  rw [this]
  simp only [Bool.true_and, Bool.and_true, decide_eq_true_eq]
  unfold scanBound; omega
theorem Inv.absent {s : Array (Int × Value) × Nat × SetTable} {cs : List (Str × Nat)} (I : Inv s cs) {c : Str} {k : Nat} (hc : ∀ d ∈ cs, d.1 ≠ c) {a : Addr} {h : Int} {b : Bool} :
    setScan a (.str c k) h b s.1 = pure .absent := by
  unfold setScan
  dsimp only
  rw [I.exact, if_pos rfl]
  unfold setScanStrs
  have : s.1.findIdx? (fun e => e.2.isStr c) = none := by
    rw [Array.findIdx?_eq_none_iff]
    intro e he
    obtain ⟨d, hd, q⟩ := I.mem he
    rw [q]
    simp only [Value.isStr, beq_eq_false_iff_ne]
    exact hc d hd
  rw [this]
end
variable {w : World} {code : Code} {pos : Pos} {st : List Frame}
def putAt (S : SharedT) (a : Addr) (s : Array (Int × Value) × Nat × SetTable) : SharedT := { S with tree := S.tree.set a (fun _ => setObj s) }
theorem putAt_get {S : SharedT} {a : Addr} {s s' : Array (Int × Value) × Nat × SetTable} (hg : S.tree.get a = some (setObj s)) : (putAt S a s').tree.get a = some (setObj s') := by
  show (S.tree.set a _).get a = _
  rw [BT.get_set, if_pos rfl, hg]; rfl
theorem putAt_putAt (S : SharedT) (a : Addr) (s s' : Array (Int × Value) × Nat × SetTable) : putAt (putAt S a s) a s' = putAt S a s' := by
  show ({ S with tree := (S.tree.set a _).set a _ } : SharedT) = _
  rw [set_set]; rfl
theorem does_state (hc : Calm code pos st) {S : SharedT} {a : Addr} {s : Array (Int × Value) × Nat × SetTable} (hlt : Nat.blt a S.n = true) (hg : S.tree.get a = some (setObj s))
    (h1 : s.2.2.place.size = s.1.size) (h2 : s.2.2.fill ≤ s.2.2.mask) : Does w code pos st 1 (setState a) S S s := by
  unfold setState
  refine Does.bind (k := 1) (l := 0) (Does.load hc hlt hg rfl) ?_
  show Does w code pos st 0 (if (s.2.2.place.size != s.1.size || decide (s.2.2.fill > s.2.2.mask)) = true then _ else _) S S s
  rw [if_neg (by simp [h1]; exact h2)]
  exact Does.pure
theorem does_store (hc : Calm code pos st) {S : SharedT} {a : Addr} {s : Array (Int × Value) × Nat × SetTable} {es : Array (Int × Value)} {t : SetTable} (hlt : Nat.blt a S.n = true) (hn : Nat.ble 11 a = true)
    (hg : S.tree.get a = some (setObj s)) (hz : es.size ≤ sizeLine) : Does w code pos st 2 (storeSet a es t) S (putAt S a (es, s.2.1 + 1, t)) () := by
  unfold storeSet
  refine Does.bind (k := 1) (l := 1) (Does.load hc hlt hg rfl) ?_
  show Does w code pos st 1 (if es.size > sizeLine then _ else _) S _ ()
  rw [if_neg (by omega)]
  have := Does.update (w := w) (f := Obj.putSet es t) hc hlt hg rfl hn
  rw [set_const _ _ _ _ hg] at this
  exact this
theorem does_gave (hc : Calm code pos st) {S : SharedT} {m : Sem Unit} {b : Bool} (h1 : b = true → m = PySem.rule "set.scan.the-table-gave-way") (h2 : b = false → m = pure ()) : Does w code pos st 1 m S S () := by
  cases b with
  | true => rw [h1 rfl]; exact Does.rule hc
  | false => rw [h2 rfl]; exact Does.pure.le (by omega)
theorem sizeLine_big : 2000 ≤ sizeLine := by decide
theorem does_add (hc : Calm code pos st) {S : SharedT} {a : Addr} {s : Array (Int × Value) × Nat × SetTable} {cs : List (Str × Nat)} {c : Str × Nat} {h : Int} (I : Inv s cs) (hl : cs.length ≤ 1000) (hd : ∀ d ∈ cs, d.1 ≠ c.1)
    (hlt : Nat.blt a S.n = true) (hn : Nat.ble 11 a = true) (hg : S.tree.get a = some (setObj s)) :
    Does w code pos st 8 (setAddHashed a (.str c.1 c.2) h) S (putAt S a (addT s h (.str c.1 c.2))) true := by
  unfold setAddHashed
  refine Does.holding ?_
  unfold setAddHashedIn
  refine Does.bind (k := 1) (l := 7) (does_state hc hlt hg I.size I.fill) ?_
  dsimp only
  rw [if_pos (I.scan hl rfl)]
  refine Does.bind (k := 7) (l := 0) (a := some true) ?_ Does.pure
  unfold setAddByScan
  rw [I.absent hd]
  refine Does.bind (k := 1) (l := 6) (Does.rule hc) ?_
  refine Does.bind (k := 0) (l := 6) Does.pure ?_
  dsimp only
  have I' := inv_add I h c
  obtain ⟨⟨a1, a2⟩, a3⟩ := layNew_fits s.2.2 s.1 h (.str c.1 c.2)
  have hz1 : (layNew s.2.2 s.1 h (.str c.1 c.2)).1.size ≤ sizeLine := by
    have := a3.length_eq
    simp only [Array.length_toList, List.length_cons] at this
    have e := I.size_eq
    have := sizeLine_big
    omega
  unfold addT
  dsimp only
  generalize layNew s.2.2 s.1 h (.str c.1 c.2) = r at a1 a2 hz1 ⊢
  obtain ⟨es1, t1, wd, gv⟩ := r
  dsimp only at a1 a2 hz1 ⊢
  refine Does.bind (k := 1) (l := 5) (does_gave (b := gv) hc (fun e => by subst e; rfl) (fun e => by subst e; rfl)) ?_
  have key : ∀ (t : SetTable), t = { t1 with plain := false } → Does w code pos st 5 (do
      storeSet a es1 t
      if (!wd && t.tooFull) = true then do
        (match (relayAll t es1 (SetTable.grown es1.size)).2.2 with | true => PySem.rule "set.scan.the-table-gave-way" | false => pure ())
        storeSet a (relayAll t es1 (SetTable.grown es1.size)).1 (relayAll t es1 (SetTable.grown es1.size)).2.1
        pure (some true)
      else pure (some true)) S
      (putAt S a (match !wd && SetTable.tooFull { t1 with plain := false } with
        | true => ((relayAll { t1 with plain := false } es1 (SetTable.grown es1.size)).1, s.2.1 + 1 + 1, (relayAll { t1 with plain := false } es1 (SetTable.grown es1.size)).2.1)
        | false => (es1, s.2.1 + 1, { t1 with plain := false }))) (some true) := by
    intro t ht
    subst ht
    refine Does.bind (k := 2) (l := 3) (does_store hc hlt hn hg hz1) ?_
    cases hb : (!wd && SetTable.tooFull { t1 with plain := false }) with
    | false => rw [if_neg (by simp)]; exact Does.pure.le (by omega)
    | true =>
      rw [if_pos rfl]
      dsimp only
      obtain ⟨_, b3⟩ := relayAll_fits { t1 with plain := false } es1 (SetTable.grown es1.size)
      have hz2 : (relayAll { t1 with plain := false } es1 (SetTable.grown es1.size)).1.size ≤ sizeLine := by
        have := b3.length_eq
        simp only [Array.length_toList] at this
        omega
      generalize relayAll { t1 with plain := false } es1 (SetTable.grown es1.size) = r2 at hz2 ⊢
      refine Does.bind (k := 1) (l := 2) (does_gave (b := r2.2.2) hc (fun e => by rw [e]) (fun e => by rw [e])) ?_
      refine Does.bind (k := 2) (l := 0) (a := ()) ?_ Does.pure
      have := does_store (w := w) (S := putAt S a (es1, s.2.1 + 1, { t1 with plain := false })) (es := r2.1) (t := r2.2.1) hc hlt hn (putAt_get hg) hz2
      rw [putAt_putAt] at this
      exact this
  cases hp : t1.plain with
  | true =>
    rw [if_pos rfl]
    refine Does.bind (k := 0) (l := 5) Does.pure ?_
    exact key _ (by simp)
  | false =>
    rw [if_neg (by simp)]
    refine Does.bind (k := 0) (l := 5) Does.pure ?_
    exact key t1 (by cases t1; simp only at hp; subst hp; rfl)
end
noncomputable section
open PySem PySem.W PyProof.Rows PySem.Calls
noncomputable def Lst (T : BT) (n : Nat) (a b : Addr) (o it : Obj) (k : Nat) (os : OsState) : SharedT := ⟨(T.ins a o).ins b it, n, life0, Array.mk [], boot_drawn, k, os⟩
noncomputable def itO (txt : Str) (tok : Nat) (i : Int) : Obj := ⟨.type "str_ascii_iterator", none, .fields #[.str txt tok, .int i 0], #[]⟩
noncomputable def fr0 : Frame := topFrame ⟨0, 0, 0, 0⟩
theorem wrap_id {α : Type} (m : Sem α) : m.wrap .pure .raise id id = m := by
  induction m with
  | await a t d l k ih => simp only [Sem.wrap, ih]; rfl
  | _ => simp only [Sem.wrap, id, *]
theorem inv_addS {s : Array (Int × Value) × Nat × SetTable} {cs : List (Str × Nat)} (I : Inv s cs) (P : Params) (c : Str × Nat) : Inv (addS P s c) (c :: cs) := inv_add I _ c
theorem turn {w : World} {a b : Addr} {pos : Pos} {st : List Frame} {S S1 : SharedT} {s : Array (Int × Value) × Nat × SetTable} {cs : List (Str × Nat)} {c : Str × Nat}
    (hc : Calm (.builtin "set.update.loop" ⟨[.ref a, .ref b], []⟩) pos st)
    (nx : Does w (.builtin "set.update.loop" ⟨[.ref a, .ref b], []⟩) pos st 10 (pyNext (.ref b)) S S1 (some (.str c.1 c.2)))
    (hh : Does w (.builtin "set.update.loop" ⟨[.ref a, .ref b], []⟩) pos st 7 (pyHash (.str c.1 c.2)) S1 { S1 with toks := S1.toks + 1 } (PyData.keyHash w.params c.1))
    (ag : ∀ S : SharedT, Go w 1 S ⟨.pure (.again (.builtin "set.update.loop" ⟨[.ref a, .ref b], []⟩)), .builtin "set.update.loop" ⟨[.ref a, .ref b], []⟩, pos, st⟩ S ⟨Builtin.«set.update.loop» ⟨[.ref a, .ref b], []⟩, .builtin "set.update.loop" ⟨[.ref a, .ref b], []⟩, pos, st⟩)
    (I : Inv s cs) (hl : cs.length ≤ 1000) (hd : ∀ d ∈ cs, d.1 ≠ c.1) (hlt : Nat.blt a S1.n = true) (hn : Nat.ble 11 a = true) (hg : S1.tree.get a = some (setObj s)) :
    Go w 26 S ⟨Builtin.«set.update.loop» ⟨[.ref a, .ref b], []⟩, .builtin "set.update.loop" ⟨[.ref a, .ref b], []⟩, pos, st⟩
      (putAt { S1 with toks := S1.toks + 1 } a (addS w.params s c)) ⟨Builtin.«set.update.loop» ⟨[.ref a, .ref b], []⟩, .builtin "set.update.loop" ⟨[.ref a, .ref b], []⟩, pos, st⟩ := by
  have add := does_add (w := w) (S := { S1 with toks := S1.toks + 1 }) (h := PyData.keyHash w.params c.1) hc I hl hd hlt hn hg
  have sa : Does w (.builtin "set.update.loop" ⟨[.ref a, .ref b], []⟩) pos st (7 + 8) (PySem.holding [.str c.1 c.2] (setAdd a (.str c.1 c.2))) S1 (putAt { S1 with toks := S1.toks + 1 } a (addS w.params s c)) true :=
    Does.holding (Does.holding (Does.bind hh add))
  have all := Does.bind nx (f := fun x => match x with
      | some x => (do let _ ← PySem.holding [x] (setAdd a x); PySem.again (.builtin "set.update.loop" ⟨[.ref a, .ref b], []⟩) : Sem PySem.Fin)
      | _ => ret .none) (Does.bind sa (Does.pure (a := Fin.again (.builtin "set.update.loop" ⟨[.ref a, .ref b], []⟩))))
  have g := all .pure .raise id id
  rw [wrap_id] at g
  have e : Builtin.«set.update.loop» ⟨[.ref a, .ref b], []⟩ = (pyNext (.ref b) >>= fun x => match x with
      | some x => (do let _ ← PySem.holding [x] (setAdd a x); PySem.again (.builtin "set.update.loop" ⟨[.ref a, .ref b], []⟩) : Sem PySem.Fin)
      | _ => ret .none) := by
    unfold Builtin.«set.update.loop»; dsimp only; rfl
  have h := g.trans (ag _)
  rw [← e] at h
  exact h

noncomputable def sts_b : List Stmt := (PySem.Challenge.pw_on0057_01.main.body.drop 5).take 1
noncomputable def pre_b (w : World) (os : OsState) : Option (SharedT × Thread) := segGoT treeTable P0 w 11 (some (.ref 6)) 1 28 (S_a w os) (piecesOf sts_b env0 cE ⟨17, 0, 17, 8⟩ topB)
noncomputable def stk_b (w : World) (os : OsState) : List Frame := match pre_b w os with
  | some (_, t) => t.stack
  | none => []
noncomputable def L_b (w : World) (os : OsState) (o : Obj) (i : Int) (k : Nat) : SharedT := Lst (T_a w.params) 63 61 62 o (itO "0123456789" 254 i) k os
theorem pre_b_eq (w : World) : (fun os => pre_b w os) = fun os => some (L_b w os (setObj (start0 w.params)) 0 255, ⟨Builtin.«set.update.loop» ⟨[.ref 61, .ref 62], []⟩, (.builtin "set.update.loop" ⟨[.ref 61, .ref 62], []⟩ : Code), ⟨18, 9, 18, 26⟩, stk_b w os⟩) :=
  byRow2 "special-get-raises" (P := fun w => (fun os => pre_b w os) = fun os => some (L_b w os (setObj (start0 w.params)) 0 255, ⟨Builtin.«set.update.loop» ⟨[.ref 61, .ref 62], []⟩, (.builtin "set.update.loop" ⟨[.ref 61, .ref 62], []⟩ : Code), ⟨18, 9, 18, 26⟩, stk_b w os⟩)) (fun w => by kernel_rfl) (fun w => by kernel_rfl) w
theorem stk_b_eq (w : World) : (fun os => stk_b w os) = fun os => (stk_b w os).headD fr0 :: (stk_b w os).tail.headD fr0 :: (stk_b w os).tail.tail :=
  byRow2 "special-get-raises" (P := fun w => (fun os => stk_b w os) = fun os => (stk_b w os).headD fr0 :: (stk_b w os).tail.headD fr0 :: (stk_b w os).tail.tail) (fun w => by kernel_rfl) (fun w => by kernel_rfl) w
theorem hash_b (w : World) : (fun (T : BT) (n : Nat) (life : Life) (gens : Array GenState) (drawn : Drawn) (toks : Nat) (os : OsState) (s : Str) (tk : Nat) (f1 f2 : Frame) (st : List Frame) (K : Int → Sem PySem.Fin) (H : Value → Sem PySem.Fin) (gd : Bool → Bool) (lv : List Value → List Value) =>
    segGoT treeTable P0 w 11 (some (.ref 6)) 1 7 ⟨T, n, life, gens, drawn, toks, os⟩ ⟨(pyHash (.str s tk)).wrap K H gd lv, (.builtin "set.update.loop" ⟨[.ref 61, .ref 62], []⟩ : Code), ⟨18, 9, 18, 26⟩, f1 :: f2 :: st⟩) =
    fun T n life gens drawn toks os s tk f1 f2 st K H gd lv => some (⟨T, n, life, gens, drawn, toks + 1, os⟩, ⟨K (PyData.keyHash w.params s), (.builtin "set.update.loop" ⟨[.ref 61, .ref 62], []⟩ : Code), ⟨18, 9, 18, 26⟩, f1 :: f2 :: st⟩) :=
  byRow2 "special-get-raises" (P := fun w => (fun (T : BT) (n : Nat) (life : Life) (gens : Array GenState) (drawn : Drawn) (toks : Nat) (os : OsState) (s : Str) (tk : Nat) (f1 f2 : Frame) (st : List Frame) (K : Int → Sem PySem.Fin) (H : Value → Sem PySem.Fin) (gd : Bool → Bool) (lv : List Value → List Value) =>
    segGoT treeTable P0 w 11 (some (.ref 6)) 1 7 ⟨T, n, life, gens, drawn, toks, os⟩ ⟨(pyHash (.str s tk)).wrap K H gd lv, (.builtin "set.update.loop" ⟨[.ref 61, .ref 62], []⟩ : Code), ⟨18, 9, 18, 26⟩, f1 :: f2 :: st⟩) =
    fun T n life gens drawn toks os s tk f1 f2 st K H gd lv => some (⟨T, n, life, gens, drawn, toks + 1, os⟩, ⟨K (PyData.keyHash w.params s), (.builtin "set.update.loop" ⟨[.ref 61, .ref 62], []⟩ : Code), ⟨18, 9, 18, 26⟩, f1 :: f2 :: st⟩)) (fun w => by kernel_rfl) (fun w => by kernel_rfl) w
theorem again_b (w : World) : (fun (T : BT) (n : Nat) (life : Life) (gens : Array GenState) (drawn : Drawn) (toks : Nat) (os : OsState) (f1 f2 : Frame) (st : List Frame) =>
    segGoT treeTable P0 w 11 (some (.ref 6)) 1 1 ⟨T, n, life, gens, drawn, toks, os⟩ ⟨.pure (.again (.builtin "set.update.loop" ⟨[.ref 61, .ref 62], []⟩ : Code)), (.builtin "set.update.loop" ⟨[.ref 61, .ref 62], []⟩ : Code), ⟨18, 9, 18, 26⟩, f1 :: f2 :: st⟩) =
    fun T n life gens drawn toks os f1 f2 st => some (⟨T, n, life, gens, drawn, toks, os⟩, ⟨Builtin.«set.update.loop» ⟨[.ref 61, .ref 62], []⟩, (.builtin "set.update.loop" ⟨[.ref 61, .ref 62], []⟩ : Code), ⟨18, 9, 18, 26⟩, f1 :: f2 :: st⟩) := by kernel_rfl
theorem put_b (w : World) : (fun (os : OsState) (o o' : Obj) (i : Int) (k : Nat) => ({ L_b w os o i k with toks := k + 1, tree := (L_b w os o i k).tree.set 61 (fun _ => o') } : SharedT)) = fun os o o' i k => L_b w os o' i (k + 1) := by kernel_rfl
theorem get_b (w : World) : (fun (os : OsState) (o : Obj) (i : Int) (k : Nat) => (L_b w os o i k).tree.get 61) = fun os o i k => some o := by kernel_rfl
theorem calm_b (f1 f2 : Frame) (st : List Frame) : Calm (.builtin "set.update.loop" ⟨[.ref 61, .ref 62], []⟩ : Code) ⟨18, 9, 18, 26⟩ (f1 :: f2 :: st) := trivial
theorem turn_b {w : World} {os : OsState} {f1 f2 : Frame} {st : List Frame} {s : Array (Int × Value) × Nat × SetTable} {cs : List (Str × Nat)} {c : Str × Nat} {i i' : Int} {k k' k'' : Nat}
    (nx : Does w (.builtin "set.update.loop" ⟨[.ref 61, .ref 62], []⟩ : Code) ⟨18, 9, 18, 26⟩ (f1 :: f2 :: st) 10 (pyNext (.ref 62)) (L_b w os (setObj s) i k) (L_b w os (setObj s) i' k') (some (.str c.1 c.2)))
    (I : Inv s cs) (hl : cs.length ≤ 1000) (hd : ∀ d ∈ cs, d.1 ≠ c.1) (hk : k'' = k' + 1) :
    Go w 26 (L_b w os (setObj s) i k) ⟨Builtin.«set.update.loop» ⟨[.ref 61, .ref 62], []⟩, (.builtin "set.update.loop" ⟨[.ref 61, .ref 62], []⟩ : Code), ⟨18, 9, 18, 26⟩, f1 :: f2 :: st⟩ (L_b w os (setObj (addS w.params s c)) i' k'') ⟨Builtin.«set.update.loop» ⟨[.ref 61, .ref 62], []⟩, (.builtin "set.update.loop" ⟨[.ref 61, .ref 62], []⟩ : Code), ⟨18, 9, 18, 26⟩, f1 :: f2 :: st⟩ := by
  subst hk
  have g := turn (w := w) (calm_b f1 f2 st) nx (fun K H gd lv => Go.of (congrFun (congrFun (congrFun (congrFun (congrFun (congrFun (congrFun (congrFun (congrFun (congrFun (congrFun (congrFun (congrFun (congrFun (congrFun (congrFun (hash_b w) _) _) _) _) _) _) _) _) _) _) _) _) K) H) gd) lv))
    (fun S => Go.of (congrFun (congrFun (congrFun (congrFun (congrFun (congrFun (congrFun (congrFun (congrFun (congrFun (again_b w) S.tree) S.n) S.life) S.gens) S.drawn) S.toks) S.os) f1) f2) st)) I hl hd rfl rfl (congrFun (congrFun (congrFun (congrFun (get_b w) os) (setObj s)) i') k')
  have e := congrFun (congrFun (congrFun (congrFun (congrFun (put_b w) os) (setObj s)) (setObj (addS w.params s c))) i') k'
  exact e ▸ g
theorem nx_b (w : World) : ((fun (os : OsState) (o : Obj) (f1 f2 : Frame) (st : List Frame) (K : Option Value → Sem PySem.Fin) (H : Value → Sem PySem.Fin) (gd : Bool → Bool) (lv : List Value → List Value) =>
    segGoT treeTable P0 w 11 (some (.ref 6)) 1 10 (L_b w os o 0 255) ⟨(pyNext (.ref 62)).wrap K H gd lv, (.builtin "set.update.loop" ⟨[.ref 61, .ref 62], []⟩ : Code), ⟨18, 9, 18, 26⟩, f1 :: f2 :: st⟩) = fun os o f1 f2 st K H gd lv => some (L_b w os o 1 256, ⟨K (some (.str "0" 255)), (.builtin "set.update.loop" ⟨[.ref 61, .ref 62], []⟩ : Code), ⟨18, 9, 18, 26⟩, f1 :: f2 :: st⟩)) ∧
  ((fun (os : OsState) (o : Obj) (f1 f2 : Frame) (st : List Frame) (K : Option Value → Sem PySem.Fin) (H : Value → Sem PySem.Fin) (gd : Bool → Bool) (lv : List Value → List Value) =>
    segGoT treeTable P0 w 11 (some (.ref 6)) 1 10 (L_b w os o 1 257) ⟨(pyNext (.ref 62)).wrap K H gd lv, (.builtin "set.update.loop" ⟨[.ref 61, .ref 62], []⟩ : Code), ⟨18, 9, 18, 26⟩, f1 :: f2 :: st⟩) = fun os o f1 f2 st K H gd lv => some (L_b w os o 2 258, ⟨K (some (.str "1" 257)), (.builtin "set.update.loop" ⟨[.ref 61, .ref 62], []⟩ : Code), ⟨18, 9, 18, 26⟩, f1 :: f2 :: st⟩)) ∧
  ((fun (os : OsState) (o : Obj) (f1 f2 : Frame) (st : List Frame) (K : Option Value → Sem PySem.Fin) (H : Value → Sem PySem.Fin) (gd : Bool → Bool) (lv : List Value → List Value) =>
    segGoT treeTable P0 w 11 (some (.ref 6)) 1 10 (L_b w os o 2 259) ⟨(pyNext (.ref 62)).wrap K H gd lv, (.builtin "set.update.loop" ⟨[.ref 61, .ref 62], []⟩ : Code), ⟨18, 9, 18, 26⟩, f1 :: f2 :: st⟩) = fun os o f1 f2 st K H gd lv => some (L_b w os o 3 260, ⟨K (some (.str "2" 259)), (.builtin "set.update.loop" ⟨[.ref 61, .ref 62], []⟩ : Code), ⟨18, 9, 18, 26⟩, f1 :: f2 :: st⟩)) ∧
  ((fun (os : OsState) (o : Obj) (f1 f2 : Frame) (st : List Frame) (K : Option Value → Sem PySem.Fin) (H : Value → Sem PySem.Fin) (gd : Bool → Bool) (lv : List Value → List Value) =>
    segGoT treeTable P0 w 11 (some (.ref 6)) 1 10 (L_b w os o 3 261) ⟨(pyNext (.ref 62)).wrap K H gd lv, (.builtin "set.update.loop" ⟨[.ref 61, .ref 62], []⟩ : Code), ⟨18, 9, 18, 26⟩, f1 :: f2 :: st⟩) = fun os o f1 f2 st K H gd lv => some (L_b w os o 4 262, ⟨K (some (.str "3" 261)), (.builtin "set.update.loop" ⟨[.ref 61, .ref 62], []⟩ : Code), ⟨18, 9, 18, 26⟩, f1 :: f2 :: st⟩)) ∧
  ((fun (os : OsState) (o : Obj) (f1 f2 : Frame) (st : List Frame) (K : Option Value → Sem PySem.Fin) (H : Value → Sem PySem.Fin) (gd : Bool → Bool) (lv : List Value → List Value) =>
    segGoT treeTable P0 w 11 (some (.ref 6)) 1 10 (L_b w os o 4 263) ⟨(pyNext (.ref 62)).wrap K H gd lv, (.builtin "set.update.loop" ⟨[.ref 61, .ref 62], []⟩ : Code), ⟨18, 9, 18, 26⟩, f1 :: f2 :: st⟩) = fun os o f1 f2 st K H gd lv => some (L_b w os o 5 264, ⟨K (some (.str "4" 263)), (.builtin "set.update.loop" ⟨[.ref 61, .ref 62], []⟩ : Code), ⟨18, 9, 18, 26⟩, f1 :: f2 :: st⟩)) ∧
  ((fun (os : OsState) (o : Obj) (f1 f2 : Frame) (st : List Frame) (K : Option Value → Sem PySem.Fin) (H : Value → Sem PySem.Fin) (gd : Bool → Bool) (lv : List Value → List Value) =>
    segGoT treeTable P0 w 11 (some (.ref 6)) 1 10 (L_b w os o 5 265) ⟨(pyNext (.ref 62)).wrap K H gd lv, (.builtin "set.update.loop" ⟨[.ref 61, .ref 62], []⟩ : Code), ⟨18, 9, 18, 26⟩, f1 :: f2 :: st⟩) = fun os o f1 f2 st K H gd lv => some (L_b w os o 6 266, ⟨K (some (.str "5" 265)), (.builtin "set.update.loop" ⟨[.ref 61, .ref 62], []⟩ : Code), ⟨18, 9, 18, 26⟩, f1 :: f2 :: st⟩)) ∧
  ((fun (os : OsState) (o : Obj) (f1 f2 : Frame) (st : List Frame) (K : Option Value → Sem PySem.Fin) (H : Value → Sem PySem.Fin) (gd : Bool → Bool) (lv : List Value → List Value) =>
    segGoT treeTable P0 w 11 (some (.ref 6)) 1 10 (L_b w os o 6 267) ⟨(pyNext (.ref 62)).wrap K H gd lv, (.builtin "set.update.loop" ⟨[.ref 61, .ref 62], []⟩ : Code), ⟨18, 9, 18, 26⟩, f1 :: f2 :: st⟩) = fun os o f1 f2 st K H gd lv => some (L_b w os o 7 268, ⟨K (some (.str "6" 267)), (.builtin "set.update.loop" ⟨[.ref 61, .ref 62], []⟩ : Code), ⟨18, 9, 18, 26⟩, f1 :: f2 :: st⟩)) ∧
  ((fun (os : OsState) (o : Obj) (f1 f2 : Frame) (st : List Frame) (K : Option Value → Sem PySem.Fin) (H : Value → Sem PySem.Fin) (gd : Bool → Bool) (lv : List Value → List Value) =>
    segGoT treeTable P0 w 11 (some (.ref 6)) 1 10 (L_b w os o 7 269) ⟨(pyNext (.ref 62)).wrap K H gd lv, (.builtin "set.update.loop" ⟨[.ref 61, .ref 62], []⟩ : Code), ⟨18, 9, 18, 26⟩, f1 :: f2 :: st⟩) = fun os o f1 f2 st K H gd lv => some (L_b w os o 8 270, ⟨K (some (.str "7" 269)), (.builtin "set.update.loop" ⟨[.ref 61, .ref 62], []⟩ : Code), ⟨18, 9, 18, 26⟩, f1 :: f2 :: st⟩)) ∧
  ((fun (os : OsState) (o : Obj) (f1 f2 : Frame) (st : List Frame) (K : Option Value → Sem PySem.Fin) (H : Value → Sem PySem.Fin) (gd : Bool → Bool) (lv : List Value → List Value) =>
    segGoT treeTable P0 w 11 (some (.ref 6)) 1 10 (L_b w os o 8 271) ⟨(pyNext (.ref 62)).wrap K H gd lv, (.builtin "set.update.loop" ⟨[.ref 61, .ref 62], []⟩ : Code), ⟨18, 9, 18, 26⟩, f1 :: f2 :: st⟩) = fun os o f1 f2 st K H gd lv => some (L_b w os o 9 272, ⟨K (some (.str "8" 271)), (.builtin "set.update.loop" ⟨[.ref 61, .ref 62], []⟩ : Code), ⟨18, 9, 18, 26⟩, f1 :: f2 :: st⟩)) ∧
  ((fun (os : OsState) (o : Obj) (f1 f2 : Frame) (st : List Frame) (K : Option Value → Sem PySem.Fin) (H : Value → Sem PySem.Fin) (gd : Bool → Bool) (lv : List Value → List Value) =>
    segGoT treeTable P0 w 11 (some (.ref 6)) 1 10 (L_b w os o 9 273) ⟨(pyNext (.ref 62)).wrap K H gd lv, (.builtin "set.update.loop" ⟨[.ref 61, .ref 62], []⟩ : Code), ⟨18, 9, 18, 26⟩, f1 :: f2 :: st⟩) = fun os o f1 f2 st K H gd lv => some (L_b w os o 10 274, ⟨K (some (.str "9" 273)), (.builtin "set.update.loop" ⟨[.ref 61, .ref 62], []⟩ : Code), ⟨18, 9, 18, 26⟩, f1 :: f2 :: st⟩)) := ⟨by kernel_rfl, by kernel_rfl, by kernel_rfl, by kernel_rfl, by kernel_rfl, by kernel_rfl, by kernel_rfl, by kernel_rfl, by kernel_rfl, by kernel_rfl⟩
theorem loop_b (w : World) (os : OsState) (f1 f2 : Frame) (st : List Frame) : Go w 260 (L_b w os (setObj (start0 w.params)) 0 255) ⟨Builtin.«set.update.loop» ⟨[.ref 61, .ref 62], []⟩, (.builtin "set.update.loop" ⟨[.ref 61, .ref 62], []⟩ : Code), ⟨18, 9, 18, 26⟩, f1 :: f2 :: st⟩
    (L_b w os (setObj (addsOf w.params csD)) 10 275) ⟨Builtin.«set.update.loop» ⟨[.ref 61, .ref 62], []⟩, (.builtin "set.update.loop" ⟨[.ref 61, .ref 62], []⟩ : Code), ⟨18, 9, 18, 26⟩, f1 :: f2 :: st⟩ := by
  have I0 := inv_start w.params
  obtain ⟨n0, n1, n2, n3, n4, n5, n6, n7, n8, n9⟩ := nx_b w
  have g0 : Go w 26 _ _ _ _ := turn_b (w := w) (os := os) (f1 := f1) (f2 := f2) (st := st) (c := ("0", 255)) (i := 0) (i' := 1) (k := 255) (k' := 256) (k'' := 257) (fun K H gd lv => Go.of (congrFun (congrFun (congrFun (congrFun (congrFun (congrFun (congrFun (congrFun (congrFun n0 os) _) f1) f2) st) K) H) gd) lv)) I0 (by decide) (by decide) rfl
  have I1 := inv_addS I0 w.params ("0", 255)
  have g1 : Go w 26 _ _ _ _ := turn_b (w := w) (os := os) (f1 := f1) (f2 := f2) (st := st) (c := ("1", 257)) (i := 1) (i' := 2) (k := 257) (k' := 258) (k'' := 259) (fun K H gd lv => Go.of (congrFun (congrFun (congrFun (congrFun (congrFun (congrFun (congrFun (congrFun (congrFun n1 os) _) f1) f2) st) K) H) gd) lv)) I1 (by decide) (by decide) rfl
  have I2 := inv_addS I1 w.params ("1", 257)
  have g2 : Go w 26 _ _ _ _ := turn_b (w := w) (os := os) (f1 := f1) (f2 := f2) (st := st) (c := ("2", 259)) (i := 2) (i' := 3) (k := 259) (k' := 260) (k'' := 261) (fun K H gd lv => Go.of (congrFun (congrFun (congrFun (congrFun (congrFun (congrFun (congrFun (congrFun (congrFun n2 os) _) f1) f2) st) K) H) gd) lv)) I2 (by decide) (by decide) rfl
  have I3 := inv_addS I2 w.params ("2", 259)
  have g3 : Go w 26 _ _ _ _ := turn_b (w := w) (os := os) (f1 := f1) (f2 := f2) (st := st) (c := ("3", 261)) (i := 3) (i' := 4) (k := 261) (k' := 262) (k'' := 263) (fun K H gd lv => Go.of (congrFun (congrFun (congrFun (congrFun (congrFun (congrFun (congrFun (congrFun (congrFun n3 os) _) f1) f2) st) K) H) gd) lv)) I3 (by decide) (by decide) rfl
  have I4 := inv_addS I3 w.params ("3", 261)
  have g4 : Go w 26 _ _ _ _ := turn_b (w := w) (os := os) (f1 := f1) (f2 := f2) (st := st) (c := ("4", 263)) (i := 4) (i' := 5) (k := 263) (k' := 264) (k'' := 265) (fun K H gd lv => Go.of (congrFun (congrFun (congrFun (congrFun (congrFun (congrFun (congrFun (congrFun (congrFun n4 os) _) f1) f2) st) K) H) gd) lv)) I4 (by decide) (by decide) rfl
  have I5 := inv_addS I4 w.params ("4", 263)
  have g5 : Go w 26 _ _ _ _ := turn_b (w := w) (os := os) (f1 := f1) (f2 := f2) (st := st) (c := ("5", 265)) (i := 5) (i' := 6) (k := 265) (k' := 266) (k'' := 267) (fun K H gd lv => Go.of (congrFun (congrFun (congrFun (congrFun (congrFun (congrFun (congrFun (congrFun (congrFun n5 os) _) f1) f2) st) K) H) gd) lv)) I5 (by decide) (by decide) rfl
  have I6 := inv_addS I5 w.params ("5", 265)
  have g6 : Go w 26 _ _ _ _ := turn_b (w := w) (os := os) (f1 := f1) (f2 := f2) (st := st) (c := ("6", 267)) (i := 6) (i' := 7) (k := 267) (k' := 268) (k'' := 269) (fun K H gd lv => Go.of (congrFun (congrFun (congrFun (congrFun (congrFun (congrFun (congrFun (congrFun (congrFun n6 os) _) f1) f2) st) K) H) gd) lv)) I6 (by decide) (by decide) rfl
  have I7 := inv_addS I6 w.params ("6", 267)
  have g7 : Go w 26 _ _ _ _ := turn_b (w := w) (os := os) (f1 := f1) (f2 := f2) (st := st) (c := ("7", 269)) (i := 7) (i' := 8) (k := 269) (k' := 270) (k'' := 271) (fun K H gd lv => Go.of (congrFun (congrFun (congrFun (congrFun (congrFun (congrFun (congrFun (congrFun (congrFun n7 os) _) f1) f2) st) K) H) gd) lv)) I7 (by decide) (by decide) rfl
  have I8 := inv_addS I7 w.params ("7", 269)
  have g8 : Go w 26 _ _ _ _ := turn_b (w := w) (os := os) (f1 := f1) (f2 := f2) (st := st) (c := ("8", 271)) (i := 8) (i' := 9) (k := 271) (k' := 272) (k'' := 273) (fun K H gd lv => Go.of (congrFun (congrFun (congrFun (congrFun (congrFun (congrFun (congrFun (congrFun (congrFun n8 os) _) f1) f2) st) K) H) gd) lv)) I8 (by decide) (by decide) rfl
  have I9 := inv_addS I8 w.params ("8", 271)
  have g9 : Go w 26 _ _ _ _ := turn_b (w := w) (os := os) (f1 := f1) (f2 := f2) (st := st) (c := ("9", 273)) (i := 9) (i' := 10) (k := 273) (k' := 274) (k'' := 275) (fun K H gd lv => Go.of (congrFun (congrFun (congrFun (congrFun (congrFun (congrFun (congrFun (congrFun (congrFun n9 os) _) f1) f2) st) K) H) gd) lv)) I9 (by decide) (by decide) rfl
  have I10 := inv_addS I9 w.params ("9", 273)
  have all := (((((((((g0).trans g1).trans g2).trans g3).trans g4).trans g5).trans g6).trans g7).trans g8).trans g9
  have e : addsOf w.params csD = (addS w.params (addS w.params (addS w.params (addS w.params (addS w.params (addS w.params (addS w.params (addS w.params (addS w.params (addS w.params (start0 w.params) ("0", 255)) ("1", 257)) ("2", 259)) ("3", 261)) ("4", 263)) ("5", 265)) ("6", 267)) ("7", 269)) ("8", 271)) ("9", 273)) := by kernel_rfl
  rw [e]
  exact all
theorem inv_b (P : Params) : Inv (addsOf P csD) csD.reverse := by
  have I0 := inv_start P
  have I1 := inv_addS I0 P ("0", 255)
  have I2 := inv_addS I1 P ("1", 257)
  have I3 := inv_addS I2 P ("2", 259)
  have I4 := inv_addS I3 P ("3", 261)
  have I5 := inv_addS I4 P ("4", 263)
  have I6 := inv_addS I5 P ("5", 265)
  have I7 := inv_addS I6 P ("6", 267)
  have I8 := inv_addS I7 P ("7", 269)
  have I9 := inv_addS I8 P ("8", 271)
  have I10 := inv_addS I9 P ("9", 273)
  have e : addsOf P csD = (addS P (addS P (addS P (addS P (addS P (addS P (addS P (addS P (addS P (addS P (start0 P) ("0", 255)) ("1", 257)) ("2", 259)) ("3", 261)) ("4", 263)) ("5", 265)) ("6", 267)) ("7", 269)) ("8", 271)) ("9", 273)) := by kernel_rfl
  have e2 : csD.reverse = ([("9", 273), ("8", 271), ("7", 269), ("6", 267), ("5", 265), ("4", 263), ("3", 261), ("2", 259), ("1", 257), ("0", 255)] : List (Str × Nat)) := by kernel_rfl
  rw [e, e2]
  exact I10
theorem post_b (w : World) : (fun os => segRunT treeTable P0 w 11 (some (.ref 6)) 1 60 (L_b w os (setObj (addsOf w.params csD)) 10 275) ⟨Builtin.«set.update.loop» ⟨[.ref 61, .ref 62], []⟩, (.builtin "set.update.loop" ⟨[.ref 61, .ref 62], []⟩ : Code), ⟨18, 9, 18, 26⟩, stk_b w os⟩) = fun os => some (.next, S_b w os, cE, ⟨18, 0, 18, 6⟩) :=
  byRow2 "special-get-raises" (P := fun w => (fun os => segRunT treeTable P0 w 11 (some (.ref 6)) 1 60 (L_b w os (setObj (addsOf w.params csD)) 10 275) ⟨Builtin.«set.update.loop» ⟨[.ref 61, .ref 62], []⟩, (.builtin "set.update.loop" ⟨[.ref 61, .ref 62], []⟩ : Code), ⟨18, 9, 18, 26⟩, stk_b w os⟩) = fun os => some (.next, S_b w os, cE, ⟨18, 0, 18, 6⟩)) (fun w => by kernel_rfl) (fun w => by kernel_rfl) w
theorem seg_b (w : World) : (fun os => segRunT treeTable PySem.Challenge.pw_on0057_01 w 11 (some (.ref 6)) 1 (28 + 260 + 60) (S_a w os) (piecesOf sts_b env0 cE ⟨17, 0, 17, 8⟩ topB)) = fun os => some (.next, S_b w os, cE, ⟨18, 0, 18, 6⟩) := by
  funext os
  have g := (Go.of (congrFun (pre_b_eq w) os)).trans (by
    have h := loop_b w os ((stk_b w os).headD fr0) ((stk_b w os).tail.headD fr0) (stk_b w os).tail.tail
    rw [← congrFun (stk_b_eq w) os] at h
    exact h)
  exact g.run (congrFun (post_b w) os)
noncomputable def sts_c : List Stmt := (PySem.Challenge.pw_on0057_01.main.body.drop 6).take 1
noncomputable def pre_c (w : World) (os : OsState) : Option (SharedT × Thread) := segGoT treeTable P0 w 11 (some (.ref 6)) 1 28 (S_b w os) (piecesOf sts_c env0 cE ⟨18, 0, 18, 6⟩ topB)
noncomputable def stk_c (w : World) (os : OsState) : List Frame := match pre_c w os with
  | some (_, t) => t.stack
  | none => []
noncomputable def L_c (w : World) (os : OsState) (o : Obj) (i : Int) (k : Nat) : SharedT := Lst (T_b w.params) 67 65 66 o (itO "0123456789abcdefABCDEF" 276 i) k os
theorem pre_c_eq (w : World) : (fun os => pre_c w os) = fun os => some (L_c w os (setObj (start0 w.params)) 0 277, ⟨Builtin.«set.update.loop» ⟨[.ref 65, .ref 66], []⟩, (.builtin "set.update.loop" ⟨[.ref 65, .ref 66], []⟩ : Code), ⟨19, 13, 19, 42⟩, stk_c w os⟩) :=
  byRow2 "special-get-raises" (P := fun w => (fun os => pre_c w os) = fun os => some (L_c w os (setObj (start0 w.params)) 0 277, ⟨Builtin.«set.update.loop» ⟨[.ref 65, .ref 66], []⟩, (.builtin "set.update.loop" ⟨[.ref 65, .ref 66], []⟩ : Code), ⟨19, 13, 19, 42⟩, stk_c w os⟩)) (fun w => by kernel_rfl) (fun w => by kernel_rfl) w
theorem stk_c_eq (w : World) : (fun os => stk_c w os) = fun os => (stk_c w os).headD fr0 :: (stk_c w os).tail.headD fr0 :: (stk_c w os).tail.tail :=
  byRow2 "special-get-raises" (P := fun w => (fun os => stk_c w os) = fun os => (stk_c w os).headD fr0 :: (stk_c w os).tail.headD fr0 :: (stk_c w os).tail.tail) (fun w => by kernel_rfl) (fun w => by kernel_rfl) w
theorem hash_c (w : World) : (fun (T : BT) (n : Nat) (life : Life) (gens : Array GenState) (drawn : Drawn) (toks : Nat) (os : OsState) (s : Str) (tk : Nat) (f1 f2 : Frame) (st : List Frame) (K : Int → Sem PySem.Fin) (H : Value → Sem PySem.Fin) (gd : Bool → Bool) (lv : List Value → List Value) =>
    segGoT treeTable P0 w 11 (some (.ref 6)) 1 7 ⟨T, n, life, gens, drawn, toks, os⟩ ⟨(pyHash (.str s tk)).wrap K H gd lv, (.builtin "set.update.loop" ⟨[.ref 65, .ref 66], []⟩ : Code), ⟨19, 13, 19, 42⟩, f1 :: f2 :: st⟩) =
    fun T n life gens drawn toks os s tk f1 f2 st K H gd lv => some (⟨T, n, life, gens, drawn, toks + 1, os⟩, ⟨K (PyData.keyHash w.params s), (.builtin "set.update.loop" ⟨[.ref 65, .ref 66], []⟩ : Code), ⟨19, 13, 19, 42⟩, f1 :: f2 :: st⟩) :=
  byRow2 "special-get-raises" (P := fun w => (fun (T : BT) (n : Nat) (life : Life) (gens : Array GenState) (drawn : Drawn) (toks : Nat) (os : OsState) (s : Str) (tk : Nat) (f1 f2 : Frame) (st : List Frame) (K : Int → Sem PySem.Fin) (H : Value → Sem PySem.Fin) (gd : Bool → Bool) (lv : List Value → List Value) =>
    segGoT treeTable P0 w 11 (some (.ref 6)) 1 7 ⟨T, n, life, gens, drawn, toks, os⟩ ⟨(pyHash (.str s tk)).wrap K H gd lv, (.builtin "set.update.loop" ⟨[.ref 65, .ref 66], []⟩ : Code), ⟨19, 13, 19, 42⟩, f1 :: f2 :: st⟩) =
    fun T n life gens drawn toks os s tk f1 f2 st K H gd lv => some (⟨T, n, life, gens, drawn, toks + 1, os⟩, ⟨K (PyData.keyHash w.params s), (.builtin "set.update.loop" ⟨[.ref 65, .ref 66], []⟩ : Code), ⟨19, 13, 19, 42⟩, f1 :: f2 :: st⟩)) (fun w => by kernel_rfl) (fun w => by kernel_rfl) w
theorem again_c (w : World) : (fun (T : BT) (n : Nat) (life : Life) (gens : Array GenState) (drawn : Drawn) (toks : Nat) (os : OsState) (f1 f2 : Frame) (st : List Frame) =>
    segGoT treeTable P0 w 11 (some (.ref 6)) 1 1 ⟨T, n, life, gens, drawn, toks, os⟩ ⟨.pure (.again (.builtin "set.update.loop" ⟨[.ref 65, .ref 66], []⟩ : Code)), (.builtin "set.update.loop" ⟨[.ref 65, .ref 66], []⟩ : Code), ⟨19, 13, 19, 42⟩, f1 :: f2 :: st⟩) =
    fun T n life gens drawn toks os f1 f2 st => some (⟨T, n, life, gens, drawn, toks, os⟩, ⟨Builtin.«set.update.loop» ⟨[.ref 65, .ref 66], []⟩, (.builtin "set.update.loop" ⟨[.ref 65, .ref 66], []⟩ : Code), ⟨19, 13, 19, 42⟩, f1 :: f2 :: st⟩) := by kernel_rfl
theorem put_c (w : World) : (fun (os : OsState) (o o' : Obj) (i : Int) (k : Nat) => ({ L_c w os o i k with toks := k + 1, tree := (L_c w os o i k).tree.set 65 (fun _ => o') } : SharedT)) = fun os o o' i k => L_c w os o' i (k + 1) := by kernel_rfl
theorem get_c (w : World) : (fun (os : OsState) (o : Obj) (i : Int) (k : Nat) => (L_c w os o i k).tree.get 65) = fun os o i k => some o := by kernel_rfl
theorem calm_c (f1 f2 : Frame) (st : List Frame) : Calm (.builtin "set.update.loop" ⟨[.ref 65, .ref 66], []⟩ : Code) ⟨19, 13, 19, 42⟩ (f1 :: f2 :: st) := trivial
theorem turn_c {w : World} {os : OsState} {f1 f2 : Frame} {st : List Frame} {s : Array (Int × Value) × Nat × SetTable} {cs : List (Str × Nat)} {c : Str × Nat} {i i' : Int} {k k' k'' : Nat}
    (nx : Does w (.builtin "set.update.loop" ⟨[.ref 65, .ref 66], []⟩ : Code) ⟨19, 13, 19, 42⟩ (f1 :: f2 :: st) 10 (pyNext (.ref 66)) (L_c w os (setObj s) i k) (L_c w os (setObj s) i' k') (some (.str c.1 c.2)))
    (I : Inv s cs) (hl : cs.length ≤ 1000) (hd : ∀ d ∈ cs, d.1 ≠ c.1) (hk : k'' = k' + 1) :
    Go w 26 (L_c w os (setObj s) i k) ⟨Builtin.«set.update.loop» ⟨[.ref 65, .ref 66], []⟩, (.builtin "set.update.loop" ⟨[.ref 65, .ref 66], []⟩ : Code), ⟨19, 13, 19, 42⟩, f1 :: f2 :: st⟩ (L_c w os (setObj (addS w.params s c)) i' k'') ⟨Builtin.«set.update.loop» ⟨[.ref 65, .ref 66], []⟩, (.builtin "set.update.loop" ⟨[.ref 65, .ref 66], []⟩ : Code), ⟨19, 13, 19, 42⟩, f1 :: f2 :: st⟩ := by
  subst hk
  have g := turn (w := w) (calm_c f1 f2 st) nx (fun K H gd lv => Go.of (congrFun (congrFun (congrFun (congrFun (congrFun (congrFun (congrFun (congrFun (congrFun (congrFun (congrFun (congrFun (congrFun (congrFun (congrFun (congrFun (hash_c w) _) _) _) _) _) _) _) _) _) _) _) _) K) H) gd) lv))
    (fun S => Go.of (congrFun (congrFun (congrFun (congrFun (congrFun (congrFun (congrFun (congrFun (congrFun (congrFun (again_c w) S.tree) S.n) S.life) S.gens) S.drawn) S.toks) S.os) f1) f2) st)) I hl hd rfl rfl (congrFun (congrFun (congrFun (congrFun (get_c w) os) (setObj s)) i') k')
  have e := congrFun (congrFun (congrFun (congrFun (congrFun (put_c w) os) (setObj s)) (setObj (addS w.params s c))) i') k'
  exact e ▸ g
theorem nx_c (w : World) : ((fun (os : OsState) (o : Obj) (f1 f2 : Frame) (st : List Frame) (K : Option Value → Sem PySem.Fin) (H : Value → Sem PySem.Fin) (gd : Bool → Bool) (lv : List Value → List Value) =>
    segGoT treeTable P0 w 11 (some (.ref 6)) 1 10 (L_c w os o 0 277) ⟨(pyNext (.ref 66)).wrap K H gd lv, (.builtin "set.update.loop" ⟨[.ref 65, .ref 66], []⟩ : Code), ⟨19, 13, 19, 42⟩, f1 :: f2 :: st⟩) = fun os o f1 f2 st K H gd lv => some (L_c w os o 1 278, ⟨K (some (.str "0" 277)), (.builtin "set.update.loop" ⟨[.ref 65, .ref 66], []⟩ : Code), ⟨19, 13, 19, 42⟩, f1 :: f2 :: st⟩)) ∧
  ((fun (os : OsState) (o : Obj) (f1 f2 : Frame) (st : List Frame) (K : Option Value → Sem PySem.Fin) (H : Value → Sem PySem.Fin) (gd : Bool → Bool) (lv : List Value → List Value) =>
    segGoT treeTable P0 w 11 (some (.ref 6)) 1 10 (L_c w os o 1 279) ⟨(pyNext (.ref 66)).wrap K H gd lv, (.builtin "set.update.loop" ⟨[.ref 65, .ref 66], []⟩ : Code), ⟨19, 13, 19, 42⟩, f1 :: f2 :: st⟩) = fun os o f1 f2 st K H gd lv => some (L_c w os o 2 280, ⟨K (some (.str "1" 279)), (.builtin "set.update.loop" ⟨[.ref 65, .ref 66], []⟩ : Code), ⟨19, 13, 19, 42⟩, f1 :: f2 :: st⟩)) ∧
  ((fun (os : OsState) (o : Obj) (f1 f2 : Frame) (st : List Frame) (K : Option Value → Sem PySem.Fin) (H : Value → Sem PySem.Fin) (gd : Bool → Bool) (lv : List Value → List Value) =>
    segGoT treeTable P0 w 11 (some (.ref 6)) 1 10 (L_c w os o 2 281) ⟨(pyNext (.ref 66)).wrap K H gd lv, (.builtin "set.update.loop" ⟨[.ref 65, .ref 66], []⟩ : Code), ⟨19, 13, 19, 42⟩, f1 :: f2 :: st⟩) = fun os o f1 f2 st K H gd lv => some (L_c w os o 3 282, ⟨K (some (.str "2" 281)), (.builtin "set.update.loop" ⟨[.ref 65, .ref 66], []⟩ : Code), ⟨19, 13, 19, 42⟩, f1 :: f2 :: st⟩)) ∧
  ((fun (os : OsState) (o : Obj) (f1 f2 : Frame) (st : List Frame) (K : Option Value → Sem PySem.Fin) (H : Value → Sem PySem.Fin) (gd : Bool → Bool) (lv : List Value → List Value) =>
    segGoT treeTable P0 w 11 (some (.ref 6)) 1 10 (L_c w os o 3 283) ⟨(pyNext (.ref 66)).wrap K H gd lv, (.builtin "set.update.loop" ⟨[.ref 65, .ref 66], []⟩ : Code), ⟨19, 13, 19, 42⟩, f1 :: f2 :: st⟩) = fun os o f1 f2 st K H gd lv => some (L_c w os o 4 284, ⟨K (some (.str "3" 283)), (.builtin "set.update.loop" ⟨[.ref 65, .ref 66], []⟩ : Code), ⟨19, 13, 19, 42⟩, f1 :: f2 :: st⟩)) ∧
  ((fun (os : OsState) (o : Obj) (f1 f2 : Frame) (st : List Frame) (K : Option Value → Sem PySem.Fin) (H : Value → Sem PySem.Fin) (gd : Bool → Bool) (lv : List Value → List Value) =>
    segGoT treeTable P0 w 11 (some (.ref 6)) 1 10 (L_c w os o 4 285) ⟨(pyNext (.ref 66)).wrap K H gd lv, (.builtin "set.update.loop" ⟨[.ref 65, .ref 66], []⟩ : Code), ⟨19, 13, 19, 42⟩, f1 :: f2 :: st⟩) = fun os o f1 f2 st K H gd lv => some (L_c w os o 5 286, ⟨K (some (.str "4" 285)), (.builtin "set.update.loop" ⟨[.ref 65, .ref 66], []⟩ : Code), ⟨19, 13, 19, 42⟩, f1 :: f2 :: st⟩)) ∧
  ((fun (os : OsState) (o : Obj) (f1 f2 : Frame) (st : List Frame) (K : Option Value → Sem PySem.Fin) (H : Value → Sem PySem.Fin) (gd : Bool → Bool) (lv : List Value → List Value) =>
    segGoT treeTable P0 w 11 (some (.ref 6)) 1 10 (L_c w os o 5 287) ⟨(pyNext (.ref 66)).wrap K H gd lv, (.builtin "set.update.loop" ⟨[.ref 65, .ref 66], []⟩ : Code), ⟨19, 13, 19, 42⟩, f1 :: f2 :: st⟩) = fun os o f1 f2 st K H gd lv => some (L_c w os o 6 288, ⟨K (some (.str "5" 287)), (.builtin "set.update.loop" ⟨[.ref 65, .ref 66], []⟩ : Code), ⟨19, 13, 19, 42⟩, f1 :: f2 :: st⟩)) ∧
  ((fun (os : OsState) (o : Obj) (f1 f2 : Frame) (st : List Frame) (K : Option Value → Sem PySem.Fin) (H : Value → Sem PySem.Fin) (gd : Bool → Bool) (lv : List Value → List Value) =>
    segGoT treeTable P0 w 11 (some (.ref 6)) 1 10 (L_c w os o 6 289) ⟨(pyNext (.ref 66)).wrap K H gd lv, (.builtin "set.update.loop" ⟨[.ref 65, .ref 66], []⟩ : Code), ⟨19, 13, 19, 42⟩, f1 :: f2 :: st⟩) = fun os o f1 f2 st K H gd lv => some (L_c w os o 7 290, ⟨K (some (.str "6" 289)), (.builtin "set.update.loop" ⟨[.ref 65, .ref 66], []⟩ : Code), ⟨19, 13, 19, 42⟩, f1 :: f2 :: st⟩)) ∧
  ((fun (os : OsState) (o : Obj) (f1 f2 : Frame) (st : List Frame) (K : Option Value → Sem PySem.Fin) (H : Value → Sem PySem.Fin) (gd : Bool → Bool) (lv : List Value → List Value) =>
    segGoT treeTable P0 w 11 (some (.ref 6)) 1 10 (L_c w os o 7 291) ⟨(pyNext (.ref 66)).wrap K H gd lv, (.builtin "set.update.loop" ⟨[.ref 65, .ref 66], []⟩ : Code), ⟨19, 13, 19, 42⟩, f1 :: f2 :: st⟩) = fun os o f1 f2 st K H gd lv => some (L_c w os o 8 292, ⟨K (some (.str "7" 291)), (.builtin "set.update.loop" ⟨[.ref 65, .ref 66], []⟩ : Code), ⟨19, 13, 19, 42⟩, f1 :: f2 :: st⟩)) ∧
  ((fun (os : OsState) (o : Obj) (f1 f2 : Frame) (st : List Frame) (K : Option Value → Sem PySem.Fin) (H : Value → Sem PySem.Fin) (gd : Bool → Bool) (lv : List Value → List Value) =>
    segGoT treeTable P0 w 11 (some (.ref 6)) 1 10 (L_c w os o 8 293) ⟨(pyNext (.ref 66)).wrap K H gd lv, (.builtin "set.update.loop" ⟨[.ref 65, .ref 66], []⟩ : Code), ⟨19, 13, 19, 42⟩, f1 :: f2 :: st⟩) = fun os o f1 f2 st K H gd lv => some (L_c w os o 9 294, ⟨K (some (.str "8" 293)), (.builtin "set.update.loop" ⟨[.ref 65, .ref 66], []⟩ : Code), ⟨19, 13, 19, 42⟩, f1 :: f2 :: st⟩)) ∧
  ((fun (os : OsState) (o : Obj) (f1 f2 : Frame) (st : List Frame) (K : Option Value → Sem PySem.Fin) (H : Value → Sem PySem.Fin) (gd : Bool → Bool) (lv : List Value → List Value) =>
    segGoT treeTable P0 w 11 (some (.ref 6)) 1 10 (L_c w os o 9 295) ⟨(pyNext (.ref 66)).wrap K H gd lv, (.builtin "set.update.loop" ⟨[.ref 65, .ref 66], []⟩ : Code), ⟨19, 13, 19, 42⟩, f1 :: f2 :: st⟩) = fun os o f1 f2 st K H gd lv => some (L_c w os o 10 296, ⟨K (some (.str "9" 295)), (.builtin "set.update.loop" ⟨[.ref 65, .ref 66], []⟩ : Code), ⟨19, 13, 19, 42⟩, f1 :: f2 :: st⟩)) ∧
  ((fun (os : OsState) (o : Obj) (f1 f2 : Frame) (st : List Frame) (K : Option Value → Sem PySem.Fin) (H : Value → Sem PySem.Fin) (gd : Bool → Bool) (lv : List Value → List Value) =>
    segGoT treeTable P0 w 11 (some (.ref 6)) 1 10 (L_c w os o 10 297) ⟨(pyNext (.ref 66)).wrap K H gd lv, (.builtin "set.update.loop" ⟨[.ref 65, .ref 66], []⟩ : Code), ⟨19, 13, 19, 42⟩, f1 :: f2 :: st⟩) = fun os o f1 f2 st K H gd lv => some (L_c w os o 11 298, ⟨K (some (.str "a" 297)), (.builtin "set.update.loop" ⟨[.ref 65, .ref 66], []⟩ : Code), ⟨19, 13, 19, 42⟩, f1 :: f2 :: st⟩)) ∧
  ((fun (os : OsState) (o : Obj) (f1 f2 : Frame) (st : List Frame) (K : Option Value → Sem PySem.Fin) (H : Value → Sem PySem.Fin) (gd : Bool → Bool) (lv : List Value → List Value) =>
    segGoT treeTable P0 w 11 (some (.ref 6)) 1 10 (L_c w os o 11 299) ⟨(pyNext (.ref 66)).wrap K H gd lv, (.builtin "set.update.loop" ⟨[.ref 65, .ref 66], []⟩ : Code), ⟨19, 13, 19, 42⟩, f1 :: f2 :: st⟩) = fun os o f1 f2 st K H gd lv => some (L_c w os o 12 300, ⟨K (some (.str "b" 299)), (.builtin "set.update.loop" ⟨[.ref 65, .ref 66], []⟩ : Code), ⟨19, 13, 19, 42⟩, f1 :: f2 :: st⟩)) ∧
  ((fun (os : OsState) (o : Obj) (f1 f2 : Frame) (st : List Frame) (K : Option Value → Sem PySem.Fin) (H : Value → Sem PySem.Fin) (gd : Bool → Bool) (lv : List Value → List Value) =>
    segGoT treeTable P0 w 11 (some (.ref 6)) 1 10 (L_c w os o 12 301) ⟨(pyNext (.ref 66)).wrap K H gd lv, (.builtin "set.update.loop" ⟨[.ref 65, .ref 66], []⟩ : Code), ⟨19, 13, 19, 42⟩, f1 :: f2 :: st⟩) = fun os o f1 f2 st K H gd lv => some (L_c w os o 13 302, ⟨K (some (.str "c" 301)), (.builtin "set.update.loop" ⟨[.ref 65, .ref 66], []⟩ : Code), ⟨19, 13, 19, 42⟩, f1 :: f2 :: st⟩)) ∧
  ((fun (os : OsState) (o : Obj) (f1 f2 : Frame) (st : List Frame) (K : Option Value → Sem PySem.Fin) (H : Value → Sem PySem.Fin) (gd : Bool → Bool) (lv : List Value → List Value) =>
    segGoT treeTable P0 w 11 (some (.ref 6)) 1 10 (L_c w os o 13 303) ⟨(pyNext (.ref 66)).wrap K H gd lv, (.builtin "set.update.loop" ⟨[.ref 65, .ref 66], []⟩ : Code), ⟨19, 13, 19, 42⟩, f1 :: f2 :: st⟩) = fun os o f1 f2 st K H gd lv => some (L_c w os o 14 304, ⟨K (some (.str "d" 303)), (.builtin "set.update.loop" ⟨[.ref 65, .ref 66], []⟩ : Code), ⟨19, 13, 19, 42⟩, f1 :: f2 :: st⟩)) ∧
  ((fun (os : OsState) (o : Obj) (f1 f2 : Frame) (st : List Frame) (K : Option Value → Sem PySem.Fin) (H : Value → Sem PySem.Fin) (gd : Bool → Bool) (lv : List Value → List Value) =>
    segGoT treeTable P0 w 11 (some (.ref 6)) 1 10 (L_c w os o 14 305) ⟨(pyNext (.ref 66)).wrap K H gd lv, (.builtin "set.update.loop" ⟨[.ref 65, .ref 66], []⟩ : Code), ⟨19, 13, 19, 42⟩, f1 :: f2 :: st⟩) = fun os o f1 f2 st K H gd lv => some (L_c w os o 15 306, ⟨K (some (.str "e" 305)), (.builtin "set.update.loop" ⟨[.ref 65, .ref 66], []⟩ : Code), ⟨19, 13, 19, 42⟩, f1 :: f2 :: st⟩)) ∧
  ((fun (os : OsState) (o : Obj) (f1 f2 : Frame) (st : List Frame) (K : Option Value → Sem PySem.Fin) (H : Value → Sem PySem.Fin) (gd : Bool → Bool) (lv : List Value → List Value) =>
    segGoT treeTable P0 w 11 (some (.ref 6)) 1 10 (L_c w os o 15 307) ⟨(pyNext (.ref 66)).wrap K H gd lv, (.builtin "set.update.loop" ⟨[.ref 65, .ref 66], []⟩ : Code), ⟨19, 13, 19, 42⟩, f1 :: f2 :: st⟩) = fun os o f1 f2 st K H gd lv => some (L_c w os o 16 308, ⟨K (some (.str "f" 307)), (.builtin "set.update.loop" ⟨[.ref 65, .ref 66], []⟩ : Code), ⟨19, 13, 19, 42⟩, f1 :: f2 :: st⟩)) ∧
  ((fun (os : OsState) (o : Obj) (f1 f2 : Frame) (st : List Frame) (K : Option Value → Sem PySem.Fin) (H : Value → Sem PySem.Fin) (gd : Bool → Bool) (lv : List Value → List Value) =>
    segGoT treeTable P0 w 11 (some (.ref 6)) 1 10 (L_c w os o 16 309) ⟨(pyNext (.ref 66)).wrap K H gd lv, (.builtin "set.update.loop" ⟨[.ref 65, .ref 66], []⟩ : Code), ⟨19, 13, 19, 42⟩, f1 :: f2 :: st⟩) = fun os o f1 f2 st K H gd lv => some (L_c w os o 17 310, ⟨K (some (.str "A" 309)), (.builtin "set.update.loop" ⟨[.ref 65, .ref 66], []⟩ : Code), ⟨19, 13, 19, 42⟩, f1 :: f2 :: st⟩)) ∧
  ((fun (os : OsState) (o : Obj) (f1 f2 : Frame) (st : List Frame) (K : Option Value → Sem PySem.Fin) (H : Value → Sem PySem.Fin) (gd : Bool → Bool) (lv : List Value → List Value) =>
    segGoT treeTable P0 w 11 (some (.ref 6)) 1 10 (L_c w os o 17 311) ⟨(pyNext (.ref 66)).wrap K H gd lv, (.builtin "set.update.loop" ⟨[.ref 65, .ref 66], []⟩ : Code), ⟨19, 13, 19, 42⟩, f1 :: f2 :: st⟩) = fun os o f1 f2 st K H gd lv => some (L_c w os o 18 312, ⟨K (some (.str "B" 311)), (.builtin "set.update.loop" ⟨[.ref 65, .ref 66], []⟩ : Code), ⟨19, 13, 19, 42⟩, f1 :: f2 :: st⟩)) ∧
  ((fun (os : OsState) (o : Obj) (f1 f2 : Frame) (st : List Frame) (K : Option Value → Sem PySem.Fin) (H : Value → Sem PySem.Fin) (gd : Bool → Bool) (lv : List Value → List Value) =>
    segGoT treeTable P0 w 11 (some (.ref 6)) 1 10 (L_c w os o 18 313) ⟨(pyNext (.ref 66)).wrap K H gd lv, (.builtin "set.update.loop" ⟨[.ref 65, .ref 66], []⟩ : Code), ⟨19, 13, 19, 42⟩, f1 :: f2 :: st⟩) = fun os o f1 f2 st K H gd lv => some (L_c w os o 19 314, ⟨K (some (.str "C" 313)), (.builtin "set.update.loop" ⟨[.ref 65, .ref 66], []⟩ : Code), ⟨19, 13, 19, 42⟩, f1 :: f2 :: st⟩)) ∧
  ((fun (os : OsState) (o : Obj) (f1 f2 : Frame) (st : List Frame) (K : Option Value → Sem PySem.Fin) (H : Value → Sem PySem.Fin) (gd : Bool → Bool) (lv : List Value → List Value) =>
    segGoT treeTable P0 w 11 (some (.ref 6)) 1 10 (L_c w os o 19 315) ⟨(pyNext (.ref 66)).wrap K H gd lv, (.builtin "set.update.loop" ⟨[.ref 65, .ref 66], []⟩ : Code), ⟨19, 13, 19, 42⟩, f1 :: f2 :: st⟩) = fun os o f1 f2 st K H gd lv => some (L_c w os o 20 316, ⟨K (some (.str "D" 315)), (.builtin "set.update.loop" ⟨[.ref 65, .ref 66], []⟩ : Code), ⟨19, 13, 19, 42⟩, f1 :: f2 :: st⟩)) ∧
  ((fun (os : OsState) (o : Obj) (f1 f2 : Frame) (st : List Frame) (K : Option Value → Sem PySem.Fin) (H : Value → Sem PySem.Fin) (gd : Bool → Bool) (lv : List Value → List Value) =>
    segGoT treeTable P0 w 11 (some (.ref 6)) 1 10 (L_c w os o 20 317) ⟨(pyNext (.ref 66)).wrap K H gd lv, (.builtin "set.update.loop" ⟨[.ref 65, .ref 66], []⟩ : Code), ⟨19, 13, 19, 42⟩, f1 :: f2 :: st⟩) = fun os o f1 f2 st K H gd lv => some (L_c w os o 21 318, ⟨K (some (.str "E" 317)), (.builtin "set.update.loop" ⟨[.ref 65, .ref 66], []⟩ : Code), ⟨19, 13, 19, 42⟩, f1 :: f2 :: st⟩)) ∧
  ((fun (os : OsState) (o : Obj) (f1 f2 : Frame) (st : List Frame) (K : Option Value → Sem PySem.Fin) (H : Value → Sem PySem.Fin) (gd : Bool → Bool) (lv : List Value → List Value) =>
    segGoT treeTable P0 w 11 (some (.ref 6)) 1 10 (L_c w os o 21 319) ⟨(pyNext (.ref 66)).wrap K H gd lv, (.builtin "set.update.loop" ⟨[.ref 65, .ref 66], []⟩ : Code), ⟨19, 13, 19, 42⟩, f1 :: f2 :: st⟩) = fun os o f1 f2 st K H gd lv => some (L_c w os o 22 320, ⟨K (some (.str "F" 319)), (.builtin "set.update.loop" ⟨[.ref 65, .ref 66], []⟩ : Code), ⟨19, 13, 19, 42⟩, f1 :: f2 :: st⟩)) := ⟨by kernel_rfl, by kernel_rfl, by kernel_rfl, by kernel_rfl, by kernel_rfl, by kernel_rfl, by kernel_rfl, by kernel_rfl, by kernel_rfl, by kernel_rfl, by kernel_rfl, by kernel_rfl, by kernel_rfl, by kernel_rfl, by kernel_rfl, by kernel_rfl, by kernel_rfl, by kernel_rfl, by kernel_rfl, by kernel_rfl, by kernel_rfl, by kernel_rfl⟩
theorem loop_c (w : World) (os : OsState) (f1 f2 : Frame) (st : List Frame) : Go w 572 (L_c w os (setObj (start0 w.params)) 0 277) ⟨Builtin.«set.update.loop» ⟨[.ref 65, .ref 66], []⟩, (.builtin "set.update.loop" ⟨[.ref 65, .ref 66], []⟩ : Code), ⟨19, 13, 19, 42⟩, f1 :: f2 :: st⟩
    (L_c w os (setObj (addsOf w.params csH)) 22 321) ⟨Builtin.«set.update.loop» ⟨[.ref 65, .ref 66], []⟩, (.builtin "set.update.loop" ⟨[.ref 65, .ref 66], []⟩ : Code), ⟨19, 13, 19, 42⟩, f1 :: f2 :: st⟩ := by
  have I0 := inv_start w.params
  obtain ⟨n0, n1, n2, n3, n4, n5, n6, n7, n8, n9, n10, n11, n12, n13, n14, n15, n16, n17, n18, n19, n20, n21⟩ := nx_c w
  have g0 : Go w 26 _ _ _ _ := turn_c (w := w) (os := os) (f1 := f1) (f2 := f2) (st := st) (c := ("0", 277)) (i := 0) (i' := 1) (k := 277) (k' := 278) (k'' := 279) (fun K H gd lv => Go.of (congrFun (congrFun (congrFun (congrFun (congrFun (congrFun (congrFun (congrFun (congrFun n0 os) _) f1) f2) st) K) H) gd) lv)) I0 (by decide) (by decide) rfl
  have I1 := inv_addS I0 w.params ("0", 277)
  have g1 : Go w 26 _ _ _ _ := turn_c (w := w) (os := os) (f1 := f1) (f2 := f2) (st := st) (c := ("1", 279)) (i := 1) (i' := 2) (k := 279) (k' := 280) (k'' := 281) (fun K H gd lv => Go.of (congrFun (congrFun (congrFun (congrFun (congrFun (congrFun (congrFun (congrFun (congrFun n1 os) _) f1) f2) st) K) H) gd) lv)) I1 (by decide) (by decide) rfl
  have I2 := inv_addS I1 w.params ("1", 279)
  have g2 : Go w 26 _ _ _ _ := turn_c (w := w) (os := os) (f1 := f1) (f2 := f2) (st := st) (c := ("2", 281)) (i := 2) (i' := 3) (k := 281) (k' := 282) (k'' := 283) (fun K H gd lv => Go.of (congrFun (congrFun (congrFun (congrFun (congrFun (congrFun (congrFun (congrFun (congrFun n2 os) _) f1) f2) st) K) H) gd) lv)) I2 (by decide) (by decide) rfl
  have I3 := inv_addS I2 w.params ("2", 281)
  have g3 : Go w 26 _ _ _ _ := turn_c (w := w) (os := os) (f1 := f1) (f2 := f2) (st := st) (c := ("3", 283)) (i := 3) (i' := 4) (k := 283) (k' := 284) (k'' := 285) (fun K H gd lv => Go.of (congrFun (congrFun (congrFun (congrFun (congrFun (congrFun (congrFun (congrFun (congrFun n3 os) _) f1) f2) st) K) H) gd) lv)) I3 (by decide) (by decide) rfl
  have I4 := inv_addS I3 w.params ("3", 283)
  have g4 : Go w 26 _ _ _ _ := turn_c (w := w) (os := os) (f1 := f1) (f2 := f2) (st := st) (c := ("4", 285)) (i := 4) (i' := 5) (k := 285) (k' := 286) (k'' := 287) (fun K H gd lv => Go.of (congrFun (congrFun (congrFun (congrFun (congrFun (congrFun (congrFun (congrFun (congrFun n4 os) _) f1) f2) st) K) H) gd) lv)) I4 (by decide) (by decide) rfl
  have I5 := inv_addS I4 w.params ("4", 285)
  have g5 : Go w 26 _ _ _ _ := turn_c (w := w) (os := os) (f1 := f1) (f2 := f2) (st := st) (c := ("5", 287)) (i := 5) (i' := 6) (k := 287) (k' := 288) (k'' := 289) (fun K H gd lv => Go.of (congrFun (congrFun (congrFun (congrFun (congrFun (congrFun (congrFun (congrFun (congrFun n5 os) _) f1) f2) st) K) H) gd) lv)) I5 (by decide) (by decide) rfl
  have I6 := inv_addS I5 w.params ("5", 287)
  have g6 : Go w 26 _ _ _ _ := turn_c (w := w) (os := os) (f1 := f1) (f2 := f2) (st := st) (c := ("6", 289)) (i := 6) (i' := 7) (k := 289) (k' := 290) (k'' := 291) (fun K H gd lv => Go.of (congrFun (congrFun (congrFun (congrFun (congrFun (congrFun (congrFun (congrFun (congrFun n6 os) _) f1) f2) st) K) H) gd) lv)) I6 (by decide) (by decide) rfl
  have I7 := inv_addS I6 w.params ("6", 289)
  have g7 : Go w 26 _ _ _ _ := turn_c (w := w) (os := os) (f1 := f1) (f2 := f2) (st := st) (c := ("7", 291)) (i := 7) (i' := 8) (k := 291) (k' := 292) (k'' := 293) (fun K H gd lv => Go.of (congrFun (congrFun (congrFun (congrFun (congrFun (congrFun (congrFun (congrFun (congrFun n7 os) _) f1) f2) st) K) H) gd) lv)) I7 (by decide) (by decide) rfl
  have I8 := inv_addS I7 w.params ("7", 291)
  have g8 : Go w 26 _ _ _ _ := turn_c (w := w) (os := os) (f1 := f1) (f2 := f2) (st := st) (c := ("8", 293)) (i := 8) (i' := 9) (k := 293) (k' := 294) (k'' := 295) (fun K H gd lv => Go.of (congrFun (congrFun (congrFun (congrFun (congrFun (congrFun (congrFun (congrFun (congrFun n8 os) _) f1) f2) st) K) H) gd) lv)) I8 (by decide) (by decide) rfl
  have I9 := inv_addS I8 w.params ("8", 293)
  have g9 : Go w 26 _ _ _ _ := turn_c (w := w) (os := os) (f1 := f1) (f2 := f2) (st := st) (c := ("9", 295)) (i := 9) (i' := 10) (k := 295) (k' := 296) (k'' := 297) (fun K H gd lv => Go.of (congrFun (congrFun (congrFun (congrFun (congrFun (congrFun (congrFun (congrFun (congrFun n9 os) _) f1) f2) st) K) H) gd) lv)) I9 (by decide) (by decide) rfl
  have I10 := inv_addS I9 w.params ("9", 295)
  have g10 : Go w 26 _ _ _ _ := turn_c (w := w) (os := os) (f1 := f1) (f2 := f2) (st := st) (c := ("a", 297)) (i := 10) (i' := 11) (k := 297) (k' := 298) (k'' := 299) (fun K H gd lv => Go.of (congrFun (congrFun (congrFun (congrFun (congrFun (congrFun (congrFun (congrFun (congrFun n10 os) _) f1) f2) st) K) H) gd) lv)) I10 (by decide) (by decide) rfl
  have I11 := inv_addS I10 w.params ("a", 297)
  have g11 : Go w 26 _ _ _ _ := turn_c (w := w) (os := os) (f1 := f1) (f2 := f2) (st := st) (c := ("b", 299)) (i := 11) (i' := 12) (k := 299) (k' := 300) (k'' := 301) (fun K H gd lv => Go.of (congrFun (congrFun (congrFun (congrFun (congrFun (congrFun (congrFun (congrFun (congrFun n11 os) _) f1) f2) st) K) H) gd) lv)) I11 (by decide) (by decide) rfl
  have I12 := inv_addS I11 w.params ("b", 299)
  have g12 : Go w 26 _ _ _ _ := turn_c (w := w) (os := os) (f1 := f1) (f2 := f2) (st := st) (c := ("c", 301)) (i := 12) (i' := 13) (k := 301) (k' := 302) (k'' := 303) (fun K H gd lv => Go.of (congrFun (congrFun (congrFun (congrFun (congrFun (congrFun (congrFun (congrFun (congrFun n12 os) _) f1) f2) st) K) H) gd) lv)) I12 (by decide) (by decide) rfl
  have I13 := inv_addS I12 w.params ("c", 301)
  have g13 : Go w 26 _ _ _ _ := turn_c (w := w) (os := os) (f1 := f1) (f2 := f2) (st := st) (c := ("d", 303)) (i := 13) (i' := 14) (k := 303) (k' := 304) (k'' := 305) (fun K H gd lv => Go.of (congrFun (congrFun (congrFun (congrFun (congrFun (congrFun (congrFun (congrFun (congrFun n13 os) _) f1) f2) st) K) H) gd) lv)) I13 (by decide) (by decide) rfl
  have I14 := inv_addS I13 w.params ("d", 303)
  have g14 : Go w 26 _ _ _ _ := turn_c (w := w) (os := os) (f1 := f1) (f2 := f2) (st := st) (c := ("e", 305)) (i := 14) (i' := 15) (k := 305) (k' := 306) (k'' := 307) (fun K H gd lv => Go.of (congrFun (congrFun (congrFun (congrFun (congrFun (congrFun (congrFun (congrFun (congrFun n14 os) _) f1) f2) st) K) H) gd) lv)) I14 (by decide) (by decide) rfl
  have I15 := inv_addS I14 w.params ("e", 305)
  have g15 : Go w 26 _ _ _ _ := turn_c (w := w) (os := os) (f1 := f1) (f2 := f2) (st := st) (c := ("f", 307)) (i := 15) (i' := 16) (k := 307) (k' := 308) (k'' := 309) (fun K H gd lv => Go.of (congrFun (congrFun (congrFun (congrFun (congrFun (congrFun (congrFun (congrFun (congrFun n15 os) _) f1) f2) st) K) H) gd) lv)) I15 (by decide) (by decide) rfl
  have I16 := inv_addS I15 w.params ("f", 307)
  have g16 : Go w 26 _ _ _ _ := turn_c (w := w) (os := os) (f1 := f1) (f2 := f2) (st := st) (c := ("A", 309)) (i := 16) (i' := 17) (k := 309) (k' := 310) (k'' := 311) (fun K H gd lv => Go.of (congrFun (congrFun (congrFun (congrFun (congrFun (congrFun (congrFun (congrFun (congrFun n16 os) _) f1) f2) st) K) H) gd) lv)) I16 (by decide) (by decide) rfl
  have I17 := inv_addS I16 w.params ("A", 309)
  have g17 : Go w 26 _ _ _ _ := turn_c (w := w) (os := os) (f1 := f1) (f2 := f2) (st := st) (c := ("B", 311)) (i := 17) (i' := 18) (k := 311) (k' := 312) (k'' := 313) (fun K H gd lv => Go.of (congrFun (congrFun (congrFun (congrFun (congrFun (congrFun (congrFun (congrFun (congrFun n17 os) _) f1) f2) st) K) H) gd) lv)) I17 (by decide) (by decide) rfl
  have I18 := inv_addS I17 w.params ("B", 311)
  have g18 : Go w 26 _ _ _ _ := turn_c (w := w) (os := os) (f1 := f1) (f2 := f2) (st := st) (c := ("C", 313)) (i := 18) (i' := 19) (k := 313) (k' := 314) (k'' := 315) (fun K H gd lv => Go.of (congrFun (congrFun (congrFun (congrFun (congrFun (congrFun (congrFun (congrFun (congrFun n18 os) _) f1) f2) st) K) H) gd) lv)) I18 (by decide) (by decide) rfl
  have I19 := inv_addS I18 w.params ("C", 313)
  have g19 : Go w 26 _ _ _ _ := turn_c (w := w) (os := os) (f1 := f1) (f2 := f2) (st := st) (c := ("D", 315)) (i := 19) (i' := 20) (k := 315) (k' := 316) (k'' := 317) (fun K H gd lv => Go.of (congrFun (congrFun (congrFun (congrFun (congrFun (congrFun (congrFun (congrFun (congrFun n19 os) _) f1) f2) st) K) H) gd) lv)) I19 (by decide) (by decide) rfl
  have I20 := inv_addS I19 w.params ("D", 315)
  have g20 : Go w 26 _ _ _ _ := turn_c (w := w) (os := os) (f1 := f1) (f2 := f2) (st := st) (c := ("E", 317)) (i := 20) (i' := 21) (k := 317) (k' := 318) (k'' := 319) (fun K H gd lv => Go.of (congrFun (congrFun (congrFun (congrFun (congrFun (congrFun (congrFun (congrFun (congrFun n20 os) _) f1) f2) st) K) H) gd) lv)) I20 (by decide) (by decide) rfl
  have I21 := inv_addS I20 w.params ("E", 317)
  have g21 : Go w 26 _ _ _ _ := turn_c (w := w) (os := os) (f1 := f1) (f2 := f2) (st := st) (c := ("F", 319)) (i := 21) (i' := 22) (k := 319) (k' := 320) (k'' := 321) (fun K H gd lv => Go.of (congrFun (congrFun (congrFun (congrFun (congrFun (congrFun (congrFun (congrFun (congrFun n21 os) _) f1) f2) st) K) H) gd) lv)) I21 (by decide) (by decide) rfl
  have I22 := inv_addS I21 w.params ("F", 319)
  have all := (((((((((((((((((((((g0).trans g1).trans g2).trans g3).trans g4).trans g5).trans g6).trans g7).trans g8).trans g9).trans g10).trans g11).trans g12).trans g13).trans g14).trans g15).trans g16).trans g17).trans g18).trans g19).trans g20).trans g21
  have e : addsOf w.params csH = (addS w.params (addS w.params (addS w.params (addS w.params (addS w.params (addS w.params (addS w.params (addS w.params (addS w.params (addS w.params (addS w.params (addS w.params (addS w.params (addS w.params (addS w.params (addS w.params (addS w.params (addS w.params (addS w.params (addS w.params (addS w.params (addS w.params (start0 w.params) ("0", 277)) ("1", 279)) ("2", 281)) ("3", 283)) ("4", 285)) ("5", 287)) ("6", 289)) ("7", 291)) ("8", 293)) ("9", 295)) ("a", 297)) ("b", 299)) ("c", 301)) ("d", 303)) ("e", 305)) ("f", 307)) ("A", 309)) ("B", 311)) ("C", 313)) ("D", 315)) ("E", 317)) ("F", 319)) := by kernel_rfl
  rw [e]
  exact all
theorem inv_c (P : Params) : Inv (addsOf P csH) csH.reverse := by
  have I0 := inv_start P
  have I1 := inv_addS I0 P ("0", 277)
  have I2 := inv_addS I1 P ("1", 279)
  have I3 := inv_addS I2 P ("2", 281)
  have I4 := inv_addS I3 P ("3", 283)
  have I5 := inv_addS I4 P ("4", 285)
  have I6 := inv_addS I5 P ("5", 287)
  have I7 := inv_addS I6 P ("6", 289)
  have I8 := inv_addS I7 P ("7", 291)
  have I9 := inv_addS I8 P ("8", 293)
  have I10 := inv_addS I9 P ("9", 295)
  have I11 := inv_addS I10 P ("a", 297)
  have I12 := inv_addS I11 P ("b", 299)
  have I13 := inv_addS I12 P ("c", 301)
  have I14 := inv_addS I13 P ("d", 303)
  have I15 := inv_addS I14 P ("e", 305)
  have I16 := inv_addS I15 P ("f", 307)
  have I17 := inv_addS I16 P ("A", 309)
  have I18 := inv_addS I17 P ("B", 311)
  have I19 := inv_addS I18 P ("C", 313)
  have I20 := inv_addS I19 P ("D", 315)
  have I21 := inv_addS I20 P ("E", 317)
  have I22 := inv_addS I21 P ("F", 319)
  have e : addsOf P csH = (addS P (addS P (addS P (addS P (addS P (addS P (addS P (addS P (addS P (addS P (addS P (addS P (addS P (addS P (addS P (addS P (addS P (addS P (addS P (addS P (addS P (addS P (start0 P) ("0", 277)) ("1", 279)) ("2", 281)) ("3", 283)) ("4", 285)) ("5", 287)) ("6", 289)) ("7", 291)) ("8", 293)) ("9", 295)) ("a", 297)) ("b", 299)) ("c", 301)) ("d", 303)) ("e", 305)) ("f", 307)) ("A", 309)) ("B", 311)) ("C", 313)) ("D", 315)) ("E", 317)) ("F", 319)) := by kernel_rfl
  have e2 : csH.reverse = ([("F", 319), ("E", 317), ("D", 315), ("C", 313), ("B", 311), ("A", 309), ("f", 307), ("e", 305), ("d", 303), ("c", 301), ("b", 299), ("a", 297), ("9", 295), ("8", 293), ("7", 291), ("6", 289), ("5", 287), ("4", 285), ("3", 283), ("2", 281), ("1", 279), ("0", 277)] : List (Str × Nat)) := by kernel_rfl
  rw [e, e2]
  exact I22
theorem post_c (w : World) : (fun os => segRunT treeTable P0 w 11 (some (.ref 6)) 1 60 (L_c w os (setObj (addsOf w.params csH)) 22 321) ⟨Builtin.«set.update.loop» ⟨[.ref 65, .ref 66], []⟩, (.builtin "set.update.loop" ⟨[.ref 65, .ref 66], []⟩ : Code), ⟨19, 13, 19, 42⟩, stk_c w os⟩) = fun os => some (.next, S_c w os, cE, ⟨19, 0, 19, 10⟩) :=
  byRow2 "special-get-raises" (P := fun w => (fun os => segRunT treeTable P0 w 11 (some (.ref 6)) 1 60 (L_c w os (setObj (addsOf w.params csH)) 22 321) ⟨Builtin.«set.update.loop» ⟨[.ref 65, .ref 66], []⟩, (.builtin "set.update.loop" ⟨[.ref 65, .ref 66], []⟩ : Code), ⟨19, 13, 19, 42⟩, stk_c w os⟩) = fun os => some (.next, S_c w os, cE, ⟨19, 0, 19, 10⟩)) (fun w => by kernel_rfl) (fun w => by kernel_rfl) w
theorem seg_c (w : World) : (fun os => segRunT treeTable PySem.Challenge.pw_on0057_01 w 11 (some (.ref 6)) 1 (28 + 572 + 60) (S_b w os) (piecesOf sts_c env0 cE ⟨18, 0, 18, 6⟩ topB)) = fun os => some (.next, S_c w os, cE, ⟨19, 0, 19, 10⟩) := by
  funext os
  have g := (Go.of (congrFun (pre_c_eq w) os)).trans (by
    have h := loop_c w os ((stk_c w os).headD fr0) ((stk_c w os).tail.headD fr0) (stk_c w os).tail.tail
    rw [← congrFun (stk_c_eq w) os] at h
    exact h)
  exact g.run (congrFun (post_c w) os)
noncomputable def sts_d : List Stmt := (PySem.Challenge.pw_on0057_01.main.body.drop 7).take 1
noncomputable def pre_d (w : World) (os : OsState) : Option (SharedT × Thread) := segGoT treeTable P0 w 11 (some (.ref 6)) 1 28 (S_c w os) (piecesOf sts_d env0 cE ⟨19, 0, 19, 10⟩ topB)
noncomputable def stk_d (w : World) (os : OsState) : List Frame := match pre_d w os with
  | some (_, t) => t.stack
  | none => []
noncomputable def L_d (w : World) (os : OsState) (o : Obj) (i : Int) (k : Nat) : SharedT := Lst (T_c w.params) 71 69 70 o (itO "01234567" 322 i) k os
theorem pre_d_eq (w : World) : (fun os => pre_d w os) = fun os => some (L_d w os (setObj (start0 w.params)) 0 323, ⟨Builtin.«set.update.loop» ⟨[.ref 69, .ref 70], []⟩, (.builtin "set.update.loop" ⟨[.ref 69, .ref 70], []⟩ : Code), ⟨20, 15, 20, 30⟩, stk_d w os⟩) :=
  byRow2 "special-get-raises" (P := fun w => (fun os => pre_d w os) = fun os => some (L_d w os (setObj (start0 w.params)) 0 323, ⟨Builtin.«set.update.loop» ⟨[.ref 69, .ref 70], []⟩, (.builtin "set.update.loop" ⟨[.ref 69, .ref 70], []⟩ : Code), ⟨20, 15, 20, 30⟩, stk_d w os⟩)) (fun w => by kernel_rfl) (fun w => by kernel_rfl) w
theorem stk_d_eq (w : World) : (fun os => stk_d w os) = fun os => (stk_d w os).headD fr0 :: (stk_d w os).tail.headD fr0 :: (stk_d w os).tail.tail :=
  byRow2 "special-get-raises" (P := fun w => (fun os => stk_d w os) = fun os => (stk_d w os).headD fr0 :: (stk_d w os).tail.headD fr0 :: (stk_d w os).tail.tail) (fun w => by kernel_rfl) (fun w => by kernel_rfl) w
theorem hash_d (w : World) : (fun (T : BT) (n : Nat) (life : Life) (gens : Array GenState) (drawn : Drawn) (toks : Nat) (os : OsState) (s : Str) (tk : Nat) (f1 f2 : Frame) (st : List Frame) (K : Int → Sem PySem.Fin) (H : Value → Sem PySem.Fin) (gd : Bool → Bool) (lv : List Value → List Value) =>
    segGoT treeTable P0 w 11 (some (.ref 6)) 1 7 ⟨T, n, life, gens, drawn, toks, os⟩ ⟨(pyHash (.str s tk)).wrap K H gd lv, (.builtin "set.update.loop" ⟨[.ref 69, .ref 70], []⟩ : Code), ⟨20, 15, 20, 30⟩, f1 :: f2 :: st⟩) =
    fun T n life gens drawn toks os s tk f1 f2 st K H gd lv => some (⟨T, n, life, gens, drawn, toks + 1, os⟩, ⟨K (PyData.keyHash w.params s), (.builtin "set.update.loop" ⟨[.ref 69, .ref 70], []⟩ : Code), ⟨20, 15, 20, 30⟩, f1 :: f2 :: st⟩) :=
  byRow2 "special-get-raises" (P := fun w => (fun (T : BT) (n : Nat) (life : Life) (gens : Array GenState) (drawn : Drawn) (toks : Nat) (os : OsState) (s : Str) (tk : Nat) (f1 f2 : Frame) (st : List Frame) (K : Int → Sem PySem.Fin) (H : Value → Sem PySem.Fin) (gd : Bool → Bool) (lv : List Value → List Value) =>
    segGoT treeTable P0 w 11 (some (.ref 6)) 1 7 ⟨T, n, life, gens, drawn, toks, os⟩ ⟨(pyHash (.str s tk)).wrap K H gd lv, (.builtin "set.update.loop" ⟨[.ref 69, .ref 70], []⟩ : Code), ⟨20, 15, 20, 30⟩, f1 :: f2 :: st⟩) =
    fun T n life gens drawn toks os s tk f1 f2 st K H gd lv => some (⟨T, n, life, gens, drawn, toks + 1, os⟩, ⟨K (PyData.keyHash w.params s), (.builtin "set.update.loop" ⟨[.ref 69, .ref 70], []⟩ : Code), ⟨20, 15, 20, 30⟩, f1 :: f2 :: st⟩)) (fun w => by kernel_rfl) (fun w => by kernel_rfl) w
theorem again_d (w : World) : (fun (T : BT) (n : Nat) (life : Life) (gens : Array GenState) (drawn : Drawn) (toks : Nat) (os : OsState) (f1 f2 : Frame) (st : List Frame) =>
    segGoT treeTable P0 w 11 (some (.ref 6)) 1 1 ⟨T, n, life, gens, drawn, toks, os⟩ ⟨.pure (.again (.builtin "set.update.loop" ⟨[.ref 69, .ref 70], []⟩ : Code)), (.builtin "set.update.loop" ⟨[.ref 69, .ref 70], []⟩ : Code), ⟨20, 15, 20, 30⟩, f1 :: f2 :: st⟩) =
    fun T n life gens drawn toks os f1 f2 st => some (⟨T, n, life, gens, drawn, toks, os⟩, ⟨Builtin.«set.update.loop» ⟨[.ref 69, .ref 70], []⟩, (.builtin "set.update.loop" ⟨[.ref 69, .ref 70], []⟩ : Code), ⟨20, 15, 20, 30⟩, f1 :: f2 :: st⟩) := by kernel_rfl
theorem put_d (w : World) : (fun (os : OsState) (o o' : Obj) (i : Int) (k : Nat) => ({ L_d w os o i k with toks := k + 1, tree := (L_d w os o i k).tree.set 69 (fun _ => o') } : SharedT)) = fun os o o' i k => L_d w os o' i (k + 1) := by kernel_rfl
theorem get_d (w : World) : (fun (os : OsState) (o : Obj) (i : Int) (k : Nat) => (L_d w os o i k).tree.get 69) = fun os o i k => some o := by kernel_rfl
theorem calm_d (f1 f2 : Frame) (st : List Frame) : Calm (.builtin "set.update.loop" ⟨[.ref 69, .ref 70], []⟩ : Code) ⟨20, 15, 20, 30⟩ (f1 :: f2 :: st) := trivial
theorem turn_d {w : World} {os : OsState} {f1 f2 : Frame} {st : List Frame} {s : Array (Int × Value) × Nat × SetTable} {cs : List (Str × Nat)} {c : Str × Nat} {i i' : Int} {k k' k'' : Nat}
    (nx : Does w (.builtin "set.update.loop" ⟨[.ref 69, .ref 70], []⟩ : Code) ⟨20, 15, 20, 30⟩ (f1 :: f2 :: st) 10 (pyNext (.ref 70)) (L_d w os (setObj s) i k) (L_d w os (setObj s) i' k') (some (.str c.1 c.2)))
    (I : Inv s cs) (hl : cs.length ≤ 1000) (hd : ∀ d ∈ cs, d.1 ≠ c.1) (hk : k'' = k' + 1) :
    Go w 26 (L_d w os (setObj s) i k) ⟨Builtin.«set.update.loop» ⟨[.ref 69, .ref 70], []⟩, (.builtin "set.update.loop" ⟨[.ref 69, .ref 70], []⟩ : Code), ⟨20, 15, 20, 30⟩, f1 :: f2 :: st⟩ (L_d w os (setObj (addS w.params s c)) i' k'') ⟨Builtin.«set.update.loop» ⟨[.ref 69, .ref 70], []⟩, (.builtin "set.update.loop" ⟨[.ref 69, .ref 70], []⟩ : Code), ⟨20, 15, 20, 30⟩, f1 :: f2 :: st⟩ := by
  subst hk
  have g := turn (w := w) (calm_d f1 f2 st) nx (fun K H gd lv => Go.of (congrFun (congrFun (congrFun (congrFun (congrFun (congrFun (congrFun (congrFun (congrFun (congrFun (congrFun (congrFun (congrFun (congrFun (congrFun (congrFun (hash_d w) _) _) _) _) _) _) _) _) _) _) _) _) K) H) gd) lv))
    (fun S => Go.of (congrFun (congrFun (congrFun (congrFun (congrFun (congrFun (congrFun (congrFun (congrFun (congrFun (again_d w) S.tree) S.n) S.life) S.gens) S.drawn) S.toks) S.os) f1) f2) st)) I hl hd rfl rfl (congrFun (congrFun (congrFun (congrFun (get_d w) os) (setObj s)) i') k')
  have e := congrFun (congrFun (congrFun (congrFun (congrFun (put_d w) os) (setObj s)) (setObj (addS w.params s c))) i') k'
  exact e ▸ g
theorem nx_d (w : World) : ((fun (os : OsState) (o : Obj) (f1 f2 : Frame) (st : List Frame) (K : Option Value → Sem PySem.Fin) (H : Value → Sem PySem.Fin) (gd : Bool → Bool) (lv : List Value → List Value) =>
    segGoT treeTable P0 w 11 (some (.ref 6)) 1 10 (L_d w os o 0 323) ⟨(pyNext (.ref 70)).wrap K H gd lv, (.builtin "set.update.loop" ⟨[.ref 69, .ref 70], []⟩ : Code), ⟨20, 15, 20, 30⟩, f1 :: f2 :: st⟩) = fun os o f1 f2 st K H gd lv => some (L_d w os o 1 324, ⟨K (some (.str "0" 323)), (.builtin "set.update.loop" ⟨[.ref 69, .ref 70], []⟩ : Code), ⟨20, 15, 20, 30⟩, f1 :: f2 :: st⟩)) ∧
  ((fun (os : OsState) (o : Obj) (f1 f2 : Frame) (st : List Frame) (K : Option Value → Sem PySem.Fin) (H : Value → Sem PySem.Fin) (gd : Bool → Bool) (lv : List Value → List Value) =>
    segGoT treeTable P0 w 11 (some (.ref 6)) 1 10 (L_d w os o 1 325) ⟨(pyNext (.ref 70)).wrap K H gd lv, (.builtin "set.update.loop" ⟨[.ref 69, .ref 70], []⟩ : Code), ⟨20, 15, 20, 30⟩, f1 :: f2 :: st⟩) = fun os o f1 f2 st K H gd lv => some (L_d w os o 2 326, ⟨K (some (.str "1" 325)), (.builtin "set.update.loop" ⟨[.ref 69, .ref 70], []⟩ : Code), ⟨20, 15, 20, 30⟩, f1 :: f2 :: st⟩)) ∧
  ((fun (os : OsState) (o : Obj) (f1 f2 : Frame) (st : List Frame) (K : Option Value → Sem PySem.Fin) (H : Value → Sem PySem.Fin) (gd : Bool → Bool) (lv : List Value → List Value) =>
    segGoT treeTable P0 w 11 (some (.ref 6)) 1 10 (L_d w os o 2 327) ⟨(pyNext (.ref 70)).wrap K H gd lv, (.builtin "set.update.loop" ⟨[.ref 69, .ref 70], []⟩ : Code), ⟨20, 15, 20, 30⟩, f1 :: f2 :: st⟩) = fun os o f1 f2 st K H gd lv => some (L_d w os o 3 328, ⟨K (some (.str "2" 327)), (.builtin "set.update.loop" ⟨[.ref 69, .ref 70], []⟩ : Code), ⟨20, 15, 20, 30⟩, f1 :: f2 :: st⟩)) ∧
  ((fun (os : OsState) (o : Obj) (f1 f2 : Frame) (st : List Frame) (K : Option Value → Sem PySem.Fin) (H : Value → Sem PySem.Fin) (gd : Bool → Bool) (lv : List Value → List Value) =>
    segGoT treeTable P0 w 11 (some (.ref 6)) 1 10 (L_d w os o 3 329) ⟨(pyNext (.ref 70)).wrap K H gd lv, (.builtin "set.update.loop" ⟨[.ref 69, .ref 70], []⟩ : Code), ⟨20, 15, 20, 30⟩, f1 :: f2 :: st⟩) = fun os o f1 f2 st K H gd lv => some (L_d w os o 4 330, ⟨K (some (.str "3" 329)), (.builtin "set.update.loop" ⟨[.ref 69, .ref 70], []⟩ : Code), ⟨20, 15, 20, 30⟩, f1 :: f2 :: st⟩)) ∧
  ((fun (os : OsState) (o : Obj) (f1 f2 : Frame) (st : List Frame) (K : Option Value → Sem PySem.Fin) (H : Value → Sem PySem.Fin) (gd : Bool → Bool) (lv : List Value → List Value) =>
    segGoT treeTable P0 w 11 (some (.ref 6)) 1 10 (L_d w os o 4 331) ⟨(pyNext (.ref 70)).wrap K H gd lv, (.builtin "set.update.loop" ⟨[.ref 69, .ref 70], []⟩ : Code), ⟨20, 15, 20, 30⟩, f1 :: f2 :: st⟩) = fun os o f1 f2 st K H gd lv => some (L_d w os o 5 332, ⟨K (some (.str "4" 331)), (.builtin "set.update.loop" ⟨[.ref 69, .ref 70], []⟩ : Code), ⟨20, 15, 20, 30⟩, f1 :: f2 :: st⟩)) ∧
  ((fun (os : OsState) (o : Obj) (f1 f2 : Frame) (st : List Frame) (K : Option Value → Sem PySem.Fin) (H : Value → Sem PySem.Fin) (gd : Bool → Bool) (lv : List Value → List Value) =>
    segGoT treeTable P0 w 11 (some (.ref 6)) 1 10 (L_d w os o 5 333) ⟨(pyNext (.ref 70)).wrap K H gd lv, (.builtin "set.update.loop" ⟨[.ref 69, .ref 70], []⟩ : Code), ⟨20, 15, 20, 30⟩, f1 :: f2 :: st⟩) = fun os o f1 f2 st K H gd lv => some (L_d w os o 6 334, ⟨K (some (.str "5" 333)), (.builtin "set.update.loop" ⟨[.ref 69, .ref 70], []⟩ : Code), ⟨20, 15, 20, 30⟩, f1 :: f2 :: st⟩)) ∧
  ((fun (os : OsState) (o : Obj) (f1 f2 : Frame) (st : List Frame) (K : Option Value → Sem PySem.Fin) (H : Value → Sem PySem.Fin) (gd : Bool → Bool) (lv : List Value → List Value) =>
    segGoT treeTable P0 w 11 (some (.ref 6)) 1 10 (L_d w os o 6 335) ⟨(pyNext (.ref 70)).wrap K H gd lv, (.builtin "set.update.loop" ⟨[.ref 69, .ref 70], []⟩ : Code), ⟨20, 15, 20, 30⟩, f1 :: f2 :: st⟩) = fun os o f1 f2 st K H gd lv => some (L_d w os o 7 336, ⟨K (some (.str "6" 335)), (.builtin "set.update.loop" ⟨[.ref 69, .ref 70], []⟩ : Code), ⟨20, 15, 20, 30⟩, f1 :: f2 :: st⟩)) ∧
  ((fun (os : OsState) (o : Obj) (f1 f2 : Frame) (st : List Frame) (K : Option Value → Sem PySem.Fin) (H : Value → Sem PySem.Fin) (gd : Bool → Bool) (lv : List Value → List Value) =>
    segGoT treeTable P0 w 11 (some (.ref 6)) 1 10 (L_d w os o 7 337) ⟨(pyNext (.ref 70)).wrap K H gd lv, (.builtin "set.update.loop" ⟨[.ref 69, .ref 70], []⟩ : Code), ⟨20, 15, 20, 30⟩, f1 :: f2 :: st⟩) = fun os o f1 f2 st K H gd lv => some (L_d w os o 8 338, ⟨K (some (.str "7" 337)), (.builtin "set.update.loop" ⟨[.ref 69, .ref 70], []⟩ : Code), ⟨20, 15, 20, 30⟩, f1 :: f2 :: st⟩)) := ⟨by kernel_rfl, by kernel_rfl, by kernel_rfl, by kernel_rfl, by kernel_rfl, by kernel_rfl, by kernel_rfl, by kernel_rfl⟩
theorem loop_d (w : World) (os : OsState) (f1 f2 : Frame) (st : List Frame) : Go w 208 (L_d w os (setObj (start0 w.params)) 0 323) ⟨Builtin.«set.update.loop» ⟨[.ref 69, .ref 70], []⟩, (.builtin "set.update.loop" ⟨[.ref 69, .ref 70], []⟩ : Code), ⟨20, 15, 20, 30⟩, f1 :: f2 :: st⟩
    (L_d w os (setObj (addsOf w.params csO)) 8 339) ⟨Builtin.«set.update.loop» ⟨[.ref 69, .ref 70], []⟩, (.builtin "set.update.loop" ⟨[.ref 69, .ref 70], []⟩ : Code), ⟨20, 15, 20, 30⟩, f1 :: f2 :: st⟩ := by
  have I0 := inv_start w.params
  obtain ⟨n0, n1, n2, n3, n4, n5, n6, n7⟩ := nx_d w
  have g0 : Go w 26 _ _ _ _ := turn_d (w := w) (os := os) (f1 := f1) (f2 := f2) (st := st) (c := ("0", 323)) (i := 0) (i' := 1) (k := 323) (k' := 324) (k'' := 325) (fun K H gd lv => Go.of (congrFun (congrFun (congrFun (congrFun (congrFun (congrFun (congrFun (congrFun (congrFun n0 os) _) f1) f2) st) K) H) gd) lv)) I0 (by decide) (by decide) rfl
  have I1 := inv_addS I0 w.params ("0", 323)
  have g1 : Go w 26 _ _ _ _ := turn_d (w := w) (os := os) (f1 := f1) (f2 := f2) (st := st) (c := ("1", 325)) (i := 1) (i' := 2) (k := 325) (k' := 326) (k'' := 327) (fun K H gd lv => Go.of (congrFun (congrFun (congrFun (congrFun (congrFun (congrFun (congrFun (congrFun (congrFun n1 os) _) f1) f2) st) K) H) gd) lv)) I1 (by decide) (by decide) rfl
  have I2 := inv_addS I1 w.params ("1", 325)
  have g2 : Go w 26 _ _ _ _ := turn_d (w := w) (os := os) (f1 := f1) (f2 := f2) (st := st) (c := ("2", 327)) (i := 2) (i' := 3) (k := 327) (k' := 328) (k'' := 329) (fun K H gd lv => Go.of (congrFun (congrFun (congrFun (congrFun (congrFun (congrFun (congrFun (congrFun (congrFun n2 os) _) f1) f2) st) K) H) gd) lv)) I2 (by decide) (by decide) rfl
  have I3 := inv_addS I2 w.params ("2", 327)
  have g3 : Go w 26 _ _ _ _ := turn_d (w := w) (os := os) (f1 := f1) (f2 := f2) (st := st) (c := ("3", 329)) (i := 3) (i' := 4) (k := 329) (k' := 330) (k'' := 331) (fun K H gd lv => Go.of (congrFun (congrFun (congrFun (congrFun (congrFun (congrFun (congrFun (congrFun (congrFun n3 os) _) f1) f2) st) K) H) gd) lv)) I3 (by decide) (by decide) rfl
  have I4 := inv_addS I3 w.params ("3", 329)
  have g4 : Go w 26 _ _ _ _ := turn_d (w := w) (os := os) (f1 := f1) (f2 := f2) (st := st) (c := ("4", 331)) (i := 4) (i' := 5) (k := 331) (k' := 332) (k'' := 333) (fun K H gd lv => Go.of (congrFun (congrFun (congrFun (congrFun (congrFun (congrFun (congrFun (congrFun (congrFun n4 os) _) f1) f2) st) K) H) gd) lv)) I4 (by decide) (by decide) rfl
  have I5 := inv_addS I4 w.params ("4", 331)
  have g5 : Go w 26 _ _ _ _ := turn_d (w := w) (os := os) (f1 := f1) (f2 := f2) (st := st) (c := ("5", 333)) (i := 5) (i' := 6) (k := 333) (k' := 334) (k'' := 335) (fun K H gd lv => Go.of (congrFun (congrFun (congrFun (congrFun (congrFun (congrFun (congrFun (congrFun (congrFun n5 os) _) f1) f2) st) K) H) gd) lv)) I5 (by decide) (by decide) rfl
  have I6 := inv_addS I5 w.params ("5", 333)
  have g6 : Go w 26 _ _ _ _ := turn_d (w := w) (os := os) (f1 := f1) (f2 := f2) (st := st) (c := ("6", 335)) (i := 6) (i' := 7) (k := 335) (k' := 336) (k'' := 337) (fun K H gd lv => Go.of (congrFun (congrFun (congrFun (congrFun (congrFun (congrFun (congrFun (congrFun (congrFun n6 os) _) f1) f2) st) K) H) gd) lv)) I6 (by decide) (by decide) rfl
  have I7 := inv_addS I6 w.params ("6", 335)
  have g7 : Go w 26 _ _ _ _ := turn_d (w := w) (os := os) (f1 := f1) (f2 := f2) (st := st) (c := ("7", 337)) (i := 7) (i' := 8) (k := 337) (k' := 338) (k'' := 339) (fun K H gd lv => Go.of (congrFun (congrFun (congrFun (congrFun (congrFun (congrFun (congrFun (congrFun (congrFun n7 os) _) f1) f2) st) K) H) gd) lv)) I7 (by decide) (by decide) rfl
  have I8 := inv_addS I7 w.params ("7", 337)
  have all := (((((((g0).trans g1).trans g2).trans g3).trans g4).trans g5).trans g6).trans g7
  have e : addsOf w.params csO = (addS w.params (addS w.params (addS w.params (addS w.params (addS w.params (addS w.params (addS w.params (addS w.params (start0 w.params) ("0", 323)) ("1", 325)) ("2", 327)) ("3", 329)) ("4", 331)) ("5", 333)) ("6", 335)) ("7", 337)) := by kernel_rfl
  rw [e]
  exact all
theorem inv_d (P : Params) : Inv (addsOf P csO) csO.reverse := by
  have I0 := inv_start P
  have I1 := inv_addS I0 P ("0", 323)
  have I2 := inv_addS I1 P ("1", 325)
  have I3 := inv_addS I2 P ("2", 327)
  have I4 := inv_addS I3 P ("3", 329)
  have I5 := inv_addS I4 P ("4", 331)
  have I6 := inv_addS I5 P ("5", 333)
  have I7 := inv_addS I6 P ("6", 335)
  have I8 := inv_addS I7 P ("7", 337)
  have e : addsOf P csO = (addS P (addS P (addS P (addS P (addS P (addS P (addS P (addS P (start0 P) ("0", 323)) ("1", 325)) ("2", 327)) ("3", 329)) ("4", 331)) ("5", 333)) ("6", 335)) ("7", 337)) := by kernel_rfl
  have e2 : csO.reverse = ([("7", 337), ("6", 335), ("5", 333), ("4", 331), ("3", 329), ("2", 327), ("1", 325), ("0", 323)] : List (Str × Nat)) := by kernel_rfl
  rw [e, e2]
  exact I8
theorem post_d (w : World) : (fun os => segRunT treeTable P0 w 11 (some (.ref 6)) 1 60 (L_d w os (setObj (addsOf w.params csO)) 8 339) ⟨Builtin.«set.update.loop» ⟨[.ref 69, .ref 70], []⟩, (.builtin "set.update.loop" ⟨[.ref 69, .ref 70], []⟩ : Code), ⟨20, 15, 20, 30⟩, stk_d w os⟩) = fun os => some (.next, S_d w os, cE, ⟨20, 0, 20, 12⟩) :=
  byRow2 "special-get-raises" (P := fun w => (fun os => segRunT treeTable P0 w 11 (some (.ref 6)) 1 60 (L_d w os (setObj (addsOf w.params csO)) 8 339) ⟨Builtin.«set.update.loop» ⟨[.ref 69, .ref 70], []⟩, (.builtin "set.update.loop" ⟨[.ref 69, .ref 70], []⟩ : Code), ⟨20, 15, 20, 30⟩, stk_d w os⟩) = fun os => some (.next, S_d w os, cE, ⟨20, 0, 20, 12⟩)) (fun w => by kernel_rfl) (fun w => by kernel_rfl) w
theorem seg_d (w : World) : (fun os => segRunT treeTable PySem.Challenge.pw_on0057_01 w 11 (some (.ref 6)) 1 (28 + 208 + 60) (S_c w os) (piecesOf sts_d env0 cE ⟨19, 0, 19, 10⟩ topB)) = fun os => some (.next, S_d w os, cE, ⟨20, 0, 20, 12⟩) := by
  funext os
  have g := (Go.of (congrFun (pre_d_eq w) os)).trans (by
    have h := loop_d w os ((stk_d w os).headD fr0) ((stk_d w os).tail.headD fr0) (stk_d w os).tail.tail
    rw [← congrFun (stk_d_eq w) os] at h
    exact h)
  exact g.run (congrFun (post_d w) os)
end
noncomputable section
open PySem PySem.W PyProof.Rows PySem.Calls
def p21 : Pos := ⟨21, 11, 21, 37⟩
def sts_e : List Stmt := (PySem.Challenge.pw_on0057_01.main.body.drop 8).take 1
def tgts8 : List PySem.Expr := match D 8 with
  | .Assign ts _ _ => ts
  | _ => []
def val8 : PySem.Expr := match D 8 with
  | .Assign _ v _ => v
  | _ => .Constant .none 0 ⟨0, 0, 0, 0⟩
def el8 : List (Bool × Sem Value) := match val8 with
  | .Set es _ pos => (starEach es env0).map fun x => match x with | (star, t) => (star, do let v ← t; standAt pos; pure v)
  | _ => []
def F8 (v : Value) : Sem Flow := swappedStores tgts8 val8 env0 >>= fun sw => assignStores env0 v sw ((assignEach tgts8 env0).map (·.2))
def G8 (f : Flow) : Sem Flow := match f with
  | .next => execs [] env0
  | f => pure f
def L8 (w : World) (os : OsState) (o : Obj) (k : Nat) : SharedT := ⟨(T_d w.params).ins 73 o, 74, life0, Array.mk [], boot_drawn, k, os⟩
theorem pre_e (w : World) : (fun os => segGoT treeTable P0 w 11 (some (.ref 6)) 1 4 (S_d w os) (piecesOf sts_e env0 cE ⟨20, 0, 20, 12⟩ topB)) =
    fun os => some (S_d w os, ⟨((setDisplay .unsure true el8 >>= F8) >>= G8).wrap doneF deadEnd id id, cE, p21, topB⟩) := by kernel_rfl
theorem new_e (w : World) : (fun (os : OsState) (K : Value → Sem PySem.Fin) (H : Value → Sem PySem.Fin) (gd : Bool → Bool) (lv : List Value → List Value) => segGoT treeTable P0 w 11 (some (.ref 6)) 1 2 (S_d w os) ⟨(newSet (.type "set")).wrap K H gd lv, cE, p21, topB⟩) =
    fun os K H gd lv => some (L8 w os (setObj (start0 w.params)) 340, ⟨K (.ref 73), cE, p21, topB⟩) := by kernel_rfl
theorem all_e (w : World) : (fun (T : BT) (n : Nat) (life : Life) (gens : Array GenState) (drawn : Drawn) (os : OsState) (K : List Value → Sem PySem.Fin) (H : Value → Sem PySem.Fin) (gd : Bool → Bool) (lv : List Value → List Value) =>
    segGoT treeTable P0 w 11 (some (.ref 6)) 1 10 ⟨T, n, life, gens, drawn, 340, os⟩ ⟨(evalAll (List.map (fun x => x.snd) (List.take (if el8.length > 30 then 0 else (List.findIdx? (fun x => x.fst) el8).getD el8.length) el8))).wrap K H gd lv, cE, p21, topB⟩) =
    fun T n life gens drawn os K H gd lv => some (⟨T, n, life, gens, drawn, 345, os⟩, ⟨K [.str "" 340, .str "u" 341, .str "l" 342, .str "ul" 343, .str "lu" 344], cE, p21, topB⟩) := by kernel_rfl
theorem drop_e : List.drop (if el8.length > 30 then 0 else (List.findIdx? (fun x => x.fst) el8).getD el8.length) el8 = [] := by kernel_rfl
theorem hash_e (w : World) : (fun (T : BT) (n : Nat) (life : Life) (gens : Array GenState) (drawn : Drawn) (toks : Nat) (os : OsState) (s : Str) (tk : Nat) (K : Int → Sem PySem.Fin) (H : Value → Sem PySem.Fin) (gd : Bool → Bool) (lv : List Value → List Value) => segGoT treeTable P0 w 11 (some (.ref 6)) 1 7 ⟨T, n, life, gens, drawn, toks, os⟩ ⟨(pyHash (.str s tk)).wrap K H gd lv, cE, p21, topB⟩) = fun T n life gens drawn toks os s tk K H gd lv => some (⟨T, n, life, gens, drawn, toks + 1, os⟩, ⟨K (PyData.keyHash w.params s), cE, p21, topB⟩) :=
  byRow2 "special-get-raises" (P := fun w => (fun (T : BT) (n : Nat) (life : Life) (gens : Array GenState) (drawn : Drawn) (toks : Nat) (os : OsState) (s : Str) (tk : Nat) (K : Int → Sem PySem.Fin) (H : Value → Sem PySem.Fin) (gd : Bool → Bool) (lv : List Value → List Value) => segGoT treeTable P0 w 11 (some (.ref 6)) 1 7 ⟨T, n, life, gens, drawn, toks, os⟩ ⟨(pyHash (.str s tk)).wrap K H gd lv, cE, p21, topB⟩) = fun T n life gens drawn toks os s tk K H gd lv => some (⟨T, n, life, gens, drawn, toks + 1, os⟩, ⟨K (PyData.keyHash w.params s), cE, p21, topB⟩)) (fun w => by kernel_rfl) (fun w => by kernel_rfl) w
theorem put_e (w : World) : (fun (os : OsState) (o o' : Obj) (k : Nat) => ({ L8 w os o k with toks := k + 1, tree := (L8 w os o k).tree.set 73 (fun _ => o') } : SharedT)) = fun os o o' k => L8 w os o' (k + 1) := by kernel_rfl
theorem put_e2 (w : World) : (fun (os : OsState) (o o' : Obj) (k : Nat) => ({ L8 w os o k with tree := (L8 w os o k).tree.set 73 (fun _ => o') } : SharedT)) = fun os o o' k => L8 w os o' k := by kernel_rfl
theorem get_e (w : World) : (fun (os : OsState) (o : Obj) (k : Nat) => (L8 w os o k).tree.get 73) = fun os o k => some o := by kernel_rfl
theorem add_e {w : World} {os : OsState} {s : Array (Int × Value) × Nat × SetTable} {cs : List (Str × Nat)} {c : Str × Nat} {k : Nat} (I : Inv s cs) (hl : cs.length ≤ 1000) (hd : ∀ d ∈ cs, d.1 ≠ c.1) :
    Does w cE p21 topB (7 + 8) (setAdd 73 (.str c.1 c.2)) (L8 w os (setObj s) k) (L8 w os (setObj (addS w.params s c)) (k + 1)) true := by
  have hh : Does w cE p21 topB 7 (pyHash (.str c.1 c.2)) (L8 w os (setObj s) k) { L8 w os (setObj s) k with toks := k + 1 } (PyData.keyHash w.params c.1) := fun K H gd lv =>
    Go.of (congrFun (congrFun (congrFun (congrFun (congrFun (congrFun (congrFun (congrFun (congrFun (congrFun (congrFun (congrFun (congrFun (hash_e w) _) _) _) _) _) _) _) _) _) K) H) gd) lv)
  have hg := congrFun (congrFun (congrFun (get_e w) os) (setObj s)) k
  have add := does_add (w := w) (code := cE) (pos := p21) (st := topB) (S := { L8 w os (setObj s) k with toks := k + 1 }) (h := PyData.keyHash w.params c.1) trivial I hl hd rfl rfl hg
  have e := congrFun (congrFun (congrFun (congrFun (put_e w) os) (setObj s)) (setObj (addS w.params s c))) k
  have all := Does.holding (vs := [.str c.1 c.2]) (Does.bind hh add)
  unfold setAdd
  exact e ▸ all
theorem for_cons {w : World} {code : Code} {pos : Pos} {st : List Frame} {k l : Nat} {a : Addr} {x : Value} {r : List Value} {s s' s'' : SharedT} {b : Bool}
    (h : Does w code pos st k (setAdd a x) s s' b) (h' : Does w code pos st l (forIn r PUnit.unit fun x _ => do let _ ← setAdd a x; pure (ForInStep.yield PUnit.unit)) s' s'' PUnit.unit) :
    Does w code pos st (k + l) (forIn (x :: r) PUnit.unit fun x _ => do let _ ← setAdd a x; pure (ForInStep.yield PUnit.unit)) s s'' PUnit.unit := by
  rw [List.forIn_cons]
  refine Does.bind (k := k) (l := l) (a := ForInStep.yield PUnit.unit) (Does.bind (k := k) (l := 0) (a := b) h Does.pure) ?_
  exact h'
theorem for_nil {w : World} {code : Code} {pos : Pos} {st : List Frame} {a : Addr} {s : SharedT} :
    Does w code pos st 0 (forIn ([] : List Value) PUnit.unit fun x _ => do let _ ← setAdd a x; pure (ForInStep.yield PUnit.unit)) s s PUnit.unit := Does.pure
theorem does_unled {w : World} {code : Code} {pos : Pos} {st : List Frame} {S : SharedT} {a : Addr} {s : Array (Int × Value) × Nat × SetTable} (hlt : Nat.blt a S.n = true) (hn : Nat.ble 11 a = true) (hg : S.tree.get a = some (setObj s))
    (h1 : s.2.2.place.size = s.1.size) (h2 : s.2.2.fill ≤ s.2.2.mask) (hz : s.1.size ≤ sizeLine) : Does w code pos st (1 + 2) (setUnled a) S (putAt S a (s.1, s.2.1 + 1, { s.2.2 with led := false })) () := by
  obtain ⟨es, n, t⟩ := s
  unfold setUnled
  refine Does.bind (k := 1) (l := 2) (does_state trivial hlt hg h1 h2) ?_
  exact does_store trivial hlt hn hg hz
theorem display_e (w : World) (os : OsState) : Does w cE p21 topB 200 (setDisplay .unsure true el8) (S_d w os) (L8 w os (setS w.params) 350) (.ref 73) := by
  have I0 := inv_start w.params
  have I1 := inv_addS I0 w.params ("", 340)
  have I2 := inv_addS I1 w.params ("u", 341)
  have I3 := inv_addS I2 w.params ("l", 342)
  have I4 := inv_addS I3 w.params ("ul", 343)
  have I5 := inv_addS I4 w.params ("lu", 344)
  have e : addsOf w.params csS = addS w.params (addS w.params (addS w.params (addS w.params (addS w.params (start0 w.params) ("", 340)) ("u", 341)) ("l", 342)) ("ul", 343)) ("lu", 344) := by kernel_rfl
  rw [← e] at I5
  have a1 := add_e (w := w) (os := os) (c := ("", 340)) (k := 345) I0 (by decide) (by decide)
  have a2 := add_e (w := w) (os := os) (c := ("u", 341)) (k := 346) I1 (by decide) (by decide)
  have a3 := add_e (w := w) (os := os) (c := ("l", 342)) (k := 347) I2 (by decide) (by decide)
  have a4 := add_e (w := w) (os := os) (c := ("ul", 343)) (k := 348) I3 (by decide) (by decide)
  have a5 := add_e (w := w) (os := os) (c := ("lu", 344)) (k := 349) I4 (by decide) (by decide)
  rw [← e] at a5
  have hn : Does w cE p21 topB 2 (newSet (.type "set")) (S_d w os) (L8 w os (setObj (start0 w.params)) 340) (.ref 73) := fun K H gd lv => Go.of (congrFun (congrFun (congrFun (congrFun (congrFun (new_e w) os) K) H) gd) lv)
  have ha : Does w cE p21 topB 10 (evalAll (List.map (fun x => x.snd) (List.take (if el8.length > 30 then 0 else (List.findIdx? (fun x => x.fst) el8).getD el8.length) el8))) (L8 w os (setObj (start0 w.params)) 340) (L8 w os (setObj (start0 w.params)) 345)
      [.str "" 340, .str "u" 341, .str "l" 342, .str "ul" 343, .str "lu" 344] := fun K H gd lv => Go.of (congrFun (congrFun (congrFun (congrFun (congrFun (congrFun (congrFun (congrFun (congrFun (congrFun (all_e w) _) _) _) _) _) _) K) H) gd) lv)
  have hg := congrFun (congrFun (congrFun (get_e w) os) (setObj (addsOf w.params csS))) 350
  have hu : Does w cE p21 topB (1 + 2) (setUnled 73) (L8 w os (setObj (addsOf w.params csS)) 350) (L8 w os (setS w.params) 350) () := by
    have st := does_unled (w := w) (code := cE) (pos := p21) (st := topB) (S := L8 w os (setObj (addsOf w.params csS)) 350) rfl rfl hg I5.size I5.fill (by rw [I5.size_eq]; exact Nat.le_trans (by decide) sizeLine_big)
    have e2 : putAt (L8 w os (setObj (addsOf w.params csS)) 350) 73 ((addsOf w.params csS).1, (addsOf w.params csS).2.1 + 1, { (addsOf w.params csS).2.2 with led := false }) = L8 w os (setS w.params) 350 :=
      congrFun (congrFun (congrFun (congrFun (put_e2 w) os) (setObj (addsOf w.params csS))) (setObj (setSx w.params))) 350
    rw [e2] at st
    exact st
  have hf := for_cons a1 (for_cons a2 (for_cons a3 (for_cons a4 (for_cons a5 for_nil))))
  unfold setDisplay
  rw [if_neg (by decide)]
  refine Does.le (Does.bind (k := 2) (l := 100) hn ?_) (by omega)
  dsimp only
  refine Does.bind (k := 100) (l := 0) (a := ()) ?_ Does.pure
  refine Does.holding (Does.le (Does.bind (k := 10) (l := 90) ha ?_) (by omega))
  refine Does.bind (k := 90) (l := 0) (a := ()) (s' := L8 w os (setS w.params) 350) ?_ ?_
  · refine Does.holding (Does.le (Does.bind hf ?_) (by omega : 75 + 5 ≤ 90))
    rw [if_pos (by decide)]
    exact Does.le (Does.bind (Does.rule trivial) hu) (by omega)
  · rw [drop_e]
    exact Does.bind (k := 0) (l := 0) (a := PUnit.unit) Does.pure Does.pure
theorem post_e (w : World) : (fun os => segRunT treeTable P0 w 11 (some (.ref 6)) 1 20 (L8 w os (setS w.params) 350) ⟨((F8 (.ref 73)) >>= G8).wrap doneF deadEnd id id, cE, p21, topB⟩) = fun os => some (.next, S_e w os, cE, ⟨21, 0, 21, 8⟩) := by kernel_rfl
theorem seg_e (w : World) : (fun os => segRunT treeTable PySem.Challenge.pw_on0057_01 w 11 (some (.ref 6)) 1 (4 + 200 + 20) (S_d w os) (piecesOf sts_e env0 cE ⟨20, 0, 20, 12⟩ topB)) = fun os => some (.next, S_e w os, cE, ⟨21, 0, 21, 8⟩) := by
  funext os
  have g := display_e w os
  have h := g (fun v => ((F8 v) >>= G8).wrap doneF deadEnd id id) deadEnd id id
  have e : (setDisplay .unsure true el8).wrap (fun v => ((F8 v) >>= G8).wrap doneF deadEnd id id) deadEnd id id = ((setDisplay .unsure true el8 >>= F8) >>= G8).wrap doneF deadEnd id id := by
    rw [bind_wrap, bind_wrap]
    congr 1
    funext v
    rw [bind_wrap]
  rw [e] at h
  exact ((Go.of (congrFun (pre_e w) os)).trans h).run (congrFun (post_e w) os)
end
noncomputable section
open PySem PySem.W PyProof.Rows PySem.Calls
theorem pre0 (w : World) : (fun os => topGo treeTable PySem.Challenge.pw_on0057_01 w 11 (some (.ref 6)) 12 ⟨boot_heap w.params, Array.mk [], boot_drawn, boot_toks, os⟩ (topStub PySem.Challenge.pw_on0057_01)) =
    fun os => some ((S_z w os).abs, ⟨denote treeTable cE, cE, ⟨0, 0, 0, 0⟩, topB⟩) := by kernel_rfl
theorem blk0 (w : World) : (fun os => segRun treeTable PySem.Challenge.pw_on0057_01 w 11 (some (.ref 6)) 1 1 (S_z w os).abs (blockOf bE env0 cE ⟨0, 0, 0, 0⟩ topB)) =
    fun os => some (.next, (S_z w os).abs, cE, ⟨0, 0, 0, 0⟩) := by kernel_rfl
theorem fin0 (w : World) : (fun os => topRun treeTable PySem.Challenge.pw_on0057_01 w 11 (some (.ref 6)) 2 (S_j w os).abs ⟨doneF .next, cE, ⟨346, 0, 358, 15⟩, topB⟩) = fun os => some (S_j w os).abs := by kernel_rfl
theorem bE_eq : bE = sts_a ++ (sts_b ++ (sts_c ++ (sts_d ++ (sts_e ++ (sts_f ++ (sts_g ++ (sts_h ++ (sts_i ++ (sts_j ++ []))))))))) := by kernel_rfl
theorem run0 (w : World) (os : OsState) : topRun treeTable PySem.Challenge.pw_on0057_01 w 11 (some (.ref 6)) (12 + (1 + (524 + ((28 + 260 + 60) + ((28 + 572 + 60) + ((28 + 208 + 60) + ((4 + 200 + 20) + (543 + (552 + (417 + (522 + (356 + 2)))))))))))) ⟨boot_heap w.params, Array.mk [], boot_drawn, boot_toks, os⟩ (topStub PySem.Challenge.pw_on0057_01) =
    some (S_j w os).abs := by
  have h := piece_app (segRun_of (congrFun (seg_a w) os)) (piece_app (segRun_of (congrFun (seg_b w) os)) (piece_app (segRun_of (congrFun (seg_c w) os)) (piece_app (segRun_of (congrFun (seg_d w) os)) (piece_app (segRun_of (congrFun (seg_e w) os))
    (piece_app (segRun_of (congrFun (seg_f w) os)) (piece_app (segRun_of (congrFun (seg_g w) os)) (piece_app (segRun_of (congrFun (seg_h w) os)) (piece_app (segRun_of (congrFun (seg_i w) os)) (piece_app (segRun_of (congrFun (seg_j w) os))
      (piece_nil (congrFun (fin0 w) os)))))))))))
  rw [← bE_eq] at h
  exact go_top (congrFun (pre0 w) os) (piece_block (congrFun (blk0 w) os) h)
def viewQ : Program := { PySem.Challenge.pw_on0057_01 with main := { PySem.Challenge.pw_on0057_01.main with body := [D 43] } }
def looseQ : List Str := [Str.ofString "_wall", Str.ofString "CompileFault", Str.ofString "DirectiveFault", Str.ofString "DIGITS", Str.ofString "HEX_DIGITS", Str.ofString "OCTAL_DIGITS", Str.ofString "SUFFIXES", Str.ofString "MOST_OCTET", Str.ofString "MOST_WIDE", Str.ofString "ESCAPES", Str.ofString "Token", Str.ofString "number_parts", Str.ofString "escape_at", Str.ofString "literal_values", Str.ofString "literal_octets", Str.ofString "wide_values", Str.ofString "ALL_BITS", Str.ofString "TOP_BIT", Str.ofString "LEVELS", Str.ofString "SIGNS_AHEAD", Str.ofString "Value", Str.ofString "truth", Str.ofString "quotient", Str.ofString "one_sided", Str.ofString "compared", Str.ofString "two_sided", Str.ofString "chosen", Str.ofString "Condition", Str.ofString "_law_numbers", Str.ofString "_law_signs", Str.ofString "_law_lack", Str.ofString "_law_draw", Str.ofString "_law_pick", Str.ofString "_law_tree", Str.ofString "_law_words", Str.ofString "_law_led", Str.ofString "_law_two", Str.ofString "_law_worth", Str.ofString "_law_right"]
theorem open0 : ∀ w : World, (fencedOpening treeTable PySem.Challenge.pw_on0057_01 w 9000).map (fun s => (s.heap, s.gens, s.drawn, s.toks)) = some (boot_heap w.params, Array.mk [], boot_drawn, boot_toks) :=
  boot_open (by kernel_rfl) (by decide) (fun s => by kernel_rfl)
theorem size0 (w : World) : ((boot_heap w.params).isNs mainGlobals && (Array.mk [] : Array GenState).size == 0, (boot_heap w.params).objs.size, (boot_heap w.params).nsMap mainGlobals "__annotations__") = (true, 11, some (.ref 6)) := by kernel_rfl
def Hfin (P : Params) : Heap := absHeap (T_j P) 356 life0
def XtQ : Shared → Bool := fun s => xlAt viewQ [] s && recOk (RowW.records PySem.Challenge.rw_on0057_01.row.toRowW) s
theorem look1 (w : World) : (fun (os : OsState) => (staticsOk (importedModules PySem.Challenge.pw_on0057_01.main.body) (boot_heap w.params) (Hfin w.params) && namesBound PySem.Challenge.pw_on0057_01 (Hfin w.params) && gensDone ⟨Hfin w.params, Array.mk [], boot_drawn, 903, os⟩ && laidKept (boot_heap w.params) (Hfin w.params))) = fun _ => true := by kernel_rfl
theorem look2 (w : World) : (fun (os : OsState) => openSeen viewQ looseQ (importedModules PySem.Challenge.pw_on0057_01.main.body) XtQ true ⟨Hfin w.params, Array.mk [], boot_drawn, 903, os⟩) = fun _ => openGood viewQ looseQ := by kernel_rfl
end
noncomputable section
open PySem PySem.W PyProof.Rows PySem.Calls
def KQ : Params → Frag := fun P => (nat_lit 2, o2_a P) :: (nat_lit 3, o3_j P) :: (nat_lit 15, o15_a P) :: (nat_lit 17, o17_a P) :: (nat_lit 18, o18_a P) :: (nat_lit 20, o20_a P) :: (nat_lit 21, o21_a P) :: (nat_lit 22, o22_a P) :: (nat_lit 29, o29_a P) :: (nat_lit 31, o31_a P) :: (nat_lit 32, o32_a P) :: (nat_lit 34, o34_a P) :: (nat_lit 35, o35_a P) :: (nat_lit 36, o36_a P) :: (nat_lit 38, o38_a P) :: (nat_lit 39, o39_a P) :: (nat_lit 41, o41_a P) :: (nat_lit 42, o42_a P) :: (nat_lit 43, o43_a P) :: (nat_lit 44, o44_a P) :: (nat_lit 45, o45_a P) :: (nat_lit 46, o46_a P) :: (nat_lit 49, o49_a P) :: (nat_lit 56, o56_a P) :: (nat_lit 57, o57_a P) :: (nat_lit 58, o58_a P) :: (nat_lit 74, o74_f P) :: (nat_lit 82, o82_f P) :: (nat_lit 83, o83_f P) :: (nat_lit 85, o85_f P) :: (nat_lit 86, o86_f P) :: (nat_lit 88, o88_f P) :: (nat_lit 89, o89_f P) :: (nat_lit 90, o90_f P) :: (nat_lit 92, o92_f P) :: (nat_lit 93, o93_f P) :: (nat_lit 95, o95_f P) :: (nat_lit 96, o96_f P) :: (nat_lit 97, o97_f P) :: (nat_lit 99, o99_f P) :: (nat_lit 100, o100_f P) :: (nat_lit 102, o102_f P) :: (nat_lit 103, o103_f P) :: (nat_lit 104, o104_f P) :: (nat_lit 105, o105_f P) :: (nat_lit 106, o106_f P) :: (nat_lit 107, o107_f P) :: (nat_lit 108, o108_f P) :: (nat_lit 111, o111_g P) :: (nat_lit 113, o113_g P) :: (nat_lit 114, o114_g P) :: (nat_lit 116, o116_g P) :: (nat_lit 117, o117_g P) :: (nat_lit 118, o118_g P) :: (nat_lit 120, o120_g P) :: (nat_lit 121, o121_g P) :: (nat_lit 123, o123_g P) :: (nat_lit 124, o124_g P) :: (nat_lit 125, o125_g P) :: (nat_lit 127, o127_g P) :: (nat_lit 128, o128_g P) :: (nat_lit 130, o130_g P) :: (nat_lit 131, o131_g P) :: (nat_lit 132, o132_g P) :: (nat_lit 134, o134_g P) :: (nat_lit 135, o135_g P) :: (nat_lit 137, o137_g P) :: (nat_lit 138, o138_g P) :: (nat_lit 139, o139_g P) :: (nat_lit 141, o141_g P) :: (nat_lit 142, o142_g P) :: (nat_lit 144, o144_g P) :: (nat_lit 145, o145_g P) :: (nat_lit 146, o146_g P) :: (nat_lit 148, o148_g P) :: (nat_lit 156, o156_h P) :: (nat_lit 158, o158_h P) :: (nat_lit 159, o159_h P) :: (nat_lit 161, o161_h P) :: (nat_lit 162, o162_h P) :: (nat_lit 163, o163_h P) :: (nat_lit 164, o164_h P) :: (nat_lit 165, o165_h P) :: (nat_lit 166, o166_h P) :: (nat_lit 167, o167_h P) :: (nat_lit 170, o170_h P) :: (nat_lit 172, o172_h P) :: (nat_lit 173, o173_h P) :: (nat_lit 175, o175_h P) :: (nat_lit 176, o176_h P) :: (nat_lit 177, o177_h P) :: (nat_lit 179, o179_h P) :: (nat_lit 180, o180_h P) :: (nat_lit 182, o182_h P) :: (nat_lit 183, o183_h P) :: (nat_lit 184, o184_h P) :: (nat_lit 186, o186_h P) :: (nat_lit 187, o187_h P) :: (nat_lit 189, o189_h P) :: (nat_lit 190, o190_h P) :: (nat_lit 191, o191_h P) :: (nat_lit 193, o193_h P) :: (nat_lit 194, o194_h P) :: (nat_lit 196, o196_h P) :: (nat_lit 197, o197_h P) :: (nat_lit 198, o198_h P) :: (nat_lit 200, o200_h P) :: (nat_lit 201, o201_h P) :: (nat_lit 203, o203_h P) :: (nat_lit 204, o204_h P) :: (nat_lit 205, o205_h P) :: (nat_lit 207, o207_h P) :: (nat_lit 208, o208_h P) :: (nat_lit 210, o210_h P) :: (nat_lit 211, o211_h P) :: (nat_lit 219, o219_i P) :: (nat_lit 221, o221_i P) :: (nat_lit 222, o222_i P) :: (nat_lit 224, o224_i P) :: (nat_lit 225, o225_i P) :: (nat_lit 226, o226_i P) :: (nat_lit 228, o228_i P) :: (nat_lit 229, o229_i P) :: (nat_lit 231, o231_i P) :: (nat_lit 232, o232_i P) :: (nat_lit 233, o233_i P) :: (nat_lit 235, o235_i P) :: (nat_lit 236, o236_i P) :: (nat_lit 238, o238_i P) :: (nat_lit 239, o239_i P) :: (nat_lit 240, o240_i P) :: (nat_lit 242, o242_i P) :: (nat_lit 243, o243_i P) :: (nat_lit 245, o245_i P) :: (nat_lit 246, o246_i P) :: (nat_lit 247, o247_i P) :: (nat_lit 249, o249_i P) :: (nat_lit 250, o250_i P) :: (nat_lit 252, o252_i P) :: (nat_lit 253, o253_i P) :: (nat_lit 254, o254_i P) :: (nat_lit 256, o256_i P) :: (nat_lit 257, o257_i P) :: (nat_lit 259, o259_i P) :: (nat_lit 260, o260_i P) :: (nat_lit 261, o261_i P) :: (nat_lit 263, o263_i P) :: (nat_lit 264, o264_i P) :: (nat_lit 266, o266_i P) :: (nat_lit 267, o267_i P) :: (nat_lit 268, o268_i P) :: (nat_lit 270, o270_i P) :: (nat_lit 271, o271_i P) :: (nat_lit 273, o273_i P) :: (nat_lit 274, o274_i P) :: (nat_lit 275, o275_i P) :: (nat_lit 277, o277_i P) :: (nat_lit 278, o278_i P) :: (nat_lit 280, o280_i P) :: (nat_lit 281, o281_i P) :: (nat_lit 282, o282_i P) :: (nat_lit 284, o284_i P) :: (nat_lit 285, o285_i P) :: (nat_lit 287, o287_i P) :: (nat_lit 288, o288_i P) :: (nat_lit 289, o289_i P) :: (nat_lit 290, o290_i P) :: (nat_lit 291, o291_i P) :: (nat_lit 292, o292_i P) :: (nat_lit 293, o293_i P) :: (nat_lit 296, o296_j P) :: (nat_lit 297, o297_j P) :: (nat_lit 298, o298_j P) :: (nat_lit 299, o299_j P) :: (nat_lit 301, o301_j P) :: (nat_lit 302, o302_j P) :: (nat_lit 304, o304_j P) :: (nat_lit 305, o305_j P) :: (nat_lit 306, o306_j P) :: (nat_lit 308, o308_j P) :: (nat_lit 309, o309_j P) :: (nat_lit 311, o311_j P) :: (nat_lit 312, o312_j P) :: (nat_lit 313, o313_j P) :: (nat_lit 315, o315_j P) :: (nat_lit 316, o316_j P) :: (nat_lit 318, o318_j P) :: (nat_lit 319, o319_j P) :: (nat_lit 320, o320_j P) :: (nat_lit 323, o323_j P) :: (nat_lit 324, o324_j P) :: (nat_lit 325, o325_j P) :: (nat_lit 327, o327_j P) :: (nat_lit 328, o328_j P) :: (nat_lit 330, o330_j P) :: (nat_lit 331, o331_j P) :: (nat_lit 332, o332_j P) :: (nat_lit 334, o334_j P) :: (nat_lit 335, o335_j P) :: (nat_lit 337, o337_j P) :: (nat_lit 338, o338_j P) :: (nat_lit 339, o339_j P) :: (nat_lit 342, o342_j P) :: (nat_lit 343, o343_j P) :: (nat_lit 344, o344_j P) :: (nat_lit 346, o346_j P) :: (nat_lit 347, o347_j P) :: (nat_lit 349, o349_j P) :: (nat_lit 350, o350_j P) :: (nat_lit 351, o351_j P) :: (nat_lit 354, o354_j P) :: (nat_lit 355, o355_j P) :: []
def asQ : List Addr := [2, 3, 15, 17, 18, 20, 21, 22, 29, 31, 32, 34, 35, 36, 38, 39, 41, 42, 43, 44, 45, 46, 49, 56, 57, 58, 74, 82, 83, 85, 86, 88, 89, 90, 92, 93, 95, 96, 97, 99, 100, 102, 103, 104, 105, 106, 107, 108, 111, 113, 114, 116, 117, 118, 120, 121, 123, 124, 125, 127, 128, 130, 131, 132, 134, 135, 137, 138, 139, 141, 142, 144, 145, 146, 148, 156, 158, 159, 161, 162, 163, 164, 165, 166, 167, 170, 172, 173, 175, 176, 177, 179, 180, 182, 183, 184, 186, 187, 189, 190, 191, 193, 194, 196, 197, 198, 200, 201, 203, 204, 205, 207, 208, 210, 211, 219, 221, 222, 224, 225, 226, 228, 229, 231, 232, 233, 235, 236, 238, 239, 240, 242, 243, 245, 246, 247, 249, 250, 252, 253, 254, 256, 257, 259, 260, 261, 263, 264, 266, 267, 268, 270, 271, 273, 274, 275, 277, 278, 280, 281, 282, 284, 285, 287, 288, 289, 290, 291, 292, 293, 296, 297, 298, 299, 301, 302, 304, 305, 306, 308, 309, 311, 312, 313, 315, 316, 318, 319, 320, 323, 324, 325, 327, 328, 330, 331, 332, 334, 335, 337, 338, 339, 342, 343, 344, 346, 347, 349, 350, 351, 354, 355]
theorem as_eq (P : Params) : asQ = (KQ P).map (·.1) := by kernel_rfl
structure SetsAt (w : World) (h : Heap) : Prop where
  digits : h.get? 61 = some (setD w.params)
  hexs : h.get? 65 = some (setH w.params)
  octs : h.get? 69 = some (setO w.params)
  sufs : h.get? 73 = some (setS w.params)
theorem SetsAt.keeps {w : World} {h h' : Heap} (x : SetsAt w h) (k : ∀ b o, h.get? b = some o → h'.get? b = some o) : SetsAt w h' := ⟨k _ _ x.digits, k _ _ x.hexs, k _ _ x.octs, k _ _ x.sufs⟩
def myHook : Hook :=
  ⟨List (Option Obj) × List (Option Obj), fun s => (asQ.map s.heap.get?, [s.heap.get? 61, s.heap.get? 65, s.heap.get? 69, s.heap.get? 73]),
   fun w => ((KQ w.params).map fun p => some p.2, [some (setD w.params), some (setH w.params), some (setO w.params), some (setS w.params)]),
   fun w h => InK KQ w h ∧ SetsAt w h,
   fun w s e => by
     obtain ⟨e1, e2⟩ := Prod.mk.inj e
     simp only [List.cons.injEq, and_true] at e2
     exact ⟨InK.of as_eq w s e1, e2.1, e2.2.1, e2.2.2.1, e2.2.2.2⟩,
   fun w h h' x k => ⟨InK.keeps w h h' x.1 k, x.2.keeps k⟩⟩
theorem look3 (w : World) : (fun (os : OsState) => myHook.obs ⟨Hfin w.params, Array.mk [], boot_drawn, 903, os⟩) = fun _ => myHook.val w := by kernel_rfl
theorem left0 : LeftO PySem.Challenge.pw_on0057_01 viewQ looseQ XtQ myHook.obs myHook.val 9000 true :=
  LeftO.of_pieces (H₀ := boot_heap) (H₁ := Hfin) (gs₀ := Array.mk []) (gs₁ := Array.mk []) (d₀ := boot_drawn) (d₁ := boot_drawn) (k₀ := boot_toks) (k₁ := 903) (m₀ := 11) (ann := some (.ref 6)) open0 size0
    (fun w os => run0 w os) (by decide) fun w => by
      funext os
      exact looks_pair (congrFun (look1 w) os) (looks_pair (congrFun (look2 w) os) (congrFun (look3 w) os))
def pP : Stmt → Pos
  | .FunctionDef _ _ _ _ _ _ _ _ _ p => p
  | _ => ⟨0, 0, 0, 0⟩
def dL : DefRec := ⟨"law", pA (D 43), pB (D 43), pS (D 43), pP (D 43)⟩
theorem top_law (hw : PySem.Challenge.rw_on0057_01.row.toRowW.promised) (walk : WalkO viewQ looseQ (XL viewQ []) myHook.says PySem.Challenge.rw_on0057_01.row.toRowW dL [] fun f vs => PySem.call f vs) : PySem.Challenge.rw_on0057_01.Holds := by
  o_law
  exact PySem.W.holds_open (q := viewQ) (loose := looseQ) (Xt := XtQ) (XP := XL viewQ []) (Yf := myHook.obs) (Ya := myHook.val) (YP := myHook.says) (N := 9000) left0 myHook.of myHook.keeps
    (fun s e => xl_of s (Bool.and_eq_true_iff.mp e).1) XL.keeps (by kernel_rfl) (by kernel_rfl) (by kernel_rfl) (fun s e => recFacts_of (Bool.and_eq_true_iff.mp e).2) (by rfl) (by assumption) (by decide +kernel) ⟨rfl, rfl, rfl, rfl, rfl, by decide +kernel⟩ hw walk
end
section
open PySem PySem.W PyProof.Rows PySem.Calls PySem.Spec
abbrev MQ (w : World) : Model := model PySem.Challenge.rw_on0057_01.prog w
abbrev fld (w : World) (k : Str) (tk : Tok) (v : Value) : DictEntry := ⟨PyData.keyHash w.params k, .str k tk, v⟩
def led32 (n : Int) (u : Bool) : Int := if n % 4294967296 > 2147483647 ∧ u = false then n % 4294967296 - 4294967296 else n % 4294967296
abbrev vdict (w : World) (n : Int) (u b : Bool) (k1 k2 k3 t : Tok) : Obj := dictOf [fld w "number" k1 (.int n t), fld w "is_unsigned" k2 (.bool u), fld w "is_bad" k3 (.bool b)] 3
theorem gen_toks {M : Model} {A : Around} {α : Type} {t : Sem α} {Q : α → Shared → Prop} {E : Value → Shared → Prop} {h : Heap} {g : Array GenState} {d : Drawn} {o : OsState} {a b : Nat} (k : ∀ tk, wpAny M A t Q E ⟨h, g, d, tk, o⟩) : wpAny M A t Q E ⟨h, g, d, a + b, o⟩ := k _
end
section
open PySem PySem.W PyProof.Rows PySem.Calls PySem.Spec PySem.Builtin PySem.Builtin.ObjectAttr
section
abbrev excObj (C t : Addr) (dd : Option Addr) : Obj := { cls := .ref C, dict := dd, data := .fields #[.ref t, .none, .none, .none, .bool false, .none] }
def onlyExc : List Value → Bool
  | [.type a, .type b, .type c] => a == "Exception" && b == "BaseException" && c == "object"
  | .ref _ :: r => onlyExc r
  | _ => false
theorem onlyExc_refuse (self : Value) : ∀ {l : List Value}, onlyExc l = true → refuseLoop self "__setattr__" l = pure ()
  | [.type a, .type b, .type c], e => by
    simp only [onlyExc, Bool.and_eq_true, beq_iff_eq] at e
    obtain ⟨⟨rfl, rfl⟩, rfl⟩ := e
    exact PySem.F.store_Exception.passes self
  | .ref c :: r, e => by
    rw [refuseLoop_ref]
    exact onlyExc_refuse self (by cases r with | nil => cases e | cons _ _ => exact e)
theorem onlyExc_obj : ∀ {l : List Value}, onlyExc l = true → l.contains (.type "object") = true
  | [.type a, .type b, .type c], e => by
    simp only [onlyExc, Bool.and_eq_true, beq_iff_eq] at e
    obtain ⟨⟨rfl, rfl⟩, rfl⟩ := e
    simp
  | .ref c :: r, e => by
    rw [List.contains_cons, onlyExc_obj (l := r) (by cases r with | nil => cases e | cons _ _ => exact e), Bool.or_true]
variable {prog : Program} {w : World} {A : Around} {E : Value → Shared → Prop} {s : Shared} {K : Frag} {x C t L d : Addr} {h₀ : Heap} {m : Str → Option Value} {news : List (Addr × Obj)} {name : Str} {v : Value} {R : Result → Shared → Prop}
theorem exc_store_open {ox : Obj} {od : Option Obj} {tk : Tok} (X : K.In s.heap) (I : InstAt s.heap x ox C od) (hp : (clsIn K C).any (fun cd => onlyExc cd.mro) = true) (ht : takerIn K C name = some none)
    (h : ∀ b, wpAny (model prog w) A.in1 (storeInOwnDict (.ref x) (.ref C) (.str name tk) name v b)
      (fun fin s' => match fin with | .done f => R (.ok f) s' | .again c' => c'.quiet = true ∧ codeAny (model prog w) A c' R s') (fun e s' => R (.error e) s') s) :
    codeAny (model prog w) A (.call (.builtin "object.__setattr__") ⟨[.ref x, .str name tk, v], []⟩) R s := by
  have SF := PySem.F.store_object
  obtain ⟨cd, hc, ho⟩ := any_some hp
  have ne : cd.mro.isEmpty = false := by cases q : cd.mro with | nil => rw [q] at ho; cases ho | cons _ _ => rfl
  have sub : Looks (model prog w) s.heap (isInstance (.ref x) (.type "object")) true := I.type.andThen (looks_mroIn X (by unfold mroIn; rw [hc, Option.bind_some, if_neg (by rw [ne]; decide), onlyExc_obj ho]))
  refine codeAny_call_builtin SF.slot.plain SF.entry (@check_slot (model prog w) _ _ s "object.__setattr__" "object" "__setattr__" (.ref x) [.str name tk, v] [] _ SF.kind SF.split sub (SF.args (.ref x) (.str name tk) v) ?_)
  obtain ⟨attr, ha, hr⟩ := Option.bind_eq_some_iff.mp ht
  have hm : Looks (model prog w) s.heap (mroOf (.ref C)) cd.mro := (looks_clsIn X hc).andThen .now
  have L3 : Looks (model prog w) s.heap (storeTaker? attr) none := by
    cases attr with
    | none => exact .now
    | some a =>
      obtain ⟨b, hb, e⟩ := Option.map_eq_some_iff.mp hr
      cases b with
      | true => cases e
      | false => exact (looks_takesIn X hb).andThen .now
  rw [osa_eq, refuse_eq]
  refine wpAny_bind (wpAny_bind (I.type.here (wpAny_bind (hm.here ?_))))
  rw [onlyExc_refuse _ ho]
  refine wpAny_pure (wpAny_bind (I.type.here (wpAny_bind ((looks_findIn X ha).here (wpAny_bind (L3.here ?_))))))
  exact h _
theorem exc_set_new {Q : Unit → Shared → Prop} (F : Fr h₀ L s.heap m) (X₀ : K.In h₀) (N : News h₀ L s.heap ((x, excObj C t none) :: news)) (hx : ∀ p ∈ news, p.1 ≠ x)
    (hs : findIn K (.ref C) "__setattr__" = some (some (.builtin "object.__setattr__"))) (hp : (clsIn K C).any (fun cd => onlyExc cd.mro) = true) (ht : takerIn K C name = some none) (hh : hasDictIn K C = true)
    (h : ∀ d h', Fr h₀ L h' m → News h₀ L h' ((x, excObj C t (some d)) :: (d, dictOf [⟨PyData.keyHash w.params name, .str name (s.toks + 1), v⟩] 1) :: news) → (∀ p ∈ news, p.1 ≠ d) → x ≠ d → Q () { s with heap := h', toks := s.toks + 2 }) :
    wpAny (model prog w) A (setAttr (.ref x) name v) Q E s := by
  have X := X₀.keeps F.keep
  have hX := (N _ (.head _)).1
  have I : InstAt s.heap x (excObj C t none) C none := ⟨hX, rfl, rfl, trivial⟩
  refine set_plain X I hs (exc_store_open (s := { s with toks := s.toks + 1 }) X I hp ht fun b => ?_)
  obtain ⟨cd, hc, hd'⟩ := any_some hh
  refine wpAny_bind (wpAny_pure (wpAny_bind (wpAny_bind (wpAny_loadPart hX (wpAny_bind (looks_clsIn X hc _ _ _ _ (fun _ _ e => e) ?_))))))
  rw [hd']
  have below : ∀ p ∈ ((x, excObj C t none) :: news), p.1 < s.heap.objs.size := fun p hp => Heap.lt_size (N p hp).1
  have F1 := F.push { cls := .type "dict", data := .dict #[] }
  have N1 := News.push F N { cls := .type "dict", data := .dict #[] }
  have ne1 : x ≠ s.heap.objs.size := Nat.ne_of_lt (below _ (.head _))
  have ne2 : ∀ p ∈ news, p.1 ≠ s.heap.objs.size := fun p hp => Nat.ne_of_lt (below p (.tail _ hp))
  obtain ⟨F2, N2⟩ := news_upd (d := x) (o := excObj C t none) (o' := excObj C t (some s.heap.objs.size)) (f := fun o => { o with dict := some s.heap.objs.size }) (pre := [(s.heap.objs.size, { cls := .type "dict", data := .dict #[] })]) (post := news) F1 N1
    (fun p hp => by rw [List.mem_singleton.mp hp]; exact ne1.symm) hx rfl rfl
  have hx1 := Heap.get?_push_of_some { cls := .type "dict", data := .dict #[] } hX
  obtain ⟨F3, N3⟩ := news_upd (d := s.heap.objs.size) (pre := []) (o' := dictOf [⟨PyData.keyHash w.params name, .str name (s.toks + 1), v⟩] 1) (f := Obj.putName name (PyData.keyHash w.params name) (.str name (s.toks + 1)) v) F2 N2 (fun p hp => nomatch hp)
    (fun p hp => by
      rcases List.mem_cons.mp hp with rfl | hp
      · exact ne1
      · exact ne2 p hp) (putName_dict name _ _ v [] 0) rfl
  have D2 := (N2 _ (.head _)).1
  have D3 := (N3 _ (.head _)).1
  refine wpAny_bind (wpAny_alloc (wpAny_bind (wpAny_update hx1 (wpAny_pure ?_))))
  refine wpAny_bind (wpAny_pure (wpAny_bind ?_))
  unfold nsSet
  refine wpAny_bind (wpAny_bind (wpAny_askSetting (wpAny_pure (wpAny_bind (wpAny_mkText (wpAny_bind (wpAny_loadPart D2 ?_)))))))
  refine wpAny_updatePart D2 ?_
  refine wpAny_bind (wpAny_lookBehind D3 (by exact pastItsLine_dict (by rw [List.size_toArray, sizeLine_eq]; exact Nat.le_of_ble_eq_true rfl)) ?_)
  refine wpAny_pure (h _ _ F3 (fun p hp => N3 p ?_) ne2 ne1)
  rcases List.mem_cons.mp hp with rfl | hp
  · exact .tail _ (.head _)
  · rcases List.mem_cons.mp hp with rfl | hp
    · exact .head _
    · exact .tail _ (.tail _ hp)
theorem exc_set_more {Q : Unit → Shared → Prop} {es : List DictEntry} {n : Nat} (F : Fr h₀ L s.heap m) (X₀ : K.In h₀) (N : News h₀ L s.heap ((x, excObj C t (some d)) :: (d, dictOf es n) :: news)) (hx : ∀ p ∈ news, p.1 ≠ d) (hxd : x ≠ d)
    (hs : findIn K (.ref C) "__setattr__" = some (some (.builtin "object.__setattr__"))) (hp : (clsIn K C).any (fun cd => onlyExc cd.mro) = true) (ht : takerIn K C name = some none) (hh : hasDictIn K C = true)
    (hl : (getL name es).isSome = true) (hz : es.length < 900)
    (h : ∀ h', Fr h₀ L h' m → News h₀ L h' ((x, excObj C t (some d)) :: (d, dictOf (putL name (PyData.keyHash w.params name) (.str name (s.toks + 1)) v es) (putN name es n)) :: news) → Q () { s with heap := h', toks := s.toks + 2 }) :
    wpAny (model prog w) A (setAttr (.ref x) name v) Q E s := by
  have X := X₀.keeps F.keep
  have hX := (N _ (.head _)).1
  have D := (N _ (.tail _ (.head _))).1
  have I : InstAt s.heap x (excObj C t (some d)) C (some (dictOf es n)) := ⟨hX, rfl, rfl, D⟩
  refine set_plain X I hs (exc_store_open (s := { s with toks := s.toks + 1 }) X I hp ht fun b => ?_)
  obtain ⟨cd, hc, hd'⟩ := any_some hh
  obtain ⟨U1, U2⟩ := news_upd (d := d) (pre := [(x, excObj C t (some d))]) (post := news) (f := Obj.putName name (PyData.keyHash w.params name) (.str name (s.toks + 1)) v) F N
    (fun p hp => by rw [List.mem_singleton.mp hp]; exact hxd) hx (putName_dict name _ _ v es n) rfl
  have D' := (U2 _ (.tail _ (.head _))).1
  refine wpAny_bind (wpAny_pure (wpAny_bind (wpAny_bind (wpAny_loadPart hX (wpAny_bind (looks_clsIn X hc _ _ _ _ (fun _ _ e => e) ?_))))))
  rw [hd']
  refine wpAny_pure (a := some d) (wpAny_bind (wpAny_pure (wpAny_bind ?_)))
  unfold nsSet
  refine wpAny_bind (wpAny_bind (wpAny_askSetting (wpAny_pure (wpAny_bind (wpAny_mkText (wpAny_bind (wpAny_loadPart D ?_)))))))
  have c : aRefKeyMayBeTheName name es.toArray = false := by
    rw [aRefKeyMayBeTheName_at, ← Array.any_toList, ← Array.any_toList]
    unfold getL at hl
    split at hl
    · rename_i en he
      rw [List.any_eq_true.mpr ⟨en, List.mem_of_find?_eq_some he, List.find?_some he⟩]; rfl
    · split at hl
      · cases hl
      · rename_i z; rw [Bool.not_eq_true] at z; rw [z, Bool.and_false]
  show wpAny _ _ (if aRefKeyMayBeTheName name es.toArray = true then _ else _) _ _ _
  rw [c]
  refine wpAny_updatePart D ?_
  refine wpAny_bind (wpAny_lookBehind D' (by
    refine pastItsLine_dict ?_
    rw [List.size_toArray, sizeLine_eq]
    have : ∀ (a : Str) b c e (l : List DictEntry), (putL a b c e l).length ≤ l.length + 1 := by
      intro a b c e l
      induction l with
      | nil => exact Nat.le_refl _
      | cons y r ih => unfold putL; split <;> simp only [List.length_cons] <;> omega
    have := this name (PyData.keyHash w.params name) (.str name (s.toks + 1)) v es
    omega) ?_)
  exact wpAny_pure (h _ U1 U2)
theorem exc_base_init {Q : Value → Shared → Prop} (F : Fr h₀ L s.heap m) (X₀ : K.In h₀) (N : News h₀ L s.heap ((x, excObj C t none) :: news)) (hx : ∀ p ∈ news, p.1 ≠ x) (hb : ktsIn K C "Exception" = true)
    (h : ∀ d h', Fr h₀ L h' m → News h₀ L h' ((x, excObj C d none) :: news) → Q .none { s with heap := h' }) :
    wpAny (model prog w) A (call (.builtin "Exception.__init__") [.ref x, v]) Q E s := by
  have FE := PySem.F.excBase_Exception
  have hshort := FE.noStar
  have X := X₀.keeps F.keep
  have hX := (N _ (.head _)).1
  obtain ⟨nm, qn, NS, bs, bm, hdct, sn, sub, ab, col, dd, k0, k1, k2, k3, k5, newId, hC, hbase, hbT⟩ := kts_cls X hb
  have hcB : (Value.ref C :: bm).contains (.type "Exception") = true := by rw [List.contains_cons, hbT, Bool.or_true]
  have F1 := F.push (({ cls := .type "tuple", data := .seq #[v] } : Obj))
  have N1 := News.push F N (({ cls := .type "tuple", data := .seq #[v] } : Obj))
  have ne2 : ∀ p ∈ ((x, excObj C t none) :: news), p.1 ≠ s.heap.objs.size := fun p hp => Nat.ne_of_lt (Heap.lt_size (N p hp).1)
  have hx1 := Heap.get?_push_of_some (({ cls := .type "tuple", data := .seq #[v] } : Obj)) hX
  obtain ⟨F2, N2⟩ := news_upd (d := x) (o := excObj C t none) (o' := excObj C s.heap.objs.size none) (f := Obj.mapFields (·.setIfInBounds 0 (.ref s.heap.objs.size))) (pre := [(s.heap.objs.size, ({ cls := .type "tuple", data := .seq #[v] } : Obj))]) (post := news) F1 N1
    (fun p hp => by rw [List.mem_singleton.mp hp]; exact (ne2 _ (.head _)).symm) hx rfl rfl
  refine wpAny_call (codeAny_call_builtin FE.init.plain FE.initEntry ?_)
  simp only [checkBuiltinCall, FE.initKind, FE.initSplit, FE.initRow]
  repeat (first | with_reducible refine wpAny_loadPart_at hX ?_ | with_reducible refine wpAny_loadPart_at hC ?_ | (with_reducible refine wpAny_isSubtype_exc hC ?_; rw [hcB]) | wp_step)
  exact h _ _ F2 (fun q hq => N2 q (.tail _ hq))
theorem exc_get {Q : Value → Shared → Prop} {expr : Bool} {es : List DictEntry} {n : Nat} {ox : Obj} (X : K.In s.heap) (I : InstAt s.heap x ox C (some (dictOf es n)))
    (hg : findIn K (.ref C) "__getattribute__" = some (some (.builtin "BaseException.__getattribute__"))) (hk : findIn K (.ref C) "__getattr__" = some none) (hb : mroIn K C (.type "BaseException") = some true)
    (hf : findObj K C (some (dictOf es n)) name = some (.value v)) (hv : handedIn v = true) (h : Q v { s with toks := s.toks + 1 }) :
    wpAny (model prog w) A (getAttr (.ref x) name expr) Q E s := by
  obtain ⟨hh, g, dr, tk, os⟩ := s
  have L0 := I.type (M := model prog w)
  have L1 := looks_findIn (M := model prog w) X hg
  have L2 := looks_findIn (M := model prog w) X hk
  have L3 := looks_find (M := model prog w) X I hf
  have sub : Looks (model prog w) hh (isInstance (.ref x) (.type "BaseException")) true := L0.andThen (looks_mroIn X hb)
  have hx0 : (expr && onTheHeap (Value.builtin "BaseException.__getattribute__")) = false := by cases expr <;> rfl
  have hx2 : (onTheHeap (Value.ref C) && Value.builtin "BaseException.__getattribute__" == Value.builtin "object.__getattribute__") = false := by
    rw [show (Value.builtin "BaseException.__getattribute__" == Value.builtin "object.__getattribute__") = false by decide +kernel]; rfl
  have sg : Slot _ "__getattribute__" "BaseException.__getattribute__" := PySem.F.excAttr_ValueError.ga
  unfold getAttr getAttrBy
  refine wpAny_bind (wpAny_mkText (wpAny_holding (wpAny_bind (L0.at (wpAny_bind (L1.at ?_))))))
  dsimp only
  rw [hx2]
  show wpAny _ _ (getAttrByItsOwn _ _ _ _ _ _) _ _ _
  unfold getAttrByItsOwn
  refine wpAny_bind (L2.at ?_)
  refine wpAny_bind (wpAny_attempt (wpAny_holding ?_))
  unfold callGetattribute
  rw [hx0]
  show wpAny _ _ (boundAndCalled _ _ _) _ _ _
  unfold boundAndCalled
  rw [sg.bind]
  refine wpAny_bind (wpAny_pure (wpAny_call ?_))
  refine codeAny_call_builtin sg.plain PySem.F.entry_bexc_ga (@check_slot (model prog w) _ _ _ "BaseException.__getattribute__" "BaseException" "__getattribute__" (.ref x) [.str name tk] [] _ (by decide +kernel) (by decide +kernel) sub (PySem.F.args_bexc_ga (.ref x) (.str name tk)) ?_)
  unfold Builtin.«object.__getattribute__»
  refine wpAny_bind (wpAny_pure (wpAny_bind (wpAny_pure (wpAny_bind (L0.at (wpAny_bind (L3.at ?_)))))))
  refine wpAny_pure ?_
  show wpAny _ _ (handedOut v) _ _ _
  rw [handedOut_of hv]; exact wpAny_pure h
end
end
section
open PySem PySem.W PyProof.Rows PySem.Calls PySem.Spec
section
abbrev excNew (C t : Addr) : Obj := { cls := .ref C, data := .fields #[.ref t, .none, .none, .none, .bool false, .none] }
abbrev tupNew (l : List Value) : Obj := { cls := .type "tuple", data := .seq l.toArray }
section
variable {prog : Program} {w : World} {A : Around} {E : Value → Shared → Prop} {R : Result → Shared → Prop} {h : Heap} {g : Array GenState} {d : Drawn} {t : Nat} {os : OsState}
variable {nm q : Str} {C N : Addr} {bs bm : List Value} {hdct : Bool} {sn : List Str} {sub : List Value} {ab : Bool} {col : Option Bool} {dd : Option Addr} {k0 k1 k2 k3 k5 : Option Value} {rest : List Value}
theorem exc_check {M : Model} {Q : Unit → Shared → Prop} (hb : (Value.ref C :: bm).contains (.type "Exception") = true) (hC : h.get? C = some (excClassObj nm q C N bs bm hdct sn sub ab col dd k0 k1 k2 k3 k5 "Exception.__new__"))
    (hq : Q () ⟨h, g, d, t, os⟩) : wpAny M A (checkBuiltinCall "Exception.__new__" ⟨.ref C :: rest, []⟩) Q E ⟨h, g, d, t, os⟩ := by
  have F := F.excBase_Exception
  have hstar := F.noStar
  simp only [checkBuiltinCall, F.newKind, F.newSplit, F.newRow]
  repeat (first | refine wpAny_loadPart_at hC ?_ | (refine wpAny_isSubtype_exc hC ?_; rw [hb]) | refine wpAny_staticBase_exc hC ?_ | refine wpAny_madeBy_exc hC ?_ | simp only [bne_self_eq_false, Bool.false_eq_true, if_false] | wp_step)
  exact hq
theorem exc_run (hb : (Value.ref C :: bm).contains (.type "Exception") = true) (ha : (Value.ref C :: bm).contains (.type "AttributeError") = false) (hn : (Value.ref C :: bm).contains (.type "NameError") = false)
    (hC : h.get? C = some (excClassObj nm q C N bs bm hdct sn sub ab col dd k0 k1 k2 k3 k5 "Exception.__new__"))
    (hq : R (.ok (.ret (.ref (h.objs.size + 1)))) ⟨(h.push (tupNew rest)).push (excNew C h.objs.size), g, d, t, os⟩) (hrest : rest.length ≤ sizeLine := by size_fits) :
    codeAny (model prog w) A (.builtin "Exception.__new__" ⟨.ref C :: rest, []⟩) R ⟨h, g, d, t, os⟩ := by
  have F := F.excBase_Exception
  have hends := F.ends
  refine PySem.codeAny_builtinAt F.entry ?_
  unfold Builtin.«BaseException.__new__»
  refine PySem.wpAt_bind ?_
  show PySem.wpAt _ _ _ (stack >>= _) _ _ _
  refine PySem.wpAt_bind (PySem.wpAt_stack fun p below => PySem.wpAt_of_wpAny ?_)
  wp_walk
  refine PySem.wpAt_of_wpAny ?_
  rw [F.owner]
  repeat (first | with_reducible refine wpAny_madeHere_exc F.canon hC ?_ | with_reducible refine wpAny_loadPart_at hC ?_ | (with_reducible refine wpAny_isSubtype_exc hC ?_; first | rw [hb] | rw [ha] | rw [hn]) | wp_step)
  show R _ _
  rw [Heap.size_push]
  exact hq
end
end
end
section
open PySem PySem.W PyProof.Rows PySem.Calls PySem.Spec
section
variable {prog : Program} {w : World} {A : Around} {E : Value → Shared → Prop} {R : Result → Shared → Prop} {h : Heap} {g : Array GenState} {d : Drawn} {t : Nat} {os : OsState} {K : Frag}
variable {nm q : Str} {C N fI : Addr} {bs bm : List Value} {hdct : Bool} {sn : List Str} {sub : List Value} {ab : Bool} {col : Option Bool} {dd : Option Addr} {k0 k1 k2 k3 k5 : Option Value} {rest : List Value}
theorem exc_make (X : K.In h) (hb : (Value.ref C :: bm).contains (.type "Exception") = true) (ha : (Value.ref C :: bm).contains (.type "AttributeError") = false) (hn : (Value.ref C :: bm).contains (.type "NameError") = false)
    (hC : h.get? C = some (excClassObj nm q C N bs bm hdct sn sub ab col dd k0 k1 k2 k3 k5 "Exception.__new__"))
    (hcl : specialIn K (.ref C) "__call__" = some (some (.builtin "type.__call__"))) (hty : instIn K (.ref C) (.type "type") = some true)
    (hself : mroIn K C (.ref C) = some true) (hi : findIn K (.ref C) "__init__" = some (some (.ref fI))) (hf : typeIn K (.ref fI) = some (.type "function"))
    (hq : codeAny (model prog w) (A.under (.builtin "type.__call__" ⟨.ref C :: rest, []⟩)) (.call (.ref fI) ⟨.ref (h.objs.size + 1) :: rest, []⟩) (InitBack (h.objs.size + 1) R) ⟨(h.push (tupNew rest)).push (excNew C h.objs.size), g, d, t, os⟩)
    (hrest : rest.length ≤ sizeLine := by size_fits) :
    codeAny (model prog w) A (.call (.ref C) ⟨rest, []⟩) R ⟨h, g, d, t, os⟩ := by
  have F := F.excBase_Exception
  have call : Looks (model prog w) h (specialOf (.ref C) "__call__") (some (.builtin "type.__call__")) := looks_specialIn X hcl
  have typ : Looks (model prog w) h (isInstance (.ref C) (.type "type")) true := looks_instIn X hty
  refine codeAny_of_tree ?_
  show wpAny _ _ (callAny (.ref C) _) _ _ _
  refine nd_load hC ?_
  show wpAny _ _ (callAny.viaDunder (.ref C) _) _ _ _
  unfold callAny.viaDunder
  refine wpAny_bind (call.at ?_)
  dsimp only
  rw [tc_bind]
  refine wpAny_bind (wpAny_pure (wpAny_bind (wpAny_pure ?_)))
  refine wpAny_pure (a := Fin.again (.call (.builtin "type.__call__") ⟨.ref C :: rest, []⟩)) (And.intro rfl ?_)
  refine codeAny_call_builtin_at (Code.quiet_builtin _ (by decide +kernel)) entry_typeCall (check_slot tc_kind tc_split typ (tc_args _ _ _) ?_)
  repeat (first | with_reducible refine wpAny_loadPart_at hC ?_ | with_reducible refine wpAny_madeBy_exc hC ?_ | wp_step)
  refine codeAny_call_builtin_code (Code.quiet_builtin _ F.quiet) (exc_check hb hC ?_)
  refine exc_run hb ha hn hC ?_ hrest
  show wpAny _ _ _ _ _ _
  have k : ∀ b o, h.get? b = some o → ((h.push (tupNew rest)).push (excNew C h.objs.size)).get? b = some o := fun b o e => Heap.get?_push_of_some _ (Heap.get?_push_of_some _ e)
  have hx : ((h.push (tupNew rest)).push (excNew C h.objs.size)).get? (h.objs.size + 1) = some (excNew C h.objs.size) := by heap_get
  have t1 : Looks (model prog w) ((h.push (tupNew rest)).push (excNew C h.objs.size)) (typeOf (.ref (h.objs.size + 1))) (.ref C) := (Looks.ld hx).andThen .now
  have s1 : Looks (model prog w) ((h.push (tupNew rest)).push (excNew C h.objs.size)) (isSubtype (.ref C) (.ref C)) true := (looks_mroIn X hself).keeps k
  have i1 : Looks (model prog w) ((h.push (tupNew rest)).push (excNew C h.objs.size)) (typeLookup (.ref C) "__init__") (some (.ref fI)) := (looks_findIn X hi).keeps k
  have b1 := (bind_fn (M := model prog w) X (.ref (h.objs.size + 1)) hf).keeps k
  unfold isInstance callSpecial? specialOf
  repeat (first | with_reducible refine wpAny_call ?_ | lk)
  refine codeAny_mono hq fun r s' z => ?_
  rcases r with e | (v | _ | _ | _) <;> first | exact z | exact z.elim | skip
  obtain ⟨rfl, z⟩ := z
  exact wpAny_pure (wpAny_pure z)
end
end
section
open PySem PySem.W PyProof.Rows PySem.Calls PySem.Spec PySem.Builtin PySem.Builtin.ObjectAttr
section
def newExcIn (K : Frag) (C : Addr) : Bool := match K.lookup C with
  | some ⟨.type "type", _, .cls cd, sl⟩ => (match cd.mro, sl.toList with
    | .ref C' :: bm, [_, _, _, _, some (.builtin n), _] => C' == C && !cd.hasDel && n == "Exception.__new__" && (Value.ref C :: bm).contains (.type "Exception") && !(Value.ref C :: bm).contains (.type "AttributeError") && !(Value.ref C :: bm).contains (.type "NameError")
    | _, _ => false)
  | _ => false
theorem newExc_cls {K : Frag} {h : Heap} {C : Addr} (X : K.In h) (q : newExcIn K C = true) : ∃ nm qn N bs bm hdct sn sub ab col dd k0 k1 k2 k3 k5,
    h.get? C = some (excClassObj nm qn C N bs bm hdct sn sub ab col dd k0 k1 k2 k3 k5 "Exception.__new__") ∧ (Value.ref C :: bm).contains (.type "Exception") = true ∧ (Value.ref C :: bm).contains (.type "AttributeError") = false ∧ (Value.ref C :: bm).contains (.type "NameError") = false := by
  unfold newExcIn at q
  split at q
  · rename_i dd cd sl ho
    split at q
    · rename_i C' bm k0 k1 k2 k3 n k5 hm hs
      simp only [Bool.and_eq_true, beq_iff_eq, Bool.not_eq_true'] at q
      obtain ⟨⟨⟨⟨⟨rfl, hdel⟩, rfl⟩, h1⟩, h2⟩, h3⟩ := q
      obtain ⟨nm, bs, mro, ns, qn, hd, sn, sub, ab, col, del⟩ := cd
      dsimp only at hm hdel
      subst hm hdel
      have hsl : sl = #[k0, k1, k2, k3, some (.builtin "Exception.__new__"), k5] := by
        obtain ⟨l⟩ := sl
        simp only at hs
        rw [hs]
      subst hsl
      exact ⟨nm, qn, ns, bs, bm, hd, sn, sub, ab, col, dd, k0, k1, k2, k3, k5, X _ _ ho, h1, h2, h3⟩
    · cases q
  · cases q
variable {prog : Program} {w : World} {A : Around} {E : Value → Shared → Prop} {s : Shared} {K : Frag} {C L : Addr} {h₀ : Heap} {m : Str → Option Value} {news : List (Addr × Obj)}
theorem exc_cls {pos : List Value} {fI : Addr} {Q : Value → Shared → Prop} (F : Fr h₀ L s.heap m) (X₀ : K.In h₀) (N : News h₀ L s.heap news) (hc : newExcIn K C = true)
    (hcl : specialIn K (.ref C) "__call__" = some (some (.builtin "type.__call__"))) (hty : instIn K (.ref C) (.type "type") = some true)
    (hself : mroIn K C (.ref C) = some true) (hi : findIn K (.ref C) "__init__" = some (some (.ref fI))) (hf : typeIn K (.ref fI) = some (.type "function"))
    (h : ∀ x tp h', Fr h₀ L h' m → News h₀ L h' ((x, excObj C tp none) :: (tp, tupNew pos) :: news) → (∀ p ∈ news, p.1 < tp) → tp < x →
      codeAny (model prog w) (A.under (.builtin "type.__call__" ⟨.ref C :: pos, []⟩)) (.call (.ref fI) ⟨.ref x :: pos, []⟩) (InitBack x fun r s' => match r with | .ok (.ret v) => Q v s' | .ok _ => False | .error e => E e s') { s with heap := h' })
    (hrest : pos.length ≤ sizeLine) :
    wpAny (model prog w) A (call (.ref C) pos []) Q E s := by
  have X := X₀.keeps F.keep
  obtain ⟨nm, qn, NS, bs, bm, hdct, sn, sub, ab, col, dd, k0, k1, k2, k3, k5, hC, h1, h2, h3⟩ := newExc_cls X hc
  have F1 := F.push (tupNew pos)
  have N1 := News.push F N (tupNew pos)
  have F2 := F1.push (excObj C s.heap.objs.size none)
  have N2 := News.push F1 N1 (excObj C s.heap.objs.size none)
  rw [Heap.size_push] at N2
  refine wpAny_call (exc_make X h1 h2 h3 hC hcl hty hself hi hf ?_ hrest)
  exact h _ _ _ F2 N2 (fun p hp => Heap.lt_size (N p hp).1) (Nat.lt_succ_self _)
end
end
section
open PySem PySem.W PyProof.Rows PySem.Calls PySem.Spec PySem.Builtin PySem.Builtin.ObjectAttr
section
abbrev hotObj (C d : Addr) (vs : Array Value) : Obj := { cls := .ref C, dict := some d, data := .fields vs }
def HotAt (h base : Heap) (e C d : Addr) (fl : Value) : Prop :=
  ∃ vs T oT ts, h.get? e = some (hotObj C d vs) ∧ vs[1]? = some (.ref T) ∧ base.get? T = none ∧ T ≠ e ∧ h.get? T = some oT ∧ oT.data = .fields ts ∧ ts[3]? = some fl
def HotD (base : Heap) (l : List Env) (e C d : Addr) (fl : Value) (h : Heap) : Prop :=
  base.StaysIn h ∧ base.get? e = none ∧ h.FunFrames base l ∧ HotAt h base e C d fl
variable {M : Model} {A : Around} {E : Value → Shared → Prop} {s : Shared} {base : Heap} {env : Env} {outer : List Env} {L e C d : Addr} {Q : Unit → Shared → Prop}
theorem mem_set1 (vs : Array Value) (v : Value) (h : 1 < vs.size) : (vs.setIfInBounds 1 v)[1]? = some v := by simp [h]
theorem entryD {vs : Array Value} {head : Value} {hadNext : Bool} (hfr : A.frames = some (env :: outer)) (hl : s.heap.FunFrames base (env :: outer)) (hf : env.frame = some L)
    (he : s.heap.get? e = some (hotObj C d vs)) (hkb : base.StaysIn s.heap) (hen : base.get? e = none) (hsz : 1 < vs.size)
    (h : ∀ h', HotD base (env :: outer) e C d (rawInt L) h' → s.heap.UpToSlots h' → Q () { s with heap := h' }) :
    wpAny M A (do let a ← frameOf env; let pl ← entryPlaceOf L hadNext; let b ← EntryCells.newEntry head a .none (rawInt L) .none pl; setField (.ref e) 1 b) Q E s := by
  have nofields : ∀ b o, s.heap.get? b = some o → (∀ ws, o.data ≠ .fields ws) → b ≠ e := fun b o hb hn z => by
    subst z; rw [he] at hb; cases hb; exact hn vs rfl
  have notframe : e ∉ (env :: outer).filterMap (·.frame) := fun hm => by
    obtain ⟨_, o, ho, hn⟩ := hl.mem hm
    exact nofields e o ho hn rfl
  refine wpAny_bind (wpAny_frameOf_fun hfr hl hf fun h₁ S => wpAny_bind (wpAny_entryPlaceOf fun pl hpl => ?_))
  unfold EntryCells.newEntry newFields
  refine wpAny_bind (wpAny_newObj_type ?_ (hpl.sizeOk5 _ _ _ _ _))
  have e1 : h₁.get? e = some (hotObj C d vs) := (S.2.1 e notframe).trans he
  have e2 := Heap.get?_push_of_some { cls := .type "traceback", dict := none, data := .fields ([head, .ref L, .none, rawInt L, .none] ++ (if pl.isEmpty then List.replicate 6 Value.none else pl)).toArray } e1
  have tne : h₁.objs.size ≠ e := Nat.ne_of_gt (Heap.lt_size e1)
  refine wpAny_setField e2 rfl hsz (h _ ?_ ?_)
  · have k1 : base.StaysIn h₁ := fun b o hb => (S.2.1 b fun hm => by rw [(hl.mem hm).1] at hb; cases hb).trans (hkb b o hb)
    have keep : ∀ b o, b ≠ e → h₁.get? b = some o → ((h₁.push { cls := .type "traceback", dict := none, data := .fields ([head, .ref L, .none, rawInt L, .none] ++ (if pl.isEmpty then List.replicate 6 Value.none else pl)).toArray }).update e (Obj.mapFields (·.setIfInBounds 1 (Value.ref h₁.objs.size)))).get? b = some o := fun b o hb q => by
      rw [Heap.get?_update_other _ _ (Ne.symm hb)]; exact Heap.get?_push_of_some _ q
    refine ⟨fun b o hb => keep b o (fun z => by rw [z, hen] at hb; cases hb) (k1 b o hb), hen, hl.of_keeps fun b o hb hn => ?_, ?_⟩
    · obtain ⟨sl, hs⟩ := S.2.2 b o hb
      exact ⟨_, keep b _ (nofields b o hb hn) hs, rfl⟩
    · refine ⟨vs.setIfInBounds 1 (.ref h₁.objs.size), h₁.objs.size, _, _, Heap.get?_update_self _ e2 rfl, mem_set1 _ _ hsz, k1.fresh, tne, (Heap.get?_update_other _ _ (Ne.symm tne)).trans (Heap.get?_push_size h₁ rfl), rfl, ?_⟩
      · first | (simp; done) | (rcases hpl with rfl | ⟨_, _, _, _, _, _, _, rfl⟩ <;> simp)
  · intro b o hb hn
    obtain ⟨sl, hs⟩ := S.2.2 b o hb
    refine ⟨sl, ?_⟩
    rw [Heap.get?_update_other _ _ (Ne.symm (nofields b o hb hn))]
    exact Heap.get?_push_of_some _ hs
theorem landD {l : List Env} {fl : Value} (hh : HotD base l e C d fl s.heap) (h : ∀ h', HotD base l e C d .none h' → s.heap.UpToSlots h' → Q () { s with heap := h' }) : wpAny M A (setFlight (.ref e) none) Q E s := by
  obtain ⟨f1, f2, f3, vs, T, oT, ts, he, h1, hT, hTe, hoT, hd, h3⟩ := hh
  have sz : 3 < ts.size := (Array.getElem?_eq_some_iff.mp h3).1
  unfold setFlight
  refine wpAny_bind (wpAny_field he rfl h1 ?_)
  rw [if_pos (show (Value.ref T != Value.none) = true from by simp)]
  have other : ∀ b, b ≠ T → (s.heap.update T (Obj.mapFields (·.setIfInBounds 3 ((none : Option Addr).elim Value.none fun f => rawInt f)))).get? b = s.heap.get? b := fun b hb => Heap.get?_update_other _ _ (Ne.symm hb)
  have nof : ∀ b o, s.heap.get? b = some o → (∀ ws, o.data ≠ .fields ws) → b ≠ T := fun b o hb hn z => by
    subst z; rw [hoT] at hb; cases hb; exact hn ts hd
  refine wpAny_setField hoT hd sz (h _ ⟨fun b o hb => (other b fun z => by rw [z, hT] at hb; cases hb).trans (f1 b o hb), f2, f3.of_keeps fun b o hb hn => ⟨o, (other b (nof b o hb hn)).trans hb, rfl⟩, ?_⟩ fun b o hb hn => ⟨o.slots, (other b (nof b o hb hn)).trans hb⟩)
  exact ⟨vs, T, _, _, (other e (Ne.symm hTe)).trans he, h1, hT, hTe, Heap.get?_update_self _ hoT (Obj.isFreed_of_fields (Obj.data_mapFields hd _)), Obj.data_mapFields hd _, by simp [sz]⟩
theorem leaveD {t : Addr} (hfr : A.frames = some (env :: outer)) (hl : s.heap.FunFrames base (env :: outer)) (hf : env.frame = some L) (he : s.heap.get? e = some (excObj C t (some d))) (hkb : base.StaysIn s.heap) (hen : base.get? e = none)
    (h : ∀ h', HotD base outer e C d .none h' → s.heap.UpToSlots h' → Q () { s with heap := h' }) : wpAny M A (leaving env (.ref e)) Q E s := by
  unfold leaving noteFrame
  simp only [hf]
  refine wpAny_bind (wpAny_bind (wpAny_field (x := .none) he rfl rfl ?_))
  rw [if_neg (by decide)]
  refine entryD hfr hl hf he hkb hen (Nat.le_of_ble_eq_true rfl) fun h' H U => ?_
  refine landD H fun h'' H' U' => ?_
  obtain ⟨k1, k2, ⟨_, _, k3⟩, k4⟩ := H'
  exact h h'' ⟨k1, k2, k3, k4⟩ (U.trans U')
theorem lookD (hfr : A.frames = some (env :: outer)) (hf : env.frame = some L) (hh : HotD base (env :: outer) e C d .none s.heap)
    (h : ∀ h', HotD base (env :: outer) e C d (rawInt L) h' → s.heap.UpToSlots h' → Q () { s with heap := h' }) : wpAny M A (noteFrame (.ref e) env) Q E s := by
  obtain ⟨f1, f2, f3, vs, T, oT, ts, he, h1, hT, hTe, hoT, hd, h3⟩ := hh
  have sz : 3 < ts.size := (Array.getElem?_eq_some_iff.mp h3).1
  unfold noteFrame
  simp only [hf]
  refine wpAny_bind (wpAny_field he rfl h1 ?_)
  rw [if_pos (show (Value.ref T != Value.none) = true from by simp)]
  refine wpAny_bind (wpAny_field hoT hd h3 ?_)
  rw [if_neg (show ¬ ((Value.none == rawInt L) = true) from by simp [rawInt])]
  refine wpAny_bind (wpAny_setField hoT hd sz ?_)
  have other : ∀ b, b ≠ T → (s.heap.update T (Obj.mapFields (·.setIfInBounds 3 Value.none))).get? b = s.heap.get? b := fun b hb => Heap.get?_update_other _ _ (Ne.symm hb)
  have nof : ∀ b o, s.heap.get? b = some o → (∀ ws, o.data ≠ .fields ws) → b ≠ T := fun b o hb hn z => by
    subst z; rw [hoT] at hb; cases hb; exact hn ts hd
  refine entryD hfr (f3.of_keeps fun b o hb hn => ⟨o, (other b (nof b o hb hn)).trans hb, rfl⟩) hf ((other e (Ne.symm hTe)).trans he) (fun b o hb => (other b fun z => by rw [z, hT] at hb; cases hb).trans (f1 b o hb)) f2
    (Array.getElem?_eq_some_iff.mp h1).1 fun h' H U => h h' H fun b o hb hn => U b o ((other b (nof b o hb hn)).trans hb) hn
end
end
section
open PySem PySem.W PyProof.Rows PySem.Calls PySem.Spec PySem.Builtin PySem.Builtin.ObjectAttr
section
def RaisedD (base G : Heap) (l : List Env) (e C d : Addr) (news : List (Addr × Obj)) (h : Heap) : Prop :=
  ∃ B, base.StaysIn B ∧ (∀ b o, G.get? b = some o → b ∉ l.filterMap (·.frame) → B.get? b = some o) ∧ (∀ q ∈ news, B.get? q.1 = some q.2 ∧ G.get? q.1 = none ∧ base.get? q.1 = none) ∧ G.get? e = none ∧ HotD B l e C d .none h
section
variable {M : Model} {A : Around} {E : Value → Shared → Prop} {s' : Shared} {base g : Heap} {outer : List Env} {L a e t C d : Addr} {m : Str → Option Value} {name : Str} {scope : Scope} {cd : Value} {Q : Unit → Shared → Prop} {news : List (Addr × Obj)}
theorem leave_raiseD (K : Below A base outer g) (F : Fr g L s'.heap m) (N : News g L s'.heap ((e, excObj C t (some d)) :: news)) (ne : ∀ q ∈ news, q.1 ≠ e)
    (hQ : ∀ h', RaisedD base g outer e C d news h' → g.UpToSlots h' → Q () { s' with heap := h' }) (hk : scope.kind = .function := by rfl) :
    wpAny M (A.deeper (envOf name scope L a cd)) (leaving (envOf name scope L a cd) (.ref e)) Q E s' := by
  have K' := K.push (name := name) (a := a) (cd := cd) F hk
  have he := N _ (.head _)
  have noframe : ∀ b o, s'.heap.get? b = some o → b ∈ (envOf name scope L a cd :: outer).filterMap (·.frame) → ∀ ws, o.data ≠ .fields ws := fun b o hb hm ws q => by
    obtain ⟨_, o', ho', hn⟩ := K'.frames.mem hm
    rw [hb] at ho'; cases ho'; exact hn ws q
  have hin : ∀ env ∈ (envOf name scope L a cd :: outer), ∀ b, env.frame = some b → b ∈ e :: (envOf name scope L a cd :: outer).filterMap (·.frame) := fun env he b hb => .tail _ (List.mem_filterMap.mpr ⟨env, he, hb⟩)
  have st : base.StaysIn (hideAll s'.heap (e :: (envOf name scope L a cd :: outer).filterMap (·.frame))) := fun b o q => hideAll_get _ (K'.stays b o q) fun hm => by
    rcases List.mem_cons.mp hm with rfl | hm
    · have := fresh_of_stays K.stays he.2.2
      rw [this] at q; cases q
    · rw [(K'.frames.mem hm).1] at q; cases q
  have sg : ∀ b o, g.get? b = some o → b ∉ outer.filterMap (·.frame) → (hideAll s'.heap (e :: (envOf name scope L a cd :: outer).filterMap (·.frame))).get? b = some o := fun b o q nm => hideAll_get _ (F.keep b o q) fun hm => by
    rcases List.mem_cons.mp hm with rfl | hm
    · rw [he.2.2] at q; cases q
    · rcases kts_mem hm with z | z
      · rw [z, kts_self F] at q; cases q
      · exact nm z
  have hl : ∀ q ∈ news, (hideAll s'.heap (e :: (envOf name scope L a cd :: outer).filterMap (·.frame))).get? q.1 = some q.2 ∧ g.get? q.1 = none ∧ base.get? q.1 = none := fun q hq => by
    have Nq := N q (.tail _ hq)
    refine ⟨hideAll_get _ Nq.1 fun hm => ?_, Nq.2.2, fresh_of_stays K.stays Nq.2.2⟩
    rcases List.mem_cons.mp hm with z | hm
    · exact ne q hq z
    · rcases kts_mem hm with z | z
      · exact Nq.2.1 z
      · obtain ⟨o, ho, _⟩ := (K.frames.mem z).2
        rw [Nq.2.2] at ho; cases ho
  refine leaveD (base := hideAll s'.heap (e :: (envOf name scope L a cd :: outer).filterMap (·.frame))) K'.stack (funFrames_hide K'.frames hin) rfl he.1 (fun b o q => of_hideAll _ q) (hideAll_none _ (.head _)) fun h' H U => ?_
  exact hQ h' ⟨_, st, sg, hl, he.2.2, H⟩ ((Heap.UpToSlots.of_keeps F.keep).trans U)
end
section
variable {prog : Program} {w : World} {A₀ : Around} {E : Value → Shared → Prop} {s' : Shared} {base g g₀ G : Heap} {outer : List Env} {L a e C d : Addr} {m : Str → Option Value} {name : Str} {scope : Scope} {cd : Value}
  {n : Str} {b₀ : Stmt} {suite : List Stmt} {pos np : Pos} {rest : List ExceptHandler} {Q : Flow → Shared → Prop} {news : List (Addr × Obj)} {KF : Frag}
  {p : Program} {loose : List Str} {mean : ExcName → Option Value} {mg mb : Str → Option Value} {x : Str}
theorem caughtD (R : RaisedD base G (envOf name scope L a cd :: outer) e C d news s'.heap) (F : Fr g L G m) (K : Below A₀ base outer g) (hsm : G.UpToSlots s'.heap) (XB : KF.In base) (TB : Top p loose mean mg mb base)
    (D : KtsDicts (outer.filterMap (·.frame)) g) (T0 : KtsTurn (outer.filterMap (·.frame)) g₀ g)
    (ex : nsIn KF mainGlobals x = some (some (.ref C))) (q : ktsIn KF C "BaseException" = true)
    (k : ∀ h' g' vs tk, KtsTurn (outer.filterMap (·.frame)) g₀ g' → Fr g' L h' (fun y => if y = n then some (.ref e) else m y) → News g' L h' ((e, hotObj C d vs) :: news) → Below A₀ base outer g' → KF.In g' → Top p loose mean mg mb g' → KtsDicts (outer.filterMap (·.frame)) g' →
      wpAny (model prog w) ((A₀.deeper (envOf name scope L a cd)).mark (some (.ref e))) (execs (b₀ :: suite) (envOf name scope L a cd))
        (fun f s₄ => wpAny (model prog w) (A₀.deeper (envOf name scope L a cd)) (do bindName (envOf name scope L a cd) n .none; unbindBehindTheSuite (envOf name scope L a cd) n pos) (fun _ s₅ => Q f s₅) E s₄)
        (AsSuiteRaised (model prog w) ((A₀.deeper (envOf name scope L a cd)).mark (some (.ref e))) (envOf name scope L a cd) n pos (notedBy (model prog w) ((A₀.deeper (envOf name scope L a cd)).mark (some (.ref e))) (envOf name scope L a cd) (cameBackBy (model prog w) (A₀.deeper (envOf name scope L a cd)) (envOf name scope L a cd) E)))
        { s' with heap := h', toks := tk })
    (hk : scope.kind = .function := by rfl) (hlo : (envOf name scope L a cd).kindOf n = some .local := by rfl) (hx : (envOf name scope L a cd).kindOf x = some .globalImplicit := by rfl) (hd : (x == ("__debug__" : Str)) = false := by decide) :
    wpAny (model prog w) (A₀.deeper (envOf name scope L a cd)) (noteFrame (.ref e) (envOf name scope L a cd))
      (fun _ s₂ => wpAny (model prog w) (A₀.deeper (envOf name scope L a cd)) (setFlight (.ref e) none) (fun _ s₃ =>
        wpAny (model prog w) (A₀.deeper (envOf name scope L a cd)) (handleBy (.ref e) (envOf name scope L a cd) (.ExceptHandler (some (.Name x np)) (some n) (b₀ :: suite) pos :: rest)) Q E s₃) E s₂) E s' := by
  obtain ⟨B, hB, hBG, hl, hGe, hfl⟩ := R
  have hL : B.get? L = none := by
    obtain ⟨_, ⟨L', _, hf, hn', _⟩, _⟩ := hfl.2.2.1
    obtain rfl : L = L' := Option.some.inj hf
    exact hn'
  refine lookD (Around.frames_deeper K.stack) rfl hfl fun h₄ H₄ U₄ => ?_
  refine landD H₄ fun h₅ H₅ U₅ => ?_
  have U₅' := hsm.trans (U₄.trans U₅)
  obtain ⟨g₅, T₅, F₅, K₅⟩ := kts_ground K F hBG H₅.1 U₅'
  have X₅ : KF.In g₅ := XB.keeps K₅.stays
  have P₅ : TopRead p loose mg mb g₅ := topRead_of (TB.keeps K₅.stays)
  obtain ⟨vs₅, _, _, _, hob, _⟩ := H₅.2.2.2
  obtain ⟨nm, q', N, bs, bm, hdct, sn, sub, ab, col, dd, k0, k1, k2, k3, k5, newId, hC, hbase, hbT⟩ := kts_cls X₅ q
  have hC₅ := F₅.keep _ _ hC
  refine wpAny_handleBy_cons (codeAny_handlers_test (name_K F₅ X₅ P₅ ex ?_ hk hx hd)) (by intro q; cases q)
  refine wpAny_excMatches_sub_self hC₅ hob rfl hbase (codeAny_handlers_suite_as ?_)
  refine landD H₅ fun h₆ H₆ U₆ => ?_
  obtain ⟨g₆, T₆, F₆, K₆⟩ := kts_ground K F hBG H₆.1 (U₅'.trans U₆)
  obtain ⟨vs₆, _, _, _, he₆, _⟩ := H₆.2.2.2
  have ne₆ : g₆.get? e = none := T₆.none_ _ (kts_none F.keep hGe)
  have N₆ := News.more F₆ News.nil he₆ (fun es n q => by cases q) ne₆
  have Nl : News g₆ L h₆ news := fun q hq => ⟨H₆.1 _ _ (hl q hq).1, (fun z => by have := (hl q hq).1; rw [z, hL] at this; cases this), T₆.none_ _ (kts_none F.keep (hl q hq).2.1)⟩
  have X₆ : KF.In g₆ := XB.keeps K₆.stays
  have P₆ : Top p loose mean mg mb g₆ := TB.keeps K₆.stays
  have D₆ : KtsDicts (outer.filterMap (·.frame)) g₆ := D.turn T₆
  refine stN F₆ (news := (e, hotObj C d vs₆) :: news) (fun q hq => ?_) (fun h₇ F₇ N₇ => ?_) hk hlo
  · rcases List.mem_cons.mp hq with rfl | hq
    · exact N₆ _ (.head _)
    · exact Nl q hq
  · exact k h₇ g₆ _ _ (T0.trans T₆) F₇ N₇ K₆ X₆ P₆ D₆
end
end
end
section
open PySem PySem.W PyProof.Rows PySem.Calls PySem.Spec
local macro_rules | `(tactic| k_room) => `(tactic| ktr_room)
local macro_rules | `(tactic| k_units) => `(tactic| ktr_units)
local macro_rules | `(tactic| k_all) => `(tactic| assumption)
local macro_rules | `(tactic| walk_at "execs cons") => `(tactic| (with_reducible refine gen_toks ?_; intro tk))
local macro_rules | `(tactic| walk_at "execs nil") => `(tactic| (with_reducible refine gen_toks ?_; intro tk))
theorem fillW1 : (PySem.Challenge.rw_on0057_01, KQ) = (PySem.Challenge.rw_on0057_01, KQ) := by
  k_fill
  rfl

theorem top_bit {y : Int} (h0 : 0 ≤ y) (h1 : y < 4294967296) : Builtin.bitAnd y 2147483648 = if y > 2147483647 then 2147483648 else 0 := by
  obtain ⟨n, rfl⟩ := Int.eq_ofNat_of_zero_le h0
  unfold Builtin.bitAnd
  rw [decide_eq_true h0, decide_eq_true (by decide : (0 : Int) ≤ 2147483648)]
  have e : ((2147483648 : Int).toNat) = 2 ^ 31 := by decide
  show ((((n : Int).toNat &&& (2147483648 : Int).toNat : Nat)) : Int) = _
  rw [e, Int.toNat_natCast]
  have hb : n.testBit 31 = decide (n / 2 ^ 31 % 2 = 1) := Nat.testBit_eq_decide_div_mod_eq
  split
  · have q : n &&& 2 ^ 31 = 2 ^ 31 := by
      apply Nat.eq_of_testBit_eq
      intro i
      rw [Nat.testBit_and, Nat.testBit_two_pow]
      by_cases hi : 31 = i
      · subst hi; rw [hb, decide_eq_true (by omega)]; rfl
      · rw [decide_eq_false hi, Bool.and_false]
    rw [q]; rfl
  · have q : n &&& 2 ^ 31 = 0 := by
      apply Nat.eq_of_testBit_eq
      intro i
      rw [Nat.testBit_and, Nat.testBit_two_pow, Nat.zero_testBit]
      by_cases hi : 31 = i
      · subst hi; rw [hb, decide_eq_false (by omega)]; rfl
      · rw [decide_eq_false hi, Bool.and_false]
    rw [q]; rfl
theorem led_a {n : Int} {u : Bool} (h : u = true) : Builtin.bitAnd n 4294967295 = led32 n u := by
  rw [PyProof.Rows.bitAnd_m32]; unfold led32; rw [if_neg (by simp [h])]
theorem led_b {n : Int} {u : Bool} (h : u = false) (h2 : Builtin.bitAnd (Builtin.bitAnd n 4294967295) 2147483648 ≠ 0) : Builtin.bitAnd n 4294967295 - (4294967295 + 1) = led32 n u := by
  rw [PyProof.Rows.bitAnd_m32] at h2 ⊢
  rw [top_bit (Int.emod_nonneg _ (by decide)) (Int.emod_lt_of_pos _ (by decide))] at h2
  unfold led32
  split at h2
  · rw [if_pos ⟨by assumption, h⟩]; rfl
  · exact absurd rfl h2
theorem led_c {n : Int} {u : Bool} (h2 : Builtin.bitAnd (Builtin.bitAnd n 4294967295) 2147483648 = 0) : Builtin.bitAnd n 4294967295 = led32 n u := by
  rw [PyProof.Rows.bitAnd_m32] at h2 ⊢
  rw [top_bit (Int.emod_nonneg _ (by decide)) (Int.emod_lt_of_pos _ (by decide))] at h2
  unfold led32
  split at h2
  · exact absurd h2 (by decide)
  · rw [if_neg (by intro q; omega)]
section
variable {w : World} {mean : ExcName → Option Value} {mg mb : Str → Option Value} {dp un : Nat} {gd : Option (List Code)} {cn : Str} {cs : Scope} {a : Addr} {ccd : Value} {cl : List (Str × Addr)} {outer : List Env} {A₀ : Around} {base h₀ : Heap} {L : Addr} {m : Str → Option Value} {news : List (Addr × Obj)} {s : Shared} {Q E : Value → Shared → Prop}
abbrev VRet (w : World) (h₀ : Heap) (L : Addr) (m : Str → Option Value) (news : List (Addr × Obj)) (s : Shared) (Q : Value → Shared → Prop) (n : Int) (u b : Bool) : Prop :=
  ∀ (x dx : Addr) (k1 k2 k3 t : Tok) (y : Int) (u' b' : Bool) (h' : Heap) (tk' : Nat), y = n → u' = u → b' = b → Fr h₀ L h' m → News h₀ L h' ((x, instObj 165 dx) :: (dx, vdict w y u' b' k1 k2 k3 t) :: news) → AllLt dx news → dx < x → Q (.ref x) { s with heap := h', toks := tk' }
abbrev IRet (h₀ : Heap) (L : Addr) (m : Str → Option Value) (news : List (Addr × Obj)) (s : Shared) (Q : Value → Shared → Prop) (n : Int) : Prop :=
  ∀ (t : Tok) (y : Int) (h' : Heap) (tk' : Nat), y = n → Fr h₀ L h' m → News h₀ L h' news → Q (.int y t) { s with heap := h', toks := tk' }
abbrev BRet (h₀ : Heap) (L : Addr) (m : Str → Option Value) (news : List (Addr × Obj)) (s : Shared) (Q : Value → Shared → Prop) (n : Bool) : Prop :=
  ∀ (y : Bool) (h' : Heap) (tk' : Nat), y = n → Fr h₀ L h' m → News h₀ L h' news → Q (.bool y) { s with heap := h', toks := tk' }
theorem mkval (n : Int) (t1 : Tok) (u b : Bool) (B : Below A₀ base outer h₀) (F : Fr h₀ L s.heap m) (X : (KQ w.params).In h₀) (N : News h₀ L s.heap news) (T : Top viewQ looseQ mean mg mb h₀) (hk : cs.kind = .function) 
    (hd : dp + 2 < recursionLimit) (hu : un + 16 < cLine)
    (ret : VRet w h₀ L m news s Q (led32 n u) u b) :
    wpAny (MQ w) (ktrTop dp un gd cn cs L a ccd cl outer) (call (.ref 165) [.int n t1, .bool u, .bool b]) Q E s := by
  (k_dflt (refine' call_cls ?k1 ?k2 ?k3 ?k4 ?k5 ?k6 ?_; (case k1 => k_asm); (case k2 => k_asm); (case k3 => k_asm); (case k4 => k_is); (case k5 => k_is); (case k6 => k_is); k_whole; intro x' d' h' F' N' l1 l2; (try k_lt l1); (try k_lt2 l2); (try k_sweep)))
  (k_dflt (refine' code_def (binds := [(Str.ofString "self", .ref x'), (Str.ofString "number", .int n t1), (Str.ofString "is_unsigned", .bool u), (Str.ofString "is_bad", .bool b)]) ?k1 ?k2 ?k3 ?k4 ?k5 ?kA ?kF ?kK ?k6 ?k7 ?k8 ?k9 ?kB ?_ ?c2 ?c3 ?c4 ?c5; (case kA | kF => exact rfl); (case kK => first | exact rfl | assumption); (case k1 | k2 | k3 | k4 | k5 => k_asm); (case k6 | k7 => k_is); (case k8 => ktr_room); (case k9 => exact BindsTo.of_eq rfl); (case c5 => decide); (case kB => exact locs rfl); (case c2 | c3 | c4 => exact rfl); k_whole; intro g' L' h' FG' F' N' B' X' T'; (try dsimp only); (try k_lift B'); (try k_fold)))
  k_steps
  all_goals first
    | exact ret _ _ _ _ _ _ _ _ _ _ _ (led_a (by assumption)) rfl rfl (by assumption) (by assumption) (by first | assumption | exact allLt_of (by assumption)) (by assumption)
    | exact ret _ _ _ _ _ _ _ _ _ _ _ (led_b (by assumption) (by assumption)) rfl rfl (by assumption) (by assumption) (by first | assumption | exact allLt_of (by assumption)) (by assumption)
    | exact ret _ _ _ _ _ _ _ _ _ _ _ (led_c (by assumption)) rfl rfl (by assumption) (by assumption) (by first | assumption | exact allLt_of (by assumption)) (by assumption)
local macro_rules | `(tactic| walk_at "call ref") => `(tactic| ((with_reducible show wpAny _ _ (call (Value.ref 165) [Value.int _ _, Value.bool _, Value.bool _]) _ _ _); k_dflt (refine' mkval _ _ _ _ ?k1 ?k2 ?k3 ?k4 ?k5 ?kK  ?kd ?ku ?_; (case k1 | k2 | k3 | k4 | k5 => k_asm); (case kK => first | exact rfl | assumption);  (case kd => ktr_room); (case ku => ktr_units); k_whole; intro x' dx' ka' kb' kc' kt' y' u' b' h' tk' hy' hu' hb' F' N' l1 l2); (subst hy'); (subst hu'); (subst hb'); (try simp only [AllLt, and_true] at l1); (try dsimp only); (try k_fold)))
theorem truthC (p b : Bool) (B : Below A₀ base outer h₀) (F : Fr h₀ L s.heap m) (X : (KQ w.params).In h₀) (N : News h₀ L s.heap news) (T : Top viewQ looseQ mean mg mb h₀) (hk : cs.kind = .function) 
    (hd : dp + 6 < recursionLimit) (hu : un + 40 < cLine)
    (ret : VRet w h₀ L m news s Q (if p then 1 else 0) false b) :
    wpAny (MQ w) (ktrTop dp un gd cn cs L a ccd cl outer) (call (.ref 176) [.bool p, .bool b]) Q E s := by
  refine wpAny_call ?_
  (k_dflt (refine' code_def (binds := [(Str.ofString "is_so", .bool p), (Str.ofString "is_bad", .bool b)]) ?k1 ?k2 ?k3 ?k4 ?k5 ?kA ?kF ?kK ?k6 ?k7 ?k8 ?k9 ?kB ?_ ?c2 ?c3 ?c4 ?c5; (case kA | kF => exact rfl); (case kK => first | exact rfl | assumption); (case k1 | k2 | k3 | k4 | k5 => k_asm); (case k6 | k7 => k_is); (case k8 => ktr_room); (case k9 => exact BindsTo.of_eq rfl); (case c5 => decide); (case kB => exact locs rfl); (case c2 | c3 | c4 => exact rfl); k_whole; intro g' L' h' FG' F' N' B' X' T'; (try dsimp only); (try k_lift B'); (try k_fold)))
  k_steps
  all_goals (refine ret _ _ _ _ _ _ _ _ _ _ _ ?_ (by first | rfl | assumption) (by first | rfl | assumption) (by assumption) (by assumption) (by assumption) (by assumption); simp_all; try decide)
theorem log_small {n : Nat} (h : n < 2 ^ 34) : n.log2 < 9000 := by
  by_cases z : n = 0
  · subst z; decide
  · exact Nat.lt_trans ((Nat.log2_lt z).mpr h) (by decide)
def In33 (n : Int) : Prop := -4294967296 ≤ n ∧ n ≤ 4294967296
theorem quot_is {n k : Int} (hz : k ≠ 0) : (Int.fdiv (if n < 0 then -n else n) (if k < 0 then -k else k)) = if (n < 0 ↔ k < 0) then Int.tdiv n k else -(Int.tdiv n k) := by
  have h1 : (if n < 0 then -n else n) = (n.natAbs : Int) := by split <;> omega
  have h2 : (if k < 0 then -k else k) = (k.natAbs : Int) := by split <;> omega
  rw [h1, h2, Int.fdiv_eq_ediv_of_nonneg _ (Int.natCast_nonneg _)]
  rcases Int.natAbs_eq n with e1 | e1 <;> rcases Int.natAbs_eq k with e2 | e2 <;> rw [e1, e2] <;> simp only [Int.natAbs_neg, Int.natAbs_natCast, Int.neg_tdiv, Int.tdiv_neg, Int.neg_neg]
  all_goals (rw [Int.tdiv_eq_ediv_of_nonneg (Int.natCast_nonneg _)])
  all_goals (have hp : (0 : Int) ≤ (n.natAbs : Int) / (k.natAbs : Int) := Int.ediv_nonneg (Int.natCast_nonneg _) (Int.natCast_nonneg _))
  all_goals split <;> first | rfl | (rw [Int.neg_neg]; done) | skip
  all_goals (have : n.natAbs = 0 := by omega)
  all_goals (rw [this]; simp)
local macro_rules | `(tactic| walk_at "binaryOp FloorDiv int int") => `(tactic| ((with_reducible refine floordiv_int ?k1 ?_ (Or.inl (PyProof.noPylong_of_log2 ?k2))); (case k1 => assumption); (case k2 => assumption)))
theorem quotC (n k : Int) (t1 t2 : Tok) (B : Below A₀ base outer h₀) (F : Fr h₀ L s.heap m) (X : (KQ w.params).In h₀) (N : News h₀ L s.heap news) (T : Top viewQ looseQ mean mg mb h₀) (hk : cs.kind = .function) (hz : k ≠ 0) (hb : In33 k)
    (hd : dp + 6 < recursionLimit) (hu : un + 40 < cLine)
    (ret : IRet h₀ L m news s Q (Int.tdiv n k)) :
    wpAny (MQ w) (ktrTop dp un gd cn cs L a ccd cl outer) (call (.ref 183) [.int n t1, .int k t2]) Q E s := by
  refine wpAny_call ?_
  (k_dflt (refine' code_def (binds := [(Str.ofString "one", .int n t1), (Str.ofString "two", .int k t2)]) ?k1 ?k2 ?k3 ?k4 ?k5 ?kA ?kF ?kK ?k6 ?k7 ?k8 ?k9 ?kB ?_ ?c2 ?c3 ?c4 ?c5; (case kA | kF => exact rfl); (case kK => first | exact rfl | assumption); (case k1 | k2 | k3 | k4 | k5 => k_asm); (case k6 | k7 => k_is); (case k8 => ktr_room); (case k9 => exact BindsTo.of_eq rfl); (case c5 => decide); (case kB => exact locs rfl); (case c2 | c3 | c4 => exact rfl); k_whole; intro g' L' h' FG' F' N' B' X' T'; (try dsimp only); (try k_lift B'); (try k_fold)))
  have hz' : (if k < 0 then -k else k) ≠ 0 := by split <;> omega
  have hl' : (if k < 0 then -k else k).natAbs.log2 < 9000 := log_small (by unfold In33 at hb; split <;> omega)
  k_steps
  all_goals (refine ret _ _ _ _ ?_ (by assumption) (by assumption); rw [quot_is hz]; simp_all; done)
end
end
section
open PySem PySem.W PyProof.Rows PySem.Calls PySem.Spec
local macro_rules | `(tactic| k_room) => `(tactic| ktr_room)
local macro_rules | `(tactic| k_units) => `(tactic| ktr_units)
local macro_rules | `(tactic| k_all) => `(tactic| assumption)
local macro_rules | `(tactic| walk_at "execs cons") => `(tactic| (with_reducible refine gen_toks ?_; intro tk))
local macro_rules | `(tactic| walk_at "execs nil") => `(tactic| (with_reducible refine gen_toks ?_; intro tk))
section
open PySem PySem.W PyProof.Rows PySem.Calls PySem.Spec
inductive Bop where
  | and
  | or
  | div
  | mod
  | add
  | sub
  | mul
  | lt
  | le
  | gt
  | ge
  | eq
  | ne
  | band
  | bor
  | bxor
  | shl
  | shr

def Bop.txt : Bop → Str
  | .and => "&&"
  | .or => "||"
  | .div => "/"
  | .mod => "%"
  | .add => "+"
  | .sub => "-"
  | .mul => "*"
  | .lt => "<"
  | .le => "<="
  | .gt => ">"
  | .ge => ">="
  | .eq => "=="
  | .ne => "!="
  | .band => "&"
  | .bor => "|"
  | .bxor => "^"
  | .shl => "<<"
  | .shr => ">>"

def Bop.lev : Bop → Int
  | .and => 2
  | .or => 1
  | .div => 10
  | .mod => 10
  | .add => 9
  | .sub => 9
  | .mul => 10
  | .lt => 7
  | .le => 7
  | .gt => 7
  | .ge => 7
  | .eq => 6
  | .ne => 6
  | .band => 5
  | .bor => 3
  | .bxor => 4
  | .shl => 8
  | .shr => 8

def Bop.ltk (P : Params) (o : Bop) : Tok := match nsIn (KQ P) 146 o.txt with
  | some (some (.int _ t)) => t
  | _ => 0
theorem lev_at (P : Params) (o : Bop) : nsIn (KQ P) 146 o.txt = some (some (.int o.lev (o.ltk P))) := by
  cases o <;> kernel_rfl
structure V where
  n : Int
  u : Bool
  b : Bool
def V.mk' (n : Int) (u b : Bool) : V := ⟨led32 n u, u, b⟩
def cmpS (wd : Str) (x y : Int) : Bool :=
  if wd == "==" then x == y else if wd == "!=" then x != y else if wd == "<" then decide (x < y) else if wd == "<=" then decide (x ≤ y) else if wd == ">" then decide (y < x) else decide (y ≤ x)
def twoB (o : Bop) (x y : V) : V :=
  if o.txt == "&&" then ⟨if x.n != 0 && y.n != 0 then 1 else 0, false, x.b || (x.n != 0 && y.b)⟩
  else if o.txt == "||" then ⟨if x.n != 0 || y.n != 0 then 1 else 0, false, x.b || (x.n == 0 && y.b)⟩
  else if o.txt == "<<" then V.mk' (x.n * 2 ^ (Builtin.bitAnd y.n 31).toNat) x.u (x.b || y.b)
  else if o.txt == ">>" then V.mk' (x.n.fdiv (2 ^ (Builtin.bitAnd y.n 31).toNat)) x.u (x.b || y.b)
  else if ([6, 7].any fun x => x == o.lev) then ⟨if cmpS o.txt (led32 x.n (x.u || y.u)) (led32 y.n (x.u || y.u)) then 1 else 0, false, x.b || y.b⟩
  else if o.txt == "*" then V.mk' (led32 x.n (x.u || y.u) * led32 y.n (x.u || y.u)) (x.u || y.u) (x.b || y.b)
  else if o.txt == "+" then V.mk' (led32 x.n (x.u || y.u) + led32 y.n (x.u || y.u)) (x.u || y.u) (x.b || y.b)
  else if o.txt == "-" then V.mk' (led32 x.n (x.u || y.u) - led32 y.n (x.u || y.u)) (x.u || y.u) (x.b || y.b)
  else if o.txt == "&" then V.mk' (Builtin.bitAnd (led32 x.n (x.u || y.u)) (led32 y.n (x.u || y.u))) (x.u || y.u) (x.b || y.b)
  else if o.txt == "^" then V.mk' (Builtin.bitXor (led32 x.n (x.u || y.u)) (led32 y.n (x.u || y.u))) (x.u || y.u) (x.b || y.b)
  else if o.txt == "|" then V.mk' (Builtin.bitOr (led32 x.n (x.u || y.u)) (led32 y.n (x.u || y.u))) (x.u || y.u) (x.b || y.b)
  else if led32 y.n (x.u || y.u) == 0 then V.mk' 0 (x.u || y.u) true
  else if o.txt == "/" then V.mk' (Int.tdiv (led32 x.n (x.u || y.u)) (led32 y.n (x.u || y.u))) (x.u || y.u) (x.b || y.b)
  else V.mk' (led32 x.n (x.u || y.u) - Int.tdiv (led32 x.n (x.u || y.u)) (led32 y.n (x.u || y.u)) * led32 y.n (x.u || y.u)) (x.u || y.u) (x.b || y.b)
def ValAt (w : World) (news : List (Addr × Obj)) (v : Value) (x : V) : Prop :=
  ∃ (a da : Addr) (k1 k2 k3 t : Tok), v = .ref a ∧ (a, instObj 165 da) ∈ news ∧ (da, vdict w x.n x.u x.b k1 k2 k3 t) ∈ news
theorem News.dup {h₀ h : Heap} {L : Addr} {news : List (Addr × Obj)} {p : Addr × Obj} (N : News h₀ L h news) (hp : p ∈ news) : News h₀ L h (p :: news) := fun q hq => by
  rcases List.mem_cons.mp hq with rfl | hq
  · exact N _ hp
  · exact N q hq
theorem led_in (n : Int) (u : Bool) : In33 (led32 n u) := by unfold led32 In33; split <;> omega
theorem and31 (n : Int) : 0 ≤ Builtin.bitAnd n 31 ∧ Builtin.bitAnd n 31 ≤ 31 := PyProof.Rows.bitAnd_range n (by decide)
theorem or_join {M : Model} {A : Around} {E : Value → Shared → Prop} {s : Shared} {env : Env} {e1 e2 : PySem.Expr} {pos : Pos} {p q : Bool} {Q : Value → Shared → Prop}
    (h : wpAny M A (eval e1 env) (fun v s₁ => v = .bool p ∧ (wpAny M A (eval e2 env) (fun v₂ s₂ => v₂ = .bool q ∧ ∃ tk, s₂ = { s₁ with toks := tk }) E s₁ ∧ ∀ tk, Q (.bool (p || q)) { s₁ with toks := tk })) E s) :
    wpAny M A (eval (.BoolOp .Or [e1, e2] pos) env) Q E s := by
  refine BoolOp_or (wpAny_mono h (fun v s₁ h₁ => ?_) fun _ _ x => x)
  obtain ⟨rfl, h2, h3⟩ := h₁
  refine wpAny_truthy_bool ?_
  cases p with
  | true => exact h3 s₁.toks
  | false =>
    refine BoolOp_one (wpAny_mono h2 (fun v s2 e => ?_) fun _ _ x => x)
    obtain ⟨rfl, tk, rfl⟩ := e
    simpa using h3 tk
theorem mul_ok (a b : Int) (u v : Bool) : IntMulOk (led32 a u) (led32 b v) := by
  refine IntMulOk.of_left ?_
  have h := led_in a u
  unfold In33 at h
  exact intBits_le_64 (by omega) (by omega)
theorem tdiv_ok (a b c : Int) (u v v' : Bool) : IntMulOk (Int.tdiv (led32 a u) (led32 b v)) (led32 c v') := by
  refine IntMulOk.of_right ?_
  have h := led_in c v'
  unfold In33 at h
  exact intBits_le_64 (by omega) (by omega)
structure JoinOr (p q p2 q2 : Bool) : Prop where
theorem or_bad {M : Model} {A : Around} {E : Value → Shared → Prop} {s : Shared} {env : Env} {e1 e2 : PySem.Expr} {pos : Pos} {p q p2 q2 : Bool} {Q : Value → Shared → Prop} (_ : JoinOr p q p2 q2)
    (h : wpAny M A (eval e1 env) (fun v s₁ => v = .bool p ∧ (wpAny M A (eval e2 env) (fun v₂ s₂ => v₂ = .bool q ∧ ∃ tk, s₂ = { s₁ with toks := tk }) E s₁ ∧ ∀ tk, Q (.bool (p || q)) { s₁ with toks := tk })) E s) :
    wpAny M A (eval (.BoolOp .Or [e1, e2] pos) env) Q E s := or_join h
theorem or_uns {M : Model} {A : Around} {E : Value → Shared → Prop} {s : Shared} {env : Env} {e1 e2 : PySem.Expr} {pos : Pos} {p q p2 q2 : Bool} {Q : Value → Shared → Prop} (_ : JoinOr p q p2 q2)
    (h : wpAny M A (eval e1 env) (fun v s₁ => v = .bool p2 ∧ (wpAny M A (eval e2 env) (fun v₂ s₂ => v₂ = .bool q2 ∧ ∃ tk, s₂ = { s₁ with toks := tk }) E s₁ ∧ ∀ tk, Q (.bool (p2 || q2)) { s₁ with toks := tk })) E s) :
    wpAny M A (eval (.BoolOp .Or [e1, e2] pos) env) Q E s := or_join h
local macro_rules | `(tactic| walk_at "eval BoolOp") => `(tactic| first
  | ((with_reducible show wpAny _ _ (eval (Expr.BoolOp BoolOp.Or [Expr.Attribute (Expr.Name _ _) (Str.ofString "is_bad") _, Expr.Attribute (Expr.Name _ _) (Str.ofString "is_bad") _] _) _) _ _ _); refine or_bad (by assumption) ?_)
  | ((with_reducible show wpAny _ _ (eval (Expr.BoolOp BoolOp.Or [Expr.Attribute (Expr.Name _ _) (Str.ofString "is_unsigned") _, Expr.Attribute (Expr.Name _ _) (Str.ofString "is_unsigned") _] _) _) _ _ _); refine or_uns (by assumption) ?_))
local macro_rules | `(tactic| walk_at "And") => `(tactic| first | k_dflt (exact ⟨rfl, ⟨_, rfl⟩⟩) | (refine ⟨rfl, ?_, fun tk => ?_⟩ <;> (try dsimp only)))
local macro_rules | `(tactic| walk_at "binaryOp Mult int int") => `(tactic| (first | (with_reducible refine mul_int ?_ (mul_ok _ _ _ _)) | (with_reducible refine mul_int ?_ (tdiv_ok _ _ _ _ _ _))))
local macro_rules | `(tactic| walk_at "subscriptTail") => `(tactic| ((with_reducible show wpAny _ _ (subscriptTail _ _ (Value.ref 146) (Value.str (Bop.txt _) _)) _ _ _); k_dflt (refine' topItem_K ?F ?X ?l ?k (lev_at _ _) ?_; (case F => k_asm); (case X => k_asm); (case l => k_is); (case k => k_keys))))
local macro_rules | `(tactic| walk_at "call ref") => `(tactic| ((with_reducible show wpAny _ _ (call (Value.ref 165) [Value.int _ _, Value.bool _, Value.bool _]) _ _ _); k_dflt (refine' mkval _ _ _ _ ?k1 ?k2 ?k3 ?k4 ?k5 ?kK  ?kd ?ku ?_; (case k1 | k2 | k3 | k4 | k5 => k_asm); (case kK => first | exact rfl | assumption);  (case kd => ktr_room); (case ku => ktr_units); k_whole; intro x' dx' ka' kb' kc' kt' y' u' b' h' tk' hy' hu' hb' F' N' l1 l2); (subst hy'); (subst hu'); (subst hb'); (have l1b := l1); (try simp only [AllLt, and_true] at l1); (try dsimp only); (try k_fold)))
local macro_rules | `(tactic| walk_at "call ref") => `(tactic| ((with_reducible show wpAny _ _ (call (Value.ref 176) [Value.bool _, Value.bool _]) _ _ _); k_dflt (refine' truthC _ _ ?k1 ?k2 ?k3 ?k4 ?k5 ?kK  ?kd ?ku ?_; (case k1 | k2 | k3 | k4 | k5 => k_asm); (case kK => first | exact rfl | assumption);  (case kd => ktr_room); (case ku => ktr_units); k_whole; intro x' dx' ka' kb' kc' kt' y' u' b' h' tk' hy' hu' hb' F' N' l1 l2); (subst hy'); (subst hu'); (subst hb'); (have l1b := l1); (try simp only [AllLt, and_true] at l1); (try dsimp only); (try k_fold)))
local macro_rules | `(tactic| walk_at "call ref") => `(tactic| ((with_reducible show wpAny _ _ (call (Value.ref 183) [Value.int _ _, Value.int _ _]) _ _ _); k_dflt (refine' quotC _ _ _ _ ?k1 ?k2 ?k3 ?k4 ?k5 ?kK ?kz ?kb ?kd ?ku ?_; (case k1 | k2 | k3 | k4 | k5 => k_asm); (case kK => first | exact rfl | assumption); (case kz => assumption); (case kb => exact led_in _ _); (case kd => ktr_room); (case ku => ktr_units); k_whole; intro t' y' h' tk' hy' F' N'); (subst hy'); (try dsimp only); (try k_fold)))
section
variable {w : World} {mean : ExcName → Option Value} {mg mb : Str → Option Value} {dp un : Nat} {gd : Option (List Code)} {cn : Str} {cs : Scope} {a : Addr} {ccd : Value} {cl : List (Str × Addr)} {outer : List Env} {A₀ : Around} {base h₀ : Heap} {L : Addr} {m : Str → Option Value} {news : List (Addr × Obj)} {s : Shared} {Q E : Value → Shared → Prop}
theorem cmpC (wd : Str) (n k : Int) (t0 t1 t2 : Tok) (B : Below A₀ base outer h₀) (F : Fr h₀ L s.heap m) (X : (KQ w.params).In h₀) (N : News h₀ L s.heap news) (T : Top viewQ looseQ mean mg mb h₀) (hk : cs.kind = .function) 
    (hd : dp + 6 < recursionLimit) (hu : un + 40 < cLine)
    (ret : BRet h₀ L m news s Q (cmpS wd n k)) :
    wpAny (MQ w) (ktrTop dp un gd cn cs L a ccd cl outer) (call (.ref 197) [.str wd t0, .int n t1, .int k t2]) Q E s := by
  refine wpAny_call ?_
  (k_dflt (refine' code_def (binds := [(Str.ofString "word", .str wd t0), (Str.ofString "one", .int n t1), (Str.ofString "two", .int k t2)]) ?k1 ?k2 ?k3 ?k4 ?k5 ?kA ?kF ?kK ?k6 ?k7 ?k8 ?k9 ?kB ?_ ?c2 ?c3 ?c4 ?c5; (case kA | kF => exact rfl); (case kK => first | exact rfl | assumption); (case k1 | k2 | k3 | k4 | k5 => k_asm); (case k6 | k7 => k_is); (case k8 => ktr_room); (case k9 => exact BindsTo.of_eq rfl); (case c5 => decide); (case kB => exact locs rfl); (case c2 | c3 | c4 => exact rfl); k_whole; intro g' L' h' FG' F' N' B' X' T'; (try dsimp only); (try k_lift B'); (try k_fold)))
  k_steps
  all_goals (refine ret _ _ _ ?_ (by assumption) (by assumption); simp only [cmpS, if_true, if_false, Bool.false_eq_true, *]; done)
local macro_rules | `(tactic| walk_at "call ref") => `(tactic| ((with_reducible show wpAny _ _ (call (Value.ref 197) [Value.str _ _, Value.int _ _, Value.int _ _]) _ _ _); k_dflt (refine' cmpC _ _ _ _ _ _ ?k1 ?k2 ?k3 ?k4 ?k5 ?kK  ?kd ?ku ?_; (case k1 | k2 | k3 | k4 | k5 => k_asm); (case kK => first | exact rfl | assumption);  (case kd => ktr_room); (case ku => ktr_units); k_whole; intro y' h' tk' hy' F' N'); (subst hy'); (try dsimp only); (try k_fold)))
local macro_rules | `(tactic| walk_at "binaryOp LShift int int") => `(tactic| ((with_reducible refine lshift_int_small ?k1 ?k2 ?k3 ?_); (case k1 => exact (and31 _).1); (case k2 => exact Int.le_trans (and31 _).2 (by decide)); (case k3 => assumption)))
local macro_rules | `(tactic| walk_at "binaryOp RShift int int") => `(tactic| ((with_reducible refine rshift_int ?k1 ?_); (case k1 => exact (and31 _).1)))
theorem vdrop {h₀ h : Heap} {L : Addr} {p q : Addr × Obj} {rest news : List (Addr × Obj)} (N : News h₀ L h (p :: q :: rest)) (hs : ∀ r ∈ news, r ∈ rest) : News h₀ L h (p :: q :: news) :=
  cb_drop N fun r hr => by
    rcases List.mem_cons.mp hr with rfl | hr
    · exact .head _
    · rcases List.mem_cons.mp hr with rfl | hr
      · exact .tail _ (.head _)
      · exact .tail _ (.tail _ (hs r hr))
theorem altsub {d : Addr} {rest news : List (Addr × Obj)} (h : AllLt d rest) (hs : ∀ r ∈ news, r ∈ rest) : AllLt d news := allLt_of fun p hp => ktn_ltOf h p (hs p hp)
end
end
section
open PySem PySem.W PyProof.Rows PySem.Calls PySem.Spec
section

local macro_rules | `(tactic| walk_at "eval BoolOp") => `(tactic| first
  | ((with_reducible show wpAny _ _ (eval (Expr.BoolOp BoolOp.Or [Expr.Attribute (Expr.Name _ _) (Str.ofString "is_bad") _, Expr.Attribute (Expr.Name _ _) (Str.ofString "is_bad") _] _) _) _ _ _); refine or_bad (by assumption) ?_)
  | ((with_reducible show wpAny _ _ (eval (Expr.BoolOp BoolOp.Or [Expr.Attribute (Expr.Name _ _) (Str.ofString "is_unsigned") _, Expr.Attribute (Expr.Name _ _) (Str.ofString "is_unsigned") _] _) _) _ _ _); refine or_uns (by assumption) ?_))
local macro_rules | `(tactic| walk_at "And") => `(tactic| first | k_dflt (exact ⟨rfl, ⟨_, rfl⟩⟩) | (refine ⟨rfl, ?_, fun tk => ?_⟩ <;> (try dsimp only)))
local macro_rules | `(tactic| walk_at "binaryOp Mult int int") => `(tactic| (first | (with_reducible refine mul_int ?_ (mul_ok _ _ _ _)) | (with_reducible refine mul_int ?_ (tdiv_ok _ _ _ _ _ _))))
local macro_rules | `(tactic| walk_at "subscriptTail") => `(tactic| ((with_reducible show wpAny _ _ (subscriptTail _ _ (Value.ref 146) (Value.str (Bop.txt _) _)) _ _ _); k_dflt (refine' topItem_K ?F ?X ?l ?k (lev_at _ _) ?_; (case F => k_asm); (case X => k_asm); (case l => k_is); (case k => k_keys))))
local macro_rules | `(tactic| walk_at "call ref") => `(tactic| ((with_reducible show wpAny _ _ (call (Value.ref 165) [Value.int _ _, Value.bool _, Value.bool _]) _ _ _); k_dflt (refine' mkval _ _ _ _ ?k1 ?k2 ?k3 ?k4 ?k5 ?kK  ?kd ?ku ?_; (case k1 | k2 | k3 | k4 | k5 => k_asm); (case kK => first | exact rfl | assumption);  (case kd => ktr_room); (case ku => ktr_units); k_whole; intro x' dx' ka' kb' kc' kt' y' u' b' h' tk' hy' hu' hb' F' N' l1 l2); (subst hy'); (subst hu'); (subst hb'); (have l1b := l1); (try simp only [AllLt, and_true] at l1); (try dsimp only); (try k_fold)))
local macro_rules | `(tactic| walk_at "call ref") => `(tactic| ((with_reducible show wpAny _ _ (call (Value.ref 176) [Value.bool _, Value.bool _]) _ _ _); k_dflt (refine' truthC _ _ ?k1 ?k2 ?k3 ?k4 ?k5 ?kK  ?kd ?ku ?_; (case k1 | k2 | k3 | k4 | k5 => k_asm); (case kK => first | exact rfl | assumption);  (case kd => ktr_room); (case ku => ktr_units); k_whole; intro x' dx' ka' kb' kc' kt' y' u' b' h' tk' hy' hu' hb' F' N' l1 l2); (subst hy'); (subst hu'); (subst hb'); (have l1b := l1); (try simp only [AllLt, and_true] at l1); (try dsimp only); (try k_fold)))
local macro_rules | `(tactic| walk_at "call ref") => `(tactic| ((with_reducible show wpAny _ _ (call (Value.ref 183) [Value.int _ _, Value.int _ _]) _ _ _); k_dflt (refine' quotC _ _ _ _ ?k1 ?k2 ?k3 ?k4 ?k5 ?kK ?kz ?kb ?kd ?ku ?_; (case k1 | k2 | k3 | k4 | k5 => k_asm); (case kK => first | exact rfl | assumption); (case kz => assumption); (case kb => exact led_in _ _); (case kd => ktr_room); (case ku => ktr_units); k_whole; intro t' y' h' tk' hy' F' N'); (subst hy'); (try dsimp only); (try k_fold)))
local macro_rules | `(tactic| walk_at "call ref") => `(tactic| ((with_reducible show wpAny _ _ (call (Value.ref 197) [Value.str _ _, Value.int _ _, Value.int _ _]) _ _ _); k_dflt (refine' cmpC _ _ _ _ _ _ ?k1 ?k2 ?k3 ?k4 ?k5 ?kK  ?kd ?ku ?_; (case k1 | k2 | k3 | k4 | k5 => k_asm); (case kK => first | exact rfl | assumption);  (case kd => ktr_room); (case ku => ktr_units); k_whole; intro y' h' tk' hy' F' N'); (subst hy'); (try dsimp only); (try k_fold)))
local macro_rules | `(tactic| walk_at "binaryOp LShift int int") => `(tactic| ((with_reducible refine lshift_int_small ?k1 ?k2 ?k3 ?_); (case k1 => exact (and31 _).1); (case k2 => exact Int.le_trans (and31 _).2 (by decide)); (case k3 => assumption)))
local macro_rules | `(tactic| walk_at "binaryOp RShift int int") => `(tactic| ((with_reducible refine rshift_int ?k1 ?_); (case k1 => exact (and31 _).1)))
variable {w : World} {mean : ExcName → Option Value} {mg mb : Str → Option Value} {dp un : Nat} {gd : Option (List Code)} {cn : Str} {cs : Scope} {a : Addr} {ccd : Value} {cl : List (Str × Addr)} {outer : List Env} {A₀ : Around} {base h₀ : Heap} {L : Addr} {m : Str → Option Value} {news : List (Addr × Obj)} {s : Shared} {Q E : Value → Shared → Prop}
theorem twoC (o : Bop) (va vb : Value) (x y : V) (t0 : Tok) (B : Below A₀ base outer h₀) (F : Fr h₀ L s.heap m) (X : (KQ w.params).In h₀) (N : News h₀ L s.heap news) (T : Top viewQ looseQ mean mg mb h₀) (hk : cs.kind = .function) (ha : ValAt w news va x) (hb : ValAt w news vb y) (hx : In33 x.n) (hy : In33 y.n)
    (hd : dp + 12 < recursionLimit) (hu : un + 120 < cLine)
    (ret : VRet w h₀ L m news s Q (twoB o x y).n (twoB o x y).u (twoB o x y).b) :
    wpAny (MQ w) (ktrTop dp un gd cn cs L a ccd cl outer) (call (.ref 204) [.str o.txt t0, va, vb]) Q E s := by
  obtain ⟨xa, da, ka1, ka2, ka3, ta, rfl, ma1, ma2⟩ := ha
  obtain ⟨xb, db, kb1, kb2, kb3, tb, rfl, mb1, mb2⟩ := hb
  have N2 := News.dup (News.dup (News.dup (News.dup N mb2) (.tail _ mb1)) (.tail _ (.tail _ ma2))) (.tail _ (.tail _ (.tail _ ma1)))
  have hJ : JoinOr x.b y.b x.u y.u := JoinOr.mk
  have hx2 : x.n.natAbs < 2 ^ 64 := by unfold In33 at hx; omega
  refine wpAny_call ?_
  (k_dflt (refine' code_def (binds := [(Str.ofString "word", .str o.txt t0), (Str.ofString "a", .ref xa), (Str.ofString "b", .ref xb)]) ?k1 ?k2 ?k3 ?k4 ?k5 ?kA ?kF ?kK ?k6 ?k7 ?k8 ?k9 ?kB ?_ ?c2 ?c3 ?c4 ?c5; (case kA | kF => exact rfl); (case kK => first | exact rfl | assumption); (case k1 | k2 | k3 | k4 | k5 => k_asm); (case k6 | k7 => k_is); (case k8 => ktr_room); (case k9 => exact BindsTo.of_eq rfl); (case c5 => decide); (case kB => exact locs rfl); (case c2 | c3 | c4 => exact rfl); k_whole; intro g' L' h' FG' F' N' B' X' T'; (try dsimp only); (try k_lift B'); (try k_fold)))
  k_steps
  all_goals first
    | (k_dflt (exact rfl))
    | (refine ret _ _ _ _ _ _ _ _ _ _ _ ?_ ?_ ?_ (by assumption) (by first | assumption | (exact vdrop (by assumption) (by intro p hp; simp only [List.mem_cons, hp, or_true, true_or]))) (by first | assumption | (exact altsub (by assumption) (by intro p hp; simp only [List.mem_cons, hp, or_true, true_or]))) (by assumption))
  all_goals first
    | (simp only [twoB, V.mk', if_true, if_false, Bool.false_eq_true, *]; done)
    | contradiction
    | (simp [twoB, V.mk', *]; done)
end
end
section
open PySem PySem.W PyProof.Rows PySem.Calls PySem.Spec
section

theorem reordG {h₀ h : Heap} {L : Addr} {p q : Addr × Obj} {fr r : List (Addr × Obj)} (N : News h₀ L h (p :: q :: (fr ++ r))) : News h₀ L h (fr ++ (p :: q :: r)) :=
  cb_drop N fun x hx => by
    rcases List.mem_append.mp hx with hx | hx
    · exact .tail _ (.tail _ (List.mem_append_left _ hx))
    · rcases List.mem_cons.mp hx with rfl | hx
      · exact .head _
      · rcases List.mem_cons.mp hx with rfl | hx
        · exact .tail _ (.head _)
        · exact .tail _ (.tail _ (List.mem_append_right _ hx))
theorem reord1 {h₀ h : Heap} {L : Addr} {p q : Addr × Obj} {q0 : Addr × Obj} {r : List (Addr × Obj)} (N : News h₀ L h (p :: q :: q0 :: r)) : News h₀ L h (q0 :: p :: q :: r) := reordG (fr := [q0]) N
theorem reord2 {h₀ h : Heap} {L : Addr} {p q : Addr × Obj} {q0 q1 : Addr × Obj} {r : List (Addr × Obj)} (N : News h₀ L h (p :: q :: q0 :: q1 :: r)) : News h₀ L h (q0 :: q1 :: p :: q :: r) := reordG (fr := [q0, q1]) N
theorem reord3 {h₀ h : Heap} {L : Addr} {p q : Addr × Obj} {q0 q1 q2 : Addr × Obj} {r : List (Addr × Obj)} (N : News h₀ L h (p :: q :: q0 :: q1 :: q2 :: r)) : News h₀ L h (q0 :: q1 :: q2 :: p :: q :: r) := reordG (fr := [q0, q1, q2]) N
theorem reord4 {h₀ h : Heap} {L : Addr} {p q : Addr × Obj} {q0 q1 q2 q3 : Addr × Obj} {r : List (Addr × Obj)} (N : News h₀ L h (p :: q :: q0 :: q1 :: q2 :: q3 :: r)) : News h₀ L h (q0 :: q1 :: q2 :: q3 :: p :: q :: r) := reordG (fr := [q0, q1, q2, q3]) N
theorem reord5 {h₀ h : Heap} {L : Addr} {p q : Addr × Obj} {q0 q1 q2 q3 q4 : Addr × Obj} {r : List (Addr × Obj)} (N : News h₀ L h (p :: q :: q0 :: q1 :: q2 :: q3 :: q4 :: r)) : News h₀ L h (q0 :: q1 :: q2 :: q3 :: q4 :: p :: q :: r) := reordG (fr := [q0, q1, q2, q3, q4]) N
theorem reord6 {h₀ h : Heap} {L : Addr} {p q : Addr × Obj} {q0 q1 q2 q3 q4 q5 : Addr × Obj} {r : List (Addr × Obj)} (N : News h₀ L h (p :: q :: q0 :: q1 :: q2 :: q3 :: q4 :: q5 :: r)) : News h₀ L h (q0 :: q1 :: q2 :: q3 :: q4 :: q5 :: p :: q :: r) := reordG (fr := [q0, q1, q2, q3, q4, q5]) N
theorem reord7 {h₀ h : Heap} {L : Addr} {p q : Addr × Obj} {q0 q1 q2 q3 q4 q5 q6 : Addr × Obj} {r : List (Addr × Obj)} (N : News h₀ L h (p :: q :: q0 :: q1 :: q2 :: q3 :: q4 :: q5 :: q6 :: r)) : News h₀ L h (q0 :: q1 :: q2 :: q3 :: q4 :: q5 :: q6 :: p :: q :: r) := reordG (fr := [q0, q1, q2, q3, q4, q5, q6]) N
theorem reord8 {h₀ h : Heap} {L : Addr} {p q : Addr × Obj} {q0 q1 q2 q3 q4 q5 q6 q7 : Addr × Obj} {r : List (Addr × Obj)} (N : News h₀ L h (p :: q :: q0 :: q1 :: q2 :: q3 :: q4 :: q5 :: q6 :: q7 :: r)) : News h₀ L h (q0 :: q1 :: q2 :: q3 :: q4 :: q5 :: q6 :: q7 :: p :: q :: r) := reordG (fr := [q0, q1, q2, q3, q4, q5, q6, q7]) N
theorem reord9 {h₀ h : Heap} {L : Addr} {p q : Addr × Obj} {q0 q1 q2 q3 q4 q5 q6 q7 q8 : Addr × Obj} {r : List (Addr × Obj)} (N : News h₀ L h (p :: q :: q0 :: q1 :: q2 :: q3 :: q4 :: q5 :: q6 :: q7 :: q8 :: r)) : News h₀ L h (q0 :: q1 :: q2 :: q3 :: q4 :: q5 :: q6 :: q7 :: q8 :: p :: q :: r) := reordG (fr := [q0, q1, q2, q3, q4, q5, q6, q7, q8]) N
theorem reord10 {h₀ h : Heap} {L : Addr} {p q : Addr × Obj} {q0 q1 q2 q3 q4 q5 q6 q7 q8 q9 : Addr × Obj} {r : List (Addr × Obj)} (N : News h₀ L h (p :: q :: q0 :: q1 :: q2 :: q3 :: q4 :: q5 :: q6 :: q7 :: q8 :: q9 :: r)) : News h₀ L h (q0 :: q1 :: q2 :: q3 :: q4 :: q5 :: q6 :: q7 :: q8 :: q9 :: p :: q :: r) := reordG (fr := [q0, q1, q2, q3, q4, q5, q6, q7, q8, q9]) N
theorem reord11 {h₀ h : Heap} {L : Addr} {p q : Addr × Obj} {q0 q1 q2 q3 q4 q5 q6 q7 q8 q9 q10 : Addr × Obj} {r : List (Addr × Obj)} (N : News h₀ L h (p :: q :: q0 :: q1 :: q2 :: q3 :: q4 :: q5 :: q6 :: q7 :: q8 :: q9 :: q10 :: r)) : News h₀ L h (q0 :: q1 :: q2 :: q3 :: q4 :: q5 :: q6 :: q7 :: q8 :: q9 :: q10 :: p :: q :: r) := reordG (fr := [q0, q1, q2, q3, q4, q5, q6, q7, q8, q9, q10]) N
theorem reord12 {h₀ h : Heap} {L : Addr} {p q : Addr × Obj} {q0 q1 q2 q3 q4 q5 q6 q7 q8 q9 q10 q11 : Addr × Obj} {r : List (Addr × Obj)} (N : News h₀ L h (p :: q :: q0 :: q1 :: q2 :: q3 :: q4 :: q5 :: q6 :: q7 :: q8 :: q9 :: q10 :: q11 :: r)) : News h₀ L h (q0 :: q1 :: q2 :: q3 :: q4 :: q5 :: q6 :: q7 :: q8 :: q9 :: q10 :: q11 :: p :: q :: r) := reordG (fr := [q0, q1, q2, q3, q4, q5, q6, q7, q8, q9, q10, q11]) N

inductive Uop where
  | neg | not | inv | pos
def Uop.word : Uop → Str
  | .neg => "minus"
  | .not => "not"
  | .inv => "turned"
  | .pos => "plus"
def Uop.sign : Uop → Str
  | .neg => "-"
  | .not => "!"
  | .inv => "~"
  | .pos => "+"
def oneB (o : Uop) (x : V) : V := match o with
  | .neg => V.mk' (-x.n) x.u x.b
  | .not => ⟨if x.n == 0 then 1 else 0, false, x.b⟩
  | .inv => V.mk' (Builtin.bitNot x.n) x.u x.b
  | .pos => x
def chosenB (t x y : V) : V := V.mk' (if t.n != 0 then x.n else y.n) (x.u || y.u) (t.b || (if t.n != 0 then x.b else y.b))
section
variable {h₀ h : Heap} {L sl el : Addr} {news : List (Addr × Obj)} {prog : Program} {w : World} {A : Around} {E : Value → Shared → Prop} {s : Shared} {Q : Value → Shared → Prop} {ps : List Value} {x : Value} {n k : Nat} {ts : List Str}
theorem strs_carried : ∀ {vs : List Value} {ss : List Str}, StrsAre vs ss → CarriedAll vs (ss.map PyData.str)
  | _, _, .nil => .nil
  | _, _, .cons _ t r => .cons (.str _ t) (strs_carried r)
theorem strs_canLayAll0 : ∀ ns : List Str, (∀ t ∈ ns, PyData.strOk t = true) → PyData.canLayAll0 (ns.map PyData.str) = true
  | [], _ => rfl
  | a :: r, h => by simp [PyData.canLayAll0, PyData.canLay0, h a (.head _), strs_canLayAll0 r fun t ht => h t (.tail _ ht)]
theorem strs_depthAll : ∀ ns : List Str, PyData.depthAll (ns.map PyData.str) = 0
  | [] => rfl
  | _ :: r => by simp [PyData.depthAll, PyData.depth, strs_depthAll r]
theorem strs_shaped (ns : List Str) (h : ∀ t ∈ ns, PyData.strOk t = true) : SeqAt.shaped (.list (ns.map PyData.str)) = true := by
  simp [SeqAt.shaped, PyData.canLay0, PyData.depth, strs_canLayAll0 ns h, strs_depthAll]
def Strs (vs : List Value) (ss : List Str) : Prop := StrsAre vs ss ∧ ∀ t ∈ ss, PyData.strOk t = true
theorem strs_eqv_nil : ∀ ts : List Str, ts ≠ [] → PyData.eqv (.list (ts.map PyData.str)) (.list []) = false
  | [], h => absurd rfl h
  | _ :: _, _ => by simp [PyData.eqv, PyData.eqvAll]
theorem strs_ne_nil (hs : StrsAre (ps ++ [x]) ts) : ts ≠ [] := by
  intro e; subst e; cases ps <;> cases hs
theorem some_eq_nil (N : News h₀ L s.heap news) (h1 : (sl, listOf (ps ++ [x]).toArray n) ∈ news) (h2 : (el, listOf [].toArray k) ∈ news) (hs : Strs (ps ++ [x]) ts) (hu : A.units + 64 < cLine) (h : Q (.bool false) s) :
    wpAny (model prog w) A (compareOp .Eq (.ref sl) (.ref el)) Q E s :=
  eq_dataH (reads_newData (PySem.IsL.isList (News.get N h1)) (strs_carried hs.1)) (reads_newData (PySem.IsL.isList (News.get N h2)) .nil) (strs_shaped _ hs.2) rfl hu (by rw [strs_eqv_nil _ (strs_ne_nil hs.1)]; exact h)
theorem some_ne_nil (N : News h₀ L s.heap news) (h1 : (sl, listOf (ps ++ [x]).toArray n) ∈ news) (h2 : (el, listOf [].toArray k) ∈ news) (hs : Strs (ps ++ [x]) ts) (hu : A.units + 64 < cLine) (h : Q (.bool true) s) :
    wpAny (model prog w) A (compareOp .NotEq (.ref sl) (.ref el)) Q E s :=
  ne_dataH (reads_newData (PySem.IsL.isList (News.get N h1)) (strs_carried hs.1)) (reads_newData (PySem.IsL.isList (News.get N h2)) .nil) (strs_shaped _ hs.2) rfl hu (by rw [strs_eqv_nil _ (strs_ne_nil hs.1)]; exact h)
theorem last_item {value slice : PySem.Expr} {u : Tok} (N : News h₀ L s.heap news) (h1 : (sl, listOf (ps ++ [x]).toArray n) ∈ news) (h : Q x s)
    (hs : subscripted slice false (.ref sl) (.int (-1) u) = operate [.ref sl, .int (-1) u] (getItem (.ref sl) (.int (-1) u)) := by with_unfolding_all rfl) (hg : ∀ r, letTemporaryGo value (.ref sl) r = pure () := by intro _; with_unfolding_all rfl) :
    wpAny (model prog w) A (subscriptTail value slice (.ref sl) (.int (-1) u)) Q E s :=
by
  have e : ((-1 : Int) + ((ps ++ [x]).length : Int)).toNat = ps.length := by rw [List.length_append]; show ((-1 : Int) + ((ps.length + 1 : Nat) : Int)).toNat = _; omega
  exact kim_back N h1 rfl rfl (by decide) (by rw [List.length_append]; show -((ps.length + 1 : Nat) : Int) ≤ -1; omega) (by decide) (by rw [e]; simp) h hs hg
end
local macro_rules | `(tactic| walk_at "call ref") => `(tactic| ((with_reducible show wpAny _ _ (call (Value.ref 165) [Value.int _ _, Value.bool _, Value.bool _]) _ _ _); k_dflt (refine' mkval _ _ _ _ ?k1 ?k2 ?k3 ?k4 ?k5 ?kK  ?kd ?ku ?_; (case k1 | k2 | k3 | k4 | k5 => k_asm); (case kK => first | exact rfl | assumption);  (case kd => ktr_room); (case ku => ktr_units); k_whole; intro x' dx' ka' kb' kc' kt' y' u' b' h' tk' hy' hu' hb' F' N' l1 l2); (subst hy'); (subst hu'); (subst hb'); (have l1b := l1); (try simp only [AllLt, and_true] at l1); (try dsimp only); (try k_fold)))
local macro_rules | `(tactic| walk_at "call ref") => `(tactic| ((with_reducible show wpAny _ _ (call (Value.ref 176) [Value.bool _, Value.bool _]) _ _ _); k_dflt (refine' truthC _ _ ?k1 ?k2 ?k3 ?k4 ?k5 ?kK  ?kd ?ku ?_; (case k1 | k2 | k3 | k4 | k5 => k_asm); (case kK => first | exact rfl | assumption);  (case kd => ktr_room); (case ku => ktr_units); k_whole; intro x' dx' ka' kb' kc' kt' y' u' b' h' tk' hy' hu' hb' F' N' l1 l2); (subst hy'); (subst hu'); (subst hb'); (have l1b := l1); (try simp only [AllLt, and_true] at l1); (try dsimp only); (try k_fold)))
section
variable {w : World} {mean : ExcName → Option Value} {mg mb : Str → Option Value} {dp un : Nat} {gd : Option (List Code)} {cn : Str} {cs : Scope} {a : Addr} {ccd : Value} {cl : List (Str × Addr)} {outer : List Env} {A₀ : Around} {base h₀ : Heap} {L : Addr} {m : Str → Option Value} {news : List (Addr × Obj)} {s : Shared} {Q E : Value → Shared → Prop}
theorem oneC (o : Uop) (va : Value) (x : V) (t0 : Tok) (ho : o ≠ .pos) (B : Below A₀ base outer h₀) (F : Fr h₀ L s.heap m) (X : (KQ w.params).In h₀) (N : News h₀ L s.heap news) (T : Top viewQ looseQ mean mg mb h₀) (hk : cs.kind = .function) (ha : ValAt w news va x)
    (hd : dp + 12 < recursionLimit) (hu : un + 120 < cLine)
    (ret : VRet w h₀ L m news s Q (oneB o x).n (oneB o x).u (oneB o x).b) :
    wpAny (MQ w) (ktrTop dp un gd cn cs L a ccd cl outer) (call (.ref 190) [.str o.word t0, va]) Q E s := by
  obtain ⟨xa, da, ka1, ka2, ka3, ta, rfl, ma1, ma2⟩ := ha
  have N2 := News.dup (News.dup N ma2) (.tail _ ma1)
  cases o with
  | pos => exact absurd rfl ho
  | not =>
    refine wpAny_call ?_
    (k_dflt (refine' code_def (binds := [(Str.ofString "word", .str (Str.ofString "not") t0), (Str.ofString "a", .ref xa)]) ?k1 ?k2 ?k3 ?k4 ?k5 ?kA ?kF ?kK ?k6 ?k7 ?k8 ?k9 ?kB ?_ ?c2 ?c3 ?c4 ?c5; (case kA | kF => exact rfl); (case kK => first | exact rfl | assumption); (case k1 | k2 | k3 | k4 | k5 => k_asm); (case k6 | k7 => k_is); (case k8 => ktr_room); (case k9 => exact BindsTo.of_eq rfl); (case c5 => decide); (case kB => exact locs rfl); (case c2 | c3 | c4 => exact rfl); k_whole; intro g' L' h' FG' F' N' B' X' T'; (try dsimp only); (try k_lift B'); (try k_fold)))
    k_steps
    all_goals (refine ret _ _ _ _ _ _ _ _ _ _ _ ?_ ?_ ?_ (by assumption) (by first | assumption | (exact vdrop (by assumption) (by intro p hp; simp only [List.mem_cons, hp, or_true, true_or]))) (by first | assumption | (exact altsub (by assumption) (by intro p hp; simp only [List.mem_cons, hp, or_true, true_or]))) (by assumption) <;> simp [oneB, V.mk', *]; done)
  | neg =>
    refine wpAny_call ?_
    (k_dflt (refine' code_def (binds := [(Str.ofString "word", .str (Str.ofString "minus") t0), (Str.ofString "a", .ref xa)]) ?k1 ?k2 ?k3 ?k4 ?k5 ?kA ?kF ?kK ?k6 ?k7 ?k8 ?k9 ?kB ?_ ?c2 ?c3 ?c4 ?c5; (case kA | kF => exact rfl); (case kK => first | exact rfl | assumption); (case k1 | k2 | k3 | k4 | k5 => k_asm); (case k6 | k7 => k_is); (case k8 => ktr_room); (case k9 => exact BindsTo.of_eq rfl); (case c5 => decide); (case kB => exact locs rfl); (case c2 | c3 | c4 => exact rfl); k_whole; intro g' L' h' FG' F' N' B' X' T'; (try dsimp only); (try k_lift B'); (try k_fold)))
    k_steps
    all_goals (refine ret _ _ _ _ _ _ _ _ _ _ _ ?_ ?_ ?_ (by assumption) (by first | assumption | (exact vdrop (by assumption) (by intro p hp; simp only [List.mem_cons, hp, or_true, true_or]))) (by first | assumption | (exact altsub (by assumption) (by intro p hp; simp only [List.mem_cons, hp, or_true, true_or]))) (by assumption) <;> simp [oneB, V.mk', *]; done)
  | inv =>
    refine wpAny_call ?_
    (k_dflt (refine' code_def (binds := [(Str.ofString "word", .str (Str.ofString "turned") t0), (Str.ofString "a", .ref xa)]) ?k1 ?k2 ?k3 ?k4 ?k5 ?kA ?kF ?kK ?k6 ?k7 ?k8 ?k9 ?kB ?_ ?c2 ?c3 ?c4 ?c5; (case kA | kF => exact rfl); (case kK => first | exact rfl | assumption); (case k1 | k2 | k3 | k4 | k5 => k_asm); (case k6 | k7 => k_is); (case k8 => ktr_room); (case k9 => exact BindsTo.of_eq rfl); (case c5 => decide); (case kB => exact locs rfl); (case c2 | c3 | c4 => exact rfl); k_whole; intro g' L' h' FG' F' N' B' X' T'; (try dsimp only); (try k_lift B'); (try k_fold)))
    k_steps
    all_goals (refine ret _ _ _ _ _ _ _ _ _ _ _ ?_ ?_ ?_ (by assumption) (by first | assumption | (exact vdrop (by assumption) (by intro p hp; simp only [List.mem_cons, hp, or_true, true_or]))) (by first | assumption | (exact altsub (by assumption) (by intro p hp; simp only [List.mem_cons, hp, or_true, true_or]))) (by assumption) <;> simp [oneB, V.mk', *]; done)
theorem plusC (va : Value) (x : V) (t0 : Tok) (B : Below A₀ base outer h₀) (F : Fr h₀ L s.heap m) (X : (KQ w.params).In h₀) (N : News h₀ L s.heap news) (T : Top viewQ looseQ mean mg mb h₀) (hk : cs.kind = .function) (ha : ValAt w news va x)
    (hd : dp + 12 < recursionLimit) (hu : un + 120 < cLine)
    (ret : ∀ (h' : Heap) (tk' : Nat), Fr h₀ L h' m → News h₀ L h' news → Q va { s with heap := h', toks := tk' }) :
    wpAny (MQ w) (ktrTop dp un gd cn cs L a ccd cl outer) (call (.ref 190) [.str (Str.ofString "plus") t0, va]) Q E s := by
  obtain ⟨xa, da, ka1, ka2, ka3, ta, rfl, ma1, ma2⟩ := ha
  refine wpAny_call ?_
  (k_dflt (refine' code_def (binds := [(Str.ofString "word", .str (Str.ofString "plus") t0), (Str.ofString "a", .ref xa)]) ?k1 ?k2 ?k3 ?k4 ?k5 ?kA ?kF ?kK ?k6 ?k7 ?k8 ?k9 ?kB ?_ ?c2 ?c3 ?c4 ?c5; (case kA | kF => exact rfl); (case kK => first | exact rfl | assumption); (case k1 | k2 | k3 | k4 | k5 => k_asm); (case k6 | k7 => k_is); (case k8 => ktr_room); (case k9 => exact BindsTo.of_eq rfl); (case c5 => decide); (case kB => exact locs rfl); (case c2 | c3 | c4 => exact rfl); k_whole; intro g' L' h' FG' F' N' B' X' T'; (try dsimp only); (try k_lift B'); (try k_fold)))
  k_steps
  all_goals (exact ret _ _ (by assumption) (by assumption))
theorem choC (vt va vb : Value) (t x y : V) (B : Below A₀ base outer h₀) (F : Fr h₀ L s.heap m) (X : (KQ w.params).In h₀) (N : News h₀ L s.heap news) (T : Top viewQ looseQ mean mg mb h₀) (hk : cs.kind = .function) (ht : ValAt w news vt t) (ha : ValAt w news va x) (hb : ValAt w news vb y)
    (hd : dp + 12 < recursionLimit) (hu : un + 120 < cLine)
    (ret : VRet w h₀ L m news s Q (chosenB t x y).n (chosenB t x y).u (chosenB t x y).b) :
    wpAny (MQ w) (ktrTop dp un gd cn cs L a ccd cl outer) (call (.ref 211) [vt, va, vb]) Q E s := by
  obtain ⟨xt, dt, kt1, kt2, kt3, tt, rfl, mt1, mt2⟩ := ht
  obtain ⟨xa, da, ka1, ka2, ka3, ta, rfl, ma1, ma2⟩ := ha
  obtain ⟨xb, db, kb1, kb2, kb3, tb, rfl, mb1, mb2⟩ := hb
  have N2 := News.dup (News.dup (News.dup (News.dup N mb2) (.tail _ mb1)) (.tail _ (.tail _ ma2))) (.tail _ (.tail _ (.tail _ ma1)))
  have N3 := News.dup (News.dup N2 (.tail _ (.tail _ (.tail _ (.tail _ mt2))))) (.tail _ (.tail _ (.tail _ (.tail _ (.tail _ mt1)))))
  clear N2
  refine wpAny_call ?_
  (k_dflt (refine' code_def (binds := [(Str.ofString "test", .ref xt), (Str.ofString "a", .ref xa), (Str.ofString "b", .ref xb)]) ?k1 ?k2 ?k3 ?k4 ?k5 ?kA ?kF ?kK ?k6 ?k7 ?k8 ?k9 ?kB ?_ ?c2 ?c3 ?c4 ?c5; (case kA | kF => exact rfl); (case kK => first | exact rfl | assumption); (case k1 | k2 | k3 | k4 | k5 => k_asm); (case k6 | k7 => k_is); (case k8 => ktr_room); (case k9 => exact BindsTo.of_eq rfl); (case c5 => decide); (case kB => exact locs rfl); (case c2 | c3 | c4 => exact rfl); k_whole; intro g' L' h' FG' F' N' B' X' T'; (try dsimp only); (try k_lift B'); (try k_fold)))
  k_steps
  all_goals (refine ret _ _ _ _ _ _ _ _ _ _ _ ?_ ?_ ?_ (by assumption) (by first | assumption | (exact vdrop (by assumption) (by intro p hp; simp only [List.mem_cons, hp, or_true, true_or]))) (by first | assumption | (exact altsub (by assumption) (by intro p hp; simp only [List.mem_cons, hp, or_true, true_or]))) (by assumption) <;> simp [chosenB, V.mk', *]; done)
end
end
end
section
open PySem PySem.W PyProof.Rows PySem.Calls PySem.Spec
section

abbrev cdict (w : World) (tl pl vl sl : Addr) (k1 k2 k3 k4 : Tok) : Obj := dictOf [fld w "tokens" k1 (.ref tl), fld w "place" k2 (.ref pl), fld w "values" k3 (.ref vl), fld w "signs" k4 (.ref sl)] 4
abbrev tdict (w : World) (kind text file : Str) (line : Int) (k1 k2 k3 k4 t1 t2 t3 t4 : Tok) : Obj := dictOf [fld w "kind" k1 (.str kind t1), fld w "text" k2 (.str text t2), fld w "file" k3 (.str file t3), fld w "line" k4 (.int line t4)] 4
section
variable {w : World} {mean : ExcName → Option Value} {mg mb : Str → Option Value} {dp un : Nat} {gd : Option (List Code)} {cn : Str} {cs : Scope} {a : Addr} {ccd : Value} {cl : List (Str × Addr)} {outer : List Env} {A₀ : Around} {base h₀ : Heap} {L : Addr} {m : Str → Option Value} {news : List (Addr × Obj)} {s : Shared} {Q E : Value → Shared → Prop}
theorem mkTok (kind text file : Str) (line : Int) (t1 t2 t3 t4 : Tok) (B : Below A₀ base outer h₀) (F : Fr h₀ L s.heap m) (X : (KQ w.params).In h₀) (N : News h₀ L s.heap news) (T : Top viewQ looseQ mean mg mb h₀) (hk : cs.kind = .function) 
    (hd : dp + 6 < recursionLimit) (hu : un + 60 < cLine)
    (ret : ∀ (x dx : Addr) (k1 k2 k3 k4 : Tok) (h' : Heap) (tk' : Nat), Fr h₀ L h' m → News h₀ L h' ((x, instObj 106 dx) :: (dx, tdict w kind text file line k1 k2 k3 k4 t1 t2 t3 t4) :: news) → AllLt dx news → dx < x → Q (.ref x) { s with heap := h', toks := tk' }) :
    wpAny (MQ w) (ktrTop dp un gd cn cs L a ccd cl outer) (call (.ref 106) [.str kind t1, .str text t2, .str file t3, .int line t4]) Q E s := by
  (k_dflt (refine' call_cls ?k1 ?k2 ?k3 ?k4 ?k5 ?k6 ?_; (case k1 => k_asm); (case k2 => k_asm); (case k3 => k_asm); (case k4 => k_is); (case k5 => k_is); (case k6 => k_is); k_whole; intro x' d' h' F' N' l1 l2; (try k_lt l1); (try k_lt2 l2); (try k_sweep)))
  (k_dflt (refine' code_def (binds := [(Str.ofString "self", .ref x'), (Str.ofString "kind", .str kind t1), (Str.ofString "text", .str text t2), (Str.ofString "file", .str file t3), (Str.ofString "line", .int line t4)]) ?k1 ?k2 ?k3 ?k4 ?k5 ?kA ?kF ?kK ?k6 ?k7 ?k8 ?k9 ?kB ?_ ?c2 ?c3 ?c4 ?c5; (case kA | kF => exact rfl); (case kK => first | exact rfl | assumption); (case k1 | k2 | k3 | k4 | k5 => k_asm); (case k6 | k7 => k_is); (case k8 => ktr_room); (case k9 => exact BindsTo.of_eq rfl); (case c5 => decide); (case kB => exact locs rfl); (case c2 | c3 | c4 => exact rfl); k_whole; intro g' L' h' FG' F' N' B' X' T'; (try dsimp only); (try k_lift B'); (try k_fold)))
  k_steps
  all_goals (exact ret _ _ _ _ _ _ _ _ (by assumption) (by assumption) (by first | assumption | exact allLt_of (by assumption)) (by assumption))
theorem mkCond (tl pl : Addr) (B : Below A₀ base outer h₀) (F : Fr h₀ L s.heap m) (X : (KQ w.params).In h₀) (N : News h₀ L s.heap news) (T : Top viewQ looseQ mean mg mb h₀) (hk : cs.kind = .function) 
    (hd : dp + 6 < recursionLimit) (hu : un + 60 < cLine)
    (ret : ∀ (c dc vl sl : Addr) (k1 k2 k3 k4 : Tok) (nv ns : Nat) (h' : Heap) (tk' : Nat), Fr h₀ L h' m → News h₀ L h' ((sl, listOf [].toArray ns) :: (vl, listOf [].toArray nv) :: (c, instObj 291 dc) :: (dc, cdict w tl pl vl sl k1 k2 k3 k4) :: news) → AllLt dc news → dc < c → c < vl → vl < sl → Q (.ref c) { s with heap := h', toks := tk' }) :
    wpAny (MQ w) (ktrTop dp un gd cn cs L a ccd cl outer) (call (.ref 291) [.ref tl, .ref pl]) Q E s := by
  (k_dflt (refine' call_cls ?k1 ?k2 ?k3 ?k4 ?k5 ?k6 ?_; (case k1 => k_asm); (case k2 => k_asm); (case k3 => k_asm); (case k4 => k_is); (case k5 => k_is); (case k6 => k_is); k_whole; intro x' d' h' F' N' l1 l2; (try k_lt l1); (try k_lt2 l2); (try k_sweep)))
  (k_dflt (refine' code_def (binds := [(Str.ofString "self", .ref x'), (Str.ofString "tokens", .ref tl), (Str.ofString "place", .ref pl)]) ?k1 ?k2 ?k3 ?k4 ?k5 ?kA ?kF ?kK ?k6 ?k7 ?k8 ?k9 ?kB ?_ ?c2 ?c3 ?c4 ?c5; (case kA | kF => exact rfl); (case kK => first | exact rfl | assumption); (case k1 | k2 | k3 | k4 | k5 => k_asm); (case k6 | k7 => k_is); (case k8 => ktr_room); (case k9 => exact BindsTo.of_eq rfl); (case c5 => decide); (case kB => exact locs rfl); (case c2 | c3 | c4 => exact rfl); k_whole; intro g' L' h' FG' F' N' B' X' T'; (try dsimp only); (try k_lift B'); (try k_fold)))
  k_steps
  all_goals (exact ret _ _ _ _ _ _ _ _ _ _ _ _ (by assumption) (by assumption) (by first | assumption | exact allLt_of (by assumption)) (by first | assumption | exact And.left (by assumption) | exact And.left (And.right (by assumption)) | exact And.left (And.right (And.right (by assumption))) | exact And.left (And.right (And.right (And.right (by assumption)))) | exact And.left (And.right (And.right (And.right (And.right (by assumption)))))) (by first | assumption | exact And.left (by assumption) | exact And.left (And.right (by assumption)) | exact And.left (And.right (And.right (by assumption))) | exact And.left (And.right (And.right (And.right (by assumption)))) | exact And.left (And.right (And.right (And.right (And.right (by assumption)))))) (by first | assumption | exact And.left (by assumption) | exact And.left (And.right (by assumption)) | exact And.left (And.right (And.right (by assumption))) | exact And.left (And.right (And.right (And.right (by assumption)))) | exact And.left (And.right (And.right (And.right (And.right (by assumption)))))))
end
end
end
section
open PySem PySem.W PyProof.Rows PySem.Calls PySem.Spec
section

theorem ValAt.mono {w : World} {n1 n2 : List (Addr × Obj)} {v : Value} {x : V} (h : ValAt w n1 v x) (hs : ∀ p ∈ n1, p ∈ n2) : ValAt w n2 v x := by
  obtain ⟨a, da, k1, k2, k3, t, e, h1, h2⟩ := h
  exact ⟨a, da, k1, k2, k3, t, e, hs _ h1, hs _ h2⟩
section
variable {prog : Program} {w : World} {A : Around} {E : Value → Shared → Prop} {s : Shared} {h₀ : Heap} {L D : Addr} {m : Str → Option Value} {news news' : List (Addr × Obj)} {ps : List Value} {y : Value} {n : Nat} {Q : Value → Shared → Prop}
theorem pop_mine (F : Fr h₀ L s.heap m) (N : News h₀ L s.heap news) (U : Upd D (listOf (ps ++ [y]).toArray n) (listOf ps.toArray (n + 1)) news news') (hz : ps.length < 1000)
    (h : ∀ h', Fr h₀ L h' m → News h₀ L h' news' → Q y { s with heap := h' }) : wpAny (model prog w) A (call (.builtin "list.pop") [.ref D]) Q E s :=
  kl_pop F N (p := ps) (y := y) (kpa_last y ps) U (by show (ps ++ [y]).length ≤ sizeLine; rw [List.length_append, PySem.sizeLine_eq]; show ps.length + 1 ≤ _; omega) h
theorem append_mine (F : Fr h₀ L s.heap m) (N : News h₀ L s.heap news) (U : Upd D (listOf ps.toArray n) (listOf (ps ++ [y]).toArray (n + 1)) news news') (hz : ps.length < 1000)
    (h : ∀ h', Fr h₀ L h' m → News h₀ L h' news' → Q .none { s with heap := h' }) : wpAny (model prog w) A (call (.builtin "list.append") [.ref D, y]) Q E s :=
  append_K F N (its := ps.toArray) (by rw [List.push_toArray]; exact U) h (by rw [List.size_toArray, PySem.sizeLine_eq]; omega)
end
theorem bop_colon (o : Bop) : (o.txt == Str.ofString ":") = false := by cases o <;> rfl
theorem uop_colon (o : Uop) : (o.word == Str.ofString ":") = false := by cases o <;> rfl
section
variable {prog : Program} {w : World} {A : Around} {E : Value → Shared → Prop} {s : Shared} {Q : Value → Shared → Prop} {t u : Tok}
theorem eq_bcolon (o : Bop) (h : Q (.bool false) s) : wpAny (model prog w) A (compareOp .Eq (.str o.txt t) (.str (Str.ofString ":") u)) Q E s := eq_str (by rw [bop_colon]; exact h)
theorem eq_ucolon (o : Uop) (h : Q (.bool false) s) : wpAny (model prog w) A (compareOp .Eq (.str o.word t) (.str (Str.ofString ":") u)) Q E s := eq_str (by rw [uop_colon]; exact h)
end
theorem bop_par (o : Bop) : ([Str.ofString "(", Str.ofString "?"].any (· == o.txt)) = false := by cases o <;> rfl
theorem uop_par (o : Uop) : ([Str.ofString "(", Str.ofString "?"].any (· == o.word)) = false := by cases o <;> rfl
theorem News.tl {h₀ h : Heap} {L : Addr} {p : Addr × Obj} {r : List (Addr × Obj)} (N : News h₀ L h (p :: r)) : News h₀ L h r := fun q hq => N q (.tail _ hq)
section
variable {prog : Program} {w : World} {A : Around} {E : Value → Shared → Prop} {s : Shared} {Q : Value → Shared → Prop} {t t1 t2 : Tok} {x : Str} {D : Addr} {h₀ : Heap} {L : Addr} {news : List (Addr × Obj)} {n : Nat} {d : Option Addr} {sl : Array (Option Value)}
theorem in_par (N : News h₀ L s.heap news) (hm : (D, ({ cls := .type "tuple", dict := d, data := .seq #[.str (Str.ofString "(") t1, .str (Str.ofString "?") t2] n, slots := sl } : Obj)) ∈ news)
    (hx : ([Str.ofString "(", Str.ofString "?"].any (· == x)) = false) (h : Q (.bool false) s) : wpAny (model prog w) A (compareOp .In (.str x t) (.ref D)) Q E s :=
  in_tuple_strs (News.isTup N hm) (.cons _ _ (.cons _ _ .nil)) (by rw [hx]; exact h)
theorem notin_par (N : News h₀ L s.heap news) (hm : (D, ({ cls := .type "tuple", dict := d, data := .seq #[.str (Str.ofString "(") t1, .str (Str.ofString "?") t2] n, slots := sl } : Obj)) ∈ news)
    (hx : ([Str.ofString "(", Str.ofString "?"].any (· == x)) = false) (h : Q (.bool true) s) : wpAny (model prog w) A (compareOp .NotIn (.str x t) (.ref D)) Q E s :=
  notin_tuple_strs (News.isTup N hm) (.cons _ _ (.cons _ _ .nil)) (by rw [hx]; exact h)
end
theorem uop_lev (P : Params) (o : Uop) : nsIn (KQ P) 146 o.word = some none := by
  cases o <;> kernel_rfl
def Apart (rest : List (Addr × Obj)) (vl sl : Addr) : Prop := (∀ p ∈ rest, p.1 ≠ vl) ∧ ∀ p ∈ rest, p.1 ≠ sl
structure Six (c dc vl sl : Nat) : Prop where
  a : c ≠ vl
  b : c ≠ sl
  c : dc ≠ vl
  d : dc ≠ sl
  e : vl ≠ sl
  f : sl ≠ vl
abbrev led (w : World) (c dc vl sl tl pl : Addr) (k1 k2 k3 k4 : Tok) (vs : List Value) (nv : Nat) (ss : List Value) (ns : Nat) (rest : List (Addr × Obj)) : List (Addr × Obj) :=
  (c, instObj 291 dc) :: (dc, cdict w tl pl vl sl k1 k2 k3 k4) :: (vl, listOf vs.toArray nv) :: (sl, listOf ss.toArray ns) :: rest
abbrev RedRet (w : World) (h₀ : Heap) (L : Addr) (m : Str → Option Value) (s : Shared) (Q : Value → Shared → Prop) (c dc vl sl tl pl : Addr) (k1 k2 k3 k4 : Tok) (us ps : List Value) (rest : List (Addr × Obj)) (r : V) : Prop :=
  ∀ (v : Value) (rest' : List (Addr × Obj)) (nv' ns' : Nat) (h' : Heap) (tk' : Nat), Fr h₀ L h' m → News h₀ L h' ((c, instObj 291 dc) :: (dc, cdict w tl pl vl sl k1 k2 k3 k4) :: (vl, listOf (us ++ [v]).toArray nv') :: (sl, listOf ps.toArray ns') :: rest') → (∀ p ∈ rest, p ∈ rest') → Apart rest' vl sl → ValAt w rest' v r → Q .none { s with heap := h', toks := tk' }
local macro_rules | `(tactic| walk_at "call builtin:list.pop") => `(tactic| ((with_reducible show wpAny _ _ (call (Value.builtin _) [Value.ref _]) _ _ _); k_dflt (refine' pop_mine ?F ?N ?U ?z ?_; (case F => k_asm); (case N => k_asm); (case U => k_upd); (case z => (first | omega | (simp only [List.length_append, List.length_cons, List.length_nil]; omega)))); intro h' F' N'))
local macro_rules | `(tactic| walk_at "call builtin:list.append") => `(tactic| ((with_reducible show wpAny _ _ (call (Value.builtin _) [Value.ref _, _]) _ _ _); k_dflt (refine' append_mine ?F ?N ?U ?z ?_; (case F => k_asm); (case N => k_asm); (case U => k_upd); (case z => (first | omega | (simp only [List.length_append, List.length_cons, List.length_nil]; omega)))); intro h' F' N'))
local macro_rules | `(tactic| k_ne) => `(tactic| assumption)

local macro_rules | `(tactic| walk_at "compareOp Eq str str") => `(tactic| first | ((with_reducible show wpAny _ _ (compareOp CmpOp.Eq (Value.str (Bop.txt _) _) _) _ _ _); refine eq_bcolon _ ?_) | ((with_reducible show wpAny _ _ (compareOp CmpOp.Eq (Value.str (Uop.word _) _) _) _ _ _); refine eq_ucolon _ ?_))
local macro_rules | `(tactic| walk_at "compareOp In str ref") => `(tactic| (first | ((with_reducible show wpAny _ _ (compareOp CmpOp.In (Value.str (Bop.txt _) _) (Value.ref _)) _ _ _); k_dflt (refine' in_par ?N ?m (bop_par _) ?_; (case N => k_asm); (case m => k_mem))) | ((with_reducible show wpAny _ _ (compareOp CmpOp.In (Value.str (Uop.word _) _) (Value.ref _)) _ _ _); k_dflt (refine' in_par ?N ?m (uop_par _) ?_; (case N => k_asm); (case m => k_mem)))))
local macro_rules | `(tactic| walk_at "compareOp NotIn str ref") => `(tactic| (first | ((with_reducible show wpAny _ _ (compareOp CmpOp.NotIn (Value.str (Bop.txt _) _) (Value.ref _)) _ _ _); k_dflt (refine' notin_par ?N ?m (bop_par _) ?_; (case N => k_asm); (case m => k_mem))) | ((with_reducible show wpAny _ _ (compareOp CmpOp.NotIn (Value.str (Uop.word _) _) (Value.ref _)) _ _ _); k_dflt (refine' notin_par ?N ?m (uop_par _) ?_; (case N => k_asm); (case m => k_mem)))))
local macro_rules | `(tactic| walk_at "compareOp In str ref") => `(tactic| ((with_reducible show wpAny _ _ (compareOp CmpOp.In (Value.str _ _) (Value.ref 146)) _ _ _); k_dflt (refine' topIn_K ?F ?X ?l ?k ?e ?o ?_; (case F => k_asm); (case X => k_asm); (case l => k_is); (case k => k_keys); (case e => first | exact lev_at _ _ | exact uop_lev _ _); (case o => decide)); (try dsimp only [Option.isSome])))
local macro_rules | `(tactic| walk_at "call ref") => `(tactic| ((with_reducible show wpAny _ _ (call (Value.ref 204) [Value.str (Bop.txt _) _, Value.ref _, Value.ref _]) _ _ _); k_dflt (refine' twoC _ _ _ _ _ _ ?k1 ?k2 ?k3 ?k4 ?k5 ?kK ?ha ?hb ?hx ?hy ?kd ?ku ?_; (case k1 | k2 | k3 | k4 | k5 => k_asm); (case kK => first | exact rfl | assumption); (case ha => (exact ValAt.mono (by assumption) (by intro p hp; simp only [List.mem_cons, hp, or_true, true_or]))); (case hb => (exact ValAt.mono (by assumption) (by intro p hp; simp only [List.mem_cons, hp, or_true, true_or]))); (case hx => assumption); (case hy => assumption); (case kd => ktr_room); (case ku => ktr_units); k_whole; intro x' dx' ka' kb' kc' kt' y' u' b' h' tk' hy' hu' hb' F' N' l1 l2); (subst hy'); (subst hu'); (subst hb'); (have l1b := l1); (replace l2 := ltN l2); (try simp only [AllLt, and_true] at l1); (first | (obtain ⟨_, _, _, _, _, _⟩ := l1) | (obtain ⟨_, _, _, _, _⟩ := l1) | skip); (first | replace N' := reord12 N' | replace N' := reord11 N' | replace N' := reord10 N' | replace N' := reord9 N' | replace N' := reord8 N' | replace N' := reord7 N' | replace N' := reord6 N' | replace N' := reord5 N' | replace N' := reord4 N' | replace N' := reord3 N' | replace N' := reord2 N' | replace N' := reord1 N' | skip); (try dsimp only); (try k_fold)))
local macro_rules | `(tactic| walk_at "call ref") => `(tactic| ((with_reducible show wpAny _ _ (call (Value.ref 190) [Value.str (Uop.word _) _, Value.ref _]) _ _ _); k_dflt (refine' oneC _ _ _ _ (by assumption) ?k1 ?k2 ?k3 ?k4 ?k5 ?kK ?ha ?kd ?ku ?_; (case k1 | k2 | k3 | k4 | k5 => k_asm); (case kK => first | exact rfl | assumption); (case ha => (exact ValAt.mono (by assumption) (by intro p hp; simp only [List.mem_cons, hp, or_true, true_or]))); (case kd => ktr_room); (case ku => ktr_units); k_whole; intro x' dx' ka' kb' kc' kt' y' u' b' h' tk' hy' hu' hb' F' N' l1 l2); (subst hy'); (subst hu'); (subst hb'); (have l1b := l1); (replace l2 := ltN l2); (try simp only [AllLt, and_true] at l1); (first | (obtain ⟨_, _, _, _, _, _⟩ := l1) | (obtain ⟨_, _, _, _, _⟩ := l1) | skip); (first | replace N' := reord12 N' | replace N' := reord11 N' | replace N' := reord10 N' | replace N' := reord9 N' | replace N' := reord8 N' | replace N' := reord7 N' | replace N' := reord6 N' | replace N' := reord5 N' | replace N' := reord4 N' | replace N' := reord3 N' | replace N' := reord2 N' | replace N' := reord1 N' | skip); (try dsimp only); (try k_fold)))
local macro_rules | `(tactic| walk_at "call ref") => `(tactic| ((with_reducible show wpAny _ _ (call (Value.ref 211) [Value.ref _, Value.ref _, Value.ref _]) _ _ _); k_dflt (refine' choC _ _ _ _ _ _ ?k1 ?k2 ?k3 ?k4 ?k5 ?kK ?ht ?ha ?hb ?kd ?ku ?_; (case k1 | k2 | k3 | k4 | k5 => k_asm); (case kK => first | exact rfl | assumption); (case ht => (exact ValAt.mono (by assumption) (by intro p hp; simp only [List.mem_cons, hp, or_true, true_or]))); (case ha => (exact ValAt.mono (by assumption) (by intro p hp; simp only [List.mem_cons, hp, or_true, true_or]))); (case hb => (exact ValAt.mono (by assumption) (by intro p hp; simp only [List.mem_cons, hp, or_true, true_or]))); (case kd => ktr_room); (case ku => ktr_units); k_whole; intro x' dx' ka' kb' kc' kt' y' u' b' h' tk' hy' hu' hb' F' N' l1 l2); (subst hy'); (subst hu'); (subst hb'); (have l1b := l1); (replace l2 := ltN l2); (try simp only [AllLt, and_true] at l1); (first | (obtain ⟨_, _, _, _, _, _⟩ := l1) | (obtain ⟨_, _, _, _, _⟩ := l1) | skip); (first | replace N' := reord12 N' | replace N' := reord11 N' | replace N' := reord10 N' | replace N' := reord9 N' | replace N' := reord8 N' | replace N' := reord7 N' | replace N' := reord6 N' | replace N' := reord5 N' | replace N' := reord4 N' | replace N' := reord3 N' | replace N' := reord2 N' | replace N' := reord1 N' | skip); (try dsimp only); (try k_fold)))
local macro_rules | `(tactic| walk_at "call ref") => `(tactic| ((with_reducible show wpAny _ _ (call (Value.ref 190) [Value.str (Str.ofString "plus") _, Value.ref _]) _ _ _); k_dflt (refine' plusC _ _ _ ?k1 ?k2 ?k3 ?k4 ?k5 ?kK ?ha ?kd ?ku ?_; (case k1 | k2 | k3 | k4 | k5 => k_asm); (case kK => first | exact rfl | assumption); (case ha => (exact ValAt.mono (by assumption) (by intro p hp; simp only [List.mem_cons, hp, or_true, true_or]))); (case kd => ktr_room); (case ku => ktr_units); k_whole; intro h' tk' F' N'); (try dsimp only); (try k_fold)))
section
variable {w : World} {mean : ExcName → Option Value} {mg mb : Str → Option Value} {dp un : Nat} {gd : Option (List Code)} {cn : Str} {cs : Scope} {a : Addr} {ccd : Value} {cl : List (Str × Addr)} {outer : List Env} {A₀ : Around} {base h₀ : Heap} {L : Addr} {m : Str → Option Value} {news : List (Addr × Obj)} {s : Shared} {Q E : Value → Shared → Prop}
variable {c dc vl sl tl pl : Addr} {k1 k2 k3 k4 : Tok} {nv ns : Nat} {rest : List (Addr × Obj)} {us ps : List Value}
theorem redBin (o : Bop) (va vb : Value) (x y : V) (t0 : Tok) (B : Below A₀ base outer h₀) (F : Fr h₀ L s.heap m) (X : (KQ w.params).In h₀) (N : News h₀ L s.heap ((c, instObj 291 dc) :: (dc, cdict w tl pl vl sl k1 k2 k3 k4) :: (vl, listOf ((us ++ [va]) ++ [vb]).toArray nv) :: (sl, listOf (ps ++ [Value.str o.txt t0]).toArray ns) :: rest)) (T : Top viewQ looseQ mean mg mb h₀) (hk : cs.kind = .function) (six : Six c dc vl sl) (ap : Apart rest vl sl) (lu : us.length < 900) (lp : ps.length < 900)(ha : ValAt w rest va x) (hb : ValAt w rest vb y) (hx : In33 x.n) (hy : In33 y.n)
    (hd : dp + 20 < recursionLimit) (hu : un + 220 < cLine)
    (ret : RedRet w h₀ L m s Q c dc vl sl tl pl k1 k2 k3 k4 us ps rest (twoB o x y)) :
    wpAny (MQ w) (ktrTop dp un gd cn cs L a ccd cl outer) (call (.ref 253) [.ref c]) Q E s := by
  obtain ⟨e1, e2, e3, e4, e5, e6⟩ := six
  obtain ⟨ap1, ap2⟩ := ap
  obtain ⟨va', rfl⟩ : ∃ a, va = .ref a := by obtain ⟨a, _, _, _, _, _, e, _⟩ := ha; exact ⟨a, e⟩
  obtain ⟨vb', rfl⟩ : ∃ a, vb = .ref a := by obtain ⟨a, _, _, _, _, _, e, _⟩ := hb; exact ⟨a, e⟩
  refine wpAny_call ?_
  (k_dflt (refine' code_def (binds := [(Str.ofString "self", .ref c)]) ?k1 ?k2 ?k3 ?k4 ?k5 ?kA ?kF ?kK ?k6 ?k7 ?k8 ?k9 ?kB ?_ ?c2 ?c3 ?c4 ?c5; (case kA | kF => exact rfl); (case kK => first | exact rfl | assumption); (case k1 | k2 | k3 | k4 | k5 => k_asm); (case k6 | k7 => k_is); (case k8 => ktr_room); (case k9 => exact BindsTo.of_eq rfl); (case c5 => decide); (case kB => exact locs rfl); (case c2 | c3 | c4 => exact rfl); k_whole; intro g' L' h' FG' F' N' B' X' T'; (try dsimp only); (try k_lift B'); (try k_fold)))
  k_steps
  all_goals (refine ret _ _ _ _ _ _ (by assumption) (by first | assumption | exact News.tl (by assumption) | exact News.tl (News.tl (by assumption)) | exact News.tl (News.tl (News.tl (by assumption))) | exact News.tl (News.tl (News.tl (News.tl (by assumption))))) (fun p hp => .tail _ (.tail _ hp)) ⟨?_, ?_⟩ ⟨_, _, _, _, _, _, rfl, .head _, .tail _ (.head _)⟩ <;> (intro p hp; rcases List.mem_cons.mp hp with rfl | hp; (k_ne); rcases List.mem_cons.mp hp with rfl | hp; (k_ne); first | exact ap1 p hp | exact ap2 p hp))
theorem redUn (o : Uop) (va : Value) (x : V) (t0 : Tok) (ho : o ≠ .pos) (B : Below A₀ base outer h₀) (F : Fr h₀ L s.heap m) (X : (KQ w.params).In h₀) (N : News h₀ L s.heap ((c, instObj 291 dc) :: (dc, cdict w tl pl vl sl k1 k2 k3 k4) :: (vl, listOf (us ++ [va]).toArray nv) :: (sl, listOf (ps ++ [Value.str o.word t0]).toArray ns) :: rest)) (T : Top viewQ looseQ mean mg mb h₀) (hk : cs.kind = .function) (six : Six c dc vl sl) (ap : Apart rest vl sl) (lu : us.length < 900) (lp : ps.length < 900)(ha : ValAt w rest va x)
    (hd : dp + 20 < recursionLimit) (hu : un + 220 < cLine)
    (ret : RedRet w h₀ L m s Q c dc vl sl tl pl k1 k2 k3 k4 us ps rest (oneB o x)) :
    wpAny (MQ w) (ktrTop dp un gd cn cs L a ccd cl outer) (call (.ref 253) [.ref c]) Q E s := by
  obtain ⟨e1, e2, e3, e4, e5, e6⟩ := six
  obtain ⟨ap1, ap2⟩ := ap
  obtain ⟨va', rfl⟩ : ∃ a, va = .ref a := by obtain ⟨a, _, _, _, _, _, e, _⟩ := ha; exact ⟨a, e⟩
  refine wpAny_call ?_
  (k_dflt (refine' code_def (binds := [(Str.ofString "self", .ref c)]) ?k1 ?k2 ?k3 ?k4 ?k5 ?kA ?kF ?kK ?k6 ?k7 ?k8 ?k9 ?kB ?_ ?c2 ?c3 ?c4 ?c5; (case kA | kF => exact rfl); (case kK => first | exact rfl | assumption); (case k1 | k2 | k3 | k4 | k5 => k_asm); (case k6 | k7 => k_is); (case k8 => ktr_room); (case k9 => exact BindsTo.of_eq rfl); (case c5 => decide); (case kB => exact locs rfl); (case c2 | c3 | c4 => exact rfl); k_whole; intro g' L' h' FG' F' N' B' X' T'; (try dsimp only); (try k_lift B'); (try k_fold)))
  k_steps
  all_goals (refine ret _ _ _ _ _ _ (by assumption) (by first | assumption | exact News.tl (by assumption) | exact News.tl (News.tl (by assumption)) | exact News.tl (News.tl (News.tl (by assumption))) | exact News.tl (News.tl (News.tl (News.tl (by assumption))))) (fun p hp => .tail _ (.tail _ hp)) ⟨?_, ?_⟩ ⟨_, _, _, _, _, _, rfl, .head _, .tail _ (.head _)⟩ <;> (intro p hp; rcases List.mem_cons.mp hp with rfl | hp; (k_ne); rcases List.mem_cons.mp hp with rfl | hp; (k_ne); first | exact ap1 p hp | exact ap2 p hp))
theorem redPlus (va : Value) (x : V) (t0 : Tok) (B : Below A₀ base outer h₀) (F : Fr h₀ L s.heap m) (X : (KQ w.params).In h₀) (N : News h₀ L s.heap ((c, instObj 291 dc) :: (dc, cdict w tl pl vl sl k1 k2 k3 k4) :: (vl, listOf (us ++ [va]).toArray nv) :: (sl, listOf (ps ++ [Value.str (Str.ofString "plus") t0]).toArray ns) :: rest)) (T : Top viewQ looseQ mean mg mb h₀) (hk : cs.kind = .function) (six : Six c dc vl sl) (ap : Apart rest vl sl) (lu : us.length < 900) (lp : ps.length < 900)(ha : ValAt w rest va x)
    (hd : dp + 20 < recursionLimit) (hu : un + 220 < cLine)
    (ret : RedRet w h₀ L m s Q c dc vl sl tl pl k1 k2 k3 k4 us ps rest x) :
    wpAny (MQ w) (ktrTop dp un gd cn cs L a ccd cl outer) (call (.ref 253) [.ref c]) Q E s := by
  obtain ⟨e1, e2, e3, e4, e5, e6⟩ := six
  obtain ⟨ap1, ap2⟩ := ap
  obtain ⟨va', rfl⟩ : ∃ a, va = .ref a := by obtain ⟨a, _, _, _, _, _, e, _⟩ := ha; exact ⟨a, e⟩
  refine wpAny_call ?_
  (k_dflt (refine' code_def (binds := [(Str.ofString "self", .ref c)]) ?k1 ?k2 ?k3 ?k4 ?k5 ?kA ?kF ?kK ?k6 ?k7 ?k8 ?k9 ?kB ?_ ?c2 ?c3 ?c4 ?c5; (case kA | kF => exact rfl); (case kK => first | exact rfl | assumption); (case k1 | k2 | k3 | k4 | k5 => k_asm); (case k6 | k7 => k_is); (case k8 => ktr_room); (case k9 => exact BindsTo.of_eq rfl); (case c5 => decide); (case kB => exact locs rfl); (case c2 | c3 | c4 => exact rfl); k_whole; intro g' L' h' FG' F' N' B' X' T'; (try dsimp only); (try k_lift B'); (try k_fold)))
  k_steps
  all_goals (exact ret _ _ _ _ _ _ (by assumption) (by first | assumption | exact News.tl (by assumption) | exact News.tl (News.tl (by assumption)) | exact News.tl (News.tl (News.tl (by assumption))) | exact News.tl (News.tl (News.tl (News.tl (by assumption))))) (fun p hp => hp) ⟨ap1, ap2⟩ ha)
theorem redCond (vt va vb : Value) (t x y : V) (t0 : Tok) (B : Below A₀ base outer h₀) (F : Fr h₀ L s.heap m) (X : (KQ w.params).In h₀) (N : News h₀ L s.heap ((c, instObj 291 dc) :: (dc, cdict w tl pl vl sl k1 k2 k3 k4) :: (vl, listOf (((us ++ [vt]) ++ [va]) ++ [vb]).toArray nv) :: (sl, listOf (ps ++ [Value.str (Str.ofString ":") t0]).toArray ns) :: rest)) (T : Top viewQ looseQ mean mg mb h₀) (hk : cs.kind = .function) (six : Six c dc vl sl) (ap : Apart rest vl sl) (lu : us.length < 900) (lp : ps.length < 900)(ht : ValAt w rest vt t) (ha : ValAt w rest va x) (hb : ValAt w rest vb y)
    (hd : dp + 20 < recursionLimit) (hu : un + 220 < cLine)
    (ret : RedRet w h₀ L m s Q c dc vl sl tl pl k1 k2 k3 k4 us ps rest (chosenB t x y)) :
    wpAny (MQ w) (ktrTop dp un gd cn cs L a ccd cl outer) (call (.ref 253) [.ref c]) Q E s := by
  obtain ⟨e1, e2, e3, e4, e5, e6⟩ := six
  obtain ⟨ap1, ap2⟩ := ap
  obtain ⟨vt', rfl⟩ : ∃ a, vt = .ref a := by obtain ⟨a, _, _, _, _, _, e, _⟩ := ht; exact ⟨a, e⟩
  obtain ⟨va', rfl⟩ : ∃ a, va = .ref a := by obtain ⟨a, _, _, _, _, _, e, _⟩ := ha; exact ⟨a, e⟩
  obtain ⟨vb', rfl⟩ : ∃ a, vb = .ref a := by obtain ⟨a, _, _, _, _, _, e, _⟩ := hb; exact ⟨a, e⟩
  refine wpAny_call ?_
  (k_dflt (refine' code_def (binds := [(Str.ofString "self", .ref c)]) ?k1 ?k2 ?k3 ?k4 ?k5 ?kA ?kF ?kK ?k6 ?k7 ?k8 ?k9 ?kB ?_ ?c2 ?c3 ?c4 ?c5; (case kA | kF => exact rfl); (case kK => first | exact rfl | assumption); (case k1 | k2 | k3 | k4 | k5 => k_asm); (case k6 | k7 => k_is); (case k8 => ktr_room); (case k9 => exact BindsTo.of_eq rfl); (case c5 => decide); (case kB => exact locs rfl); (case c2 | c3 | c4 => exact rfl); k_whole; intro g' L' h' FG' F' N' B' X' T'; (try dsimp only); (try k_lift B'); (try k_fold)))
  k_steps
  all_goals (refine ret _ _ _ _ _ _ (by assumption) (by first | assumption | exact News.tl (by assumption) | exact News.tl (News.tl (by assumption)) | exact News.tl (News.tl (News.tl (by assumption))) | exact News.tl (News.tl (News.tl (News.tl (by assumption))))) (fun p hp => .tail _ (.tail _ hp)) ⟨?_, ?_⟩ ⟨_, _, _, _, _, _, rfl, .head _, .tail _ (.head _)⟩ <;> (intro p hp; rcases List.mem_cons.mp hp with rfl | hp; (k_ne); rcases List.mem_cons.mp hp with rfl | hp; (k_ne); first | exact ap1 p hp | exact ap2 p hp))
end
end
end
section
open PySem PySem.W PyProof.Rows PySem.Calls PySem.Spec
section

inductive Pend where
  | bin (o : Bop) | un (o : Uop) | cond
def Pend.word : Pend → Str
  | .bin o => o.txt
  | .un o => o.word
  | .cond => Str.ofString ":"
def Pend.ar : Pend → Nat
  | .bin _ => 2
  | .un _ => 1
  | .cond => 3
def Pend.run : Pend → List V → V
  | .bin o, [x, y] => twoB o x y
  | .un o, [x] => oneB o x
  | .cond, [t, x, y] => chosenB t x y
  | _, _ => ⟨0, false, false⟩
inductive ValsAt (w : World) (rest : List (Addr × Obj)) : List Value → List V → Prop where
  | nil : ValsAt w rest [] []
  | cons {v : Value} {x : V} {vs : List Value} {xs : List V} : ValAt w rest v x → In33 x.n → ValsAt w rest vs xs → ValsAt w rest (v :: vs) (x :: xs)
theorem pend_par (p : Pend) : ([Str.ofString "(", Str.ofString "?"].any (· == p.word)) = false := by
  cases p with
  | bin o => exact bop_par o
  | un o => exact uop_par o
  | cond => rfl
local macro_rules | `(tactic| walk_at "call builtin:list.pop") => `(tactic| ((with_reducible show wpAny _ _ (call (Value.builtin _) [Value.ref _]) _ _ _); k_dflt (refine' pop_mine ?F ?N ?U ?z ?_; (case F => k_asm); (case N => k_asm); (case U => k_upd); (case z => (first | omega | (simp only [List.length_append, List.length_cons, List.length_nil]; omega)))); intro h' F' N'))
local macro_rules | `(tactic| walk_at "call builtin:list.append") => `(tactic| ((with_reducible show wpAny _ _ (call (Value.builtin _) [Value.ref _, _]) _ _ _); k_dflt (refine' append_mine ?F ?N ?U ?z ?_; (case F => k_asm); (case N => k_asm); (case U => k_upd); (case z => (first | omega | (simp only [List.length_append, List.length_cons, List.length_nil]; omega)))); intro h' F' N'))
local macro_rules | `(tactic| k_ne) => `(tactic| assumption)
local macro_rules | `(tactic| walk_at "compareOp Eq ref ref") => `(tactic| ((with_reducible show wpAny _ _ (compareOp CmpOp.Eq (Value.ref _) (Value.ref _)) _ _ _); k_dflt (refine' some_eq_nil ?N ?a ?b ?s ?u ?_; (case N => k_asm); (case a => k_mem); (case b => k_mem); (case s => assumption); (case u => units_room))))
local macro_rules | `(tactic| walk_at "compareOp NotEq ref ref") => `(tactic| ((with_reducible show wpAny _ _ (compareOp CmpOp.NotEq (Value.ref _) (Value.ref _)) _ _ _); k_dflt (refine' some_ne_nil ?N ?a ?b ?s ?u ?_; (case N => k_asm); (case a => k_mem); (case b => k_mem); (case s => assumption); (case u => units_room))))
local macro_rules | `(tactic| walk_at "subscriptTail") => `(tactic| ((with_reducible show wpAny _ _ (subscriptTail _ _ (Value.ref _) (Value.int (-1) _)) _ _ _); k_dflt (refine' last_item ?N ?a ?_; (case N => k_asm); (case a => k_mem))))
section
variable {w : World} {mean : ExcName → Option Value} {mg mb : Str → Option Value} {dp un : Nat} {gd : Option (List Code)} {cn : Str} {cs : Scope} {a : Addr} {ccd : Value} {cl : List (Str × Addr)} {outer : List Env} {A₀ : Around} {base h₀ : Heap} {L : Addr} {m : Str → Option Value} {news : List (Addr × Obj)} {s : Shared} {Q E : Value → Shared → Prop}
variable {c dc vl sl tl pl : Addr} {k1 k2 k3 k4 : Tok} {nv ns : Nat} {rest : List (Addr × Obj)} {us ps : List Value}
theorem redC (p : Pend) (args : List Value) (xs : List V) (t0 : Tok) (B : Below A₀ base outer h₀) (F : Fr h₀ L s.heap m) (X : (KQ w.params).In h₀) (N : News h₀ L s.heap ((c, instObj 291 dc) :: (dc, cdict w tl pl vl sl k1 k2 k3 k4) :: (vl, listOf (us ++ args).toArray nv) :: (sl, listOf (ps ++ [Value.str p.word t0]).toArray ns) :: rest)) (T : Top viewQ looseQ mean mg mb h₀) (hk : cs.kind = .function) (six : Six c dc vl sl) (ap : Apart rest vl sl) (lu : us.length < 900) (lp : ps.length < 900)(ha : ValsAt w rest args xs) (hn : xs.length = p.ar)
    (hd : dp + 20 < recursionLimit) (hu : un + 220 < cLine)
    (ret : RedRet w h₀ L m s Q c dc vl sl tl pl k1 k2 k3 k4 us ps rest (p.run xs)) :
    wpAny (MQ w) (ktrTop dp un gd cn cs L a ccd cl outer) (call (.ref 253) [.ref c]) Q E s := by
  cases p with
  | bin o =>
    cases ha with
    | nil => cases hn
    | cons a1 b1 ha => cases ha with
      | nil => cases hn
      | cons a2 b2 ha => cases ha with
        | cons a3 b3 ha => cases hn
        | nil =>
          rw [show ∀ a b : Value, us ++ [a, b] = (us ++ [a]) ++ [b] from fun a b => by simp] at N
          exact redBin o _ _ _ _ t0 B F X N T hk six ap lu lp a1 a2 b1 b2 hd hu ret
  | un o =>
    cases ha with
    | nil => cases hn
    | cons a1 b1 ha => cases ha with
      | cons a2 b2 ha => cases hn
      | nil => cases o with
        | pos => exact redPlus _ _ t0 B F X N T hk six ap lu lp a1 hd hu ret
        | neg => exact redUn .neg _ _ t0 (by intro q; cases q) B F X N T hk six ap lu lp a1 hd hu ret
        | not => exact redUn .not _ _ t0 (by intro q; cases q) B F X N T hk six ap lu lp a1 hd hu ret
        | inv => exact redUn .inv _ _ t0 (by intro q; cases q) B F X N T hk six ap lu lp a1 hd hu ret
  | cond =>
    cases ha with
    | nil => cases hn
    | cons a1 b1 ha => cases ha with
      | nil => cases hn
      | cons a2 b2 ha => cases ha with
        | nil => cases hn
        | cons a3 b3 ha => cases ha with
          | cons a4 b4 ha => cases hn
          | nil =>
            rw [show ∀ a b c : Value, us ++ [a, b, c] = ((us ++ [a]) ++ [b]) ++ [c] from fun a b c => by simp] at N
            exact redCond _ _ _ _ _ _ t0 B F X N T hk six ap lu lp a1 a2 a3 hd hu ret
theorem levC0  (B : Below A₀ base outer h₀) (F : Fr h₀ L s.heap m) (X : (KQ w.params).In h₀) (N : News h₀ L s.heap ((c, instObj 291 dc) :: (dc, cdict w tl pl vl sl k1 k2 k3 k4) :: (vl, listOf us.toArray nv) :: (sl, listOf [].toArray ns) :: rest)) (T : Top viewQ looseQ mean mg mb h₀) (hk : cs.kind = .function) (six : Six c dc vl sl) (ap : Apart rest vl sl) (lu : us.length < 900) (lp : ps.length < 900)
    (hd : dp + 20 < recursionLimit) (hu : un + 220 < cLine)
    (ret : ∀ (t : Tok) (h' : Heap) (tk' : Nat), Fr h₀ L h' m → News h₀ L h' ((c, instObj 291 dc) :: (dc, cdict w tl pl vl sl k1 k2 k3 k4) :: (vl, listOf us.toArray nv) :: (sl, listOf [].toArray ns) :: rest) → Q (.int (-1) t) { s with heap := h', toks := tk' }) :
    wpAny (MQ w) (ktrTop dp un gd cn cs L a ccd cl outer) (call (.ref 260) [.ref c]) Q E s := by
  obtain ⟨e1, e2, e3, e4, e5, e6⟩ := id six
  obtain ⟨ap1, ap2⟩ := id ap
  refine wpAny_call ?_
  (k_dflt (refine' code_def (binds := [(Str.ofString "self", .ref c)]) ?k1 ?k2 ?k3 ?k4 ?k5 ?kA ?kF ?kK ?k6 ?k7 ?k8 ?k9 ?kB ?_ ?c2 ?c3 ?c4 ?c5; (case kA | kF => exact rfl); (case kK => first | exact rfl | assumption); (case k1 | k2 | k3 | k4 | k5 => k_asm); (case k6 | k7 => k_is); (case k8 => ktr_room); (case k9 => exact BindsTo.of_eq rfl); (case c5 => decide); (case kB => exact locs rfl); (case c2 | c3 | c4 => exact rfl); k_whole; intro g' L' h' FG' F' N' B' X' T'; (try dsimp only); (try k_lift B'); (try k_fold)))
  k_steps
  all_goals (exact ret _ _ _ (by assumption) (by first | assumption | exact News.tl (by assumption) | exact News.tl (News.tl (by assumption)) | exact News.tl (News.tl (News.tl (by assumption))) | exact News.tl (News.tl (News.tl (News.tl (by assumption))))))
theorem levC1 (t0 : Tok) (ts : List Str) (B : Below A₀ base outer h₀) (F : Fr h₀ L s.heap m) (X : (KQ w.params).In h₀) (N : News h₀ L s.heap ((c, instObj 291 dc) :: (dc, cdict w tl pl vl sl k1 k2 k3 k4) :: (vl, listOf us.toArray nv) :: (sl, listOf (ps ++ [Value.str (Str.ofString "(") t0]).toArray ns) :: rest)) (T : Top viewQ looseQ mean mg mb h₀) (hk : cs.kind = .function) (six : Six c dc vl sl) (ap : Apart rest vl sl) (lu : us.length < 900) (lp : ps.length < 900)(hs : Strs (ps ++ [Value.str (Str.ofString "(") t0]) ts)
    (hd : dp + 20 < recursionLimit) (hu : un + 220 < cLine)
    (ret : ∀ (t : Tok) (h' : Heap) (tk' : Nat), Fr h₀ L h' m → News h₀ L h' ((c, instObj 291 dc) :: (dc, cdict w tl pl vl sl k1 k2 k3 k4) :: (vl, listOf us.toArray nv) :: (sl, listOf (ps ++ [Value.str (Str.ofString "(") t0]).toArray ns) :: rest) → Q (.int (-1) t) { s with heap := h', toks := tk' }) :
    wpAny (MQ w) (ktrTop dp un gd cn cs L a ccd cl outer) (call (.ref 260) [.ref c]) Q E s := by
  obtain ⟨e1, e2, e3, e4, e5, e6⟩ := id six
  obtain ⟨ap1, ap2⟩ := id ap
  refine wpAny_call ?_
  (k_dflt (refine' code_def (binds := [(Str.ofString "self", .ref c)]) ?k1 ?k2 ?k3 ?k4 ?k5 ?kA ?kF ?kK ?k6 ?k7 ?k8 ?k9 ?kB ?_ ?c2 ?c3 ?c4 ?c5; (case kA | kF => exact rfl); (case kK => first | exact rfl | assumption); (case k1 | k2 | k3 | k4 | k5 => k_asm); (case k6 | k7 => k_is); (case k8 => ktr_room); (case k9 => exact BindsTo.of_eq rfl); (case c5 => decide); (case kB => exact locs rfl); (case c2 | c3 | c4 => exact rfl); k_whole; intro g' L' h' FG' F' N' B' X' T'; (try dsimp only); (try k_lift B'); (try k_fold)))
  k_steps
  all_goals (exact ret _ _ _ (by assumption) (by first | assumption | exact News.tl (by assumption) | exact News.tl (News.tl (by assumption)) | exact News.tl (News.tl (News.tl (by assumption))) | exact News.tl (News.tl (News.tl (News.tl (by assumption))))))
local macro_rules | `(tactic| walk_at "call ref") => `(tactic| ((k_dflt (show wpAny _ _ (call (Value.ref 253) [Value.ref _]) _ _ _)); k_dflt (refine' redC _ _ _ _ ?k1 ?k2 ?k3 ?k4 ?k5 ?kK ?s1 ?s2 ?s3 ?s4 ?s5 ?s6  ?kd ?ku ?_; (case k1 => k_asm); (case k2 => k_asm); (case k3 => k_asm); (case k4 => exact (by first | assumption | exact News.tl (by assumption) | exact News.tl (News.tl (by assumption)) | exact News.tl (News.tl (News.tl (by assumption))) | exact News.tl (News.tl (News.tl (News.tl (by assumption)))))); (case k5 => k_asm); (case kK => first | exact rfl | assumption); (case s1 => assumption); (case s2 => assumption); (case s3 => assumption); (case s4 => assumption); (case s5 => assumption); (case s6 => assumption); (case kd => ktr_room); (case ku => ktr_units); k_whole; intro v' rest' nv' ns' h' tk' F' N' hs' ap' hv'); (k_dflt (obtain ⟨_, _⟩ := id ap')); (try dsimp only); (try k_fold)))
theorem rtA (t0 t1 t2 : Tok) (ts : List Str) (msg : Str) (B : Below A₀ base outer h₀) (F : Fr h₀ L s.heap m) (X : (KQ w.params).In h₀) (N : News h₀ L s.heap ((c, instObj 291 dc) :: (dc, cdict w tl pl vl sl k1 k2 k3 k4) :: (vl, listOf us.toArray nv) :: (sl, listOf (ps ++ [Value.str (Str.ofString "(") t0]).toArray ns) :: rest)) (T : Top viewQ looseQ mean mg mb h₀) (hk : cs.kind = .function) (six : Six c dc vl sl) (ap : Apart rest vl sl) (lu : us.length < 900) (lp : ps.length < 900)(hs : Strs (ps ++ [Value.str (Str.ofString "(") t0]) ts)
    (hd : dp + 20 < recursionLimit) (hu : un + 220 < cLine)
    (ret : ∀ (ns' : Nat) (h' : Heap) (tk' : Nat), Fr h₀ L h' m → News h₀ L h' ((c, instObj 291 dc) :: (dc, cdict w tl pl vl sl k1 k2 k3 k4) :: (vl, listOf us.toArray nv) :: (sl, listOf ps.toArray ns') :: rest) → Q .none { s with heap := h', toks := tk' }) :
    wpAny (MQ w) (ktrTop dp un gd cn cs L a ccd cl outer) (call (.ref 267) [.ref c, .str (Str.ofString "(") t1, .str msg t2]) Q E s := by
  obtain ⟨e1, e2, e3, e4, e5, e6⟩ := id six
  obtain ⟨ap1, ap2⟩ := id ap
  refine wpAny_call ?_
  (k_dflt (refine' code_def (binds := [(Str.ofString "self", .ref c), (Str.ofString "word", .str (Str.ofString "(") t1), (Str.ofString "fault", .str msg t2)]) ?k1 ?k2 ?k3 ?k4 ?k5 ?kA ?kF ?kK ?k6 ?k7 ?k8 ?k9 ?kB ?_ ?c2 ?c3 ?c4 ?c5; (case kA | kF => exact rfl); (case kK => first | exact rfl | assumption); (case k1 | k2 | k3 | k4 | k5 => k_asm); (case k6 | k7 => k_is); (case k8 => ktr_room); (case k9 => exact BindsTo.of_eq rfl); (case c5 => decide); (case kB => exact locs rfl); (case c2 | c3 | c4 => exact rfl); k_whole; intro g' L' h' FG' F' N' B' X' T'; (try dsimp only); (try k_lift B'); (try k_fold)))
  k_steps
  all_goals (exact ret _ _ _ (by assumption) (by first | assumption | exact News.tl (by assumption) | exact News.tl (News.tl (by assumption)) | exact News.tl (News.tl (News.tl (by assumption))) | exact News.tl (News.tl (News.tl (News.tl (by assumption))))))
theorem rtB (t0 t1 t2 : Tok) (ts : List Str) (msg : Str) (B : Below A₀ base outer h₀) (F : Fr h₀ L s.heap m) (X : (KQ w.params).In h₀) (N : News h₀ L s.heap ((c, instObj 291 dc) :: (dc, cdict w tl pl vl sl k1 k2 k3 k4) :: (vl, listOf us.toArray nv) :: (sl, listOf (ps ++ [Value.str (Str.ofString "?") t0]).toArray ns) :: rest)) (T : Top viewQ looseQ mean mg mb h₀) (hk : cs.kind = .function) (six : Six c dc vl sl) (ap : Apart rest vl sl) (lu : us.length < 900) (lp : ps.length < 900)(hs : Strs (ps ++ [Value.str (Str.ofString "?") t0]) ts)
    (hd : dp + 20 < recursionLimit) (hu : un + 220 < cLine)
    (ret : ∀ (ns' : Nat) (h' : Heap) (tk' : Nat), Fr h₀ L h' m → News h₀ L h' ((c, instObj 291 dc) :: (dc, cdict w tl pl vl sl k1 k2 k3 k4) :: (vl, listOf us.toArray nv) :: (sl, listOf ps.toArray ns') :: rest) → Q .none { s with heap := h', toks := tk' }) :
    wpAny (MQ w) (ktrTop dp un gd cn cs L a ccd cl outer) (call (.ref 267) [.ref c, .str (Str.ofString "?") t1, .str msg t2]) Q E s := by
  obtain ⟨e1, e2, e3, e4, e5, e6⟩ := id six
  obtain ⟨ap1, ap2⟩ := id ap
  refine wpAny_call ?_
  (k_dflt (refine' code_def (binds := [(Str.ofString "self", .ref c), (Str.ofString "word", .str (Str.ofString "?") t1), (Str.ofString "fault", .str msg t2)]) ?k1 ?k2 ?k3 ?k4 ?k5 ?kA ?kF ?kK ?k6 ?k7 ?k8 ?k9 ?kB ?_ ?c2 ?c3 ?c4 ?c5; (case kA | kF => exact rfl); (case kK => first | exact rfl | assumption); (case k1 | k2 | k3 | k4 | k5 => k_asm); (case k6 | k7 => k_is); (case k8 => ktr_room); (case k9 => exact BindsTo.of_eq rfl); (case c5 => decide); (case kB => exact locs rfl); (case c2 | c3 | c4 => exact rfl); k_whole; intro g' L' h' FG' F' N' B' X' T'; (try dsimp only); (try k_lift B'); (try k_fold)))
  k_steps
  all_goals (exact ret _ _ _ (by assumption) (by first | assumption | exact News.tl (by assumption) | exact News.tl (News.tl (by assumption)) | exact News.tl (News.tl (News.tl (by assumption))) | exact News.tl (News.tl (News.tl (News.tl (by assumption))))))
local macro_rules | `(tactic| walk_at "compareOp NotIn str ref") => `(tactic| ((with_reducible show wpAny _ _ (compareOp CmpOp.NotIn (Value.str (Pend.word _) _) (Value.ref _)) _ _ _); k_dflt (refine' notin_par ?N ?m (pend_par _) ?_; (case N => k_asm); (case m => k_mem))))
theorem rtC (p : Pend) (args : List Value) (xs : List V) (t0 t1 t2 t3 : Tok) (ts : List Str) (msg : Str) (B : Below A₀ base outer h₀) (F : Fr h₀ L s.heap m) (X : (KQ w.params).In h₀) (N : News h₀ L s.heap ((c, instObj 291 dc) :: (dc, cdict w tl pl vl sl k1 k2 k3 k4) :: (vl, listOf (us ++ args).toArray nv) :: (sl, listOf ((ps ++ [Value.str (Str.ofString "(") t0]) ++ [Value.str p.word t3]).toArray ns) :: rest)) (T : Top viewQ looseQ mean mg mb h₀) (hk : cs.kind = .function) (six : Six c dc vl sl) (ap : Apart rest vl sl) (lu : us.length < 900) (lp : ps.length < 900)(hs : Strs ((ps ++ [Value.str (Str.ofString "(") t0]) ++ [Value.str p.word t3]) (ts ++ [p.word])) (hs2 : Strs (ps ++ [Value.str (Str.ofString "(") t0]) ts) (lp2 : (ps ++ [Value.str (Str.ofString "(") t0]).length < 900) (ha : ValsAt w rest args xs) (hn : xs.length = p.ar)
    (hd : dp + 40 < recursionLimit) (hu : un + 440 < cLine)
    (ret : RedRet w h₀ L m s Q c dc vl sl tl pl k1 k2 k3 k4 us ps rest (p.run xs)) :
    wpAny (MQ w) (ktrTop dp un gd cn cs L a ccd cl outer) (call (.ref 267) [.ref c, .str (Str.ofString "(") t1, .str msg t2]) Q E s := by
  obtain ⟨e1, e2, e3, e4, e5, e6⟩ := id six
  obtain ⟨ap1, ap2⟩ := id ap
  refine wpAny_call ?_
  (k_dflt (refine' code_def (binds := [(Str.ofString "self", .ref c), (Str.ofString "word", .str (Str.ofString "(") t1), (Str.ofString "fault", .str msg t2)]) ?k1 ?k2 ?k3 ?k4 ?k5 ?kA ?kF ?kK ?k6 ?k7 ?k8 ?k9 ?kB ?_ ?c2 ?c3 ?c4 ?c5; (case kA | kF => exact rfl); (case kK => first | exact rfl | assumption); (case k1 | k2 | k3 | k4 | k5 => k_asm); (case k6 | k7 => k_is); (case k8 => ktr_room); (case k9 => exact BindsTo.of_eq rfl); (case c5 => decide); (case kB => exact locs rfl); (case c2 | c3 | c4 => exact rfl); k_whole; intro g' L' h' FG' F' N' B' X' T'; (try dsimp only); (try k_lift B'); (try k_fold)))
  k_steps
  all_goals (exact ret _ _ _ _ _ _ (by assumption) (by first | assumption | exact News.tl (by assumption) | exact News.tl (News.tl (by assumption)) | exact News.tl (News.tl (News.tl (by assumption))) | exact News.tl (News.tl (News.tl (News.tl (by assumption))))) (by assumption) (by assumption) (by assumption))
end
end
end
section
open PySem PySem.W PyProof.Rows PySem.Calls PySem.Spec
section

abbrev RedRetT (w : World) (h₀ : Heap) (L : Addr) (m : Str → Option Value) (s : Shared) (Q : Value → Shared → Prop) (c dc vl sl tl pl : Addr) (k1 k2 k3 k4 : Tok) (us ps : List Value) (rest : List (Addr × Obj)) (r : V) : Prop :=
  ∀ (v : Value) (rest' : List (Addr × Obj)) (nv' ns' : Nat) (h' : Heap) (tk' : Nat), Fr h₀ L h' m → News h₀ L h' ((c, instObj 291 dc) :: (dc, cdict w tl pl vl sl k1 k2 k3 k4) :: (vl, listOf (us ++ [v]).toArray nv') :: (sl, listOf ps.toArray ns') :: rest') → (∀ p ∈ rest, p ∈ rest') → Apart rest' vl sl → ValAt w rest' v r → Q (.bool true) { s with heap := h', toks := tk' }
theorem bop_close (o : Bop) : (o.txt == Str.ofString ")") = false := by cases o <;> rfl
theorem bop_quest (o : Bop) : (o.txt == Str.ofString "?") = false := by cases o <;> rfl
theorem bop_lev (o : Bop) : 1 ≤ o.lev := by cases o <;> decide
section
variable {prog : Program} {w : World} {A : Around} {E : Value → Shared → Prop} {s : Shared} {Q : Value → Shared → Prop} {t u : Tok} {K : Frag} {h₀ : Heap} {L a : Addr} {m : Str → Option Value} {es : Array DictEntry} {n : Nat} {x y : Str}
theorem eq_no (hn : (x == y) = false) (h : Q (.bool false) s) : wpAny (model prog w) A (compareOp .Eq (.str x t) (.str y u)) Q E s := eq_str (by rw [hn]; exact h)
theorem topNotIn_K {r : Option Value} (F : Fr h₀ L s.heap m) (X₀ : K.In h₀) (hl : K.lookup a = some ⟨.type "dict", none, .dict es n, #[]⟩) (hk : KeysLit w.params es.toList) (e : nsIn K a x = some r) (lo : (a == sysModules) = false)
    (h : Q (.bool (!r.isSome)) { s with toks := s.toks + 1 }) : wpAny (model prog w) A (compareOp .NotIn (.str x t) (.ref a)) Q E s :=
  wpAny_notIn_of (strKind_is prog w x t) lo (mapOf_K (prog := prog) (X₀.keeps F.keep) hl hk) (by rw [find_K hl e]; exact h)
end
theorem ge_lev {prog : Program} {w : World} {A : Around} {E : Value → Shared → Prop} {s : Shared} {Q : Value → Shared → Prop} {t u : Tok} (o : Bop) (h : Q (.bool false) s) : wpAny (model prog w) A (compareOp .GtE (.int (-1) t) (.int o.lev u)) Q E s :=
  ge_int (by rw [show decide (-1 ≥ o.lev) = false from decide_eq_false (by have := bop_lev o; omega)]; exact h)
local macro_rules | `(tactic| walk_at "call builtin:list.pop") => `(tactic| ((with_reducible show wpAny _ _ (call (Value.builtin _) [Value.ref _]) _ _ _); k_dflt (refine' pop_mine ?F ?N ?U ?z ?_; (case F => k_asm); (case N => k_asm); (case U => k_upd); (case z => (first | omega | (simp only [List.length_append, List.length_cons, List.length_nil]; omega)))); intro h' F' N'))
local macro_rules | `(tactic| walk_at "call builtin:list.append") => `(tactic| ((with_reducible show wpAny _ _ (call (Value.builtin _) [Value.ref _, _]) _ _ _); k_dflt (refine' append_mine ?F ?N ?U ?z ?_; (case F => k_asm); (case N => k_asm); (case U => k_upd); (case z => (first | omega | (simp only [List.length_append, List.length_cons, List.length_nil]; omega)))); intro h' F' N'))
local macro_rules | `(tactic| k_ne) => `(tactic| assumption)
local macro_rules | `(tactic| walk_at "compareOp Eq ref ref") => `(tactic| ((with_reducible show wpAny _ _ (compareOp CmpOp.Eq (Value.ref _) (Value.ref _)) _ _ _); k_dflt (refine' some_eq_nil ?N ?a ?b ?s ?u ?_; (case N => k_asm); (case a => k_mem); (case b => k_mem); (case s => assumption); (case u => units_room))))
local macro_rules | `(tactic| walk_at "compareOp NotEq ref ref") => `(tactic| ((with_reducible show wpAny _ _ (compareOp CmpOp.NotEq (Value.ref _) (Value.ref _)) _ _ _); k_dflt (refine' some_ne_nil ?N ?a ?b ?s ?u ?_; (case N => k_asm); (case a => k_mem); (case b => k_mem); (case s => assumption); (case u => units_room))))
local macro_rules | `(tactic| walk_at "subscriptTail") => `(tactic| ((with_reducible show wpAny _ _ (subscriptTail _ _ (Value.ref _) (Value.int (-1) _)) _ _ _); k_dflt (refine' last_item ?N ?a ?_; (case N => k_asm); (case a => k_mem))))
local macro_rules | `(tactic| walk_at "compareOp Eq str str") => `(tactic| ((with_reducible show wpAny _ _ (compareOp CmpOp.Eq (Value.str (Bop.txt _) _) _) _ _ _); first | refine eq_no (bop_colon _) ?_ | refine eq_no (bop_close _) ?_ | refine eq_no (bop_quest _) ?_))
local macro_rules | `(tactic| walk_at "compareOp NotIn str ref") => `(tactic| ((with_reducible show wpAny _ _ (compareOp CmpOp.NotIn (Value.str _ _) (Value.ref 146)) _ _ _); k_dflt (refine' topNotIn_K ?F ?X ?l ?k ?e ?o ?_; (case F => k_asm); (case X => k_asm); (case l => k_is); (case k => k_keys); (case e => first | exact lev_at _ _ | exact uop_lev _ _); (case o => decide)); (try dsimp only [Option.isSome, Bool.not_true])))
local macro_rules | `(tactic| walk_at "compareOp GtE int int") => `(tactic| ((with_reducible show wpAny _ _ (compareOp CmpOp.GtE (Value.int (-1) _) (Value.int (Bop.lev _) _)) _ _ _); refine ge_lev _ ?_))
local macro_rules | `(tactic| walk_at "subscriptTail") => `(tactic| ((with_reducible show wpAny _ _ (subscriptTail _ _ (Value.ref 146) (Value.str (Bop.txt _) _)) _ _ _); k_dflt (refine' topItem_K ?F ?X ?l ?k (lev_at _ _) ?_; (case F => k_asm); (case X => k_asm); (case l => k_is); (case k => k_keys))))
local macro_rules | `(tactic| walk_at "call ref") => `(tactic| ((k_dflt (show wpAny _ _ (call (Value.ref 260) [Value.ref _]) _ _ _)); k_dflt (refine' levC0  ?k1 ?k2 ?k3 ?k4 ?k5 ?kK ?s1 ?s2 ?s3 ?s4  ?kd ?ku ?_; (case k1 => k_asm); (case k2 => k_asm); (case k3 => k_asm); (case k4 => exact (by first | assumption  | exact News.tl (by assumption) | exact News.tl (News.tl (by assumption)) | exact News.tl (News.tl (News.tl (by assumption))) | exact News.tl (News.tl (News.tl (News.tl (by assumption)))) | exact News.tl (News.tl (News.tl (News.tl (News.tl (by assumption))))) | exact News.tl (News.tl (News.tl (News.tl (News.tl (News.tl (by assumption)))))) | exact News.tl (News.tl (News.tl (News.tl (News.tl (News.tl (News.tl (by assumption))))))))); (case k5 => k_asm); (case kK => first | exact rfl | assumption); (case s1 => assumption); (case s2 => assumption); (case s3 => assumption); (case s4 => assumption); (case kd => ktr_room); (case ku => ktr_units); k_whole; intro t' h' tk' F' N'); (try dsimp only); (try k_fold)))
local macro_rules | `(tactic| walk_at "call ref") => `(tactic| ((k_dflt (show wpAny _ _ (call (Value.ref 260) [Value.ref _]) _ _ _)); k_dflt (refine' levC1 _ _ ?k1 ?k2 ?k3 ?k4 ?k5 ?kK ?s1 ?s2 ?s3 ?s4 ?s5  ?kd ?ku ?_; (case k1 => k_asm); (case k2 => k_asm); (case k3 => k_asm); (case k4 => exact (by first | assumption  | exact News.tl (by assumption) | exact News.tl (News.tl (by assumption)) | exact News.tl (News.tl (News.tl (by assumption))) | exact News.tl (News.tl (News.tl (News.tl (by assumption)))) | exact News.tl (News.tl (News.tl (News.tl (News.tl (by assumption))))) | exact News.tl (News.tl (News.tl (News.tl (News.tl (News.tl (by assumption)))))) | exact News.tl (News.tl (News.tl (News.tl (News.tl (News.tl (News.tl (by assumption))))))))); (case k5 => k_asm); (case kK => first | exact rfl | assumption); (case s1 => assumption); (case s2 => assumption); (case s3 => assumption); (case s4 => assumption); (case s5 => assumption); (case kd => ktr_room); (case ku => ktr_units); k_whole; intro t' h' tk' F' N'); (try dsimp only); (try k_fold)))
local macro_rules | `(tactic| walk_at "call ref") => `(tactic| ((k_dflt (show wpAny _ _ (call (Value.ref 267) [Value.ref _, Value.str (Str.ofString "(") _, Value.str _ _]) _ _ _)); k_dflt (refine' rtA _ _ _ _ _ ?k1 ?k2 ?k3 ?k4 ?k5 ?kK ?s1 ?s2 ?s3 ?s4 ?s5  ?kd ?ku ?_; (case k1 => k_asm); (case k2 => k_asm); (case k3 => k_asm); (case k4 => exact (by first | assumption  | exact News.tl (by assumption) | exact News.tl (News.tl (by assumption)) | exact News.tl (News.tl (News.tl (by assumption))) | exact News.tl (News.tl (News.tl (News.tl (by assumption)))) | exact News.tl (News.tl (News.tl (News.tl (News.tl (by assumption))))) | exact News.tl (News.tl (News.tl (News.tl (News.tl (News.tl (by assumption)))))) | exact News.tl (News.tl (News.tl (News.tl (News.tl (News.tl (News.tl (by assumption))))))))); (case k5 => k_asm); (case kK => first | exact rfl | assumption); (case s1 => assumption); (case s2 => assumption); (case s3 => assumption); (case s4 => assumption); (case s5 => assumption); (case kd => ktr_room); (case ku => ktr_units); k_whole; intro ns' h' tk' F' N'); (try dsimp only); (try k_fold)))
local macro_rules | `(tactic| walk_at "call ref") => `(tactic| ((k_dflt (show wpAny _ _ (call (Value.ref 267) [Value.ref _, Value.str (Str.ofString "?") _, Value.str _ _]) _ _ _)); k_dflt (refine' rtB _ _ _ _ _ ?k1 ?k2 ?k3 ?k4 ?k5 ?kK ?s1 ?s2 ?s3 ?s4 ?s5  ?kd ?ku ?_; (case k1 => k_asm); (case k2 => k_asm); (case k3 => k_asm); (case k4 => exact (by first | assumption  | exact News.tl (by assumption) | exact News.tl (News.tl (by assumption)) | exact News.tl (News.tl (News.tl (by assumption))) | exact News.tl (News.tl (News.tl (News.tl (by assumption)))) | exact News.tl (News.tl (News.tl (News.tl (News.tl (by assumption))))) | exact News.tl (News.tl (News.tl (News.tl (News.tl (News.tl (by assumption)))))) | exact News.tl (News.tl (News.tl (News.tl (News.tl (News.tl (News.tl (by assumption))))))))); (case k5 => k_asm); (case kK => first | exact rfl | assumption); (case s1 => assumption); (case s2 => assumption); (case s3 => assumption); (case s4 => assumption); (case s5 => assumption); (case kd => ktr_room); (case ku => ktr_units); k_whole; intro ns' h' tk' F' N'); (try dsimp only); (try k_fold)))
local macro_rules | `(tactic| walk_at "call ref") => `(tactic| ((k_dflt (show wpAny _ _ (call (Value.ref 267) [Value.ref _, Value.str (Str.ofString "(") _, Value.str _ _]) _ _ _)); k_dflt (refine' rtC _ _ _ _ _ _ _ _ _ ?k1 ?k2 ?k3 ?k4 ?k5 ?kK ?s1 ?s2 ?s3 ?s4 ?s5 ?s6 ?s7 ?s8 ?s9  ?kd ?ku ?_; (case k1 => k_asm); (case k2 => k_asm); (case k3 => k_asm); (case k4 => exact (by first | assumption  | exact News.tl (by assumption) | exact News.tl (News.tl (by assumption)) | exact News.tl (News.tl (News.tl (by assumption))) | exact News.tl (News.tl (News.tl (News.tl (by assumption)))) | exact News.tl (News.tl (News.tl (News.tl (News.tl (by assumption))))) | exact News.tl (News.tl (News.tl (News.tl (News.tl (News.tl (by assumption)))))) | exact News.tl (News.tl (News.tl (News.tl (News.tl (News.tl (News.tl (by assumption))))))))); (case k5 => k_asm); (case kK => first | exact rfl | assumption); (case s1 => assumption); (case s2 => assumption); (case s3 => assumption); (case s4 => assumption); (case s5 => assumption); (case s6 => assumption); (case s7 => assumption); (case s8 => assumption); (case s9 => assumption); (case kd => ktr_room); (case ku => ktr_units); k_whole; intro v' rest' nv' ns' h' tk' F' N' hs' ap' hv'); (k_dflt (obtain ⟨_, _⟩ := id ap')); (try dsimp only); (try k_fold)))
section
variable {w : World} {mean : ExcName → Option Value} {mg mb : Str → Option Value} {dp un : Nat} {gd : Option (List Code)} {cn : Str} {cs : Scope} {a : Addr} {ccd : Value} {cl : List (Str × Addr)} {outer : List Env} {A₀ : Around} {base h₀ : Heap} {L : Addr} {m : Str → Option Value} {news : List (Addr × Obj)} {s : Shared} {Q E : Value → Shared → Prop}
variable {c dc vl sl tl pl : Addr} {k1 k2 k3 k4 : Tok} {nv ns : Nat} {rest : List (Addr × Obj)} {us ps : List Value}
theorem goClose0 (tok dtok : Addr) (file : Str) (line : Int) (j1 j2 j3 j4 u1 u2 u3 u4 t0 : Tok) (ts : List Str) (B : Below A₀ base outer h₀) (F : Fr h₀ L s.heap m) (X : (KQ w.params).In h₀) (N : News h₀ L s.heap ((c, instObj 291 dc) :: (dc, cdict w tl pl vl sl k1 k2 k3 k4) :: (vl, listOf us.toArray nv) :: (sl, listOf (ps ++ [Value.str (Str.ofString "(") t0]).toArray ns) :: rest)) (T : Top viewQ looseQ mean mg mb h₀) (hk : cs.kind = .function) (six : Six c dc vl sl) (ap : Apart rest vl sl) (lu : us.length < 900) (lp : ps.length < 900)(ht1 : (tok, instObj 106 dtok) ∈ rest) (ht2 : (dtok, tdict w (Str.ofString "punct") (Str.ofString ")") file line j1 j2 j3 j4 u1 u2 u3 u4) ∈ rest)(hs : Strs (ps ++ [Value.str (Str.ofString "(") t0]) ts)
    (hd : dp + 60 < recursionLimit) (hu : un + 700 < cLine)
    (ret : ∀ (nv' ns' : Nat) (t : Tok) (h' : Heap) (tk' : Nat), Fr h₀ L h' m → News h₀ L h' ((c, instObj 291 dc) :: (dc, cdict w tl pl vl sl k1 k2 k3 k4) :: (vl, listOf us.toArray nv') :: (sl, listOf ps.toArray ns') :: rest) → Q (.bool true) { s with heap := h', toks := tk' }) :
    wpAny (MQ w) (ktrTop dp un gd cn cs L a ccd cl outer) (call (.ref 281) [.ref c, .ref tok]) Q E s := by
  obtain ⟨e1, e2, e3, e4, e5, e6⟩ := id six
  obtain ⟨ap1, ap2⟩ := id ap
  have e7 : @Ne Nat tok vl := ap1 _ ht1
  have e8 : @Ne Nat tok sl := ap2 _ ht1
  have e9 : @Ne Nat dtok vl := ap1 _ ht2
  have e10 : @Ne Nat dtok sl := ap2 _ ht2
  have N2 := News.dup (News.dup N (.tail _ (.tail _ (.tail _ (.tail _ ht2))))) (.tail _ (.tail _ (.tail _ (.tail _ (.tail _ ht1)))))
  refine wpAny_call ?_
  (k_dflt (refine' code_def (binds := [(Str.ofString "self", .ref c), (Str.ofString "token", .ref tok)]) ?k1 ?k2 ?k3 ?k4 ?k5 ?kA ?kF ?kK ?k6 ?k7 ?k8 ?k9 ?kB ?_ ?c2 ?c3 ?c4 ?c5; (case kA | kF => exact rfl); (case kK => first | exact rfl | assumption); (case k1 | k2 | k3 | k4 | k5 => k_asm); (case k6 | k7 => k_is); (case k8 => ktr_room); (case k9 => exact BindsTo.of_eq rfl); (case c5 => decide); (case kB => exact locs rfl); (case c2 | c3 | c4 => exact rfl); k_whole; intro g' L' h' FG' F' N' B' X' T'; (try dsimp only); (try k_lift B'); (try k_fold)))
  k_steps
  all_goals first | (exact ret _ _ 0 _ _ (by assumption) (by first | assumption  | exact News.tl (by assumption) | exact News.tl (News.tl (by assumption)) | exact News.tl (News.tl (News.tl (by assumption))) | exact News.tl (News.tl (News.tl (News.tl (by assumption)))) | exact News.tl (News.tl (News.tl (News.tl (News.tl (by assumption))))) | exact News.tl (News.tl (News.tl (News.tl (News.tl (News.tl (by assumption)))))) | exact News.tl (News.tl (News.tl (News.tl (News.tl (News.tl (News.tl (by assumption))))))))) | (exact ret _ _ _ _ _ (by assumption) (by first | assumption  | exact News.tl (by assumption) | exact News.tl (News.tl (by assumption)) | exact News.tl (News.tl (News.tl (by assumption))) | exact News.tl (News.tl (News.tl (News.tl (by assumption)))) | exact News.tl (News.tl (News.tl (News.tl (News.tl (by assumption))))) | exact News.tl (News.tl (News.tl (News.tl (News.tl (News.tl (by assumption)))))) | exact News.tl (News.tl (News.tl (News.tl (News.tl (News.tl (News.tl (by assumption)))))))))
theorem goColon (tok dtok : Addr) (file : Str) (line : Int) (j1 j2 j3 j4 u1 u2 u3 u4 t0 : Tok) (ts : List Str) (B : Below A₀ base outer h₀) (F : Fr h₀ L s.heap m) (X : (KQ w.params).In h₀) (N : News h₀ L s.heap ((c, instObj 291 dc) :: (dc, cdict w tl pl vl sl k1 k2 k3 k4) :: (vl, listOf us.toArray nv) :: (sl, listOf (ps ++ [Value.str (Str.ofString "?") t0]).toArray ns) :: rest)) (T : Top viewQ looseQ mean mg mb h₀) (hk : cs.kind = .function) (six : Six c dc vl sl) (ap : Apart rest vl sl) (lu : us.length < 900) (lp : ps.length < 900)(ht1 : (tok, instObj 106 dtok) ∈ rest) (ht2 : (dtok, tdict w (Str.ofString "punct") (Str.ofString ":") file line j1 j2 j3 j4 u1 u2 u3 u4) ∈ rest)(hs : Strs (ps ++ [Value.str (Str.ofString "?") t0]) ts)
    (hd : dp + 60 < recursionLimit) (hu : un + 700 < cLine)
    (ret : ∀ (nv' ns' : Nat) (t : Tok) (h' : Heap) (tk' : Nat), Fr h₀ L h' m → News h₀ L h' ((c, instObj 291 dc) :: (dc, cdict w tl pl vl sl k1 k2 k3 k4) :: (vl, listOf us.toArray nv') :: (sl, listOf (ps ++ [Value.str (Str.ofString ":") t]).toArray ns') :: rest) → Q (.bool false) { s with heap := h', toks := tk' }) :
    wpAny (MQ w) (ktrTop dp un gd cn cs L a ccd cl outer) (call (.ref 281) [.ref c, .ref tok]) Q E s := by
  obtain ⟨e1, e2, e3, e4, e5, e6⟩ := id six
  obtain ⟨ap1, ap2⟩ := id ap
  have e7 : @Ne Nat tok vl := ap1 _ ht1
  have e8 : @Ne Nat tok sl := ap2 _ ht1
  have e9 : @Ne Nat dtok vl := ap1 _ ht2
  have e10 : @Ne Nat dtok sl := ap2 _ ht2
  have N2 := News.dup (News.dup N (.tail _ (.tail _ (.tail _ (.tail _ ht2))))) (.tail _ (.tail _ (.tail _ (.tail _ (.tail _ ht1)))))
  refine wpAny_call ?_
  (k_dflt (refine' code_def (binds := [(Str.ofString "self", .ref c), (Str.ofString "token", .ref tok)]) ?k1 ?k2 ?k3 ?k4 ?k5 ?kA ?kF ?kK ?k6 ?k7 ?k8 ?k9 ?kB ?_ ?c2 ?c3 ?c4 ?c5; (case kA | kF => exact rfl); (case kK => first | exact rfl | assumption); (case k1 | k2 | k3 | k4 | k5 => k_asm); (case k6 | k7 => k_is); (case k8 => ktr_room); (case k9 => exact BindsTo.of_eq rfl); (case c5 => decide); (case kB => exact locs rfl); (case c2 | c3 | c4 => exact rfl); k_whole; intro g' L' h' FG' F' N' B' X' T'; (try dsimp only); (try k_lift B'); (try k_fold)))
  k_steps
  all_goals first | (exact ret _ _ 0 _ _ (by assumption) (by first | assumption  | exact News.tl (by assumption) | exact News.tl (News.tl (by assumption)) | exact News.tl (News.tl (News.tl (by assumption))) | exact News.tl (News.tl (News.tl (News.tl (by assumption)))) | exact News.tl (News.tl (News.tl (News.tl (News.tl (by assumption))))) | exact News.tl (News.tl (News.tl (News.tl (News.tl (News.tl (by assumption)))))) | exact News.tl (News.tl (News.tl (News.tl (News.tl (News.tl (News.tl (by assumption))))))))) | (exact ret _ _ _ _ _ (by assumption) (by first | assumption  | exact News.tl (by assumption) | exact News.tl (News.tl (by assumption)) | exact News.tl (News.tl (News.tl (by assumption))) | exact News.tl (News.tl (News.tl (News.tl (by assumption)))) | exact News.tl (News.tl (News.tl (News.tl (News.tl (by assumption))))) | exact News.tl (News.tl (News.tl (News.tl (News.tl (News.tl (by assumption)))))) | exact News.tl (News.tl (News.tl (News.tl (News.tl (News.tl (News.tl (by assumption)))))))))
theorem goQuest0 (tok dtok : Addr) (file : Str) (line : Int) (j1 j2 j3 j4 u1 u2 u3 u4 t0 : Tok) (ts : List Str) (B : Below A₀ base outer h₀) (F : Fr h₀ L s.heap m) (X : (KQ w.params).In h₀) (N : News h₀ L s.heap ((c, instObj 291 dc) :: (dc, cdict w tl pl vl sl k1 k2 k3 k4) :: (vl, listOf us.toArray nv) :: (sl, listOf [].toArray ns) :: rest)) (T : Top viewQ looseQ mean mg mb h₀) (hk : cs.kind = .function) (six : Six c dc vl sl) (ap : Apart rest vl sl) (lu : us.length < 900) (lp : ps.length < 900)(ht1 : (tok, instObj 106 dtok) ∈ rest) (ht2 : (dtok, tdict w (Str.ofString "punct") (Str.ofString "?") file line j1 j2 j3 j4 u1 u2 u3 u4) ∈ rest)
    (hd : dp + 60 < recursionLimit) (hu : un + 700 < cLine)
    (ret : ∀ (nv' ns' : Nat) (t : Tok) (h' : Heap) (tk' : Nat), Fr h₀ L h' m → News h₀ L h' ((c, instObj 291 dc) :: (dc, cdict w tl pl vl sl k1 k2 k3 k4) :: (vl, listOf us.toArray nv') :: (sl, listOf ([] ++ [Value.str (Str.ofString "?") t]).toArray ns') :: rest) → Q (.bool false) { s with heap := h', toks := tk' }) :
    wpAny (MQ w) (ktrTop dp un gd cn cs L a ccd cl outer) (call (.ref 281) [.ref c, .ref tok]) Q E s := by
  obtain ⟨e1, e2, e3, e4, e5, e6⟩ := id six
  obtain ⟨ap1, ap2⟩ := id ap
  have e7 : @Ne Nat tok vl := ap1 _ ht1
  have e8 : @Ne Nat tok sl := ap2 _ ht1
  have e9 : @Ne Nat dtok vl := ap1 _ ht2
  have e10 : @Ne Nat dtok sl := ap2 _ ht2
  have N2 := News.dup (News.dup N (.tail _ (.tail _ (.tail _ (.tail _ ht2))))) (.tail _ (.tail _ (.tail _ (.tail _ (.tail _ ht1)))))
  refine wpAny_call ?_
  (k_dflt (refine' code_def (binds := [(Str.ofString "self", .ref c), (Str.ofString "token", .ref tok)]) ?k1 ?k2 ?k3 ?k4 ?k5 ?kA ?kF ?kK ?k6 ?k7 ?k8 ?k9 ?kB ?_ ?c2 ?c3 ?c4 ?c5; (case kA | kF => exact rfl); (case kK => first | exact rfl | assumption); (case k1 | k2 | k3 | k4 | k5 => k_asm); (case k6 | k7 => k_is); (case k8 => ktr_room); (case k9 => exact BindsTo.of_eq rfl); (case c5 => decide); (case kB => exact locs rfl); (case c2 | c3 | c4 => exact rfl); k_whole; intro g' L' h' FG' F' N' B' X' T'; (try dsimp only); (try k_lift B'); (try k_fold)))
  k_steps
  all_goals first | (exact ret _ _ 0 _ _ (by assumption) (by first | assumption  | exact News.tl (by assumption) | exact News.tl (News.tl (by assumption)) | exact News.tl (News.tl (News.tl (by assumption))) | exact News.tl (News.tl (News.tl (News.tl (by assumption)))) | exact News.tl (News.tl (News.tl (News.tl (News.tl (by assumption))))) | exact News.tl (News.tl (News.tl (News.tl (News.tl (News.tl (by assumption)))))) | exact News.tl (News.tl (News.tl (News.tl (News.tl (News.tl (News.tl (by assumption))))))))) | (exact ret _ _ _ _ _ (by assumption) (by first | assumption  | exact News.tl (by assumption) | exact News.tl (News.tl (by assumption)) | exact News.tl (News.tl (News.tl (by assumption))) | exact News.tl (News.tl (News.tl (News.tl (by assumption)))) | exact News.tl (News.tl (News.tl (News.tl (News.tl (by assumption))))) | exact News.tl (News.tl (News.tl (News.tl (News.tl (News.tl (by assumption)))))) | exact News.tl (News.tl (News.tl (News.tl (News.tl (News.tl (News.tl (by assumption)))))))))
theorem goQuest1 (tok dtok : Addr) (file : Str) (line : Int) (j1 j2 j3 j4 u1 u2 u3 u4 t0 : Tok) (ts : List Str) (B : Below A₀ base outer h₀) (F : Fr h₀ L s.heap m) (X : (KQ w.params).In h₀) (N : News h₀ L s.heap ((c, instObj 291 dc) :: (dc, cdict w tl pl vl sl k1 k2 k3 k4) :: (vl, listOf us.toArray nv) :: (sl, listOf (ps ++ [Value.str (Str.ofString "(") t0]).toArray ns) :: rest)) (T : Top viewQ looseQ mean mg mb h₀) (hk : cs.kind = .function) (six : Six c dc vl sl) (ap : Apart rest vl sl) (lu : us.length < 900) (lp : ps.length < 900)(ht1 : (tok, instObj 106 dtok) ∈ rest) (ht2 : (dtok, tdict w (Str.ofString "punct") (Str.ofString "?") file line j1 j2 j3 j4 u1 u2 u3 u4) ∈ rest)(hs : Strs (ps ++ [Value.str (Str.ofString "(") t0]) ts)
    (hd : dp + 60 < recursionLimit) (hu : un + 700 < cLine)
    (ret : ∀ (nv' ns' : Nat) (t : Tok) (h' : Heap) (tk' : Nat), Fr h₀ L h' m → News h₀ L h' ((c, instObj 291 dc) :: (dc, cdict w tl pl vl sl k1 k2 k3 k4) :: (vl, listOf us.toArray nv') :: (sl, listOf ((ps ++ [Value.str (Str.ofString "(") t0]) ++ [Value.str (Str.ofString "?") t]).toArray ns') :: rest) → Q (.bool false) { s with heap := h', toks := tk' }) :
    wpAny (MQ w) (ktrTop dp un gd cn cs L a ccd cl outer) (call (.ref 281) [.ref c, .ref tok]) Q E s := by
  obtain ⟨e1, e2, e3, e4, e5, e6⟩ := id six
  obtain ⟨ap1, ap2⟩ := id ap
  have e7 : @Ne Nat tok vl := ap1 _ ht1
  have e8 : @Ne Nat tok sl := ap2 _ ht1
  have e9 : @Ne Nat dtok vl := ap1 _ ht2
  have e10 : @Ne Nat dtok sl := ap2 _ ht2
  have N2 := News.dup (News.dup N (.tail _ (.tail _ (.tail _ (.tail _ ht2))))) (.tail _ (.tail _ (.tail _ (.tail _ (.tail _ ht1)))))
  refine wpAny_call ?_
  (k_dflt (refine' code_def (binds := [(Str.ofString "self", .ref c), (Str.ofString "token", .ref tok)]) ?k1 ?k2 ?k3 ?k4 ?k5 ?kA ?kF ?kK ?k6 ?k7 ?k8 ?k9 ?kB ?_ ?c2 ?c3 ?c4 ?c5; (case kA | kF => exact rfl); (case kK => first | exact rfl | assumption); (case k1 | k2 | k3 | k4 | k5 => k_asm); (case k6 | k7 => k_is); (case k8 => ktr_room); (case k9 => exact BindsTo.of_eq rfl); (case c5 => decide); (case kB => exact locs rfl); (case c2 | c3 | c4 => exact rfl); k_whole; intro g' L' h' FG' F' N' B' X' T'; (try dsimp only); (try k_lift B'); (try k_fold)))
  k_steps
  all_goals first | (exact ret _ _ 0 _ _ (by assumption) (by first | assumption  | exact News.tl (by assumption) | exact News.tl (News.tl (by assumption)) | exact News.tl (News.tl (News.tl (by assumption))) | exact News.tl (News.tl (News.tl (News.tl (by assumption)))) | exact News.tl (News.tl (News.tl (News.tl (News.tl (by assumption))))) | exact News.tl (News.tl (News.tl (News.tl (News.tl (News.tl (by assumption)))))) | exact News.tl (News.tl (News.tl (News.tl (News.tl (News.tl (News.tl (by assumption))))))))) | (exact ret _ _ _ _ _ (by assumption) (by first | assumption  | exact News.tl (by assumption) | exact News.tl (News.tl (by assumption)) | exact News.tl (News.tl (News.tl (by assumption))) | exact News.tl (News.tl (News.tl (News.tl (by assumption)))) | exact News.tl (News.tl (News.tl (News.tl (News.tl (by assumption))))) | exact News.tl (News.tl (News.tl (News.tl (News.tl (News.tl (by assumption)))))) | exact News.tl (News.tl (News.tl (News.tl (News.tl (News.tl (News.tl (by assumption)))))))))
theorem goBin0 (tok dtok : Addr) (file : Str) (line : Int) (j1 j2 j3 j4 u1 u2 u3 u4 t0 : Tok) (ts : List Str)(o : Bop) (B : Below A₀ base outer h₀) (F : Fr h₀ L s.heap m) (X : (KQ w.params).In h₀) (N : News h₀ L s.heap ((c, instObj 291 dc) :: (dc, cdict w tl pl vl sl k1 k2 k3 k4) :: (vl, listOf us.toArray nv) :: (sl, listOf [].toArray ns) :: rest)) (T : Top viewQ looseQ mean mg mb h₀) (hk : cs.kind = .function) (six : Six c dc vl sl) (ap : Apart rest vl sl) (lu : us.length < 900) (lp : ps.length < 900)(ht1 : (tok, instObj 106 dtok) ∈ rest) (ht2 : (dtok, tdict w (Str.ofString "punct") o.txt file line j1 j2 j3 j4 u1 u2 u3 u4) ∈ rest)
    (hd : dp + 60 < recursionLimit) (hu : un + 700 < cLine)
    (ret : ∀ (nv' ns' : Nat) (t : Tok) (h' : Heap) (tk' : Nat), Fr h₀ L h' m → News h₀ L h' ((c, instObj 291 dc) :: (dc, cdict w tl pl vl sl k1 k2 k3 k4) :: (vl, listOf us.toArray nv') :: (sl, listOf ([] ++ [Value.str o.txt t]).toArray ns') :: rest) → Q (.bool false) { s with heap := h', toks := tk' }) :
    wpAny (MQ w) (ktrTop dp un gd cn cs L a ccd cl outer) (call (.ref 281) [.ref c, .ref tok]) Q E s := by
  obtain ⟨e1, e2, e3, e4, e5, e6⟩ := id six
  obtain ⟨ap1, ap2⟩ := id ap
  have e7 : @Ne Nat tok vl := ap1 _ ht1
  have e8 : @Ne Nat tok sl := ap2 _ ht1
  have e9 : @Ne Nat dtok vl := ap1 _ ht2
  have e10 : @Ne Nat dtok sl := ap2 _ ht2
  have N2 := News.dup (News.dup N (.tail _ (.tail _ (.tail _ (.tail _ ht2))))) (.tail _ (.tail _ (.tail _ (.tail _ (.tail _ ht1)))))
  refine wpAny_call ?_
  (k_dflt (refine' code_def (binds := [(Str.ofString "self", .ref c), (Str.ofString "token", .ref tok)]) ?k1 ?k2 ?k3 ?k4 ?k5 ?kA ?kF ?kK ?k6 ?k7 ?k8 ?k9 ?kB ?_ ?c2 ?c3 ?c4 ?c5; (case kA | kF => exact rfl); (case kK => first | exact rfl | assumption); (case k1 | k2 | k3 | k4 | k5 => k_asm); (case k6 | k7 => k_is); (case k8 => ktr_room); (case k9 => exact BindsTo.of_eq rfl); (case c5 => decide); (case kB => exact locs rfl); (case c2 | c3 | c4 => exact rfl); k_whole; intro g' L' h' FG' F' N' B' X' T'; (try dsimp only); (try k_lift B'); (try k_fold)))
  k_steps
  all_goals first | (exact ret _ _ 0 _ _ (by assumption) (by first | assumption  | exact News.tl (by assumption) | exact News.tl (News.tl (by assumption)) | exact News.tl (News.tl (News.tl (by assumption))) | exact News.tl (News.tl (News.tl (News.tl (by assumption)))) | exact News.tl (News.tl (News.tl (News.tl (News.tl (by assumption))))) | exact News.tl (News.tl (News.tl (News.tl (News.tl (News.tl (by assumption)))))) | exact News.tl (News.tl (News.tl (News.tl (News.tl (News.tl (News.tl (by assumption))))))))) | (exact ret _ _ _ _ _ (by assumption) (by first | assumption  | exact News.tl (by assumption) | exact News.tl (News.tl (by assumption)) | exact News.tl (News.tl (News.tl (by assumption))) | exact News.tl (News.tl (News.tl (News.tl (by assumption)))) | exact News.tl (News.tl (News.tl (News.tl (News.tl (by assumption))))) | exact News.tl (News.tl (News.tl (News.tl (News.tl (News.tl (by assumption)))))) | exact News.tl (News.tl (News.tl (News.tl (News.tl (News.tl (News.tl (by assumption)))))))))
theorem goBin1 (tok dtok : Addr) (file : Str) (line : Int) (j1 j2 j3 j4 u1 u2 u3 u4 t0 : Tok) (ts : List Str)(o : Bop) (B : Below A₀ base outer h₀) (F : Fr h₀ L s.heap m) (X : (KQ w.params).In h₀) (N : News h₀ L s.heap ((c, instObj 291 dc) :: (dc, cdict w tl pl vl sl k1 k2 k3 k4) :: (vl, listOf us.toArray nv) :: (sl, listOf (ps ++ [Value.str (Str.ofString "(") t0]).toArray ns) :: rest)) (T : Top viewQ looseQ mean mg mb h₀) (hk : cs.kind = .function) (six : Six c dc vl sl) (ap : Apart rest vl sl) (lu : us.length < 900) (lp : ps.length < 900)(ht1 : (tok, instObj 106 dtok) ∈ rest) (ht2 : (dtok, tdict w (Str.ofString "punct") o.txt file line j1 j2 j3 j4 u1 u2 u3 u4) ∈ rest)(hs : Strs (ps ++ [Value.str (Str.ofString "(") t0]) ts)
    (hd : dp + 60 < recursionLimit) (hu : un + 700 < cLine)
    (ret : ∀ (nv' ns' : Nat) (t : Tok) (h' : Heap) (tk' : Nat), Fr h₀ L h' m → News h₀ L h' ((c, instObj 291 dc) :: (dc, cdict w tl pl vl sl k1 k2 k3 k4) :: (vl, listOf us.toArray nv') :: (sl, listOf ((ps ++ [Value.str (Str.ofString "(") t0]) ++ [Value.str o.txt t]).toArray ns') :: rest) → Q (.bool false) { s with heap := h', toks := tk' }) :
    wpAny (MQ w) (ktrTop dp un gd cn cs L a ccd cl outer) (call (.ref 281) [.ref c, .ref tok]) Q E s := by
  obtain ⟨e1, e2, e3, e4, e5, e6⟩ := id six
  obtain ⟨ap1, ap2⟩ := id ap
  have e7 : @Ne Nat tok vl := ap1 _ ht1
  have e8 : @Ne Nat tok sl := ap2 _ ht1
  have e9 : @Ne Nat dtok vl := ap1 _ ht2
  have e10 : @Ne Nat dtok sl := ap2 _ ht2
  have N2 := News.dup (News.dup N (.tail _ (.tail _ (.tail _ (.tail _ ht2))))) (.tail _ (.tail _ (.tail _ (.tail _ (.tail _ ht1)))))
  refine wpAny_call ?_
  (k_dflt (refine' code_def (binds := [(Str.ofString "self", .ref c), (Str.ofString "token", .ref tok)]) ?k1 ?k2 ?k3 ?k4 ?k5 ?kA ?kF ?kK ?k6 ?k7 ?k8 ?k9 ?kB ?_ ?c2 ?c3 ?c4 ?c5; (case kA | kF => exact rfl); (case kK => first | exact rfl | assumption); (case k1 | k2 | k3 | k4 | k5 => k_asm); (case k6 | k7 => k_is); (case k8 => ktr_room); (case k9 => exact BindsTo.of_eq rfl); (case c5 => decide); (case kB => exact locs rfl); (case c2 | c3 | c4 => exact rfl); k_whole; intro g' L' h' FG' F' N' B' X' T'; (try dsimp only); (try k_lift B'); (try k_fold)))
  k_steps
  all_goals first | (exact ret _ _ 0 _ _ (by assumption) (by first | assumption  | exact News.tl (by assumption) | exact News.tl (News.tl (by assumption)) | exact News.tl (News.tl (News.tl (by assumption))) | exact News.tl (News.tl (News.tl (News.tl (by assumption)))) | exact News.tl (News.tl (News.tl (News.tl (News.tl (by assumption))))) | exact News.tl (News.tl (News.tl (News.tl (News.tl (News.tl (by assumption)))))) | exact News.tl (News.tl (News.tl (News.tl (News.tl (News.tl (News.tl (by assumption))))))))) | (exact ret _ _ _ _ _ (by assumption) (by first | assumption  | exact News.tl (by assumption) | exact News.tl (News.tl (by assumption)) | exact News.tl (News.tl (News.tl (by assumption))) | exact News.tl (News.tl (News.tl (News.tl (by assumption)))) | exact News.tl (News.tl (News.tl (News.tl (News.tl (by assumption))))) | exact News.tl (News.tl (News.tl (News.tl (News.tl (News.tl (by assumption)))))) | exact News.tl (News.tl (News.tl (News.tl (News.tl (News.tl (News.tl (by assumption)))))))))
theorem goClose1 (tok dtok : Addr) (file : Str) (line : Int) (j1 j2 j3 j4 u1 u2 u3 u4 t0 t3 : Tok) (ts : List Str) (p : Pend) (args : List Value) (xs : List V) (B : Below A₀ base outer h₀) (F : Fr h₀ L s.heap m) (X : (KQ w.params).In h₀) (N : News h₀ L s.heap ((c, instObj 291 dc) :: (dc, cdict w tl pl vl sl k1 k2 k3 k4) :: (vl, listOf (us ++ args).toArray nv) :: (sl, listOf ((ps ++ [Value.str (Str.ofString "(") t0]) ++ [Value.str p.word t3]).toArray ns) :: rest)) (T : Top viewQ looseQ mean mg mb h₀) (hk : cs.kind = .function) (six : Six c dc vl sl) (ap : Apart rest vl sl) (lu : us.length < 900) (lp : ps.length < 900)(ht1 : (tok, instObj 106 dtok) ∈ rest) (ht2 : (dtok, tdict w (Str.ofString "punct") (Str.ofString ")") file line j1 j2 j3 j4 u1 u2 u3 u4) ∈ rest)(hs : Strs ((ps ++ [Value.str (Str.ofString "(") t0]) ++ [Value.str p.word t3]) (ts ++ [p.word])) (hs2 : Strs (ps ++ [Value.str (Str.ofString "(") t0]) ts) (lp2 : (ps ++ [Value.str (Str.ofString "(") t0]).length < 900) (ha : ValsAt w rest args xs) (hn : xs.length = p.ar)
    (hd : dp + 60 < recursionLimit) (hu : un + 900 < cLine)
    (ret : RedRetT w h₀ L m s Q c dc vl sl tl pl k1 k2 k3 k4 us ps rest (p.run xs)) :
    wpAny (MQ w) (ktrTop dp un gd cn cs L a ccd cl outer) (call (.ref 281) [.ref c, .ref tok]) Q E s := by
  obtain ⟨e1, e2, e3, e4, e5, e6⟩ := id six
  obtain ⟨ap1, ap2⟩ := id ap
  have e7 : @Ne Nat tok vl := ap1 _ ht1
  have e8 : @Ne Nat tok sl := ap2 _ ht1
  have e9 : @Ne Nat dtok vl := ap1 _ ht2
  have e10 : @Ne Nat dtok sl := ap2 _ ht2
  have N2 := News.dup (News.dup N (.tail _ (.tail _ (.tail _ (.tail _ ht2))))) (.tail _ (.tail _ (.tail _ (.tail _ (.tail _ ht1)))))
  refine wpAny_call ?_
  (k_dflt (refine' code_def (binds := [(Str.ofString "self", .ref c), (Str.ofString "token", .ref tok)]) ?k1 ?k2 ?k3 ?k4 ?k5 ?kA ?kF ?kK ?k6 ?k7 ?k8 ?k9 ?kB ?_ ?c2 ?c3 ?c4 ?c5; (case kA | kF => exact rfl); (case kK => first | exact rfl | assumption); (case k1 | k2 | k3 | k4 | k5 => k_asm); (case k6 | k7 => k_is); (case k8 => ktr_room); (case k9 => exact BindsTo.of_eq rfl); (case c5 => decide); (case kB => exact locs rfl); (case c2 | c3 | c4 => exact rfl); k_whole; intro g' L' h' FG' F' N' B' X' T'; (try dsimp only); (try k_lift B'); (try k_fold)))
  k_steps
  all_goals (exact ret _ _ _ _ _ _ (by assumption) (by first | assumption  | exact News.tl (by assumption) | exact News.tl (News.tl (by assumption)) | exact News.tl (News.tl (News.tl (by assumption))) | exact News.tl (News.tl (News.tl (News.tl (by assumption)))) | exact News.tl (News.tl (News.tl (News.tl (News.tl (by assumption))))) | exact News.tl (News.tl (News.tl (News.tl (News.tl (News.tl (by assumption)))))) | exact News.tl (News.tl (News.tl (News.tl (News.tl (News.tl (News.tl (by assumption)))))))) (by assumption) (by assumption) (by assumption))
end
end
end
end
section
open PySem PySem.W PyProof.Rows PySem.Calls PySem.Spec
section
def InvF (P : Params) (s : Array (Int × Value) × Nat × SetTable) (cs : List (Str × Nat)) : Prop := Inv s cs ∧ s.1.toList.Perm (cs.map fun c => (PyData.keyHash P c.1, Value.str c.1 c.2))
theorem invF_start (P : Params) : InvF P (start0 P) [] := ⟨inv_start P, by simp [start0]⟩
theorem invF_add {P : Params} {s : Array (Int × Value) × Nat × SetTable} {cs : List (Str × Nat)} (I : InvF P s cs) (c : Str × Nat) : InvF P (addS P s c) (c :: cs) := by
  refine ⟨inv_add I.1 _ c, ?_⟩
  obtain ⟨_, a3⟩ := layNew_fits s.2.2 s.1 (PyData.keyHash P c.1) (.str c.1 c.2)
  have hp := a3.trans (I.2.cons (PyData.keyHash P c.1, Value.str c.1 c.2))
  unfold addS addT
  dsimp only
  split
  · obtain ⟨_, b3⟩ := relayAll_fits { (layNew s.2.2 s.1 (PyData.keyHash P c.1) (.str c.1 c.2)).2.1 with plain := false } (layNew s.2.2 s.1 (PyData.keyHash P c.1) (.str c.1 c.2)).1 (SetTable.grown (layNew s.2.2 s.1 (PyData.keyHash P c.1) (.str c.1 c.2)).1.size)
    exact b3.trans hp
  · exact hp
theorem invF_adds (P : Params) : ∀ (l : List (Str × Nat)) (s : Array (Int × Value) × Nat × SetTable) (cs : List (Str × Nat)), InvF P s cs → InvF P (l.foldl (addS P) s) (l.reverse ++ cs)
  | [], _, _, I => I
  | c :: l, s, cs, I => by
    have := invF_adds P l _ _ (invF_add I c)
    rw [List.reverse_cons, List.append_assoc]
    exact this
theorem InvF.obj {w : World} {s : Array (Int × Value) × Nat × SetTable} {cs : List (Str × Nat)} (I : InvF w.params s cs) (prog : Program) :
    (setObj s).SetObjOf (strKind prog w) (fun k => cs.any (fun c => c.1 == k)) cs.length := by
  have hm : ∀ e, e ∈ s.1.toList ↔ ∃ c ∈ cs, (PyData.keyHash w.params c.1, Value.str c.1 c.2) = e := fun e => by rw [I.2.mem_iff, List.mem_map]
  refine ⟨⟨rfl, rfl, rfl⟩, s.1, s.2.1, s.2.2, rfl, fun e he => ?_, fun k => ?_, I.1.size_eq, ?_⟩
  · obtain ⟨c, _, rfl⟩ := (hm e).mp he
    exact ⟨⟨c.1, isStrOf_self c.1 c.2, rfl⟩, rfl⟩
  · rw [List.any_eq_true]
    constructor
    · rintro ⟨c, hc, h⟩
      refine ⟨_, (hm _).mpr ⟨c, hc, rfl⟩, ?_⟩
      have : c.1 = k := by simpa using h
      subst this
      exact isStrOf_self c.1 c.2
    · rintro ⟨e, he, h⟩
      obtain ⟨c, hc, rfl⟩ := (hm e).mp he
      refine ⟨c, hc, ?_⟩
      have q : Value.isStrOf k (Value.str c.1 c.2) = true := h
      exact (Value.isStrOf_inj _ _ _ q (isStrOf_self c.1 c.2)).symm ▸ (by simp)
  · simp [SetTable.fits, I.1.size, I.1.fill]
theorem InvF.led {P : Params} {s : Array (Int × Value) × Nat × SetTable} {cs : List (Str × Nat)} (I : InvF P s cs) : InvF P (s.1, s.2.1 + 1, { s.2.2 with led := false }) cs := ⟨⟨I.1.size, I.1.fill, I.1.perm⟩, I.2⟩
theorem obj_D (prog : Program) (w : World) : (setD w.params).SetObjOf (strKind prog w) (fun k => csD.reverse.any (fun c => c.1 == k)) csD.reverse.length := InvF.obj (by have := invF_adds w.params csD _ _ (invF_start w.params); rw [List.append_nil] at this; exact this) prog
theorem obj_H (prog : Program) (w : World) : (setH w.params).SetObjOf (strKind prog w) (fun k => csH.reverse.any (fun c => c.1 == k)) csH.reverse.length := InvF.obj (by have := invF_adds w.params csH _ _ (invF_start w.params); rw [List.append_nil] at this; exact this) prog
theorem obj_O (prog : Program) (w : World) : (setO w.params).SetObjOf (strKind prog w) (fun k => csO.reverse.any (fun c => c.1 == k)) csO.reverse.length := InvF.obj (by have := invF_adds w.params csO _ _ (invF_start w.params); rw [List.append_nil] at this; exact this) prog
theorem obj_S (prog : Program) (w : World) : (setS w.params).SetObjOf (strKind prog w) (fun k => csS.reverse.any (fun c => c.1 == k)) csS.reverse.length := by
  have I : InvF w.params (addsOf w.params csS) csS.reverse := by have := invF_adds w.params csS _ _ (invF_start w.params); rw [List.append_nil] at this; exact this
  exact I.led.obj prog
end
end
section
open PySem PySem.W PyProof.Rows PySem.Calls PySem.Spec
theorem vdrop1 {h₀ h : Heap} {L : Addr} {p : Addr × Obj} {rest news : List (Addr × Obj)} (N : News h₀ L h (p :: rest)) (hs : ∀ r ∈ news, r ∈ rest) : News h₀ L h (p :: news) :=
  cb_drop N fun r hr => by
    rcases List.mem_cons.mp hr with rfl | hr
    · exact .head _
    · exact .tail _ (hs r hr)
section
variable {prog : Program} {w : World} {A : Around} {E : Value → Shared → Prop} {s : Shared} {env : Env} {h₀ : Heap} {x : Str} {body : List Stmt} {Q : Flow → Shared → Prop}
def SEnd (h₀ : Heap) (L : Addr) (s₁ : Shared) (I : Addr) (own : List (Addr × Obj)) (rest : (Str → Option Value) → List (Addr × Obj) → Prop) (s₂ : Shared) : Prop :=
  ∃ h' tk m' n', s₂ = { s₁ with heap := h', toks := tk } ∧ Fr h₀ L h' m' ∧ News h₀ L h' (own ++ n') ∧ (∀ p ∈ n', p.1 ≠ I) ∧ rest m' n'
def SPost (h₀ : Heap) (L : Addr) (s₁ : Shared) (I : Addr) (own : List (Addr × Obj)) (rest : (Str → Option Value) → List (Addr × Obj) → Prop) (Q : Flow → Shared → Prop) (f : Flow) (s₂ : Shared) : Prop :=
  match f with
  | .ret v => Q (.ret v) s₂
  | .brk => Q .next s₂
  | _ => SEnd h₀ L s₁ I own rest s₂
def SRest (prog : Program) (w : World) (A : Around) (E : Value → Shared → Prop) (h₀ : Heap) (env : Env) (x : Str) (body : List Stmt) (Q : Flow → Shared → Prop) (s : Shared) (I : Addr) : List Str → (Str → Option Value) → List (Addr × Obj) → Prop
  | [], m, news => ∀ h tk, Fr h₀ env.locals h m → News h₀ env.locals h news → Q .next { s with heap := h, toks := tk }
  | k :: r, m, news => ∀ (own : List (Addr × Obj)) (u : Tok) h tk, Fr h₀ env.locals h (fun y => if y = x then some (.str k u) else m y) → News h₀ env.locals h (own ++ news) →
      wpAny (model prog w) A (execs body env) (SPost h₀ env.locals { s with heap := h, toks := tk } I own (fun m' n' => SRest prog w A E h₀ env x body Q s I r m' n') Q) E { s with heap := h, toks := tk }
theorem SRest.zero {I : Addr} {m : Str → Option Value} {news : List (Addr × Obj)} (h : ∀ h tk, Fr h₀ env.locals h m → News h₀ env.locals h news → Q .next { s with heap := h, toks := tk }) :
    SRest prog w A E h₀ env x body Q s I [] m news := h
theorem SRest.succ {I : Addr} {k : Str} {r : List Str} {m : Str → Option Value} {news : List (Addr × Obj)}
    (h : ∀ (own : List (Addr × Obj)) (u : Tok) h tk, Fr h₀ env.locals h (fun y => if y = x then some (.str k u) else m y) → News h₀ env.locals h (own ++ news) →
      wpAny (model prog w) A (execs body env) (SPost h₀ env.locals { s with heap := h, toks := tk } I own (fun m' n' => SRest prog w A E h₀ env x body Q s I r m' n') Q) E { s with heap := h, toks := tk }) :
    SRest prog w A E h₀ env x body Q s I (k :: r) m news := h
theorem iter_signs {y : Str} {t : Tok} {ks : List Str} {m₀ : Str → Option Value} {news : List (Addr × Obj)} (hh : A.handled = none) (F : Fr h₀ env.locals s.heap m₀) (N : News h₀ env.locals s.heap news) (hk : signs y = ks)
    (rest₀ : ∀ I : Addr, (∀ p ∈ news, p.1 ≠ I) → SRest prog w A E h₀ env x body Q s I ks m₀ news) :
    wpAny (model prog w) A (pyIter (.str y t)) (fun it s₂ => LoopAtV prog w A h₀ env x body Q E it s₂) E s := by
  subst hk
  refine wpAny_pyIter_str fun o St W hst => ?_
  have W' := W A hh
  have hlen : y.cps.size = (signs y).length := by rw [signs_length]; rfl
  rw [hlen] at W'
  have below : ∀ p ∈ news, p.1 < s.heap.objs.size := fun p hp => Heap.lt_size (N p hp).1
  have start := rest₀ s.heap.objs.size fun p hp => Nat.ne_of_lt (below p hp)
  have hnew := next_is_new F
  refine ⟨s.heap.objs.size, _, _, (signs y).length, _, _, m₀, news, fun i m₁ n₁ => SRest prog w A E h₀ env x body Q s s.heap.objs.size ((signs y).drop i) m₁ n₁, rfl, W', ?_, ?_, ?_, hst, F.push _, fun p hp => ⟨Heap.get?_push_of_some _ (N p hp).1, (N p hp).2⟩, start, ?_, ?_⟩
  · intro hm
    exact absurd F.ns.lt ((List.mem_singleton.mp hm) ▸ Nat.lt_irrefl _)
  · intro b hb
    rw [List.mem_singleton.mp hb]; exact hnew
  · intro p hp hI
    exact absurd (below p hp) ((List.mem_singleton.mp hI) ▸ Nat.lt_irrefl _)
  · rintro i v m₁ n₁ s₁ own ⟨h₁, t₁, rfl⟩ hi hP hJ hoff hown hget hall hst₁ F₁ N₁
    obtain ⟨c, u, hc, rfl⟩ := hP
    have hg := signs_get hc
    have hd : (signs y).drop i = ⟨#[c]⟩ :: (signs y).drop (i + 1) := by
      rw [List.drop_eq_getElem_cons hi]
      congr 1
      exact Option.some.inj ((List.getElem?_eq_getElem hi).symm.trans hg)
    rw [hd] at hJ
    refine wpAny_mono (hJ own u h₁ t₁ F₁ N₁) (fun f s₂ p => ?_) fun _ _ e => e
    have fin : SEnd h₀ env.locals { s with heap := h₁, toks := t₁ } s.heap.objs.size own (fun m' n' => SRest prog w A E h₀ env x body Q s s.heap.objs.size ((signs y).drop (i + 1)) m' n') s₂ →
        LoopStepU h₀ env.locals [s.heap.objs.size] own (fun m₁ n₁ => SRest prog w A E h₀ env x body Q s s.heap.objs.size ((signs y).drop (i + 1)) m₁ n₁) { s with heap := h₁, toks := t₁ } .next s₂ := by
      rintro ⟨h', tk, m', n', e, F', N', ho, r⟩
      exact ⟨rfl, h', tk, m', n', e, F', N', fun p hp hI => ho p hp (List.mem_singleton.mp hI), r⟩
    cases f with
    | ret v => exact .ret p
    | brk => exact .brk p
    | next => exact .next (fin p)
    | cont => exact .cont (fin p)
  · rintro h' tk m' n' F' N' _ hJ
    have hJ' : SRest prog w A E h₀ env x body Q s s.heap.objs.size ((signs y).drop (signs y).length) m' n' := hJ
    rw [List.drop_length] at hJ'
    exact hJ' h' tk F' N'
end
end
section
open PySem PySem.W PyProof.Rows PySem.Calls PySem.Spec
section
theorem typeCall_int_2 (a b : Value) : checkTypeCall "int" ⟨[a, b], []⟩ = pure () := by kernel_rfl
theorem newCall_int_2 (a b : Value) : checkBuiltinCall "int.__new__" ⟨[.type "int", a, b], []⟩ = pure () := by kernel_rfl
theorem call_int_base {prog : Program} {w : World} {A : Around} {E : Value → Shared → Prop} {s : Shared} {x b : Value} {n : Int} {Q : Value → Shared → Prop} (g : Gives (Builtin.«int.__new__» ⟨[.type "int", x, b], []⟩) (.int n)) (h : Q (.int n s.toks) { s with toks := s.toks + 1 }) :
    wpAny (model prog w) A (call (.type "int") [x, b]) Q E s :=
  callType_new F.called_int F.newNe_int (typeCall_int_2 x b) (newCall_int_2 x b) (fun obj => F.args_object_init_3 obj x b) F.entry_int_new g.meets (show (Made.int n).post _ s from ⟨rfl, h⟩)
theorem int_idx : typeLookup (.type "int") "__index__" = pure (some (.builtin "int.__index__")) := by rw [typeLookup_type, builtinLookup_eq_fast]; kernel_rfl
theorem wp_congr {M : Model} {A : Around} {E : Value → Shared → Prop} {s : Shared} {α : Type} {m m' : Sem α} {Q : α → Shared → Prop} (e : m = m') (h : wpAny M A m' Q E s) : wpAny M A m Q E s := e ▸ h
theorem gi (x : Str) (b n : Int) (u v : Tok) (hb : ¬ ((b != 0 && decide (b < 2) || decide (b > 36)) = true)) (e : (int_private% "intFromText") (.str x u) (if (x.cps.all fun x => decide (x < 128)) = true then x.cps.toList else Unicode.numberText x.cps.toList) b.toNat = mkInt n) : Gives (Builtin.«int.__new__» ⟨[.type "int", .str x u, .int b v], []⟩) (.int n) :=
  .of_wp fun M A E s Q h => by
    obtain ⟨hp, g, d, tk, os⟩ := s
    have f1 := F.conv_sub_int
    have f2 := F.madeHere_int
    repeat (any_goals (first
      | assumption
      | (with_reducible refine wpAny_ite_false hb ?_)
      | ((with_reducible show wpAny _ _ ((int_private% "intFromText") _ _ _) _ _ _); refine wp_congr e ?_)
      | wp_step))
    all_goals first | exact ⟨_, rfl, h⟩ | skip
theorem gi_0_16 (u v : Tok) : Gives (Builtin.«int.__new__» ⟨[.type "int", .str (Str.ofString "0") u, .int 16 v], []⟩) (.int 0) := gi _ 16 0 u v (by decide) (by kernel_rfl)
theorem gi_1_16 (u v : Tok) : Gives (Builtin.«int.__new__» ⟨[.type "int", .str (Str.ofString "1") u, .int 16 v], []⟩) (.int 1) := gi _ 16 1 u v (by decide) (by kernel_rfl)
theorem gi_2_16 (u v : Tok) : Gives (Builtin.«int.__new__» ⟨[.type "int", .str (Str.ofString "2") u, .int 16 v], []⟩) (.int 2) := gi _ 16 2 u v (by decide) (by kernel_rfl)
theorem gi_3_16 (u v : Tok) : Gives (Builtin.«int.__new__» ⟨[.type "int", .str (Str.ofString "3") u, .int 16 v], []⟩) (.int 3) := gi _ 16 3 u v (by decide) (by kernel_rfl)
theorem gi_4_16 (u v : Tok) : Gives (Builtin.«int.__new__» ⟨[.type "int", .str (Str.ofString "4") u, .int 16 v], []⟩) (.int 4) := gi _ 16 4 u v (by decide) (by kernel_rfl)
theorem gi_5_16 (u v : Tok) : Gives (Builtin.«int.__new__» ⟨[.type "int", .str (Str.ofString "5") u, .int 16 v], []⟩) (.int 5) := gi _ 16 5 u v (by decide) (by kernel_rfl)
theorem gi_6_16 (u v : Tok) : Gives (Builtin.«int.__new__» ⟨[.type "int", .str (Str.ofString "6") u, .int 16 v], []⟩) (.int 6) := gi _ 16 6 u v (by decide) (by kernel_rfl)
theorem gi_7_16 (u v : Tok) : Gives (Builtin.«int.__new__» ⟨[.type "int", .str (Str.ofString "7") u, .int 16 v], []⟩) (.int 7) := gi _ 16 7 u v (by decide) (by kernel_rfl)
theorem gi_8_16 (u v : Tok) : Gives (Builtin.«int.__new__» ⟨[.type "int", .str (Str.ofString "8") u, .int 16 v], []⟩) (.int 8) := gi _ 16 8 u v (by decide) (by kernel_rfl)
theorem gi_9_16 (u v : Tok) : Gives (Builtin.«int.__new__» ⟨[.type "int", .str (Str.ofString "9") u, .int 16 v], []⟩) (.int 9) := gi _ 16 9 u v (by decide) (by kernel_rfl)
theorem gi_0_0 (u v : Tok) : Gives (Builtin.«int.__new__» ⟨[.type "int", .str (Str.ofString "0") u, .int 0 v], []⟩) (.int 0) := gi _ 0 0 u v (by decide) (by kernel_rfl)
theorem gi_1_0 (u v : Tok) : Gives (Builtin.«int.__new__» ⟨[.type "int", .str (Str.ofString "1") u, .int 0 v], []⟩) (.int 1) := gi _ 0 1 u v (by decide) (by kernel_rfl)
theorem gi_2_0 (u v : Tok) : Gives (Builtin.«int.__new__» ⟨[.type "int", .str (Str.ofString "2") u, .int 0 v], []⟩) (.int 2) := gi _ 0 2 u v (by decide) (by kernel_rfl)
theorem gi_3_0 (u v : Tok) : Gives (Builtin.«int.__new__» ⟨[.type "int", .str (Str.ofString "3") u, .int 0 v], []⟩) (.int 3) := gi _ 0 3 u v (by decide) (by kernel_rfl)
theorem gi_7_0 (u v : Tok) : Gives (Builtin.«int.__new__» ⟨[.type "int", .str (Str.ofString "7") u, .int 0 v], []⟩) (.int 7) := gi _ 0 7 u v (by decide) (by kernel_rfl)
theorem gi_5_0 (u v : Tok) : Gives (Builtin.«int.__new__» ⟨[.type "int", .str (Str.ofString "5") u, .int 0 v], []⟩) (.int 5) := gi _ 0 5 u v (by decide) (by kernel_rfl)
theorem gi_4294967295_0 (u v : Tok) : Gives (Builtin.«int.__new__» ⟨[.type "int", .str (Str.ofString "4294967295") u, .int 0 v], []⟩) (.int 4294967295) := gi _ 0 4294967295 u v (by decide) (by kernel_rfl)
theorem gi_2147483647_0 (u v : Tok) : Gives (Builtin.«int.__new__» ⟨[.type "int", .str (Str.ofString "2147483647") u, .int 0 v], []⟩) (.int 2147483647) := gi _ 0 2147483647 u v (by decide) (by kernel_rfl)
theorem gi_0x80000000_0 (u v : Tok) : Gives (Builtin.«int.__new__» ⟨[.type "int", .str (Str.ofString "0x80000000") u, .int 0 v], []⟩) (.int 2147483648) := gi _ 0 2147483648 u v (by decide) (by kernel_rfl)
theorem gi_31_0 (u v : Tok) : Gives (Builtin.«int.__new__» ⟨[.type "int", .str (Str.ofString "31") u, .int 0 v], []⟩) (.int 31) := gi _ 0 31 u v (by decide) (by kernel_rfl)
end
end
section
open PySem PySem.W PyProof.Rows PySem.Calls PySem.Spec
local macro_rules | `(tactic| k_room) => `(tactic| ktr_room)
local macro_rules | `(tactic| k_units) => `(tactic| ktr_units)
local macro_rules | `(tactic| k_all) => `(tactic| assumption)
local macro_rules | `(tactic| walk_at "execs cons") => `(tactic| (with_reducible refine gen_toks ?_; intro tk))
local macro_rules | `(tactic| walk_at "execs nil") => `(tactic| (with_reducible refine gen_toks ?_; intro tk))
section
open PySem PySem.W PyProof.Rows PySem.Calls PySem.Spec
section

inductive Num where
  | a0 | a1 | a2 | a3 | a7 | u5 | big | mid | hex | u0 | u1 | a31
def Num.txt : Num → Str
  | .a0 => "0"
  | .a1 => "1"
  | .a2 => "2"
  | .a3 => "3"
  | .a7 => "7"
  | .u5 => "5u"
  | .big => "4294967295"
  | .mid => "2147483647"
  | .hex => "0x80000000"
  | .u0 => "0u"
  | .u1 => "1u"
  | .a31 => "31"

def Num.val : Num → Int
  | .a0 => 0
  | .a1 => 1
  | .a2 => 2
  | .a3 => 3
  | .a7 => 7
  | .u5 => 5
  | .big => 4294967295
  | .mid => 2147483647
  | .hex => 2147483648
  | .u0 => 0
  | .u1 => 1
  | .a31 => 31

def Num.base : Num → Int
  | .a0 => 8
  | .a1 => 10
  | .a2 => 10
  | .a3 => 10
  | .a7 => 10
  | .u5 => 10
  | .big => 10
  | .mid => 10
  | .hex => 16
  | .u0 => 8
  | .u1 => 10
  | .a31 => 10

def Num.suf : Num → Str
  | .a0 => ""
  | .a1 => ""
  | .a2 => ""
  | .a3 => ""
  | .a7 => ""
  | .u5 => "u"
  | .big => ""
  | .mid => ""
  | .hex => ""
  | .u0 => "u"
  | .u1 => "u"
  | .a31 => ""

theorem notin_set {prog : Program} {w : World} {A : Around} {E : Value → Shared → Prop} {s : Shared} {h₀ : Heap} {L a : Addr} {m : Str → Option Value} {o : Obj} {n : Nat} {t : Tok} {Q : Value → Shared → Prop} {S : Str → Bool} {k : Str} {b : Bool} (F : Fr h₀ L s.heap m) (hso : o.SetObjOf (PySem.strKind prog w) S n) (ho : h₀.get? a = some o) (hb : n < 4096) (e : S k = b) (h : Q (.bool (!b)) { s with toks := s.toks + 1 }) :
    wpAny (model prog w) A (compareOp .NotIn (.str k t) (.ref a)) Q E s := notin_argsetS F hso ho hb (by rw [e]; exact h)
theorem in_str_t {prog : Program} {w : World} {A : Around} {E : Value → Shared → Prop} {s : Shared} {x y : Str} {t u : Tok} {Q : Value → Shared → Prop} (e : (!(Builtin.Str.occurrences y x 0 y.length 1).isEmpty) = true) (h : Q (.bool true) s) : wpAny (model prog w) A (compareOp .In (.str x t) (.str y u)) Q E s := in_str (by rw [e]; exact h)
theorem in_str_f {prog : Program} {w : World} {A : Around} {E : Value → Shared → Prop} {s : Shared} {x y : Str} {t u : Tok} {Q : Value → Shared → Prop} (e : (!(Builtin.Str.occurrences y x 0 y.length 1).isEmpty) = false) (h : Q (.bool false) s) : wpAny (model prog w) A (compareOp .In (.str x t) (.str y u)) Q E s := in_str (by rw [e]; exact h)
local macro_rules | `(tactic| walk_at "compareOp In str str") => `(tactic| (k_dflt (first | refine in_str_t (by kernel_rfl!) ?_ | refine in_str_f (by kernel_rfl!) ?_)))
local macro_rules | `(tactic| walk_at "compareOp NotIn str ref") => `(tactic| ((with_reducible show wpAny _ _ (compareOp CmpOp.NotIn (Value.str _ _) (Value.ref _)) _ _ _); k_dflt (first
  | (refine' notin_set ?F (obj_D _ _) (SetsAt.digits (by assumption)) (by decide) (by first | exact (rfl : _ = true) | exact (rfl : _ = false)) ?_; (case F => k_asm))
  | (refine' notin_set ?F (obj_H _ _) (SetsAt.hexs (by assumption)) (by decide) (by first | exact (rfl : _ = true) | exact (rfl : _ = false)) ?_; (case F => k_asm))
  | (refine' notin_set ?F (obj_O _ _) (SetsAt.octs (by assumption)) (by decide) (by first | exact (rfl : _ = true) | exact (rfl : _ = false)) ?_; (case F => k_asm))
  | (refine' notin_set ?F (obj_S _ _) (SetsAt.sufs (by assumption)) (by decide) (by first | exact (rfl : _ = true) | exact (rfl : _ = false)) ?_; (case F => k_asm))); (try dsimp only [Bool.not_true, Bool.not_false])))
local macro_rules | `(tactic| walk_at "exec For Name Name cons nil") => `(tactic| ((rename Fr _ _ _ _ => lF'); (with_unfolding_all refine' For_invVF lF' ?k1 ?k2 ?_; (case k1 => exact rfl); (case k2 => exact rfl); k_whole)))
local macro_rules | `(tactic| walk_at "pyIter str") => `(tactic| ((rename Fr _ _ _ _ => lF'); (rename News _ _ _ _ => lN'); (with_unfolding_all refine iter_signs (by rfl) lF' lN' rfl ?_); clear lF' lN'; intro i' l1; (try dsimp only [signs])))
local macro_rules | `(tactic| walk_at "call type:int") => `(tactic| ((with_reducible show wpAny _ _ (call (Value.type "int") [Value.str _ _, Value.int _ _]) _ _ _); (with_reducible first | refine call_int_base (gi_0_16 _ _) ?_ | refine call_int_base (gi_1_16 _ _) ?_ | refine call_int_base (gi_2_16 _ _) ?_ | refine call_int_base (gi_3_16 _ _) ?_ | refine call_int_base (gi_4_16 _ _) ?_ | refine call_int_base (gi_5_16 _ _) ?_ | refine call_int_base (gi_6_16 _ _) ?_ | refine call_int_base (gi_7_16 _ _) ?_ | refine call_int_base (gi_8_16 _ _) ?_ | refine call_int_base (gi_9_16 _ _) ?_); (try dsimp only)))
local macro_rules | `(tactic| walk_at "SRest") => `(tactic| (with_unfolding_all first | (refine SRest.succ (fun own' u' h' tk' F' N' => ?_)) | (refine SRest.zero (fun h' tk' F' N' => ?_))))
local macro_rules | `(tactic| walk_at "SPost") => `(tactic| (dsimp only [SPost]))
local macro_rules | `(tactic| walk_at "SEnd") => `(tactic| (refine ⟨_, _, _, _, rfl, by k_asm, by k_asm, by assumption, ?_⟩))
section
variable {w : World} {mean : ExcName → Option Value} {mg mb : Str → Option Value} {dp un : Nat} {gd : Option (List Code)} {cn : Str} {cs : Scope} {a : Addr} {ccd : Value} {cl : List (Str × Addr)} {outer : List Env} {A₀ : Around} {base h₀ : Heap} {L : Addr} {m : Str → Option Value} {news : List (Addr × Obj)} {s : Shared} {Q E : Value → Shared → Prop}
theorem np_a0 (t0 : Tok) (B : Below A₀ base outer h₀) (F : Fr h₀ L s.heap m) (X : (KQ w.params).In h₀) (N : News h₀ L s.heap news) (T : Top viewQ looseQ mean mg mb h₀) (hk : cs.kind = .function) (S : SetsAt w h₀)
    (hd : dp + 20 < recursionLimit) (hu : un + 300 < cLine)
    (ret : ∀ (D : Addr) (k : Nat) (t1 t2 t3 : Tok) (y : Int) (h' : Heap) (tk' : Nat), y = 0 → Fr h₀ L h' m → News h₀ L h' ((D, ({ cls := .type "tuple", data := .seq #[.int y t1, .int 8 t2, .str (Str.ofString "") t3] k } : Obj)) :: news) → Q (.ref D) { s with heap := h', toks := tk' }) :
    wpAny (MQ w) (ktrTop dp un gd cn cs L a ccd cl outer) (call (.ref 117) [.str (Str.ofString "0") t0]) Q E s := by
  refine wpAny_call ?_
  (k_dflt (refine' code_def (binds := [(Str.ofString "text", .str (Str.ofString "0") t0)]) ?k1 ?k2 ?k3 ?k4 ?k5 ?kA ?kF ?kK ?k6 ?k7 ?k8 ?k9 ?kB ?_ ?c2 ?c3 ?c4 ?c5; (case kA | kF => exact rfl); (case kK => first | exact rfl | assumption); (case k1 | k2 | k3 | k4 | k5 => k_asm); (case k6 | k7 => k_is); (case k8 => ktr_room); (case k9 => exact BindsTo.of_eq rfl); (case c5 => decide); (case kB => exact locs rfl); (case c2 | c3 | c4 => exact rfl); k_whole; intro g' L' h' FG' F' N' B' X' T'; (try dsimp only); (try k_lift B'); (try k_fold)))
  have S' := S.keeps FG'.keep
  k_steps
  all_goals (refine ret _ _ _ _ _ _ _ _ ?_ (by assumption) (by first | assumption | (exact vdrop1 (by assumption) (by intro p hp; simp only [List.mem_cons, hp, or_true, true_or]))))
  all_goals decide
theorem np_a1 (t0 : Tok) (B : Below A₀ base outer h₀) (F : Fr h₀ L s.heap m) (X : (KQ w.params).In h₀) (N : News h₀ L s.heap news) (T : Top viewQ looseQ mean mg mb h₀) (hk : cs.kind = .function) (S : SetsAt w h₀)
    (hd : dp + 20 < recursionLimit) (hu : un + 300 < cLine)
    (ret : ∀ (D : Addr) (k : Nat) (t1 t2 t3 : Tok) (y : Int) (h' : Heap) (tk' : Nat), y = 1 → Fr h₀ L h' m → News h₀ L h' ((D, ({ cls := .type "tuple", data := .seq #[.int y t1, .int 10 t2, .str (Str.ofString "") t3] k } : Obj)) :: news) → Q (.ref D) { s with heap := h', toks := tk' }) :
    wpAny (MQ w) (ktrTop dp un gd cn cs L a ccd cl outer) (call (.ref 117) [.str (Str.ofString "1") t0]) Q E s := by
  refine wpAny_call ?_
  (k_dflt (refine' code_def (binds := [(Str.ofString "text", .str (Str.ofString "1") t0)]) ?k1 ?k2 ?k3 ?k4 ?k5 ?kA ?kF ?kK ?k6 ?k7 ?k8 ?k9 ?kB ?_ ?c2 ?c3 ?c4 ?c5; (case kA | kF => exact rfl); (case kK => first | exact rfl | assumption); (case k1 | k2 | k3 | k4 | k5 => k_asm); (case k6 | k7 => k_is); (case k8 => ktr_room); (case k9 => exact BindsTo.of_eq rfl); (case c5 => decide); (case kB => exact locs rfl); (case c2 | c3 | c4 => exact rfl); k_whole; intro g' L' h' FG' F' N' B' X' T'; (try dsimp only); (try k_lift B'); (try k_fold)))
  have S' := S.keeps FG'.keep
  k_steps
  all_goals (refine ret _ _ _ _ _ _ _ _ ?_ (by assumption) (by first | assumption | (exact vdrop1 (by assumption) (by intro p hp; simp only [List.mem_cons, hp, or_true, true_or]))))
  all_goals decide
theorem np_a2 (t0 : Tok) (B : Below A₀ base outer h₀) (F : Fr h₀ L s.heap m) (X : (KQ w.params).In h₀) (N : News h₀ L s.heap news) (T : Top viewQ looseQ mean mg mb h₀) (hk : cs.kind = .function) (S : SetsAt w h₀)
    (hd : dp + 20 < recursionLimit) (hu : un + 300 < cLine)
    (ret : ∀ (D : Addr) (k : Nat) (t1 t2 t3 : Tok) (y : Int) (h' : Heap) (tk' : Nat), y = 2 → Fr h₀ L h' m → News h₀ L h' ((D, ({ cls := .type "tuple", data := .seq #[.int y t1, .int 10 t2, .str (Str.ofString "") t3] k } : Obj)) :: news) → Q (.ref D) { s with heap := h', toks := tk' }) :
    wpAny (MQ w) (ktrTop dp un gd cn cs L a ccd cl outer) (call (.ref 117) [.str (Str.ofString "2") t0]) Q E s := by
  refine wpAny_call ?_
  (k_dflt (refine' code_def (binds := [(Str.ofString "text", .str (Str.ofString "2") t0)]) ?k1 ?k2 ?k3 ?k4 ?k5 ?kA ?kF ?kK ?k6 ?k7 ?k8 ?k9 ?kB ?_ ?c2 ?c3 ?c4 ?c5; (case kA | kF => exact rfl); (case kK => first | exact rfl | assumption); (case k1 | k2 | k3 | k4 | k5 => k_asm); (case k6 | k7 => k_is); (case k8 => ktr_room); (case k9 => exact BindsTo.of_eq rfl); (case c5 => decide); (case kB => exact locs rfl); (case c2 | c3 | c4 => exact rfl); k_whole; intro g' L' h' FG' F' N' B' X' T'; (try dsimp only); (try k_lift B'); (try k_fold)))
  have S' := S.keeps FG'.keep
  k_steps
  all_goals (refine ret _ _ _ _ _ _ _ _ ?_ (by assumption) (by first | assumption | (exact vdrop1 (by assumption) (by intro p hp; simp only [List.mem_cons, hp, or_true, true_or]))))
  all_goals decide
theorem np_a3 (t0 : Tok) (B : Below A₀ base outer h₀) (F : Fr h₀ L s.heap m) (X : (KQ w.params).In h₀) (N : News h₀ L s.heap news) (T : Top viewQ looseQ mean mg mb h₀) (hk : cs.kind = .function) (S : SetsAt w h₀)
    (hd : dp + 20 < recursionLimit) (hu : un + 300 < cLine)
    (ret : ∀ (D : Addr) (k : Nat) (t1 t2 t3 : Tok) (y : Int) (h' : Heap) (tk' : Nat), y = 3 → Fr h₀ L h' m → News h₀ L h' ((D, ({ cls := .type "tuple", data := .seq #[.int y t1, .int 10 t2, .str (Str.ofString "") t3] k } : Obj)) :: news) → Q (.ref D) { s with heap := h', toks := tk' }) :
    wpAny (MQ w) (ktrTop dp un gd cn cs L a ccd cl outer) (call (.ref 117) [.str (Str.ofString "3") t0]) Q E s := by
  refine wpAny_call ?_
  (k_dflt (refine' code_def (binds := [(Str.ofString "text", .str (Str.ofString "3") t0)]) ?k1 ?k2 ?k3 ?k4 ?k5 ?kA ?kF ?kK ?k6 ?k7 ?k8 ?k9 ?kB ?_ ?c2 ?c3 ?c4 ?c5; (case kA | kF => exact rfl); (case kK => first | exact rfl | assumption); (case k1 | k2 | k3 | k4 | k5 => k_asm); (case k6 | k7 => k_is); (case k8 => ktr_room); (case k9 => exact BindsTo.of_eq rfl); (case c5 => decide); (case kB => exact locs rfl); (case c2 | c3 | c4 => exact rfl); k_whole; intro g' L' h' FG' F' N' B' X' T'; (try dsimp only); (try k_lift B'); (try k_fold)))
  have S' := S.keeps FG'.keep
  k_steps
  all_goals (refine ret _ _ _ _ _ _ _ _ ?_ (by assumption) (by first | assumption | (exact vdrop1 (by assumption) (by intro p hp; simp only [List.mem_cons, hp, or_true, true_or]))))
  all_goals decide
theorem np_a7 (t0 : Tok) (B : Below A₀ base outer h₀) (F : Fr h₀ L s.heap m) (X : (KQ w.params).In h₀) (N : News h₀ L s.heap news) (T : Top viewQ looseQ mean mg mb h₀) (hk : cs.kind = .function) (S : SetsAt w h₀)
    (hd : dp + 20 < recursionLimit) (hu : un + 300 < cLine)
    (ret : ∀ (D : Addr) (k : Nat) (t1 t2 t3 : Tok) (y : Int) (h' : Heap) (tk' : Nat), y = 7 → Fr h₀ L h' m → News h₀ L h' ((D, ({ cls := .type "tuple", data := .seq #[.int y t1, .int 10 t2, .str (Str.ofString "") t3] k } : Obj)) :: news) → Q (.ref D) { s with heap := h', toks := tk' }) :
    wpAny (MQ w) (ktrTop dp un gd cn cs L a ccd cl outer) (call (.ref 117) [.str (Str.ofString "7") t0]) Q E s := by
  refine wpAny_call ?_
  (k_dflt (refine' code_def (binds := [(Str.ofString "text", .str (Str.ofString "7") t0)]) ?k1 ?k2 ?k3 ?k4 ?k5 ?kA ?kF ?kK ?k6 ?k7 ?k8 ?k9 ?kB ?_ ?c2 ?c3 ?c4 ?c5; (case kA | kF => exact rfl); (case kK => first | exact rfl | assumption); (case k1 | k2 | k3 | k4 | k5 => k_asm); (case k6 | k7 => k_is); (case k8 => ktr_room); (case k9 => exact BindsTo.of_eq rfl); (case c5 => decide); (case kB => exact locs rfl); (case c2 | c3 | c4 => exact rfl); k_whole; intro g' L' h' FG' F' N' B' X' T'; (try dsimp only); (try k_lift B'); (try k_fold)))
  have S' := S.keeps FG'.keep
  k_steps
  all_goals (refine ret _ _ _ _ _ _ _ _ ?_ (by assumption) (by first | assumption | (exact vdrop1 (by assumption) (by intro p hp; simp only [List.mem_cons, hp, or_true, true_or]))))
  all_goals decide
theorem np_u5 (t0 : Tok) (B : Below A₀ base outer h₀) (F : Fr h₀ L s.heap m) (X : (KQ w.params).In h₀) (N : News h₀ L s.heap news) (T : Top viewQ looseQ mean mg mb h₀) (hk : cs.kind = .function) (S : SetsAt w h₀)
    (hd : dp + 20 < recursionLimit) (hu : un + 300 < cLine)
    (ret : ∀ (D : Addr) (k : Nat) (t1 t2 t3 : Tok) (y : Int) (h' : Heap) (tk' : Nat), y = 5 → Fr h₀ L h' m → News h₀ L h' ((D, ({ cls := .type "tuple", data := .seq #[.int y t1, .int 10 t2, .str (Str.ofString "u") t3] k } : Obj)) :: news) → Q (.ref D) { s with heap := h', toks := tk' }) :
    wpAny (MQ w) (ktrTop dp un gd cn cs L a ccd cl outer) (call (.ref 117) [.str (Str.ofString "5u") t0]) Q E s := by
  refine wpAny_call ?_
  (k_dflt (refine' code_def (binds := [(Str.ofString "text", .str (Str.ofString "5u") t0)]) ?k1 ?k2 ?k3 ?k4 ?k5 ?kA ?kF ?kK ?k6 ?k7 ?k8 ?k9 ?kB ?_ ?c2 ?c3 ?c4 ?c5; (case kA | kF => exact rfl); (case kK => first | exact rfl | assumption); (case k1 | k2 | k3 | k4 | k5 => k_asm); (case k6 | k7 => k_is); (case k8 => ktr_room); (case k9 => exact BindsTo.of_eq rfl); (case c5 => decide); (case kB => exact locs rfl); (case c2 | c3 | c4 => exact rfl); k_whole; intro g' L' h' FG' F' N' B' X' T'; (try dsimp only); (try k_lift B'); (try k_fold)))
  have S' := S.keeps FG'.keep
  k_steps
  all_goals (refine ret _ _ _ _ _ _ _ _ ?_ (by assumption) (by first | assumption | (exact vdrop1 (by assumption) (by intro p hp; simp only [List.mem_cons, hp, or_true, true_or]))))
  all_goals decide
theorem np_big (t0 : Tok) (B : Below A₀ base outer h₀) (F : Fr h₀ L s.heap m) (X : (KQ w.params).In h₀) (N : News h₀ L s.heap news) (T : Top viewQ looseQ mean mg mb h₀) (hk : cs.kind = .function) (S : SetsAt w h₀)
    (hd : dp + 20 < recursionLimit) (hu : un + 300 < cLine)
    (ret : ∀ (D : Addr) (k : Nat) (t1 t2 t3 : Tok) (y : Int) (h' : Heap) (tk' : Nat), y = 4294967295 → Fr h₀ L h' m → News h₀ L h' ((D, ({ cls := .type "tuple", data := .seq #[.int y t1, .int 10 t2, .str (Str.ofString "") t3] k } : Obj)) :: news) → Q (.ref D) { s with heap := h', toks := tk' }) :
    wpAny (MQ w) (ktrTop dp un gd cn cs L a ccd cl outer) (call (.ref 117) [.str (Str.ofString "4294967295") t0]) Q E s := by
  refine wpAny_call ?_
  (k_dflt (refine' code_def (binds := [(Str.ofString "text", .str (Str.ofString "4294967295") t0)]) ?k1 ?k2 ?k3 ?k4 ?k5 ?kA ?kF ?kK ?k6 ?k7 ?k8 ?k9 ?kB ?_ ?c2 ?c3 ?c4 ?c5; (case kA | kF => exact rfl); (case kK => first | exact rfl | assumption); (case k1 | k2 | k3 | k4 | k5 => k_asm); (case k6 | k7 => k_is); (case k8 => ktr_room); (case k9 => exact BindsTo.of_eq rfl); (case c5 => decide); (case kB => exact locs rfl); (case c2 | c3 | c4 => exact rfl); k_whole; intro g' L' h' FG' F' N' B' X' T'; (try dsimp only); (try k_lift B'); (try k_fold)))
  have S' := S.keeps FG'.keep
  k_steps
  all_goals (refine ret _ _ _ _ _ _ _ _ ?_ (by assumption) (by first | assumption | (exact vdrop1 (by assumption) (by intro p hp; simp only [List.mem_cons, hp, or_true, true_or]))))
  all_goals decide
theorem np_mid (t0 : Tok) (B : Below A₀ base outer h₀) (F : Fr h₀ L s.heap m) (X : (KQ w.params).In h₀) (N : News h₀ L s.heap news) (T : Top viewQ looseQ mean mg mb h₀) (hk : cs.kind = .function) (S : SetsAt w h₀)
    (hd : dp + 20 < recursionLimit) (hu : un + 300 < cLine)
    (ret : ∀ (D : Addr) (k : Nat) (t1 t2 t3 : Tok) (y : Int) (h' : Heap) (tk' : Nat), y = 2147483647 → Fr h₀ L h' m → News h₀ L h' ((D, ({ cls := .type "tuple", data := .seq #[.int y t1, .int 10 t2, .str (Str.ofString "") t3] k } : Obj)) :: news) → Q (.ref D) { s with heap := h', toks := tk' }) :
    wpAny (MQ w) (ktrTop dp un gd cn cs L a ccd cl outer) (call (.ref 117) [.str (Str.ofString "2147483647") t0]) Q E s := by
  refine wpAny_call ?_
  (k_dflt (refine' code_def (binds := [(Str.ofString "text", .str (Str.ofString "2147483647") t0)]) ?k1 ?k2 ?k3 ?k4 ?k5 ?kA ?kF ?kK ?k6 ?k7 ?k8 ?k9 ?kB ?_ ?c2 ?c3 ?c4 ?c5; (case kA | kF => exact rfl); (case kK => first | exact rfl | assumption); (case k1 | k2 | k3 | k4 | k5 => k_asm); (case k6 | k7 => k_is); (case k8 => ktr_room); (case k9 => exact BindsTo.of_eq rfl); (case c5 => decide); (case kB => exact locs rfl); (case c2 | c3 | c4 => exact rfl); k_whole; intro g' L' h' FG' F' N' B' X' T'; (try dsimp only); (try k_lift B'); (try k_fold)))
  have S' := S.keeps FG'.keep
  k_steps
  all_goals (refine ret _ _ _ _ _ _ _ _ ?_ (by assumption) (by first | assumption | (exact vdrop1 (by assumption) (by intro p hp; simp only [List.mem_cons, hp, or_true, true_or]))))
  all_goals decide
theorem np_hex (t0 : Tok) (B : Below A₀ base outer h₀) (F : Fr h₀ L s.heap m) (X : (KQ w.params).In h₀) (N : News h₀ L s.heap news) (T : Top viewQ looseQ mean mg mb h₀) (hk : cs.kind = .function) (S : SetsAt w h₀)
    (hd : dp + 20 < recursionLimit) (hu : un + 300 < cLine)
    (ret : ∀ (D : Addr) (k : Nat) (t1 t2 t3 : Tok) (y : Int) (h' : Heap) (tk' : Nat), y = 2147483648 → Fr h₀ L h' m → News h₀ L h' ((D, ({ cls := .type "tuple", data := .seq #[.int y t1, .int 16 t2, .str (Str.ofString "") t3] k } : Obj)) :: news) → Q (.ref D) { s with heap := h', toks := tk' }) :
    wpAny (MQ w) (ktrTop dp un gd cn cs L a ccd cl outer) (call (.ref 117) [.str (Str.ofString "0x80000000") t0]) Q E s := by
  refine wpAny_call ?_
  (k_dflt (refine' code_def (binds := [(Str.ofString "text", .str (Str.ofString "0x80000000") t0)]) ?k1 ?k2 ?k3 ?k4 ?k5 ?kA ?kF ?kK ?k6 ?k7 ?k8 ?k9 ?kB ?_ ?c2 ?c3 ?c4 ?c5; (case kA | kF => exact rfl); (case kK => first | exact rfl | assumption); (case k1 | k2 | k3 | k4 | k5 => k_asm); (case k6 | k7 => k_is); (case k8 => ktr_room); (case k9 => exact BindsTo.of_eq rfl); (case c5 => decide); (case kB => exact locs rfl); (case c2 | c3 | c4 => exact rfl); k_whole; intro g' L' h' FG' F' N' B' X' T'; (try dsimp only); (try k_lift B'); (try k_fold)))
  have S' := S.keeps FG'.keep
  k_steps
  all_goals (refine ret _ _ _ _ _ _ _ _ ?_ (by assumption) (by first | assumption | (exact vdrop1 (by assumption) (by intro p hp; simp only [List.mem_cons, hp, or_true, true_or]))))
  all_goals decide
theorem np_u0 (t0 : Tok) (B : Below A₀ base outer h₀) (F : Fr h₀ L s.heap m) (X : (KQ w.params).In h₀) (N : News h₀ L s.heap news) (T : Top viewQ looseQ mean mg mb h₀) (hk : cs.kind = .function) (S : SetsAt w h₀)
    (hd : dp + 20 < recursionLimit) (hu : un + 300 < cLine)
    (ret : ∀ (D : Addr) (k : Nat) (t1 t2 t3 : Tok) (y : Int) (h' : Heap) (tk' : Nat), y = 0 → Fr h₀ L h' m → News h₀ L h' ((D, ({ cls := .type "tuple", data := .seq #[.int y t1, .int 8 t2, .str (Str.ofString "u") t3] k } : Obj)) :: news) → Q (.ref D) { s with heap := h', toks := tk' }) :
    wpAny (MQ w) (ktrTop dp un gd cn cs L a ccd cl outer) (call (.ref 117) [.str (Str.ofString "0u") t0]) Q E s := by
  refine wpAny_call ?_
  (k_dflt (refine' code_def (binds := [(Str.ofString "text", .str (Str.ofString "0u") t0)]) ?k1 ?k2 ?k3 ?k4 ?k5 ?kA ?kF ?kK ?k6 ?k7 ?k8 ?k9 ?kB ?_ ?c2 ?c3 ?c4 ?c5; (case kA | kF => exact rfl); (case kK => first | exact rfl | assumption); (case k1 | k2 | k3 | k4 | k5 => k_asm); (case k6 | k7 => k_is); (case k8 => ktr_room); (case k9 => exact BindsTo.of_eq rfl); (case c5 => decide); (case kB => exact locs rfl); (case c2 | c3 | c4 => exact rfl); k_whole; intro g' L' h' FG' F' N' B' X' T'; (try dsimp only); (try k_lift B'); (try k_fold)))
  have S' := S.keeps FG'.keep
  k_steps
  all_goals (refine ret _ _ _ _ _ _ _ _ ?_ (by assumption) (by first | assumption | (exact vdrop1 (by assumption) (by intro p hp; simp only [List.mem_cons, hp, or_true, true_or]))))
  all_goals decide
theorem np_u1 (t0 : Tok) (B : Below A₀ base outer h₀) (F : Fr h₀ L s.heap m) (X : (KQ w.params).In h₀) (N : News h₀ L s.heap news) (T : Top viewQ looseQ mean mg mb h₀) (hk : cs.kind = .function) (S : SetsAt w h₀)
    (hd : dp + 20 < recursionLimit) (hu : un + 300 < cLine)
    (ret : ∀ (D : Addr) (k : Nat) (t1 t2 t3 : Tok) (y : Int) (h' : Heap) (tk' : Nat), y = 1 → Fr h₀ L h' m → News h₀ L h' ((D, ({ cls := .type "tuple", data := .seq #[.int y t1, .int 10 t2, .str (Str.ofString "u") t3] k } : Obj)) :: news) → Q (.ref D) { s with heap := h', toks := tk' }) :
    wpAny (MQ w) (ktrTop dp un gd cn cs L a ccd cl outer) (call (.ref 117) [.str (Str.ofString "1u") t0]) Q E s := by
  refine wpAny_call ?_
  (k_dflt (refine' code_def (binds := [(Str.ofString "text", .str (Str.ofString "1u") t0)]) ?k1 ?k2 ?k3 ?k4 ?k5 ?kA ?kF ?kK ?k6 ?k7 ?k8 ?k9 ?kB ?_ ?c2 ?c3 ?c4 ?c5; (case kA | kF => exact rfl); (case kK => first | exact rfl | assumption); (case k1 | k2 | k3 | k4 | k5 => k_asm); (case k6 | k7 => k_is); (case k8 => ktr_room); (case k9 => exact BindsTo.of_eq rfl); (case c5 => decide); (case kB => exact locs rfl); (case c2 | c3 | c4 => exact rfl); k_whole; intro g' L' h' FG' F' N' B' X' T'; (try dsimp only); (try k_lift B'); (try k_fold)))
  have S' := S.keeps FG'.keep
  k_steps
  all_goals (refine ret _ _ _ _ _ _ _ _ ?_ (by assumption) (by first | assumption | (exact vdrop1 (by assumption) (by intro p hp; simp only [List.mem_cons, hp, or_true, true_or]))))
  all_goals decide
theorem np_a31 (t0 : Tok) (B : Below A₀ base outer h₀) (F : Fr h₀ L s.heap m) (X : (KQ w.params).In h₀) (N : News h₀ L s.heap news) (T : Top viewQ looseQ mean mg mb h₀) (hk : cs.kind = .function) (S : SetsAt w h₀)
    (hd : dp + 20 < recursionLimit) (hu : un + 300 < cLine)
    (ret : ∀ (D : Addr) (k : Nat) (t1 t2 t3 : Tok) (y : Int) (h' : Heap) (tk' : Nat), y = 31 → Fr h₀ L h' m → News h₀ L h' ((D, ({ cls := .type "tuple", data := .seq #[.int y t1, .int 10 t2, .str (Str.ofString "") t3] k } : Obj)) :: news) → Q (.ref D) { s with heap := h', toks := tk' }) :
    wpAny (MQ w) (ktrTop dp un gd cn cs L a ccd cl outer) (call (.ref 117) [.str (Str.ofString "31") t0]) Q E s := by
  refine wpAny_call ?_
  (k_dflt (refine' code_def (binds := [(Str.ofString "text", .str (Str.ofString "31") t0)]) ?k1 ?k2 ?k3 ?k4 ?k5 ?kA ?kF ?kK ?k6 ?k7 ?k8 ?k9 ?kB ?_ ?c2 ?c3 ?c4 ?c5; (case kA | kF => exact rfl); (case kK => first | exact rfl | assumption); (case k1 | k2 | k3 | k4 | k5 => k_asm); (case k6 | k7 => k_is); (case k8 => ktr_room); (case k9 => exact BindsTo.of_eq rfl); (case c5 => decide); (case kB => exact locs rfl); (case c2 | c3 | c4 => exact rfl); k_whole; intro g' L' h' FG' F' N' B' X' T'; (try dsimp only); (try k_lift B'); (try k_fold)))
  have S' := S.keeps FG'.keep
  k_steps
  all_goals (refine ret _ _ _ _ _ _ _ _ ?_ (by assumption) (by first | assumption | (exact vdrop1 (by assumption) (by intro p hp; simp only [List.mem_cons, hp, or_true, true_or]))))
  all_goals decide
end
end
end
section
open PySem PySem.W PyProof.Rows PySem.Calls PySem.Spec
section

def Num.uns : Num → Bool
  | .a0 => false
  | .a1 => false
  | .a2 => false
  | .a3 => false
  | .a7 => false
  | .u5 => true
  | .big => true
  | .mid => false
  | .hex => true
  | .u0 => true
  | .u1 => true
  | .a31 => false

def numV (k : Num) : V := V.mk' k.val k.uns false
local macro_rules | `(tactic| walk_at "compareOp In str str") => `(tactic| (k_dflt (first | refine in_str_t (by kernel_rfl!) ?_ | refine in_str_f (by kernel_rfl!) ?_)))
local macro_rules | `(tactic| walk_at "call ref") => `(tactic| ((k_dflt (show wpAny _ _ (call (Value.ref 165) [Value.int _ _, Value.bool _, Value.bool _]) _ _ _)); k_dflt (refine' mkval _ _ _ _ ?k1 ?k2 ?k3 ?k4 ?k5 ?kK  ?kd ?ku ?_; (case k1 | k2 | k3 | k4 | k5 => k_asm); (case kK => first | exact rfl | assumption);  (case kd => ktr_room); (case ku => ktr_units); k_whole; intro x' dx' ka' kb' kc' kt' y' u' b' h' tk' hy' hu' hb' F' N' l1 l2); (subst hy'); (subst hu'); (subst hb'); (have l1b := l1); (try simp only [AllLt, and_true] at l1); (try dsimp only); (try k_fold)))
local macro_rules | `(tactic| walk_at "call ref") => `(tactic| ((k_dflt (show wpAny _ _ (call (Value.ref 117) [Value.str (Str.ofString "0") _]) _ _ _)); k_dflt (refine' np_a0 _ ?k1 ?k2 ?k3 ?k4 ?k5 ?kK ?S ?kd ?ku ?_; (case k1 | k2 | k3 | k4 | k5 => k_asm); (case kK => first | exact rfl | assumption); (case S => assumption); (case kd => ktr_room); (case ku => ktr_units); k_whole; intro D' k' t1' t2' t3' y' h' tk' hy' F' N'); (subst hy'); (try dsimp only); (try k_fold)))
local macro_rules | `(tactic| walk_at "call ref") => `(tactic| ((k_dflt (show wpAny _ _ (call (Value.ref 117) [Value.str (Str.ofString "1") _]) _ _ _)); k_dflt (refine' np_a1 _ ?k1 ?k2 ?k3 ?k4 ?k5 ?kK ?S ?kd ?ku ?_; (case k1 | k2 | k3 | k4 | k5 => k_asm); (case kK => first | exact rfl | assumption); (case S => assumption); (case kd => ktr_room); (case ku => ktr_units); k_whole; intro D' k' t1' t2' t3' y' h' tk' hy' F' N'); (subst hy'); (try dsimp only); (try k_fold)))
local macro_rules | `(tactic| walk_at "call ref") => `(tactic| ((k_dflt (show wpAny _ _ (call (Value.ref 117) [Value.str (Str.ofString "2") _]) _ _ _)); k_dflt (refine' np_a2 _ ?k1 ?k2 ?k3 ?k4 ?k5 ?kK ?S ?kd ?ku ?_; (case k1 | k2 | k3 | k4 | k5 => k_asm); (case kK => first | exact rfl | assumption); (case S => assumption); (case kd => ktr_room); (case ku => ktr_units); k_whole; intro D' k' t1' t2' t3' y' h' tk' hy' F' N'); (subst hy'); (try dsimp only); (try k_fold)))
local macro_rules | `(tactic| walk_at "call ref") => `(tactic| ((k_dflt (show wpAny _ _ (call (Value.ref 117) [Value.str (Str.ofString "3") _]) _ _ _)); k_dflt (refine' np_a3 _ ?k1 ?k2 ?k3 ?k4 ?k5 ?kK ?S ?kd ?ku ?_; (case k1 | k2 | k3 | k4 | k5 => k_asm); (case kK => first | exact rfl | assumption); (case S => assumption); (case kd => ktr_room); (case ku => ktr_units); k_whole; intro D' k' t1' t2' t3' y' h' tk' hy' F' N'); (subst hy'); (try dsimp only); (try k_fold)))
local macro_rules | `(tactic| walk_at "call ref") => `(tactic| ((k_dflt (show wpAny _ _ (call (Value.ref 117) [Value.str (Str.ofString "7") _]) _ _ _)); k_dflt (refine' np_a7 _ ?k1 ?k2 ?k3 ?k4 ?k5 ?kK ?S ?kd ?ku ?_; (case k1 | k2 | k3 | k4 | k5 => k_asm); (case kK => first | exact rfl | assumption); (case S => assumption); (case kd => ktr_room); (case ku => ktr_units); k_whole; intro D' k' t1' t2' t3' y' h' tk' hy' F' N'); (subst hy'); (try dsimp only); (try k_fold)))
local macro_rules | `(tactic| walk_at "call ref") => `(tactic| ((k_dflt (show wpAny _ _ (call (Value.ref 117) [Value.str (Str.ofString "5u") _]) _ _ _)); k_dflt (refine' np_u5 _ ?k1 ?k2 ?k3 ?k4 ?k5 ?kK ?S ?kd ?ku ?_; (case k1 | k2 | k3 | k4 | k5 => k_asm); (case kK => first | exact rfl | assumption); (case S => assumption); (case kd => ktr_room); (case ku => ktr_units); k_whole; intro D' k' t1' t2' t3' y' h' tk' hy' F' N'); (subst hy'); (try dsimp only); (try k_fold)))
local macro_rules | `(tactic| walk_at "call ref") => `(tactic| ((k_dflt (show wpAny _ _ (call (Value.ref 117) [Value.str (Str.ofString "4294967295") _]) _ _ _)); k_dflt (refine' np_big _ ?k1 ?k2 ?k3 ?k4 ?k5 ?kK ?S ?kd ?ku ?_; (case k1 | k2 | k3 | k4 | k5 => k_asm); (case kK => first | exact rfl | assumption); (case S => assumption); (case kd => ktr_room); (case ku => ktr_units); k_whole; intro D' k' t1' t2' t3' y' h' tk' hy' F' N'); (subst hy'); (try dsimp only); (try k_fold)))
local macro_rules | `(tactic| walk_at "call ref") => `(tactic| ((k_dflt (show wpAny _ _ (call (Value.ref 117) [Value.str (Str.ofString "2147483647") _]) _ _ _)); k_dflt (refine' np_mid _ ?k1 ?k2 ?k3 ?k4 ?k5 ?kK ?S ?kd ?ku ?_; (case k1 | k2 | k3 | k4 | k5 => k_asm); (case kK => first | exact rfl | assumption); (case S => assumption); (case kd => ktr_room); (case ku => ktr_units); k_whole; intro D' k' t1' t2' t3' y' h' tk' hy' F' N'); (subst hy'); (try dsimp only); (try k_fold)))
local macro_rules | `(tactic| walk_at "call ref") => `(tactic| ((k_dflt (show wpAny _ _ (call (Value.ref 117) [Value.str (Str.ofString "0x80000000") _]) _ _ _)); k_dflt (refine' np_hex _ ?k1 ?k2 ?k3 ?k4 ?k5 ?kK ?S ?kd ?ku ?_; (case k1 | k2 | k3 | k4 | k5 => k_asm); (case kK => first | exact rfl | assumption); (case S => assumption); (case kd => ktr_room); (case ku => ktr_units); k_whole; intro D' k' t1' t2' t3' y' h' tk' hy' F' N'); (subst hy'); (try dsimp only); (try k_fold)))
local macro_rules | `(tactic| walk_at "call ref") => `(tactic| ((k_dflt (show wpAny _ _ (call (Value.ref 117) [Value.str (Str.ofString "0u") _]) _ _ _)); k_dflt (refine' np_u0 _ ?k1 ?k2 ?k3 ?k4 ?k5 ?kK ?S ?kd ?ku ?_; (case k1 | k2 | k3 | k4 | k5 => k_asm); (case kK => first | exact rfl | assumption); (case S => assumption); (case kd => ktr_room); (case ku => ktr_units); k_whole; intro D' k' t1' t2' t3' y' h' tk' hy' F' N'); (subst hy'); (try dsimp only); (try k_fold)))
local macro_rules | `(tactic| walk_at "call ref") => `(tactic| ((k_dflt (show wpAny _ _ (call (Value.ref 117) [Value.str (Str.ofString "1u") _]) _ _ _)); k_dflt (refine' np_u1 _ ?k1 ?k2 ?k3 ?k4 ?k5 ?kK ?S ?kd ?ku ?_; (case k1 | k2 | k3 | k4 | k5 => k_asm); (case kK => first | exact rfl | assumption); (case S => assumption); (case kd => ktr_room); (case ku => ktr_units); k_whole; intro D' k' t1' t2' t3' y' h' tk' hy' F' N'); (subst hy'); (try dsimp only); (try k_fold)))
local macro_rules | `(tactic| walk_at "call ref") => `(tactic| ((k_dflt (show wpAny _ _ (call (Value.ref 117) [Value.str (Str.ofString "31") _]) _ _ _)); k_dflt (refine' np_a31 _ ?k1 ?k2 ?k3 ?k4 ?k5 ?kK ?S ?kd ?ku ?_; (case k1 | k2 | k3 | k4 | k5 => k_asm); (case kK => first | exact rfl | assumption); (case S => assumption); (case kd => ktr_room); (case ku => ktr_units); k_whole; intro D' k' t1' t2' t3' y' h' tk' hy' F' N'); (subst hy'); (try dsimp only); (try k_fold)))
section
variable {w : World} {mean : ExcName → Option Value} {mg mb : Str → Option Value} {dp un : Nat} {gd : Option (List Code)} {cn : Str} {cs : Scope} {a : Addr} {ccd : Value} {cl : List (Str × Addr)} {outer : List Env} {A₀ : Around} {base h₀ : Heap} {L : Addr} {m : Str → Option Value} {news : List (Addr × Obj)} {s : Shared} {Q E : Value → Shared → Prop}
variable {c dc vl sl tl pl : Addr} {k1 k2 k3 k4 : Tok} {nv ns : Nat} {rest : List (Addr × Obj)} {us ps : List Value}
theorem op_a0 (tok dtok : Addr) (file : Str) (line : Int) (j1 j2 j3 j4 u1 u2 u3 u4 : Tok) (B : Below A₀ base outer h₀) (F : Fr h₀ L s.heap m) (X : (KQ w.params).In h₀) (N : News h₀ L s.heap news) (T : Top viewQ looseQ mean mg mb h₀) (hk : cs.kind = .function) (S : SetsAt w h₀) (hc1 : (c, instObj 291 dc) ∈ news) (hc2 : (dc, cdict w tl pl vl sl k1 k2 k3 k4) ∈ news) (ht1 : (tok, instObj 106 dtok) ∈ news) (ht2 : (dtok, tdict w (Str.ofString "number") (Str.ofString "0") file line j1 j2 j3 j4 u1 u2 u3 u4) ∈ news)
    (hd : dp + 40 < recursionLimit) (hu : un + 500 < cLine)
    (ret : VRet w h₀ L m news s Q (numV .a0).n (numV .a0).u (numV .a0).b) :
    wpAny (MQ w) (ktrTop dp un gd cn cs L a ccd cl outer) (call (.ref 239) [.ref c, .ref tok]) Q E s := by
  have N2 := News.dup (News.dup N ht2) (.tail _ ht1)
  refine wpAny_call ?_
  (k_dflt (refine' code_def (binds := [(Str.ofString "self", .ref c), (Str.ofString "token", .ref tok)]) ?k1 ?k2 ?k3 ?k4 ?k5 ?kA ?kF ?kK ?k6 ?k7 ?k8 ?k9 ?kB ?_ ?c2 ?c3 ?c4 ?c5; (case kA | kF => exact rfl); (case kK => first | exact rfl | assumption); (case k1 | k2 | k3 | k4 | k5 => k_asm); (case k6 | k7 => k_is); (case k8 => ktr_room); (case k9 => exact BindsTo.of_eq rfl); (case c5 => decide); (case kB => exact locs rfl); (case c2 | c3 | c4 => exact rfl); k_whole; intro g' L' h' FG' F' N' B' X' T'; (try dsimp only); (try k_lift B'); (try k_fold)))
  have S' := S.keeps FG'.keep
  k_steps
  all_goals (refine ret _ _ _ _ _ _ _ _ _ _ _ ?_ ?_ ?_ (by assumption) (by first | assumption | (exact vdrop (by assumption) (by intro p hp; simp only [List.mem_cons, hp, or_true, true_or]))) (by first | assumption | (exact altsub (by assumption) (by intro p hp; simp only [List.mem_cons, hp, or_true, true_or]))) (by assumption))
  all_goals rfl
theorem op_a1 (tok dtok : Addr) (file : Str) (line : Int) (j1 j2 j3 j4 u1 u2 u3 u4 : Tok) (B : Below A₀ base outer h₀) (F : Fr h₀ L s.heap m) (X : (KQ w.params).In h₀) (N : News h₀ L s.heap news) (T : Top viewQ looseQ mean mg mb h₀) (hk : cs.kind = .function) (S : SetsAt w h₀) (hc1 : (c, instObj 291 dc) ∈ news) (hc2 : (dc, cdict w tl pl vl sl k1 k2 k3 k4) ∈ news) (ht1 : (tok, instObj 106 dtok) ∈ news) (ht2 : (dtok, tdict w (Str.ofString "number") (Str.ofString "1") file line j1 j2 j3 j4 u1 u2 u3 u4) ∈ news)
    (hd : dp + 40 < recursionLimit) (hu : un + 500 < cLine)
    (ret : VRet w h₀ L m news s Q (numV .a1).n (numV .a1).u (numV .a1).b) :
    wpAny (MQ w) (ktrTop dp un gd cn cs L a ccd cl outer) (call (.ref 239) [.ref c, .ref tok]) Q E s := by
  have N2 := News.dup (News.dup N ht2) (.tail _ ht1)
  refine wpAny_call ?_
  (k_dflt (refine' code_def (binds := [(Str.ofString "self", .ref c), (Str.ofString "token", .ref tok)]) ?k1 ?k2 ?k3 ?k4 ?k5 ?kA ?kF ?kK ?k6 ?k7 ?k8 ?k9 ?kB ?_ ?c2 ?c3 ?c4 ?c5; (case kA | kF => exact rfl); (case kK => first | exact rfl | assumption); (case k1 | k2 | k3 | k4 | k5 => k_asm); (case k6 | k7 => k_is); (case k8 => ktr_room); (case k9 => exact BindsTo.of_eq rfl); (case c5 => decide); (case kB => exact locs rfl); (case c2 | c3 | c4 => exact rfl); k_whole; intro g' L' h' FG' F' N' B' X' T'; (try dsimp only); (try k_lift B'); (try k_fold)))
  have S' := S.keeps FG'.keep
  k_steps
  all_goals (refine ret _ _ _ _ _ _ _ _ _ _ _ ?_ ?_ ?_ (by assumption) (by first | assumption | (exact vdrop (by assumption) (by intro p hp; simp only [List.mem_cons, hp, or_true, true_or]))) (by first | assumption | (exact altsub (by assumption) (by intro p hp; simp only [List.mem_cons, hp, or_true, true_or]))) (by assumption))
  all_goals rfl
theorem op_a2 (tok dtok : Addr) (file : Str) (line : Int) (j1 j2 j3 j4 u1 u2 u3 u4 : Tok) (B : Below A₀ base outer h₀) (F : Fr h₀ L s.heap m) (X : (KQ w.params).In h₀) (N : News h₀ L s.heap news) (T : Top viewQ looseQ mean mg mb h₀) (hk : cs.kind = .function) (S : SetsAt w h₀) (hc1 : (c, instObj 291 dc) ∈ news) (hc2 : (dc, cdict w tl pl vl sl k1 k2 k3 k4) ∈ news) (ht1 : (tok, instObj 106 dtok) ∈ news) (ht2 : (dtok, tdict w (Str.ofString "number") (Str.ofString "2") file line j1 j2 j3 j4 u1 u2 u3 u4) ∈ news)
    (hd : dp + 40 < recursionLimit) (hu : un + 500 < cLine)
    (ret : VRet w h₀ L m news s Q (numV .a2).n (numV .a2).u (numV .a2).b) :
    wpAny (MQ w) (ktrTop dp un gd cn cs L a ccd cl outer) (call (.ref 239) [.ref c, .ref tok]) Q E s := by
  have N2 := News.dup (News.dup N ht2) (.tail _ ht1)
  refine wpAny_call ?_
  (k_dflt (refine' code_def (binds := [(Str.ofString "self", .ref c), (Str.ofString "token", .ref tok)]) ?k1 ?k2 ?k3 ?k4 ?k5 ?kA ?kF ?kK ?k6 ?k7 ?k8 ?k9 ?kB ?_ ?c2 ?c3 ?c4 ?c5; (case kA | kF => exact rfl); (case kK => first | exact rfl | assumption); (case k1 | k2 | k3 | k4 | k5 => k_asm); (case k6 | k7 => k_is); (case k8 => ktr_room); (case k9 => exact BindsTo.of_eq rfl); (case c5 => decide); (case kB => exact locs rfl); (case c2 | c3 | c4 => exact rfl); k_whole; intro g' L' h' FG' F' N' B' X' T'; (try dsimp only); (try k_lift B'); (try k_fold)))
  have S' := S.keeps FG'.keep
  k_steps
  all_goals (refine ret _ _ _ _ _ _ _ _ _ _ _ ?_ ?_ ?_ (by assumption) (by first | assumption | (exact vdrop (by assumption) (by intro p hp; simp only [List.mem_cons, hp, or_true, true_or]))) (by first | assumption | (exact altsub (by assumption) (by intro p hp; simp only [List.mem_cons, hp, or_true, true_or]))) (by assumption))
  all_goals rfl
theorem op_a3 (tok dtok : Addr) (file : Str) (line : Int) (j1 j2 j3 j4 u1 u2 u3 u4 : Tok) (B : Below A₀ base outer h₀) (F : Fr h₀ L s.heap m) (X : (KQ w.params).In h₀) (N : News h₀ L s.heap news) (T : Top viewQ looseQ mean mg mb h₀) (hk : cs.kind = .function) (S : SetsAt w h₀) (hc1 : (c, instObj 291 dc) ∈ news) (hc2 : (dc, cdict w tl pl vl sl k1 k2 k3 k4) ∈ news) (ht1 : (tok, instObj 106 dtok) ∈ news) (ht2 : (dtok, tdict w (Str.ofString "number") (Str.ofString "3") file line j1 j2 j3 j4 u1 u2 u3 u4) ∈ news)
    (hd : dp + 40 < recursionLimit) (hu : un + 500 < cLine)
    (ret : VRet w h₀ L m news s Q (numV .a3).n (numV .a3).u (numV .a3).b) :
    wpAny (MQ w) (ktrTop dp un gd cn cs L a ccd cl outer) (call (.ref 239) [.ref c, .ref tok]) Q E s := by
  have N2 := News.dup (News.dup N ht2) (.tail _ ht1)
  refine wpAny_call ?_
  (k_dflt (refine' code_def (binds := [(Str.ofString "self", .ref c), (Str.ofString "token", .ref tok)]) ?k1 ?k2 ?k3 ?k4 ?k5 ?kA ?kF ?kK ?k6 ?k7 ?k8 ?k9 ?kB ?_ ?c2 ?c3 ?c4 ?c5; (case kA | kF => exact rfl); (case kK => first | exact rfl | assumption); (case k1 | k2 | k3 | k4 | k5 => k_asm); (case k6 | k7 => k_is); (case k8 => ktr_room); (case k9 => exact BindsTo.of_eq rfl); (case c5 => decide); (case kB => exact locs rfl); (case c2 | c3 | c4 => exact rfl); k_whole; intro g' L' h' FG' F' N' B' X' T'; (try dsimp only); (try k_lift B'); (try k_fold)))
  have S' := S.keeps FG'.keep
  k_steps
  all_goals (refine ret _ _ _ _ _ _ _ _ _ _ _ ?_ ?_ ?_ (by assumption) (by first | assumption | (exact vdrop (by assumption) (by intro p hp; simp only [List.mem_cons, hp, or_true, true_or]))) (by first | assumption | (exact altsub (by assumption) (by intro p hp; simp only [List.mem_cons, hp, or_true, true_or]))) (by assumption))
  all_goals rfl
theorem op_a7 (tok dtok : Addr) (file : Str) (line : Int) (j1 j2 j3 j4 u1 u2 u3 u4 : Tok) (B : Below A₀ base outer h₀) (F : Fr h₀ L s.heap m) (X : (KQ w.params).In h₀) (N : News h₀ L s.heap news) (T : Top viewQ looseQ mean mg mb h₀) (hk : cs.kind = .function) (S : SetsAt w h₀) (hc1 : (c, instObj 291 dc) ∈ news) (hc2 : (dc, cdict w tl pl vl sl k1 k2 k3 k4) ∈ news) (ht1 : (tok, instObj 106 dtok) ∈ news) (ht2 : (dtok, tdict w (Str.ofString "number") (Str.ofString "7") file line j1 j2 j3 j4 u1 u2 u3 u4) ∈ news)
    (hd : dp + 40 < recursionLimit) (hu : un + 500 < cLine)
    (ret : VRet w h₀ L m news s Q (numV .a7).n (numV .a7).u (numV .a7).b) :
    wpAny (MQ w) (ktrTop dp un gd cn cs L a ccd cl outer) (call (.ref 239) [.ref c, .ref tok]) Q E s := by
  have N2 := News.dup (News.dup N ht2) (.tail _ ht1)
  refine wpAny_call ?_
  (k_dflt (refine' code_def (binds := [(Str.ofString "self", .ref c), (Str.ofString "token", .ref tok)]) ?k1 ?k2 ?k3 ?k4 ?k5 ?kA ?kF ?kK ?k6 ?k7 ?k8 ?k9 ?kB ?_ ?c2 ?c3 ?c4 ?c5; (case kA | kF => exact rfl); (case kK => first | exact rfl | assumption); (case k1 | k2 | k3 | k4 | k5 => k_asm); (case k6 | k7 => k_is); (case k8 => ktr_room); (case k9 => exact BindsTo.of_eq rfl); (case c5 => decide); (case kB => exact locs rfl); (case c2 | c3 | c4 => exact rfl); k_whole; intro g' L' h' FG' F' N' B' X' T'; (try dsimp only); (try k_lift B'); (try k_fold)))
  have S' := S.keeps FG'.keep
  k_steps
  all_goals (refine ret _ _ _ _ _ _ _ _ _ _ _ ?_ ?_ ?_ (by assumption) (by first | assumption | (exact vdrop (by assumption) (by intro p hp; simp only [List.mem_cons, hp, or_true, true_or]))) (by first | assumption | (exact altsub (by assumption) (by intro p hp; simp only [List.mem_cons, hp, or_true, true_or]))) (by assumption))
  all_goals rfl
theorem op_u5 (tok dtok : Addr) (file : Str) (line : Int) (j1 j2 j3 j4 u1 u2 u3 u4 : Tok) (B : Below A₀ base outer h₀) (F : Fr h₀ L s.heap m) (X : (KQ w.params).In h₀) (N : News h₀ L s.heap news) (T : Top viewQ looseQ mean mg mb h₀) (hk : cs.kind = .function) (S : SetsAt w h₀) (hc1 : (c, instObj 291 dc) ∈ news) (hc2 : (dc, cdict w tl pl vl sl k1 k2 k3 k4) ∈ news) (ht1 : (tok, instObj 106 dtok) ∈ news) (ht2 : (dtok, tdict w (Str.ofString "number") (Str.ofString "5u") file line j1 j2 j3 j4 u1 u2 u3 u4) ∈ news)
    (hd : dp + 40 < recursionLimit) (hu : un + 500 < cLine)
    (ret : VRet w h₀ L m news s Q (numV .u5).n (numV .u5).u (numV .u5).b) :
    wpAny (MQ w) (ktrTop dp un gd cn cs L a ccd cl outer) (call (.ref 239) [.ref c, .ref tok]) Q E s := by
  have N2 := News.dup (News.dup N ht2) (.tail _ ht1)
  refine wpAny_call ?_
  (k_dflt (refine' code_def (binds := [(Str.ofString "self", .ref c), (Str.ofString "token", .ref tok)]) ?k1 ?k2 ?k3 ?k4 ?k5 ?kA ?kF ?kK ?k6 ?k7 ?k8 ?k9 ?kB ?_ ?c2 ?c3 ?c4 ?c5; (case kA | kF => exact rfl); (case kK => first | exact rfl | assumption); (case k1 | k2 | k3 | k4 | k5 => k_asm); (case k6 | k7 => k_is); (case k8 => ktr_room); (case k9 => exact BindsTo.of_eq rfl); (case c5 => decide); (case kB => exact locs rfl); (case c2 | c3 | c4 => exact rfl); k_whole; intro g' L' h' FG' F' N' B' X' T'; (try dsimp only); (try k_lift B'); (try k_fold)))
  have S' := S.keeps FG'.keep
  k_steps
  all_goals (refine ret _ _ _ _ _ _ _ _ _ _ _ ?_ ?_ ?_ (by assumption) (by first | assumption | (exact vdrop (by assumption) (by intro p hp; simp only [List.mem_cons, hp, or_true, true_or]))) (by first | assumption | (exact altsub (by assumption) (by intro p hp; simp only [List.mem_cons, hp, or_true, true_or]))) (by assumption))
  all_goals rfl
theorem op_big (tok dtok : Addr) (file : Str) (line : Int) (j1 j2 j3 j4 u1 u2 u3 u4 : Tok) (B : Below A₀ base outer h₀) (F : Fr h₀ L s.heap m) (X : (KQ w.params).In h₀) (N : News h₀ L s.heap news) (T : Top viewQ looseQ mean mg mb h₀) (hk : cs.kind = .function) (S : SetsAt w h₀) (hc1 : (c, instObj 291 dc) ∈ news) (hc2 : (dc, cdict w tl pl vl sl k1 k2 k3 k4) ∈ news) (ht1 : (tok, instObj 106 dtok) ∈ news) (ht2 : (dtok, tdict w (Str.ofString "number") (Str.ofString "4294967295") file line j1 j2 j3 j4 u1 u2 u3 u4) ∈ news)
    (hd : dp + 40 < recursionLimit) (hu : un + 500 < cLine)
    (ret : VRet w h₀ L m news s Q (numV .big).n (numV .big).u (numV .big).b) :
    wpAny (MQ w) (ktrTop dp un gd cn cs L a ccd cl outer) (call (.ref 239) [.ref c, .ref tok]) Q E s := by
  have N2 := News.dup (News.dup N ht2) (.tail _ ht1)
  refine wpAny_call ?_
  (k_dflt (refine' code_def (binds := [(Str.ofString "self", .ref c), (Str.ofString "token", .ref tok)]) ?k1 ?k2 ?k3 ?k4 ?k5 ?kA ?kF ?kK ?k6 ?k7 ?k8 ?k9 ?kB ?_ ?c2 ?c3 ?c4 ?c5; (case kA | kF => exact rfl); (case kK => first | exact rfl | assumption); (case k1 | k2 | k3 | k4 | k5 => k_asm); (case k6 | k7 => k_is); (case k8 => ktr_room); (case k9 => exact BindsTo.of_eq rfl); (case c5 => decide); (case kB => exact locs rfl); (case c2 | c3 | c4 => exact rfl); k_whole; intro g' L' h' FG' F' N' B' X' T'; (try dsimp only); (try k_lift B'); (try k_fold)))
  have S' := S.keeps FG'.keep
  k_steps
  all_goals (refine ret _ _ _ _ _ _ _ _ _ _ _ ?_ ?_ ?_ (by assumption) (by first | assumption | (exact vdrop (by assumption) (by intro p hp; simp only [List.mem_cons, hp, or_true, true_or]))) (by first | assumption | (exact altsub (by assumption) (by intro p hp; simp only [List.mem_cons, hp, or_true, true_or]))) (by assumption))
  all_goals rfl
theorem op_mid (tok dtok : Addr) (file : Str) (line : Int) (j1 j2 j3 j4 u1 u2 u3 u4 : Tok) (B : Below A₀ base outer h₀) (F : Fr h₀ L s.heap m) (X : (KQ w.params).In h₀) (N : News h₀ L s.heap news) (T : Top viewQ looseQ mean mg mb h₀) (hk : cs.kind = .function) (S : SetsAt w h₀) (hc1 : (c, instObj 291 dc) ∈ news) (hc2 : (dc, cdict w tl pl vl sl k1 k2 k3 k4) ∈ news) (ht1 : (tok, instObj 106 dtok) ∈ news) (ht2 : (dtok, tdict w (Str.ofString "number") (Str.ofString "2147483647") file line j1 j2 j3 j4 u1 u2 u3 u4) ∈ news)
    (hd : dp + 40 < recursionLimit) (hu : un + 500 < cLine)
    (ret : VRet w h₀ L m news s Q (numV .mid).n (numV .mid).u (numV .mid).b) :
    wpAny (MQ w) (ktrTop dp un gd cn cs L a ccd cl outer) (call (.ref 239) [.ref c, .ref tok]) Q E s := by
  have N2 := News.dup (News.dup N ht2) (.tail _ ht1)
  refine wpAny_call ?_
  (k_dflt (refine' code_def (binds := [(Str.ofString "self", .ref c), (Str.ofString "token", .ref tok)]) ?k1 ?k2 ?k3 ?k4 ?k5 ?kA ?kF ?kK ?k6 ?k7 ?k8 ?k9 ?kB ?_ ?c2 ?c3 ?c4 ?c5; (case kA | kF => exact rfl); (case kK => first | exact rfl | assumption); (case k1 | k2 | k3 | k4 | k5 => k_asm); (case k6 | k7 => k_is); (case k8 => ktr_room); (case k9 => exact BindsTo.of_eq rfl); (case c5 => decide); (case kB => exact locs rfl); (case c2 | c3 | c4 => exact rfl); k_whole; intro g' L' h' FG' F' N' B' X' T'; (try dsimp only); (try k_lift B'); (try k_fold)))
  have S' := S.keeps FG'.keep
  k_steps
  all_goals (refine ret _ _ _ _ _ _ _ _ _ _ _ ?_ ?_ ?_ (by assumption) (by first | assumption | (exact vdrop (by assumption) (by intro p hp; simp only [List.mem_cons, hp, or_true, true_or]))) (by first | assumption | (exact altsub (by assumption) (by intro p hp; simp only [List.mem_cons, hp, or_true, true_or]))) (by assumption))
  all_goals rfl
theorem op_hex (tok dtok : Addr) (file : Str) (line : Int) (j1 j2 j3 j4 u1 u2 u3 u4 : Tok) (B : Below A₀ base outer h₀) (F : Fr h₀ L s.heap m) (X : (KQ w.params).In h₀) (N : News h₀ L s.heap news) (T : Top viewQ looseQ mean mg mb h₀) (hk : cs.kind = .function) (S : SetsAt w h₀) (hc1 : (c, instObj 291 dc) ∈ news) (hc2 : (dc, cdict w tl pl vl sl k1 k2 k3 k4) ∈ news) (ht1 : (tok, instObj 106 dtok) ∈ news) (ht2 : (dtok, tdict w (Str.ofString "number") (Str.ofString "0x80000000") file line j1 j2 j3 j4 u1 u2 u3 u4) ∈ news)
    (hd : dp + 40 < recursionLimit) (hu : un + 500 < cLine)
    (ret : VRet w h₀ L m news s Q (numV .hex).n (numV .hex).u (numV .hex).b) :
    wpAny (MQ w) (ktrTop dp un gd cn cs L a ccd cl outer) (call (.ref 239) [.ref c, .ref tok]) Q E s := by
  have N2 := News.dup (News.dup N ht2) (.tail _ ht1)
  refine wpAny_call ?_
  (k_dflt (refine' code_def (binds := [(Str.ofString "self", .ref c), (Str.ofString "token", .ref tok)]) ?k1 ?k2 ?k3 ?k4 ?k5 ?kA ?kF ?kK ?k6 ?k7 ?k8 ?k9 ?kB ?_ ?c2 ?c3 ?c4 ?c5; (case kA | kF => exact rfl); (case kK => first | exact rfl | assumption); (case k1 | k2 | k3 | k4 | k5 => k_asm); (case k6 | k7 => k_is); (case k8 => ktr_room); (case k9 => exact BindsTo.of_eq rfl); (case c5 => decide); (case kB => exact locs rfl); (case c2 | c3 | c4 => exact rfl); k_whole; intro g' L' h' FG' F' N' B' X' T'; (try dsimp only); (try k_lift B'); (try k_fold)))
  have S' := S.keeps FG'.keep
  k_steps
  all_goals (refine ret _ _ _ _ _ _ _ _ _ _ _ ?_ ?_ ?_ (by assumption) (by first | assumption | (exact vdrop (by assumption) (by intro p hp; simp only [List.mem_cons, hp, or_true, true_or]))) (by first | assumption | (exact altsub (by assumption) (by intro p hp; simp only [List.mem_cons, hp, or_true, true_or]))) (by assumption))
  all_goals rfl
theorem op_u0 (tok dtok : Addr) (file : Str) (line : Int) (j1 j2 j3 j4 u1 u2 u3 u4 : Tok) (B : Below A₀ base outer h₀) (F : Fr h₀ L s.heap m) (X : (KQ w.params).In h₀) (N : News h₀ L s.heap news) (T : Top viewQ looseQ mean mg mb h₀) (hk : cs.kind = .function) (S : SetsAt w h₀) (hc1 : (c, instObj 291 dc) ∈ news) (hc2 : (dc, cdict w tl pl vl sl k1 k2 k3 k4) ∈ news) (ht1 : (tok, instObj 106 dtok) ∈ news) (ht2 : (dtok, tdict w (Str.ofString "number") (Str.ofString "0u") file line j1 j2 j3 j4 u1 u2 u3 u4) ∈ news)
    (hd : dp + 40 < recursionLimit) (hu : un + 500 < cLine)
    (ret : VRet w h₀ L m news s Q (numV .u0).n (numV .u0).u (numV .u0).b) :
    wpAny (MQ w) (ktrTop dp un gd cn cs L a ccd cl outer) (call (.ref 239) [.ref c, .ref tok]) Q E s := by
  have N2 := News.dup (News.dup N ht2) (.tail _ ht1)
  refine wpAny_call ?_
  (k_dflt (refine' code_def (binds := [(Str.ofString "self", .ref c), (Str.ofString "token", .ref tok)]) ?k1 ?k2 ?k3 ?k4 ?k5 ?kA ?kF ?kK ?k6 ?k7 ?k8 ?k9 ?kB ?_ ?c2 ?c3 ?c4 ?c5; (case kA | kF => exact rfl); (case kK => first | exact rfl | assumption); (case k1 | k2 | k3 | k4 | k5 => k_asm); (case k6 | k7 => k_is); (case k8 => ktr_room); (case k9 => exact BindsTo.of_eq rfl); (case c5 => decide); (case kB => exact locs rfl); (case c2 | c3 | c4 => exact rfl); k_whole; intro g' L' h' FG' F' N' B' X' T'; (try dsimp only); (try k_lift B'); (try k_fold)))
  have S' := S.keeps FG'.keep
  k_steps
  all_goals (refine ret _ _ _ _ _ _ _ _ _ _ _ ?_ ?_ ?_ (by assumption) (by first | assumption | (exact vdrop (by assumption) (by intro p hp; simp only [List.mem_cons, hp, or_true, true_or]))) (by first | assumption | (exact altsub (by assumption) (by intro p hp; simp only [List.mem_cons, hp, or_true, true_or]))) (by assumption))
  all_goals rfl
theorem op_u1 (tok dtok : Addr) (file : Str) (line : Int) (j1 j2 j3 j4 u1 u2 u3 u4 : Tok) (B : Below A₀ base outer h₀) (F : Fr h₀ L s.heap m) (X : (KQ w.params).In h₀) (N : News h₀ L s.heap news) (T : Top viewQ looseQ mean mg mb h₀) (hk : cs.kind = .function) (S : SetsAt w h₀) (hc1 : (c, instObj 291 dc) ∈ news) (hc2 : (dc, cdict w tl pl vl sl k1 k2 k3 k4) ∈ news) (ht1 : (tok, instObj 106 dtok) ∈ news) (ht2 : (dtok, tdict w (Str.ofString "number") (Str.ofString "1u") file line j1 j2 j3 j4 u1 u2 u3 u4) ∈ news)
    (hd : dp + 40 < recursionLimit) (hu : un + 500 < cLine)
    (ret : VRet w h₀ L m news s Q (numV .u1).n (numV .u1).u (numV .u1).b) :
    wpAny (MQ w) (ktrTop dp un gd cn cs L a ccd cl outer) (call (.ref 239) [.ref c, .ref tok]) Q E s := by
  have N2 := News.dup (News.dup N ht2) (.tail _ ht1)
  refine wpAny_call ?_
  (k_dflt (refine' code_def (binds := [(Str.ofString "self", .ref c), (Str.ofString "token", .ref tok)]) ?k1 ?k2 ?k3 ?k4 ?k5 ?kA ?kF ?kK ?k6 ?k7 ?k8 ?k9 ?kB ?_ ?c2 ?c3 ?c4 ?c5; (case kA | kF => exact rfl); (case kK => first | exact rfl | assumption); (case k1 | k2 | k3 | k4 | k5 => k_asm); (case k6 | k7 => k_is); (case k8 => ktr_room); (case k9 => exact BindsTo.of_eq rfl); (case c5 => decide); (case kB => exact locs rfl); (case c2 | c3 | c4 => exact rfl); k_whole; intro g' L' h' FG' F' N' B' X' T'; (try dsimp only); (try k_lift B'); (try k_fold)))
  have S' := S.keeps FG'.keep
  k_steps
  all_goals (refine ret _ _ _ _ _ _ _ _ _ _ _ ?_ ?_ ?_ (by assumption) (by first | assumption | (exact vdrop (by assumption) (by intro p hp; simp only [List.mem_cons, hp, or_true, true_or]))) (by first | assumption | (exact altsub (by assumption) (by intro p hp; simp only [List.mem_cons, hp, or_true, true_or]))) (by assumption))
  all_goals rfl
theorem op_a31 (tok dtok : Addr) (file : Str) (line : Int) (j1 j2 j3 j4 u1 u2 u3 u4 : Tok) (B : Below A₀ base outer h₀) (F : Fr h₀ L s.heap m) (X : (KQ w.params).In h₀) (N : News h₀ L s.heap news) (T : Top viewQ looseQ mean mg mb h₀) (hk : cs.kind = .function) (S : SetsAt w h₀) (hc1 : (c, instObj 291 dc) ∈ news) (hc2 : (dc, cdict w tl pl vl sl k1 k2 k3 k4) ∈ news) (ht1 : (tok, instObj 106 dtok) ∈ news) (ht2 : (dtok, tdict w (Str.ofString "number") (Str.ofString "31") file line j1 j2 j3 j4 u1 u2 u3 u4) ∈ news)
    (hd : dp + 40 < recursionLimit) (hu : un + 500 < cLine)
    (ret : VRet w h₀ L m news s Q (numV .a31).n (numV .a31).u (numV .a31).b) :
    wpAny (MQ w) (ktrTop dp un gd cn cs L a ccd cl outer) (call (.ref 239) [.ref c, .ref tok]) Q E s := by
  have N2 := News.dup (News.dup N ht2) (.tail _ ht1)
  refine wpAny_call ?_
  (k_dflt (refine' code_def (binds := [(Str.ofString "self", .ref c), (Str.ofString "token", .ref tok)]) ?k1 ?k2 ?k3 ?k4 ?k5 ?kA ?kF ?kK ?k6 ?k7 ?k8 ?k9 ?kB ?_ ?c2 ?c3 ?c4 ?c5; (case kA | kF => exact rfl); (case kK => first | exact rfl | assumption); (case k1 | k2 | k3 | k4 | k5 => k_asm); (case k6 | k7 => k_is); (case k8 => ktr_room); (case k9 => exact BindsTo.of_eq rfl); (case c5 => decide); (case kB => exact locs rfl); (case c2 | c3 | c4 => exact rfl); k_whole; intro g' L' h' FG' F' N' B' X' T'; (try dsimp only); (try k_lift B'); (try k_fold)))
  have S' := S.keeps FG'.keep
  k_steps
  all_goals (refine ret _ _ _ _ _ _ _ _ _ _ _ ?_ ?_ ?_ (by assumption) (by first | assumption | (exact vdrop (by assumption) (by intro p hp; simp only [List.mem_cons, hp, or_true, true_or]))) (by first | assumption | (exact altsub (by assumption) (by intro p hp; simp only [List.mem_cons, hp, or_true, true_or]))) (by assumption))
  all_goals rfl
theorem opC (k : Num) (tok dtok : Addr) (file : Str) (line : Int) (j1 j2 j3 j4 u1 u2 u3 u4 : Tok) (B : Below A₀ base outer h₀) (F : Fr h₀ L s.heap m) (X : (KQ w.params).In h₀) (N : News h₀ L s.heap news) (T : Top viewQ looseQ mean mg mb h₀) (hk : cs.kind = .function) (S : SetsAt w h₀) (hc1 : (c, instObj 291 dc) ∈ news) (hc2 : (dc, cdict w tl pl vl sl k1 k2 k3 k4) ∈ news) (ht1 : (tok, instObj 106 dtok) ∈ news) (ht2 : (dtok, tdict w (Str.ofString "number") k.txt file line j1 j2 j3 j4 u1 u2 u3 u4) ∈ news)
    (hd : dp + 40 < recursionLimit) (hu : un + 500 < cLine)
    (ret : VRet w h₀ L m news s Q (numV k).n (numV k).u (numV k).b) :
    wpAny (MQ w) (ktrTop dp un gd cn cs L a ccd cl outer) (call (.ref 239) [.ref c, .ref tok]) Q E s := by
  cases k with
  | a0 => exact op_a0 tok dtok file line j1 j2 j3 j4 u1 u2 u3 u4 B F X N T hk S hc1 hc2 ht1 ht2 hd hu ret
  | a1 => exact op_a1 tok dtok file line j1 j2 j3 j4 u1 u2 u3 u4 B F X N T hk S hc1 hc2 ht1 ht2 hd hu ret
  | a2 => exact op_a2 tok dtok file line j1 j2 j3 j4 u1 u2 u3 u4 B F X N T hk S hc1 hc2 ht1 ht2 hd hu ret
  | a3 => exact op_a3 tok dtok file line j1 j2 j3 j4 u1 u2 u3 u4 B F X N T hk S hc1 hc2 ht1 ht2 hd hu ret
  | a7 => exact op_a7 tok dtok file line j1 j2 j3 j4 u1 u2 u3 u4 B F X N T hk S hc1 hc2 ht1 ht2 hd hu ret
  | u5 => exact op_u5 tok dtok file line j1 j2 j3 j4 u1 u2 u3 u4 B F X N T hk S hc1 hc2 ht1 ht2 hd hu ret
  | big => exact op_big tok dtok file line j1 j2 j3 j4 u1 u2 u3 u4 B F X N T hk S hc1 hc2 ht1 ht2 hd hu ret
  | mid => exact op_mid tok dtok file line j1 j2 j3 j4 u1 u2 u3 u4 B F X N T hk S hc1 hc2 ht1 ht2 hd hu ret
  | hex => exact op_hex tok dtok file line j1 j2 j3 j4 u1 u2 u3 u4 B F X N T hk S hc1 hc2 ht1 ht2 hd hu ret
  | u0 => exact op_u0 tok dtok file line j1 j2 j3 j4 u1 u2 u3 u4 B F X N T hk S hc1 hc2 ht1 ht2 hd hu ret
  | u1 => exact op_u1 tok dtok file line j1 j2 j3 j4 u1 u2 u3 u4 B F X N T hk S hc1 hc2 ht1 ht2 hd hu ret
  | a31 => exact op_a31 tok dtok file line j1 j2 j3 j4 u1 u2 u3 u4 B F X N T hk S hc1 hc2 ht1 ht2 hd hu ret

end
end
end
section
open PySem PySem.W PyProof.Rows PySem.Calls PySem.Spec
section
local macro_rules | `(tactic| walk_at "call builtin:list.pop") => `(tactic| ((with_reducible show wpAny _ _ (call (Value.builtin _) [Value.ref _]) _ _ _); k_dflt (refine' pop_mine ?F ?N ?U ?z ?_; (case F => k_asm); (case N => k_asm); (case U => k_upd); (case z => (first | omega | (simp only [List.length_append, List.length_cons, List.length_nil]; omega)))); intro h' F' N'))
local macro_rules | `(tactic| walk_at "call builtin:list.append") => `(tactic| ((with_reducible show wpAny _ _ (call (Value.builtin _) [Value.ref _, _]) _ _ _); k_dflt (refine' append_mine ?F ?N ?U ?z ?_; (case F => k_asm); (case N => k_asm); (case U => k_upd); (case z => (first | omega | (simp only [List.length_append, List.length_cons, List.length_nil]; omega)))); intro h' F' N'))
local macro_rules | `(tactic| k_ne) => `(tactic| assumption)
local macro_rules | `(tactic| walk_at "call ref") => `(tactic| ((k_dflt (show wpAny _ _ (call (Value.ref 239) [Value.ref _, Value.ref _]) _ _ _)); k_dflt (refine' opC _ _ _ _ _ _ _ _ _ _ _ _ _ ?k1 ?k2 ?k3 ?k4 ?k5 ?kK ?S ?c1 ?c2 ?t1 ?t2 ?kd ?ku ?_; (case k1 => k_asm); (case k2 => k_asm); (case k3 => k_asm); (case k4 => exact (by first | assumption  | exact News.tl (by assumption) | exact News.tl (News.tl (by assumption)) | exact News.tl (News.tl (News.tl (by assumption))) | exact News.tl (News.tl (News.tl (News.tl (by assumption)))) | exact News.tl (News.tl (News.tl (News.tl (News.tl (by assumption))))) | exact News.tl (News.tl (News.tl (News.tl (News.tl (News.tl (by assumption)))))) | exact News.tl (News.tl (News.tl (News.tl (News.tl (News.tl (News.tl (by assumption))))))))); (case k5 => k_asm); (case kK => first | exact rfl | assumption); (case S => assumption); (case c1 => k_mem); (case c2 => k_mem); (case t1 => k_mem); (case t2 => k_mem); (case kd => ktr_room); (case ku => ktr_units); k_whole; intro x' dx' ka' kb' kc' kt' y' u' b' h' tk' hy' hu' hb' F' N' l1 l2); (subst hy'); (subst hu'); (subst hb'); (have l1b := l1); (replace l2 := ltN l2); (try simp only [AllLt, and_true] at l1); (first | (obtain ⟨_, _, _, _, _, _⟩ := l1) | (obtain ⟨_, _, _, _, _⟩ := l1) | skip); (first | replace N' := reord12 N' | replace N' := reord11 N' | replace N' := reord10 N' | replace N' := reord9 N' | replace N' := reord8 N' | replace N' := reord7 N' | replace N' := reord6 N' | replace N' := reord5 N' | replace N' := reord4 N' | replace N' := reord3 N' | replace N' := reord2 N' | replace N' := reord1 N' | skip); (try dsimp only); (try k_fold)))
section
variable {w : World} {mean : ExcName → Option Value} {mg mb : Str → Option Value} {dp un : Nat} {gd : Option (List Code)} {cn : Str} {cs : Scope} {a : Addr} {ccd : Value} {cl : List (Str × Addr)} {outer : List Env} {A₀ : Around} {base h₀ : Heap} {L : Addr} {m : Str → Option Value} {news : List (Addr × Obj)} {s : Shared} {Q E : Value → Shared → Prop}
variable {c dc vl sl tl pl : Addr} {k1 k2 k3 k4 : Tok} {nv ns : Nat} {rest : List (Addr × Obj)} {us ps : List Value}
theorem begOpen (tok dtok : Addr) (file : Str) (line : Int) (j1 j2 j3 j4 u1 u2 u3 u4 : Tok) (B : Below A₀ base outer h₀) (F : Fr h₀ L s.heap m) (X : (KQ w.params).In h₀) (N : News h₀ L s.heap ((c, instObj 291 dc) :: (dc, cdict w tl pl vl sl k1 k2 k3 k4) :: (vl, listOf us.toArray nv) :: (sl, listOf ps.toArray ns) :: rest)) (T : Top viewQ looseQ mean mg mb h₀) (hk : cs.kind = .function) (six : Six c dc vl sl) (ap : Apart rest vl sl) (lu : us.length < 900) (lp : ps.length < 900)(ht1 : (tok, instObj 106 dtok) ∈ rest) (ht2 : (dtok, tdict w (Str.ofString "punct") (Str.ofString "(") file line j1 j2 j3 j4 u1 u2 u3 u4) ∈ rest)
    (hd : dp + 60 < recursionLimit) (hu : un + 700 < cLine)
    (ret : ∀ (nv' ns' : Nat) (t : Tok) (h' : Heap) (tk' : Nat), Fr h₀ L h' m → News h₀ L h' ((c, instObj 291 dc) :: (dc, cdict w tl pl vl sl k1 k2 k3 k4) :: (vl, listOf us.toArray nv') :: (sl, listOf (ps ++ [Value.str (Str.ofString "(") t]).toArray ns') :: rest) → Q (.bool false) { s with heap := h', toks := tk' }) :
    wpAny (MQ w) (ktrTop dp un gd cn cs L a ccd cl outer) (call (.ref 274) [.ref c, .ref tok]) Q E s := by
  obtain ⟨e1, e2, e3, e4, e5, e6⟩ := id six
  obtain ⟨ap1, ap2⟩ := id ap
  have e7 : @Ne Nat tok vl := ap1 _ ht1
  have e8 : @Ne Nat tok sl := ap2 _ ht1
  have e9 : @Ne Nat dtok vl := ap1 _ ht2
  have e10 : @Ne Nat dtok sl := ap2 _ ht2
  have N2 := News.dup (News.dup N (.tail _ (.tail _ (.tail _ (.tail _ ht2))))) (.tail _ (.tail _ (.tail _ (.tail _ (.tail _ ht1)))))
  refine wpAny_call ?_
  (k_dflt (refine' code_def (binds := [(Str.ofString "self", .ref c), (Str.ofString "token", .ref tok)]) ?k1 ?k2 ?k3 ?k4 ?k5 ?kA ?kF ?kK ?k6 ?k7 ?k8 ?k9 ?kB ?_ ?c2 ?c3 ?c4 ?c5; (case kA | kF => exact rfl); (case kK => first | exact rfl | assumption); (case k1 | k2 | k3 | k4 | k5 => k_asm); (case k6 | k7 => k_is); (case k8 => ktr_room); (case k9 => exact BindsTo.of_eq rfl); (case c5 => decide); (case kB => exact locs rfl); (case c2 | c3 | c4 => exact rfl); k_whole; intro g' L' h' FG' F' N' B' X' T'; (try dsimp only); (try k_lift B'); (try k_fold)))
  k_steps
  all_goals first | (exact ret _ _ 0 _ _ (by assumption) (by first | assumption  | exact News.tl (by assumption) | exact News.tl (News.tl (by assumption)) | exact News.tl (News.tl (News.tl (by assumption))) | exact News.tl (News.tl (News.tl (News.tl (by assumption)))) | exact News.tl (News.tl (News.tl (News.tl (News.tl (by assumption))))) | exact News.tl (News.tl (News.tl (News.tl (News.tl (News.tl (by assumption)))))) | exact News.tl (News.tl (News.tl (News.tl (News.tl (News.tl (News.tl (by assumption))))))))) | (exact ret _ _ _ _ _ (by assumption) (by first | assumption  | exact News.tl (by assumption) | exact News.tl (News.tl (by assumption)) | exact News.tl (News.tl (News.tl (by assumption))) | exact News.tl (News.tl (News.tl (News.tl (by assumption)))) | exact News.tl (News.tl (News.tl (News.tl (News.tl (by assumption))))) | exact News.tl (News.tl (News.tl (News.tl (News.tl (News.tl (by assumption)))))) | exact News.tl (News.tl (News.tl (News.tl (News.tl (News.tl (News.tl (by assumption)))))))))
theorem begUn_neg (tok dtok : Addr) (file : Str) (line : Int) (j1 j2 j3 j4 u1 u2 u3 u4 : Tok) (B : Below A₀ base outer h₀) (F : Fr h₀ L s.heap m) (X : (KQ w.params).In h₀) (N : News h₀ L s.heap ((c, instObj 291 dc) :: (dc, cdict w tl pl vl sl k1 k2 k3 k4) :: (vl, listOf us.toArray nv) :: (sl, listOf ps.toArray ns) :: rest)) (T : Top viewQ looseQ mean mg mb h₀) (hk : cs.kind = .function) (six : Six c dc vl sl) (ap : Apart rest vl sl) (lu : us.length < 900) (lp : ps.length < 900)(ht1 : (tok, instObj 106 dtok) ∈ rest) (ht2 : (dtok, tdict w (Str.ofString "punct") (Str.ofString "-") file line j1 j2 j3 j4 u1 u2 u3 u4) ∈ rest)
    (hd : dp + 60 < recursionLimit) (hu : un + 700 < cLine)
    (ret : ∀ (nv' ns' : Nat) (t : Tok) (h' : Heap) (tk' : Nat), Fr h₀ L h' m → News h₀ L h' ((c, instObj 291 dc) :: (dc, cdict w tl pl vl sl k1 k2 k3 k4) :: (vl, listOf us.toArray nv') :: (sl, listOf (ps ++ [Value.str (Str.ofString "minus") t]).toArray ns') :: rest) → Q (.bool false) { s with heap := h', toks := tk' }) :
    wpAny (MQ w) (ktrTop dp un gd cn cs L a ccd cl outer) (call (.ref 274) [.ref c, .ref tok]) Q E s := by
  obtain ⟨e1, e2, e3, e4, e5, e6⟩ := id six
  obtain ⟨ap1, ap2⟩ := id ap
  have e7 : @Ne Nat tok vl := ap1 _ ht1
  have e8 : @Ne Nat tok sl := ap2 _ ht1
  have e9 : @Ne Nat dtok vl := ap1 _ ht2
  have e10 : @Ne Nat dtok sl := ap2 _ ht2
  have N2 := News.dup (News.dup N (.tail _ (.tail _ (.tail _ (.tail _ ht2))))) (.tail _ (.tail _ (.tail _ (.tail _ (.tail _ ht1)))))
  refine wpAny_call ?_
  (k_dflt (refine' code_def (binds := [(Str.ofString "self", .ref c), (Str.ofString "token", .ref tok)]) ?k1 ?k2 ?k3 ?k4 ?k5 ?kA ?kF ?kK ?k6 ?k7 ?k8 ?k9 ?kB ?_ ?c2 ?c3 ?c4 ?c5; (case kA | kF => exact rfl); (case kK => first | exact rfl | assumption); (case k1 | k2 | k3 | k4 | k5 => k_asm); (case k6 | k7 => k_is); (case k8 => ktr_room); (case k9 => exact BindsTo.of_eq rfl); (case c5 => decide); (case kB => exact locs rfl); (case c2 | c3 | c4 => exact rfl); k_whole; intro g' L' h' FG' F' N' B' X' T'; (try dsimp only); (try k_lift B'); (try k_fold)))
  k_steps
  all_goals first | (exact ret _ _ 0 _ _ (by assumption) (by first | assumption  | exact News.tl (by assumption) | exact News.tl (News.tl (by assumption)) | exact News.tl (News.tl (News.tl (by assumption))) | exact News.tl (News.tl (News.tl (News.tl (by assumption)))) | exact News.tl (News.tl (News.tl (News.tl (News.tl (by assumption))))) | exact News.tl (News.tl (News.tl (News.tl (News.tl (News.tl (by assumption)))))) | exact News.tl (News.tl (News.tl (News.tl (News.tl (News.tl (News.tl (by assumption))))))))) | (exact ret _ _ _ _ _ (by assumption) (by first | assumption  | exact News.tl (by assumption) | exact News.tl (News.tl (by assumption)) | exact News.tl (News.tl (News.tl (by assumption))) | exact News.tl (News.tl (News.tl (News.tl (by assumption)))) | exact News.tl (News.tl (News.tl (News.tl (News.tl (by assumption))))) | exact News.tl (News.tl (News.tl (News.tl (News.tl (News.tl (by assumption)))))) | exact News.tl (News.tl (News.tl (News.tl (News.tl (News.tl (News.tl (by assumption)))))))))
theorem begUn_not (tok dtok : Addr) (file : Str) (line : Int) (j1 j2 j3 j4 u1 u2 u3 u4 : Tok) (B : Below A₀ base outer h₀) (F : Fr h₀ L s.heap m) (X : (KQ w.params).In h₀) (N : News h₀ L s.heap ((c, instObj 291 dc) :: (dc, cdict w tl pl vl sl k1 k2 k3 k4) :: (vl, listOf us.toArray nv) :: (sl, listOf ps.toArray ns) :: rest)) (T : Top viewQ looseQ mean mg mb h₀) (hk : cs.kind = .function) (six : Six c dc vl sl) (ap : Apart rest vl sl) (lu : us.length < 900) (lp : ps.length < 900)(ht1 : (tok, instObj 106 dtok) ∈ rest) (ht2 : (dtok, tdict w (Str.ofString "punct") (Str.ofString "!") file line j1 j2 j3 j4 u1 u2 u3 u4) ∈ rest)
    (hd : dp + 60 < recursionLimit) (hu : un + 700 < cLine)
    (ret : ∀ (nv' ns' : Nat) (t : Tok) (h' : Heap) (tk' : Nat), Fr h₀ L h' m → News h₀ L h' ((c, instObj 291 dc) :: (dc, cdict w tl pl vl sl k1 k2 k3 k4) :: (vl, listOf us.toArray nv') :: (sl, listOf (ps ++ [Value.str (Str.ofString "not") t]).toArray ns') :: rest) → Q (.bool false) { s with heap := h', toks := tk' }) :
    wpAny (MQ w) (ktrTop dp un gd cn cs L a ccd cl outer) (call (.ref 274) [.ref c, .ref tok]) Q E s := by
  obtain ⟨e1, e2, e3, e4, e5, e6⟩ := id six
  obtain ⟨ap1, ap2⟩ := id ap
  have e7 : @Ne Nat tok vl := ap1 _ ht1
  have e8 : @Ne Nat tok sl := ap2 _ ht1
  have e9 : @Ne Nat dtok vl := ap1 _ ht2
  have e10 : @Ne Nat dtok sl := ap2 _ ht2
  have N2 := News.dup (News.dup N (.tail _ (.tail _ (.tail _ (.tail _ ht2))))) (.tail _ (.tail _ (.tail _ (.tail _ (.tail _ ht1)))))
  refine wpAny_call ?_
  (k_dflt (refine' code_def (binds := [(Str.ofString "self", .ref c), (Str.ofString "token", .ref tok)]) ?k1 ?k2 ?k3 ?k4 ?k5 ?kA ?kF ?kK ?k6 ?k7 ?k8 ?k9 ?kB ?_ ?c2 ?c3 ?c4 ?c5; (case kA | kF => exact rfl); (case kK => first | exact rfl | assumption); (case k1 | k2 | k3 | k4 | k5 => k_asm); (case k6 | k7 => k_is); (case k8 => ktr_room); (case k9 => exact BindsTo.of_eq rfl); (case c5 => decide); (case kB => exact locs rfl); (case c2 | c3 | c4 => exact rfl); k_whole; intro g' L' h' FG' F' N' B' X' T'; (try dsimp only); (try k_lift B'); (try k_fold)))
  k_steps
  all_goals first | (exact ret _ _ 0 _ _ (by assumption) (by first | assumption  | exact News.tl (by assumption) | exact News.tl (News.tl (by assumption)) | exact News.tl (News.tl (News.tl (by assumption))) | exact News.tl (News.tl (News.tl (News.tl (by assumption)))) | exact News.tl (News.tl (News.tl (News.tl (News.tl (by assumption))))) | exact News.tl (News.tl (News.tl (News.tl (News.tl (News.tl (by assumption)))))) | exact News.tl (News.tl (News.tl (News.tl (News.tl (News.tl (News.tl (by assumption))))))))) | (exact ret _ _ _ _ _ (by assumption) (by first | assumption  | exact News.tl (by assumption) | exact News.tl (News.tl (by assumption)) | exact News.tl (News.tl (News.tl (by assumption))) | exact News.tl (News.tl (News.tl (News.tl (by assumption)))) | exact News.tl (News.tl (News.tl (News.tl (News.tl (by assumption))))) | exact News.tl (News.tl (News.tl (News.tl (News.tl (News.tl (by assumption)))))) | exact News.tl (News.tl (News.tl (News.tl (News.tl (News.tl (News.tl (by assumption)))))))))
theorem begUn_inv (tok dtok : Addr) (file : Str) (line : Int) (j1 j2 j3 j4 u1 u2 u3 u4 : Tok) (B : Below A₀ base outer h₀) (F : Fr h₀ L s.heap m) (X : (KQ w.params).In h₀) (N : News h₀ L s.heap ((c, instObj 291 dc) :: (dc, cdict w tl pl vl sl k1 k2 k3 k4) :: (vl, listOf us.toArray nv) :: (sl, listOf ps.toArray ns) :: rest)) (T : Top viewQ looseQ mean mg mb h₀) (hk : cs.kind = .function) (six : Six c dc vl sl) (ap : Apart rest vl sl) (lu : us.length < 900) (lp : ps.length < 900)(ht1 : (tok, instObj 106 dtok) ∈ rest) (ht2 : (dtok, tdict w (Str.ofString "punct") (Str.ofString "~") file line j1 j2 j3 j4 u1 u2 u3 u4) ∈ rest)
    (hd : dp + 60 < recursionLimit) (hu : un + 700 < cLine)
    (ret : ∀ (nv' ns' : Nat) (t : Tok) (h' : Heap) (tk' : Nat), Fr h₀ L h' m → News h₀ L h' ((c, instObj 291 dc) :: (dc, cdict w tl pl vl sl k1 k2 k3 k4) :: (vl, listOf us.toArray nv') :: (sl, listOf (ps ++ [Value.str (Str.ofString "turned") t]).toArray ns') :: rest) → Q (.bool false) { s with heap := h', toks := tk' }) :
    wpAny (MQ w) (ktrTop dp un gd cn cs L a ccd cl outer) (call (.ref 274) [.ref c, .ref tok]) Q E s := by
  obtain ⟨e1, e2, e3, e4, e5, e6⟩ := id six
  obtain ⟨ap1, ap2⟩ := id ap
  have e7 : @Ne Nat tok vl := ap1 _ ht1
  have e8 : @Ne Nat tok sl := ap2 _ ht1
  have e9 : @Ne Nat dtok vl := ap1 _ ht2
  have e10 : @Ne Nat dtok sl := ap2 _ ht2
  have N2 := News.dup (News.dup N (.tail _ (.tail _ (.tail _ (.tail _ ht2))))) (.tail _ (.tail _ (.tail _ (.tail _ (.tail _ ht1)))))
  refine wpAny_call ?_
  (k_dflt (refine' code_def (binds := [(Str.ofString "self", .ref c), (Str.ofString "token", .ref tok)]) ?k1 ?k2 ?k3 ?k4 ?k5 ?kA ?kF ?kK ?k6 ?k7 ?k8 ?k9 ?kB ?_ ?c2 ?c3 ?c4 ?c5; (case kA | kF => exact rfl); (case kK => first | exact rfl | assumption); (case k1 | k2 | k3 | k4 | k5 => k_asm); (case k6 | k7 => k_is); (case k8 => ktr_room); (case k9 => exact BindsTo.of_eq rfl); (case c5 => decide); (case kB => exact locs rfl); (case c2 | c3 | c4 => exact rfl); k_whole; intro g' L' h' FG' F' N' B' X' T'; (try dsimp only); (try k_lift B'); (try k_fold)))
  k_steps
  all_goals first | (exact ret _ _ 0 _ _ (by assumption) (by first | assumption  | exact News.tl (by assumption) | exact News.tl (News.tl (by assumption)) | exact News.tl (News.tl (News.tl (by assumption))) | exact News.tl (News.tl (News.tl (News.tl (by assumption)))) | exact News.tl (News.tl (News.tl (News.tl (News.tl (by assumption))))) | exact News.tl (News.tl (News.tl (News.tl (News.tl (News.tl (by assumption)))))) | exact News.tl (News.tl (News.tl (News.tl (News.tl (News.tl (News.tl (by assumption))))))))) | (exact ret _ _ _ _ _ (by assumption) (by first | assumption  | exact News.tl (by assumption) | exact News.tl (News.tl (by assumption)) | exact News.tl (News.tl (News.tl (by assumption))) | exact News.tl (News.tl (News.tl (News.tl (by assumption)))) | exact News.tl (News.tl (News.tl (News.tl (News.tl (by assumption))))) | exact News.tl (News.tl (News.tl (News.tl (News.tl (News.tl (by assumption)))))) | exact News.tl (News.tl (News.tl (News.tl (News.tl (News.tl (News.tl (by assumption)))))))))
theorem begUn_pos (tok dtok : Addr) (file : Str) (line : Int) (j1 j2 j3 j4 u1 u2 u3 u4 : Tok) (B : Below A₀ base outer h₀) (F : Fr h₀ L s.heap m) (X : (KQ w.params).In h₀) (N : News h₀ L s.heap ((c, instObj 291 dc) :: (dc, cdict w tl pl vl sl k1 k2 k3 k4) :: (vl, listOf us.toArray nv) :: (sl, listOf ps.toArray ns) :: rest)) (T : Top viewQ looseQ mean mg mb h₀) (hk : cs.kind = .function) (six : Six c dc vl sl) (ap : Apart rest vl sl) (lu : us.length < 900) (lp : ps.length < 900)(ht1 : (tok, instObj 106 dtok) ∈ rest) (ht2 : (dtok, tdict w (Str.ofString "punct") (Str.ofString "+") file line j1 j2 j3 j4 u1 u2 u3 u4) ∈ rest)
    (hd : dp + 60 < recursionLimit) (hu : un + 700 < cLine)
    (ret : ∀ (nv' ns' : Nat) (t : Tok) (h' : Heap) (tk' : Nat), Fr h₀ L h' m → News h₀ L h' ((c, instObj 291 dc) :: (dc, cdict w tl pl vl sl k1 k2 k3 k4) :: (vl, listOf us.toArray nv') :: (sl, listOf (ps ++ [Value.str (Str.ofString "plus") t]).toArray ns') :: rest) → Q (.bool false) { s with heap := h', toks := tk' }) :
    wpAny (MQ w) (ktrTop dp un gd cn cs L a ccd cl outer) (call (.ref 274) [.ref c, .ref tok]) Q E s := by
  obtain ⟨e1, e2, e3, e4, e5, e6⟩ := id six
  obtain ⟨ap1, ap2⟩ := id ap
  have e7 : @Ne Nat tok vl := ap1 _ ht1
  have e8 : @Ne Nat tok sl := ap2 _ ht1
  have e9 : @Ne Nat dtok vl := ap1 _ ht2
  have e10 : @Ne Nat dtok sl := ap2 _ ht2
  have N2 := News.dup (News.dup N (.tail _ (.tail _ (.tail _ (.tail _ ht2))))) (.tail _ (.tail _ (.tail _ (.tail _ (.tail _ ht1)))))
  refine wpAny_call ?_
  (k_dflt (refine' code_def (binds := [(Str.ofString "self", .ref c), (Str.ofString "token", .ref tok)]) ?k1 ?k2 ?k3 ?k4 ?k5 ?kA ?kF ?kK ?k6 ?k7 ?k8 ?k9 ?kB ?_ ?c2 ?c3 ?c4 ?c5; (case kA | kF => exact rfl); (case kK => first | exact rfl | assumption); (case k1 | k2 | k3 | k4 | k5 => k_asm); (case k6 | k7 => k_is); (case k8 => ktr_room); (case k9 => exact BindsTo.of_eq rfl); (case c5 => decide); (case kB => exact locs rfl); (case c2 | c3 | c4 => exact rfl); k_whole; intro g' L' h' FG' F' N' B' X' T'; (try dsimp only); (try k_lift B'); (try k_fold)))
  k_steps
  all_goals first | (exact ret _ _ 0 _ _ (by assumption) (by first | assumption  | exact News.tl (by assumption) | exact News.tl (News.tl (by assumption)) | exact News.tl (News.tl (News.tl (by assumption))) | exact News.tl (News.tl (News.tl (News.tl (by assumption)))) | exact News.tl (News.tl (News.tl (News.tl (News.tl (by assumption))))) | exact News.tl (News.tl (News.tl (News.tl (News.tl (News.tl (by assumption)))))) | exact News.tl (News.tl (News.tl (News.tl (News.tl (News.tl (News.tl (by assumption))))))))) | (exact ret _ _ _ _ _ (by assumption) (by first | assumption  | exact News.tl (by assumption) | exact News.tl (News.tl (by assumption)) | exact News.tl (News.tl (News.tl (by assumption))) | exact News.tl (News.tl (News.tl (News.tl (by assumption)))) | exact News.tl (News.tl (News.tl (News.tl (News.tl (by assumption))))) | exact News.tl (News.tl (News.tl (News.tl (News.tl (News.tl (by assumption)))))) | exact News.tl (News.tl (News.tl (News.tl (News.tl (News.tl (News.tl (by assumption)))))))))
theorem begNum (k : Num) (tok dtok : Addr) (file : Str) (line : Int) (j1 j2 j3 j4 u1 u2 u3 u4 : Tok) (B : Below A₀ base outer h₀) (F : Fr h₀ L s.heap m) (X : (KQ w.params).In h₀) (N : News h₀ L s.heap ((c, instObj 291 dc) :: (dc, cdict w tl pl vl sl k1 k2 k3 k4) :: (vl, listOf us.toArray nv) :: (sl, listOf ps.toArray ns) :: rest)) (T : Top viewQ looseQ mean mg mb h₀) (hk : cs.kind = .function) (S : SetsAt w h₀)(six : Six c dc vl sl) (ap : Apart rest vl sl) (lu : us.length < 900) (lp : ps.length < 900)(ht1 : (tok, instObj 106 dtok) ∈ rest) (ht2 : (dtok, tdict w (Str.ofString "number") k.txt file line j1 j2 j3 j4 u1 u2 u3 u4) ∈ rest)
    (hd : dp + 90 < recursionLimit) (hu : un + 1200 < cLine)
    (ret : ∀ (v : Value) (rest' : List (Addr × Obj)) (nv' : Nat) (h' : Heap) (tk' : Nat), Fr h₀ L h' m → News h₀ L h' ((c, instObj 291 dc) :: (dc, cdict w tl pl vl sl k1 k2 k3 k4) :: (vl, listOf (us ++ [v]).toArray nv') :: (sl, listOf ps.toArray ns) :: rest') → (∀ p ∈ rest, p ∈ rest') → Apart rest' vl sl → ValAt w rest' v (numV k) → Q (.bool true) { s with heap := h', toks := tk' }) :
    wpAny (MQ w) (ktrTop dp un gd cn cs L a ccd cl outer) (call (.ref 274) [.ref c, .ref tok]) Q E s := by
  obtain ⟨e1, e2, e3, e4, e5, e6⟩ := id six
  obtain ⟨ap1, ap2⟩ := id ap
  have e7 : @Ne Nat tok vl := ap1 _ ht1
  have e8 : @Ne Nat tok sl := ap2 _ ht1
  have e9 : @Ne Nat dtok vl := ap1 _ ht2
  have e10 : @Ne Nat dtok sl := ap2 _ ht2
  have N2 := News.dup (News.dup N (.tail _ (.tail _ (.tail _ (.tail _ ht2))))) (.tail _ (.tail _ (.tail _ (.tail _ (.tail _ ht1)))))
  refine wpAny_call ?_
  (k_dflt (refine' code_def (binds := [(Str.ofString "self", .ref c), (Str.ofString "token", .ref tok)]) ?k1 ?k2 ?k3 ?k4 ?k5 ?kA ?kF ?kK ?k6 ?k7 ?k8 ?k9 ?kB ?_ ?c2 ?c3 ?c4 ?c5; (case kA | kF => exact rfl); (case kK => first | exact rfl | assumption); (case k1 | k2 | k3 | k4 | k5 => k_asm); (case k6 | k7 => k_is); (case k8 => ktr_room); (case k9 => exact BindsTo.of_eq rfl); (case c5 => decide); (case kB => exact locs rfl); (case c2 | c3 | c4 => exact rfl); k_whole; intro g' L' h' FG' F' N' B' X' T'; (try dsimp only); (try k_lift B'); (try k_fold)))
  have S' := S.keeps FG'.keep
  k_steps
  all_goals (refine ret _ _ _ _ _ (by assumption) (by first | assumption  | exact News.tl (by assumption) | exact News.tl (News.tl (by assumption)) | exact News.tl (News.tl (News.tl (by assumption))) | exact News.tl (News.tl (News.tl (News.tl (by assumption)))) | exact News.tl (News.tl (News.tl (News.tl (News.tl (by assumption))))) | exact News.tl (News.tl (News.tl (News.tl (News.tl (News.tl (by assumption)))))) | exact News.tl (News.tl (News.tl (News.tl (News.tl (News.tl (News.tl (by assumption)))))))) (fun p hp => .tail _ (.tail _ hp)) ⟨?_, ?_⟩ ⟨_, _, _, _, _, _, rfl, .head _, .tail _ (.head _)⟩ <;> (intro p hp; rcases List.mem_cons.mp hp with rfl | hp; (k_ne); rcases List.mem_cons.mp hp with rfl | hp; (k_ne); first | exact ap1 p hp | exact ap2 p hp))
end
end
end
section
open PySem PySem.W PyProof.Rows PySem.Calls PySem.Spec
section
local macro_rules | `(tactic| walk_at "no key") => `(tactic| fail)
local macro_rules | `(tactic| walk_at "setAttr ref") => `(tactic| ((with_reducible show wpAny _ _ (setAttr (Value.ref _) _ _) _ _ _); k_dflt (first
  | (refine' exc_set_new ?k1 ?k2 ?k3 ?hx ?k4 ?k5 ?k6 ?k7 ?_; (case k1 => k_asm); (case k2 => k_asm); (case k3 => k_asm); (case hx => assumption); (case k4 => k_is); (case k5 => kernel_rfl!); (case k6 | k7 => k_is); k_whole; intro d' h' F' N' hd1 hd2)
  | (refine' exc_set_more ?k1 ?k2 ?k3 ?hx ?hy ?k4 ?k5 ?k6 ?k7 ?k8 ?k9 ?_; (case k1 => k_asm); (case k2 => k_asm); (case k3 => k_asm); (case hx => assumption); (case hy => assumption); (case k4 => k_is); (case k5 => kernel_rfl!); (case k6 | k7 => k_is); (case k8 => exact rfl); (case k9 => exact Nat.le_of_ble_eq_true rfl); k_whole; intro h' F' N'))))
local macro_rules | `(tactic| walk_at "getMethod type:Exception") => `(tactic| (refine' method_type ?F ?X ?m (by decide +kernel) ?e ?h ?_; (case F => k_asm); (case X => k_asm); (case m => rfl); (case e => k_dflt k_is); (case h => k_handed)))
local macro_rules | `(tactic| walk_at "call builtin:Exception.__init__") => `(tactic| (k_dflt (refine' exc_base_init ?k1 ?k2 ?k3 ?hx ?hb ?_; (case k1 => k_asm); (case k2 => k_asm); (case k3 => k_asm); (case hx => assumption); (case hb => kernel_rfl!); k_whole; intro d' h' F' N')))

abbrev edict (w : World) (wd fl : Str) (ln : Int) (k1 k2 k3 t1 t2 t3 : Tok) : Obj := dictOf [fld w "word" k1 (.str wd t1), fld w "file" k2 (.str fl t2), fld w "line" k3 (.int ln t3)] 3
theorem edrop {h₀ h : Heap} {L : Addr} {a b c : Addr × Obj} {r : List (Addr × Obj)} (N : News h₀ L h (a :: b :: c :: r)) : News h₀ L h (a :: b :: r) :=
  cb_drop N fun p hp => by
    rcases List.mem_cons.mp hp with rfl | hp
    · exact .head _
    · rcases List.mem_cons.mp hp with rfl | hp
      · exact .tail _ (.head _)
      · exact .tail _ (.tail _ (.tail _ hp))
theorem neCons {x d tp : Addr} {o o' : Obj} {news : List (Addr × Obj)} (he : ∀ p ∈ (tp, o) :: news, p.1 ≠ x) (h : x ≠ d) : ∀ p ∈ (d, o') :: news, p.1 ≠ x := fun p hp => by
  rcases List.mem_cons.mp hp with rfl | hp
  · exact h.symm
  · exact he p (.tail _ hp)
theorem neSub {x : Addr} {l l' : List (Addr × Obj)} (h : ∀ p ∈ l, p.1 ≠ x) (hs : ∀ p ∈ l', p ∈ l) : ∀ p ∈ l', p.1 ≠ x := fun p hp => h p (hs p hp)
section
variable {w : World} {mean : ExcName → Option Value} {mg mb : Str → Option Value} {dp un : Nat} {gd : Option (List Code)} {cn : Str} {cs : Scope} {a : Addr} {ccd : Value} {cl : List (Str × Addr)} {outer : List Env} {A₀ : Around} {base h₀ : Heap} {L : Addr} {m : Str → Option Value} {news : List (Addr × Obj)} {s : Shared} {Q E : Value → Shared → Prop}
theorem mkFault (wd fl : Str) (ln : Int) (t1 t2 t3 : Tok) (B : Below A₀ base outer h₀) (F : Fr h₀ L s.heap m) (X : (KQ w.params).In h₀) (N : News h₀ L s.heap news) (T : Top viewQ looseQ mean mg mb h₀) (hk : cs.kind = .function) 
    (hd : dp + 20 < recursionLimit) (hu : un + 200 < cLine)
    (ret : ∀ (x tp dx : Addr) (k1 k2 k3 : Tok) (h' : Heap) (tk' : Nat), Fr h₀ L h' m → News h₀ L h' ((x, excObj 58 tp (some dx)) :: (dx, edict w wd fl ln k1 k2 k3 t1 t2 t3) :: news) → (∀ p ∈ ((dx, edict w wd fl ln k1 k2 k3 t1 t2 t3) :: news), p.1 ≠ x) → Q (.ref x) { s with heap := h', toks := tk' }) :
    wpAny (MQ w) (ktrTop dp un gd cn cs L a ccd cl outer) (call (.ref 58) [.str wd t1, .str fl t2, .int ln t3]) Q E s := by
  (k_dflt (refine' exc_cls ?k1 ?k2 ?k3 ?k4 ?k5 ?k6 ?k7 ?k8 ?k9 ?_ ?kz; (case k1 => k_asm); (case k2 => k_asm); (case k3 => k_asm); (case k4 => kernel_rfl!); (case k5 => k_is); (case k6 | k7 => k_is); (case k8 => k_is); (case k9 => k_is); (case kz => (rw [PySem.sizeLine_eq]; exact Nat.le_of_ble_eq_true rfl)); k_whole; intro x' tp' h' F' N' l1 l2))
  have he : ∀ p ∈ ((tp', tupNew [.str wd t1, .str fl t2, .int ln t3]) :: news), p.1 ≠ x' := fun p hp => by
    rcases List.mem_cons.mp hp with rfl | hp
    · exact Nat.ne_of_lt l2
    · exact Nat.ne_of_lt (Nat.lt_trans (l1 p hp) l2)
  (k_dflt (refine' code_def (binds := [(Str.ofString "self", .ref x'), (Str.ofString "word", .str wd t1), (Str.ofString "file", .str fl t2), (Str.ofString "line", .int ln t3)]) ?k1 ?k2 ?k3 ?k4 ?k5 ?kA ?kF ?kK ?k6 ?k7 ?k8 ?k9 ?kB ?_ ?c2 ?c3 ?c4 ?c5; (case kA | kF => exact rfl); (case kK => first | exact rfl | assumption); (case k1 | k2 | k3 | k4 | k5 => k_asm); (case k6 | k7 => k_is); (case k8 => ktr_room); (case k9 => exact BindsTo.of_eq rfl); (case c5 => decide); (case kB => exact locs rfl); (case c2 | c3 | c4 => exact rfl); k_whole; intro g' L' h' FG' F' N' B' X' T'; (try dsimp only); (try k_lift B'); (try k_fold)))
  k_steps
  all_goals k_dflt (exact ret _ _ _ _ _ _ _ _ (by assumption) (edrop (by assumption)) (neCons he (by assumption)))
end
end
end
section
open PySem PySem.W PyProof.Rows PySem.Calls PySem.Spec
section
local macro_rules | `(tactic| walk_at "call ref") => `(tactic| ((k_dflt (show wpAny _ _ (call (Value.ref 58) [Value.str _ _, Value.str _ _, Value.int _ _]) _ _ _)); k_dflt (refine' mkFault _ _ _ _ _ _ ?k1 ?k2 ?k3 ?k4 ?k5 ?kK  ?kd ?ku ?_; (case k1 => k_asm); (case k2 => k_asm); (case k3 => k_asm); (case k4 => exact (by first | assumption  | exact News.tl (by assumption) | exact News.tl (News.tl (by assumption)) | exact News.tl (News.tl (News.tl (by assumption))) | exact News.tl (News.tl (News.tl (News.tl (by assumption)))) | exact News.tl (News.tl (News.tl (News.tl (News.tl (by assumption))))) | exact News.tl (News.tl (News.tl (News.tl (News.tl (News.tl (by assumption)))))) | exact News.tl (News.tl (News.tl (News.tl (News.tl (News.tl (News.tl (by assumption))))))))); (case k5 => k_asm); (case kK => first | exact rfl | assumption);  (case kd => ktr_room); (case ku => ktr_units); k_whole; intro x' tp' dx' kf1 kf2 kf3 h' tk' F' N' hfr'); (try dsimp only); (try k_fold)))

section
variable {w : World} {mean : ExcName → Option Value} {mg mb : Str → Option Value} {dp un : Nat} {gd : Option (List Code)} {cn : Str} {cs : Scope} {a : Addr} {ccd : Value} {cl : List (Str × Addr)} {outer : List Env} {A₀ : Around} {base h₀ : Heap} {L : Addr} {m : Str → Option Value} {news : List (Addr × Obj)} {s : Shared} {Q E : Value → Shared → Prop}
variable {c dc vl sl tl pl dpl : Addr} {k1 k2 k3 k4 : Tok}
theorem faultC (msg kind text file : Str) (line : Int) (t0 j1 j2 j3 j4 u1 u2 u3 u4 : Tok) (B : Below A₀ base outer h₀) (F : Fr h₀ L s.heap m) (X : (KQ w.params).In h₀) (N : News h₀ L s.heap news) (T : Top viewQ looseQ mean mg mb h₀) (hk : cs.kind = .function) (hc1 : (c, instObj 291 dc) ∈ news) (hc2 : (dc, cdict w tl pl vl sl k1 k2 k3 k4) ∈ news) (hp1 : (pl, instObj 106 dpl) ∈ news) (hp2 : (dpl, tdict w kind text file line j1 j2 j3 j4 u1 u2 u3 u4) ∈ news)
    (hd : dp + 40 < recursionLimit) (hu : un + 400 < cLine)
    (ret : ∀ (x tp dx : Addr) (k1 k2 k3 : Tok) (h' : Heap) (tk' : Nat), Fr h₀ L h' m → News h₀ L h' ((x, excObj 58 tp (some dx)) :: (dx, edict w msg file line k1 k2 k3 t0 u3 u4) :: news) → (∀ p ∈ ((dx, edict w msg file line k1 k2 k3 t0 u3 u4) :: news), p.1 ≠ x) → Q (.ref x) { s with heap := h', toks := tk' }) :
    wpAny (MQ w) (ktrTop dp un gd cn cs L a ccd cl outer) (call (.ref 232) [.ref c, .str msg t0]) Q E s := by
  have N2 := News.dup (News.dup (News.dup (News.dup N hp2) (.tail _ hp1)) (.tail _ (.tail _ hc2))) (.tail _ (.tail _ (.tail _ hc1)))
  refine wpAny_call ?_
  (k_dflt (refine' code_def (binds := [(Str.ofString "self", .ref c), (Str.ofString "word", .str msg t0)]) ?k1 ?k2 ?k3 ?k4 ?k5 ?kA ?kF ?kK ?k6 ?k7 ?k8 ?k9 ?kB ?_ ?c2 ?c3 ?c4 ?c5; (case kA | kF => exact rfl); (case kK => first | exact rfl | assumption); (case k1 | k2 | k3 | k4 | k5 => k_asm); (case k6 | k7 => k_is); (case k8 => ktr_room); (case k9 => exact BindsTo.of_eq rfl); (case c5 => decide); (case kB => exact locs rfl); (case c2 | c3 | c4 => exact rfl); k_whole; intro g' L' h' FG' F' N' B' X' T'; (try dsimp only); (try k_lift B'); (try k_fold)))
  k_steps
  all_goals k_dflt (exact ret _ _ _ _ _ _ _ _ (by assumption) (by first | assumption | (exact vdrop (by assumption) (by intro p hp; simp only [List.mem_cons, hp, or_true, true_or]))) (neSub (by assumption) (by intro p hp; simp only [List.mem_cons] at hp ⊢; rcases hp with h | h <;> simp only [h, true_or, or_true])))
end
end
end
section
open PySem PySem.W PyProof.Rows PySem.Calls PySem.Spec
section

abbrev bodyIS : List Stmt := [Stmt.Assign [Expr.Name (Str.ofString "is_whole") { line := 255, col := 12, endLine := 255, endCol := 20 }]
          ((Expr.Name (Str.ofString "is_whole") { line := 255, col := 44, endLine := 255, endCol := 52 }).IfExp
            (((Expr.Name (Str.ofString "self") { line := 255, col := 23, endLine := 255, endCol := 27 }).Attribute
                  (Str.ofString "go_on") { line := 255, col := 23, endLine := 255, endCol := 33 }).Call
              [Expr.Name (Str.ofString "token") { line := 255, col := 34, endLine := 255, endCol := 39 }] []
              { line := 255, col := 23, endLine := 255, endCol := 40 })
            (((Expr.Name (Str.ofString "self") { line := 255, col := 58, endLine := 255, endCol := 62 }).Attribute
                  (Str.ofString "begin") { line := 255, col := 58, endLine := 255, endCol := 68 }).Call
              [Expr.Name (Str.ofString "token") { line := 255, col := 69, endLine := 255, endCol := 74 }] []
              { line := 255, col := 58, endLine := 255, endCol := 75 })
            { line := 255, col := 23, endLine := 255, endCol := 75 })
          { line := 255, col := 12, endLine := 255, endCol := 75 }]
def mF (c : Addr) (b : Bool) (tv : Option Value) : Str → Option Value := fun y => if y = Str.ofString "is_whole" then some (.bool b) else if y = Str.ofString "token" then tv else if y = Str.ofString "self" then some (.ref c) else none
theorem mF_start (c : Addr) : (fun y => if y = Str.ofString "is_whole" then some (.bool false) else ([(Str.ofString "self", Value.ref c)] : List (Str × Value)).reverse.lookup y) = mF c false none := by
  funext y
  unfold mF
  split
  · rfl
  · show List.lookup y [(Str.ofString "self", Value.ref c)] = _
    by_cases h : y = Str.ofString "self"
    · subst h; rfl
    · rw [List.lookup_cons, show (y == Str.ofString "self") = false from beq_eq_false_iff_ne.mpr h, if_neg h]
      show none = _
      split <;> rfl
theorem mF_turn2 (c : Addr) (b b' : Bool) (v : Value) : (fun y => if y = Str.ofString "is_whole" then some (.bool b') else mF c b (some v) y) = mF c b' (some v) := by
  funext y
  unfold mF
  by_cases h1 : y = Str.ofString "is_whole"
  · simp only [if_pos h1]
  · simp only [if_neg h1]
theorem mF_tok (c : Addr) (b : Bool) (tv : Option Value) (v : Value) : (fun y => if y = Str.ofString "token" then some v else mF c b tv y) = mF c b (some v) := by
  funext y
  unfold mF
  by_cases h1 : y = Str.ofString "token"
  · subst h1; rfl
  · rw [if_neg h1]; simp only [if_neg h1]
section
variable {w : World} {mean : ExcName → Option Value} {mg mb : Str → Option Value} {dp un : Nat} {gd : Option (List Code)} {cn : Str} {cs : Scope} {a : Addr} {ccd : Value} {cl : List (Str × Addr)} {outer : List Env} {A₀ : Around} {base h₀ : Heap} {L : Addr} {news : List (Addr × Obj)} {s : Shared} {Q E : Value → Shared → Prop}
variable {c dc vl sl tl pl : Addr} {k1 k2 k3 k4 : Tok} {nv ns : Nat} {rest : List (Addr × Obj)} {us ps : List Value}

def TurnPost (h₀ : Heap) (L c : Addr) (s : Shared) (b : Bool) (v : Value) (P : Bool → List (Addr × Obj) → Prop) (r : Value) (s₂ : Shared) : Prop :=
  ∃ b' led h' tk', r = .bool b' ∧ s₂ = { s with heap := h', toks := tk' } ∧ Fr h₀ L h' (mF c b (some v)) ∧ News h₀ L h' led ∧ P b' led
def BodyPost (h₀ : Heap) (L c : Addr) (s : Shared) (v : Value) (P : Bool → List (Addr × Obj) → Prop) (f : Flow) (s₂ : Shared) : Prop :=
  f = .next ∧ ∃ b' led h' tk', s₂ = { s with heap := h', toks := tk' } ∧ Fr h₀ L h' (mF c b' (some v)) ∧ News h₀ L h' led ∧ P b' led
theorem turnGo (v : Value) (P : Bool → List (Addr × Obj) → Prop) (B : Below A₀ base outer h₀) (F : Fr h₀ L s.heap (fun y => if y = Str.ofString "is_whole" then some (.bool true) else if y = Str.ofString "token" then some v else if y = Str.ofString "self" then some (.ref c) else none)) (X : (KQ w.params).In h₀) (N : News h₀ L s.heap ((c, instObj 291 dc) :: (dc, cdict w tl pl vl sl k1 k2 k3 k4) :: rest)) (T : Top viewQ looseQ mean mg mb h₀)
    (hcall : wpAny (MQ w) (ktrTop dp un gd (Str.ofString "Condition.is_so") (pS (M 30 9)) L 288 (Value.ref 287) [] outer) (call (.ref 281) [.ref c, v]) (TurnPost h₀ L c s true v P) E s) :
    wpAny (MQ w) (ktrTop dp un gd (Str.ofString "Condition.is_so") (pS (M 30 9)) L 288 (Value.ref 287) [] outer) (execs bodyIS (envOf (Str.ofString "Condition.is_so") (pS (M 30 9)) L 288 (Value.ref 287))) (BodyPost h₀ L c s v P) E s := by
  k_steps
  all_goals (refine wpAny_mono hcall (fun r s₂ hr => ?_) (fun _ _ e => e))
  all_goals (obtain ⟨b', led, h', tk', rfl, rfl, F', N', hP⟩ := hr)
  all_goals (refine stN F' N' (fun h'' F'' N'' => wpAny_pure ⟨rfl, b', led, h'', _, rfl, mF_turn2 c true b' v ▸ (by exact F''), N'', hP⟩))
theorem turnBegin (v : Value) (P : Bool → List (Addr × Obj) → Prop) (B : Below A₀ base outer h₀) (F : Fr h₀ L s.heap (fun y => if y = Str.ofString "is_whole" then some (.bool false) else if y = Str.ofString "token" then some v else if y = Str.ofString "self" then some (.ref c) else none)) (X : (KQ w.params).In h₀) (N : News h₀ L s.heap ((c, instObj 291 dc) :: (dc, cdict w tl pl vl sl k1 k2 k3 k4) :: rest)) (T : Top viewQ looseQ mean mg mb h₀)
    (hcall : wpAny (MQ w) (ktrTop dp un gd (Str.ofString "Condition.is_so") (pS (M 30 9)) L 288 (Value.ref 287) [] outer) (call (.ref 274) [.ref c, v]) (TurnPost h₀ L c s false v P) E s) :
    wpAny (MQ w) (ktrTop dp un gd (Str.ofString "Condition.is_so") (pS (M 30 9)) L 288 (Value.ref 287) [] outer) (execs bodyIS (envOf (Str.ofString "Condition.is_so") (pS (M 30 9)) L 288 (Value.ref 287))) (BodyPost h₀ L c s v P) E s := by
  k_steps
  all_goals (refine wpAny_mono hcall (fun r s₂ hr => ?_) (fun _ _ e => e))
  all_goals (obtain ⟨b', led, h', tk', rfl, rfl, F', N', hP⟩ := hr)
  all_goals (refine stN F' N' (fun h'' F'' N'' => wpAny_pure ⟨rfl, b', led, h'', _, rfl, mF_turn2 c false b' v ▸ (by exact F''), N'', hP⟩))
end
end
end
end
section
open PySem PySem.W PyProof.Rows PySem.Calls PySem.Spec
section

def off (I : Addr) (l : List (Addr × Obj)) : List (Addr × Obj) := l.filter fun p => decide ((p.1 : Nat) ≠ I)
theorem mem_off {I : Addr} {l : List (Addr × Obj)} {p : Addr × Obj} : p ∈ off I l ↔ p ∈ l ∧ p.1 ≠ I := by
  unfold off; rw [List.mem_filter]; exact and_congr_right fun _ => decide_eq_true_iff
theorem ne_it {h₀ h : Heap} {L I : Addr} {it : Obj} {all : List (Addr × Obj)} {p : Addr × Obj} (N : News h₀ L h all) (hI : (I, it) ∈ all) (hit : it.cls = .type "list_iterator") (hp : p ∈ all) (hc : p.2.cls ≠ .type "list_iterator") : p.1 ≠ I := fun e => by
  have h1 := (N _ hp).1
  have h2 := (N _ hI).1
  rw [e] at h1
  rw [h1] at h2
  exact hc (by rw [Option.some.inj h2]; exact hit)
theorem off_cons {I : Addr} {p : Addr × Obj} {l : List (Addr × Obj)} (h : p.1 ≠ I) : off I (p :: l) = p :: off I l := by
  unfold off
  exact List.filter_cons_of_pos (by exact decide_eq_true h)
structure Sta (w : World) (keep rest : List (Addr × Obj)) (vl sl : Addr) (us : List Value) (xs : List V) (ps : List Value) (ts : List Str) : Prop where
  ap : Apart rest vl sl
  keep : ∀ p ∈ keep, p ∈ rest
  vals : ValsAt w rest us xs
  sgs : Strs ps ts
theorem ValsAt.mono {w : World} {n1 n2 : List (Addr × Obj)} : ∀ {vs : List Value} {xs : List V}, ValsAt w n1 vs xs → (∀ p ∈ n1, p ∈ n2) → ValsAt w n2 vs xs
  | _, _, .nil, _ => .nil
  | _, _, .cons a b c, hs => .cons (a.mono hs) b (c.mono hs)
theorem ValsAt.app {w : World} {n : List (Addr × Obj)} : ∀ {vs ws : List Value} {xs ys : List V}, ValsAt w n vs xs → ValsAt w n ws ys → ValsAt w n (vs ++ ws) (xs ++ ys)
  | _, _, _, _, .nil, y => y
  | _, _, _, _, .cons a b c, y => .cons a b (c.app y)
theorem ValsAt.split {w : World} {n : List (Addr × Obj)} : ∀ {vs ws : List Value} {xs ys : List V}, ValsAt w n (vs ++ ws) (xs ++ ys) → vs.length = xs.length → ValsAt w n vs xs ∧ ValsAt w n ws ys
  | [], _, [], _, h, _ => ⟨.nil, h⟩
  | [], _, _ :: _, _, _, e => by cases e
  | _ :: _, _, [], _, _, e => by cases e
  | _ :: _, _, _ :: _, _, .cons a b c, e => ⟨.cons a b (ValsAt.split c (Nat.succ.inj e)).1, (ValsAt.split c (Nat.succ.inj e)).2⟩
theorem ValsAt.len {w : World} {n : List (Addr × Obj)} : ∀ {vs : List Value} {xs : List V}, ValsAt w n vs xs → vs.length = xs.length
  | _, _, .nil => rfl
  | _, _, .cons _ _ c => congrArg (· + 1) c.len
theorem Strs.app1 {ps : List Value} {ts : List Str} (h : Strs ps ts) (x : Str) (t : Tok) (hx : PyData.strOk x = true) : Strs (ps ++ [Value.str x t]) (ts ++ [x]) := by
  refine ⟨?_, fun y hy => ?_⟩
  · have : ∀ {ps : List Value} {ts : List Str}, StrsAre ps ts → StrsAre (ps ++ [Value.str x t]) (ts ++ [x]) := by
      intro ps ts h
      induction h with
      | nil => exact .cons x t .nil
      | cons y u _ ih => exact .cons y u ih
    exact this h.1
  · rcases List.mem_append.mp hy with hy | hy
    · exact h.2 y hy
    · rw [List.mem_singleton.mp hy]; exact hx
theorem Strs.pre {ps : List Value} {ts : List Str} {v : Value} {x : Str} (h : Strs (ps ++ [v]) (ts ++ [x])) : Strs ps ts := by
  refine ⟨?_, fun y hy => h.2 y (List.mem_append_left _ hy)⟩
  have : ∀ {ps : List Value} {ts : List Str}, StrsAre (ps ++ [v]) (ts ++ [x]) → StrsAre ps ts := by
    intro ps
    induction ps with
    | nil =>
      intro ts h
      cases ts with
      | nil => exact .nil
      | cons a r =>
        have : ∀ {b : Value} {l : List Str}, StrsAre [b] l → l.length = 1 := by
          intro b l q; cases q with | cons _ _ r => cases r; rfl
        have := this h
        simp at this
    | cons a r ih =>
      intro ts h
      cases ts with
      | nil =>
        have : ∀ {l : List Value} {z : Str}, StrsAre l [z] → l.length = 1 := by
          intro l z q; cases q with | cons _ _ r => cases r; rfl
        have := this h
        simp at this
      | cons b q =>
        cases h with
        | cons _ _ z => exact .cons _ _ (ih z)
  exact this h.1
theorem bop_ok (o : Bop) : PyData.strOk o.txt = true := by cases o <;> decide +kernel
theorem uop_ok (o : Uop) : PyData.strOk o.word = true := by cases o <;> decide +kernel
theorem pend_ok (p : Pend) : PyData.strOk p.word = true := by
  cases p with
  | bin o => exact bop_ok o
  | un o => exact uop_ok o
  | cond => decide +kernel
theorem in33_01 (p : Prop) [Decidable p] : In33 (if p then 1 else 0) := by unfold In33; split <;> decide
theorem ite_in33 {c : Prop} [Decidable c] {a b : V} (ha : In33 a.n) (hb : In33 b.n) : In33 (if c then a else b).n := by split <;> assumption
theorem two_in33 (o : Bop) (x y : V) : In33 (twoB o x y).n := by
  unfold twoB
  repeat' (refine ite_in33 ?_ ?_)
  all_goals first | exact led_in _ _ | (with_reducible exact in33_01 _) | (exact led_in 0 (x.u || y.u))
theorem run_in33 (p : Pend) (xs : List V) (h : ∀ x ∈ xs, In33 x.n) : In33 (p.run xs).n := by
  have z : In33 0 := by unfold In33; decide
  cases p with
  | bin o => rcases xs with _ | ⟨x, _ | ⟨y, _ | ⟨_, _⟩⟩⟩ <;> first | exact z | exact two_in33 o x y
  | un o =>
    rcases xs with _ | ⟨x, _ | ⟨_, _⟩⟩ <;> first | exact z | skip
    cases o with
    | pos => exact h x (.head _)
    | neg => exact led_in _ _
    | inv => exact led_in _ _
    | not => show In33 (if x.n == 0 then 1 else 0); unfold In33; split <;> decide
  | cond => rcases xs with _ | ⟨x, _ | ⟨y, _ | ⟨t, _ | ⟨_, _⟩⟩⟩⟩ <;> first | exact z | exact led_in _ _
theorem ValsAt.in33 {w : World} {n : List (Addr × Obj)} : ∀ {vs : List Value} {xs : List V}, ValsAt w n vs xs → ∀ x ∈ xs, In33 x.n
  | _, _, .nil, _, h => nomatch h
  | _, _, .cons _ b c, x, h => by
    rcases List.mem_cons.mp h with rfl | h
    · exact b
    · exact ValsAt.in33 c x h
def TokAt (w : World) (keep : List (Addr × Obj)) (file : Str) (line : Int) (v : Value) (kind text : Str) : Prop :=
  ∃ (tok dtok : Addr) (j1 j2 j3 j4 u1 u2 u3 u4 : Tok), v = .ref tok ∧ (tok, instObj 106 dtok) ∈ keep ∧ (dtok, tdict w kind text file line j1 j2 j3 j4 u1 u2 u3 u4) ∈ keep
theorem num_in33 (k : Num) : In33 (numV k).n := by cases k <;> (unfold In33; decide)
section
variable {w : World} {mean : ExcName → Option Value} {mg mb : Str → Option Value} {dp un : Nat} {gd : Option (List Code)} {cn : Str} {cs : Scope} {a : Addr} {ccd : Value} {cl : List (Str × Addr)} {outer : List Env} {A₀ : Around} {base h₀ : Heap} {L : Addr} {news : List (Addr × Obj)} {s : Shared} {Q E : Value → Shared → Prop}
variable {c dc vl sl tl pl : Addr} {k1 k2 k3 k4 : Tok} {nv ns : Nat} {rest : List (Addr × Obj)} {us ps : List Value}

variable {keep : List (Addr × Obj)} {I : Addr} {lo : Obj} {QF : Flow → Shared → Prop} {file : Str} {line : Int} {xs : List V} {ts : List Str} {r : List Value} {v : Value} {tv : Option Value}
theorem led_off {h : Heap} {it : Obj} (N : News h₀ L h ((c, instObj 291 dc) :: (dc, cdict w tl pl vl sl k1 k2 k3 k4) :: (vl, listOf us.toArray nv) :: (sl, listOf ps.toArray ns) :: rest)) (hI : (I, it) ∈ rest) (hit : it.cls = .type "list_iterator") : off I ((c, instObj 291 dc) :: (dc, cdict w tl pl vl sl k1 k2 k3 k4) :: (vl, listOf us.toArray nv) :: (sl, listOf ps.toArray ns) :: rest) = ((c, instObj 291 dc) :: (dc, cdict w tl pl vl sl k1 k2 k3 k4) :: (vl, listOf us.toArray nv) :: (sl, listOf ps.toArray ns) :: off I rest) := by
  have q : ∀ p ∈ ((c, instObj 291 dc) :: (dc, cdict w tl pl vl sl k1 k2 k3 k4) :: (vl, listOf us.toArray nv) :: (sl, listOf ps.toArray ns) :: rest), p.2.cls ≠ .type "list_iterator" → p.1 ≠ I := fun p hp hc => ne_it N (.tail _ (.tail _ (.tail _ (.tail _ hI)))) hit hp hc
  have k : (Value.type "dict") ≠ .type "list_iterator" := fun e => absurd (Value.type.inj e) (by decide)
  have k2 : (Value.type "list") ≠ .type "list_iterator" := fun e => absurd (Value.type.inj e) (by decide)
  rw [off_cons (q _ (.head _) (fun e => by cases e)), off_cons (q _ (.tail _ (.head _)) k), off_cons (q _ (.tail _ (.tail _ (.head _))) k2), off_cons (q _ (.tail _ (.tail _ (.tail _ (.head _)))) k2)]
theorem Sta.off {h : Heap} {it : Obj} (S : Sta w keep rest vl sl us xs ps ts) (N : News h₀ L h ((c, instObj 291 dc) :: (dc, cdict w tl pl vl sl k1 k2 k3 k4) :: (vl, listOf us.toArray nv) :: (sl, listOf ps.toArray ns) :: rest)) (hI : (I, it) ∈ rest) (hit : it.cls = .type "list_iterator") (hkeep : ∀ p ∈ keep, p.2.cls ≠ .type "list_iterator") : Sta w keep (off I rest) vl sl us xs ps ts := by
  have q : ∀ p ∈ rest, p.2.cls ≠ .type "list_iterator" → p ∈ Mine.off I rest := fun p hp hc => mem_off.mpr ⟨hp, ne_it N (.tail _ (.tail _ (.tail _ (.tail _ hI)))) hit (.tail _ (.tail _ (.tail _ (.tail _ hp)))) hc⟩
  have k : (Value.type "dict") ≠ .type "list_iterator" := fun e => absurd (Value.type.inj e) (by decide)
  refine ⟨⟨fun p hp => S.ap.1 p (mem_off.mp hp).1, fun p hp => S.ap.2 p (mem_off.mp hp).1⟩, fun p hp => q p (S.keep p hp) (hkeep p hp), ?_, S.sgs⟩
  have : ∀ {vs : List Value} {xs : List V}, ValsAt w rest vs xs → ValsAt w (Mine.off I rest) vs xs := by
    intro vs xs h
    induction h with
    | nil => exact .nil
    | cons a b _ ih =>
      obtain ⟨a, da, k1, k2, k3, t, e, h1, h2⟩ := a
      exact .cons ⟨a, da, k1, k2, k3, t, e, q _ h1 (fun e => by cases e), q _ h2 k⟩ b ih
  exact this S.vals
theorem Sta.it {h : Heap} {it : Obj} (S : Sta w keep rest vl sl us xs ps ts) (N : News h₀ L h ((I, it) :: ((c, instObj 291 dc) :: (dc, cdict w tl pl vl sl k1 k2 k3 k4) :: (vl, listOf us.toArray nv) :: (sl, listOf ps.toArray ns) :: rest))) (hit : it.cls = .type "list_iterator") : Sta w keep ((I, it) :: rest) vl sl us xs ps ts ∧ News h₀ L h ((c, instObj 291 dc) :: (dc, cdict w tl pl vl sl k1 k2 k3 k4) :: (vl, listOf us.toArray nv) :: (sl, listOf ps.toArray ns) :: (I, it) :: rest) := by
  have k2 : (Value.type "list") ≠ .type "list_iterator" := fun e => absurd (Value.type.inj e) (by decide)
  have n1 := ne_it N (.head _) hit (.tail _ (.tail _ (.tail _ (.head _)))) k2
  have n2 := ne_it N (.head _) hit (.tail _ (.tail _ (.tail _ (.tail _ (.head _))))) k2
  refine ⟨⟨⟨fun p hp => ?_, fun p hp => ?_⟩, fun p hp => .tail _ (S.keep p hp), S.vals.mono fun p hp => .tail _ hp, S.sgs⟩, fun p hp => N p ?_⟩
  · rcases List.mem_cons.mp hp with rfl | hp
    · exact n1.symm
    · exact S.ap.1 p hp
  · rcases List.mem_cons.mp hp with rfl | hp
    · exact n2.symm
    · exact S.ap.2 p hp
  · simp only [List.mem_cons] at hp ⊢
    rcases hp with h | h | h | h | h | h <;> simp [h]
def Kont (w : World) (mean : ExcName → Option Value) (mg mb : Str → Option Value) (dp un : Nat) (gd : Option (List Code)) (outer : List Env) (h₀ : Heap) (L : Addr) (s : Shared) (E : Value → Shared → Prop) (QF : Flow → Shared → Prop) (c dc vl sl tl pl : Addr) (k1 k2 k3 k4 : Tok) (keep : List (Addr × Obj)) (I : Addr) (lo : Obj) (r : List Value) (b : Bool) (us : List Value) (xs : List V) (ps : List Value) (ts : List Str) : Prop :=
  ∀ (nv ns : Nat) (rest : List (Addr × Obj)) (tv : Option Value), Sta w keep rest vl sl us xs ps ts →
    ListRest PySem.Challenge.rw_on0057_01.prog w (ktrTop dp un gd (Str.ofString "Condition.is_so") (pS (M 30 9)) L 288 (Value.ref 287) [] outer) E h₀ (envOf (Str.ofString "Condition.is_so") (pS (M 30 9)) L 288 (Value.ref 287)) (Str.ofString "token") bodyIS QF s I (tl, lo) r (mF c b tv) ((c, instObj 291 dc) :: (dc, cdict w tl pl vl sl k1 k2 k3 k4) :: (vl, listOf us.toArray nv) :: (sl, listOf ps.toArray ns) :: rest)

theorem stepGo (B : Below A₀ base outer h₀) (X : (KQ w.params).In h₀) (T : Top viewQ looseQ mean mg mb h₀)
    (hcall : ∀ (it : Obj) (s₁ : Shared), it.cls = .type "list_iterator" → Fr h₀ L s₁.heap (mF c true (some v)) → News h₀ L s₁.heap ((I, it) :: ((c, instObj 291 dc) :: (dc, cdict w tl pl vl sl k1 k2 k3 k4) :: (vl, listOf us.toArray nv) :: (sl, listOf ps.toArray ns) :: rest)) →
      wpAny (MQ w) (ktrTop dp un gd (Str.ofString "Condition.is_so") (pS (M 30 9)) L 288 (Value.ref 287) [] outer) (call (.ref 281) [.ref c, v]) (TurnPost h₀ L c s₁ true v fun b' led => (I, it) ∈ led ∧ (tl, lo) ∈ led ∧ (tl, lo) ∈ off I led ∧ ListRest PySem.Challenge.rw_on0057_01.prog w (ktrTop dp un gd (Str.ofString "Condition.is_so") (pS (M 30 9)) L 288 (Value.ref 287) [] outer) E h₀ (envOf (Str.ofString "Condition.is_so") (pS (M 30 9)) L 288 (Value.ref 287)) (Str.ofString "token") bodyIS QF s I (tl, lo) r (mF c b' (some v)) (off I led)) E s₁) :
    ListRest PySem.Challenge.rw_on0057_01.prog w (ktrTop dp un gd (Str.ofString "Condition.is_so") (pS (M 30 9)) L 288 (Value.ref 287) [] outer) E h₀ (envOf (Str.ofString "Condition.is_so") (pS (M 30 9)) L 288 (Value.ref 287)) (Str.ofString "token") bodyIS QF s I (tl, lo) (v :: r) (mF c true tv) ((c, instObj 291 dc) :: (dc, cdict w tl pl vl sl k1 k2 k3 k4) :: (vl, listOf us.toArray nv) :: (sl, listOf ps.toArray ns) :: rest) := by
  refine ListRest.succ fun it h tk hit F N => ?_
  have F1 : Fr h₀ L h (mF c true (some v)) := mF_tok c true tv v ▸ F
  refine wpAny_mono (turnGo v _ B F1 X (fun p hp => N p (.tail _ hp)) T (hcall it _ hit F1 N)) (fun f s₂ hf => ?_) (fun _ _ e => e)
  obtain ⟨rfl, b', led, h', tk', rfl, F', N', hI, ht, ht2, hr⟩ := hf
  refine UnrEnd.intro F' N' (off I led) (fun p hp => ?_) (fun p hp => (mem_off.mp hp).2) ⟨ht2, hr⟩
  rcases List.mem_cons.mp hp with rfl | hp
  · exact hI
  · exact (mem_off.mp hp).1

theorem stepBegin (B : Below A₀ base outer h₀) (X : (KQ w.params).In h₀) (T : Top viewQ looseQ mean mg mb h₀)
    (hcall : ∀ (it : Obj) (s₁ : Shared), it.cls = .type "list_iterator" → Fr h₀ L s₁.heap (mF c false (some v)) → News h₀ L s₁.heap ((I, it) :: ((c, instObj 291 dc) :: (dc, cdict w tl pl vl sl k1 k2 k3 k4) :: (vl, listOf us.toArray nv) :: (sl, listOf ps.toArray ns) :: rest)) →
      wpAny (MQ w) (ktrTop dp un gd (Str.ofString "Condition.is_so") (pS (M 30 9)) L 288 (Value.ref 287) [] outer) (call (.ref 274) [.ref c, v]) (TurnPost h₀ L c s₁ false v fun b' led => (I, it) ∈ led ∧ (tl, lo) ∈ led ∧ (tl, lo) ∈ off I led ∧ ListRest PySem.Challenge.rw_on0057_01.prog w (ktrTop dp un gd (Str.ofString "Condition.is_so") (pS (M 30 9)) L 288 (Value.ref 287) [] outer) E h₀ (envOf (Str.ofString "Condition.is_so") (pS (M 30 9)) L 288 (Value.ref 287)) (Str.ofString "token") bodyIS QF s I (tl, lo) r (mF c b' (some v)) (off I led)) E s₁) :
    ListRest PySem.Challenge.rw_on0057_01.prog w (ktrTop dp un gd (Str.ofString "Condition.is_so") (pS (M 30 9)) L 288 (Value.ref 287) [] outer) E h₀ (envOf (Str.ofString "Condition.is_so") (pS (M 30 9)) L 288 (Value.ref 287)) (Str.ofString "token") bodyIS QF s I (tl, lo) (v :: r) (mF c false tv) ((c, instObj 291 dc) :: (dc, cdict w tl pl vl sl k1 k2 k3 k4) :: (vl, listOf us.toArray nv) :: (sl, listOf ps.toArray ns) :: rest) := by
  refine ListRest.succ fun it h tk hit F N => ?_
  have F1 : Fr h₀ L h (mF c false (some v)) := mF_tok c false tv v ▸ F
  refine wpAny_mono (turnBegin v _ B F1 X (fun p hp => N p (.tail _ hp)) T (hcall it _ hit F1 N)) (fun f s₂ hf => ?_) (fun _ _ e => e)
  obtain ⟨rfl, b', led, h', tk', rfl, F', N', hI, ht, ht2, hr⟩ := hf
  refine UnrEnd.intro F' N' (off I led) (fun p hp => ?_) (fun p hp => (mem_off.mp hp).2) ⟨ht2, hr⟩
  rcases List.mem_cons.mp hp with rfl | hp
  · exact hI
  · exact (mem_off.mp hp).1
theorem tOpen (B : Below A₀ base outer h₀) (X : (KQ w.params).In h₀) (T : Top viewQ looseQ mean mg mb h₀) (SA : SetsAt w h₀) (six : Six c dc vl sl) (hkeep : ∀ p ∈ keep, p.2.cls ≠ .type "list_iterator") (htl : (tl, lo) ∈ keep) (hd : dp + 100 < recursionLimit) (hu : un + 1500 < cLine) (lu : us.length < 900) (lp : ps.length < 890) (hv : TokAt w keep file line v (Str.ofString "punct") (Str.ofString "(")) (K : ∀ t, Kont w mean mg mb dp un gd outer h₀ L s E QF c dc vl sl tl pl k1 k2 k3 k4 keep I lo r false us xs (ps ++ [Value.str (Str.ofString "(") t]) (ts ++ [Str.ofString "("])) :
    Kont w mean mg mb dp un gd outer h₀ L s E QF c dc vl sl tl pl k1 k2 k3 k4 keep I lo (v :: r) false us xs ps ts := by
  obtain ⟨tok, dtok, j1, j2, j3, j4, u1, u2, u3, u4, rfl, m1, m2⟩ := hv
  intro nv ns rest tv S
  refine stepBegin B X T fun it s₁ hit F N => ?_
  obtain ⟨S1, N1⟩ := S.it N hit
  refine begOpen tok dtok file line j1 j2 j3 j4 u1 u2 u3 u4 B F X N1 T rfl six S1.ap lu (by omega) (S1.keep _ m1) (S1.keep _ m2) (by omega) (by omega) fun nv2 ns2 t2 h2 tk2 F2 N2 => ?_
  have S2 : Sta w keep ((I, it) :: rest) vl sl us xs (ps ++ [Value.str (Str.ofString "(") t2]) (ts ++ [Str.ofString "("]) := ⟨S1.ap, S1.keep, S1.vals, S1.sgs.app1 _ _ (by decide +kernel)⟩
  have hI : (I, it) ∈ ((I, it) :: rest) := .head _
  have S3 := S2.off N2 hI hit hkeep
  have lo2 := led_off N2 hI hit
  refine ⟨false, _, h2, _, rfl, rfl, F2, N2, .tail _ (.tail _ (.tail _ (.tail _ hI))), .tail _ (.tail _ (.tail _ (.tail _ (S2.keep _ htl)))), ?_, ?_⟩
  · rw [lo2]; exact .tail _ (.tail _ (.tail _ (.tail _ (S3.keep _ htl))))
  · rw [lo2]; exact K t2 _ _ _ _ S3
theorem tUn_neg (B : Below A₀ base outer h₀) (X : (KQ w.params).In h₀) (T : Top viewQ looseQ mean mg mb h₀) (SA : SetsAt w h₀) (six : Six c dc vl sl) (hkeep : ∀ p ∈ keep, p.2.cls ≠ .type "list_iterator") (htl : (tl, lo) ∈ keep) (hd : dp + 100 < recursionLimit) (hu : un + 1500 < cLine) (lu : us.length < 900) (lp : ps.length < 890) (hv : TokAt w keep file line v (Str.ofString "punct") (Str.ofString "-")) (K : ∀ t, Kont w mean mg mb dp un gd outer h₀ L s E QF c dc vl sl tl pl k1 k2 k3 k4 keep I lo r false us xs (ps ++ [Value.str (Uop.neg).word t]) (ts ++ [(Uop.neg).word])) :
    Kont w mean mg mb dp un gd outer h₀ L s E QF c dc vl sl tl pl k1 k2 k3 k4 keep I lo (v :: r) false us xs ps ts := by
  obtain ⟨tok, dtok, j1, j2, j3, j4, u1, u2, u3, u4, rfl, m1, m2⟩ := hv
  intro nv ns rest tv S
  refine stepBegin B X T fun it s₁ hit F N => ?_
  obtain ⟨S1, N1⟩ := S.it N hit
  refine begUn_neg tok dtok file line j1 j2 j3 j4 u1 u2 u3 u4 B F X N1 T rfl six S1.ap lu (by omega) (S1.keep _ m1) (S1.keep _ m2) (by omega) (by omega) fun nv2 ns2 t2 h2 tk2 F2 N2 => ?_
  have S2 : Sta w keep ((I, it) :: rest) vl sl us xs (ps ++ [Value.str (Uop.neg).word t2]) (ts ++ [(Uop.neg).word]) := ⟨S1.ap, S1.keep, S1.vals, S1.sgs.app1 _ _ (uop_ok _)⟩
  have hI : (I, it) ∈ ((I, it) :: rest) := .head _
  have S3 := S2.off N2 hI hit hkeep
  have lo2 := led_off N2 hI hit
  refine ⟨false, _, h2, _, rfl, rfl, F2, N2, .tail _ (.tail _ (.tail _ (.tail _ hI))), .tail _ (.tail _ (.tail _ (.tail _ (S2.keep _ htl)))), ?_, ?_⟩
  · rw [lo2]; exact .tail _ (.tail _ (.tail _ (.tail _ (S3.keep _ htl))))
  · rw [lo2]; exact K t2 _ _ _ _ S3
theorem tUn_not (B : Below A₀ base outer h₀) (X : (KQ w.params).In h₀) (T : Top viewQ looseQ mean mg mb h₀) (SA : SetsAt w h₀) (six : Six c dc vl sl) (hkeep : ∀ p ∈ keep, p.2.cls ≠ .type "list_iterator") (htl : (tl, lo) ∈ keep) (hd : dp + 100 < recursionLimit) (hu : un + 1500 < cLine) (lu : us.length < 900) (lp : ps.length < 890) (hv : TokAt w keep file line v (Str.ofString "punct") (Str.ofString "!")) (K : ∀ t, Kont w mean mg mb dp un gd outer h₀ L s E QF c dc vl sl tl pl k1 k2 k3 k4 keep I lo r false us xs (ps ++ [Value.str (Uop.not).word t]) (ts ++ [(Uop.not).word])) :
    Kont w mean mg mb dp un gd outer h₀ L s E QF c dc vl sl tl pl k1 k2 k3 k4 keep I lo (v :: r) false us xs ps ts := by
  obtain ⟨tok, dtok, j1, j2, j3, j4, u1, u2, u3, u4, rfl, m1, m2⟩ := hv
  intro nv ns rest tv S
  refine stepBegin B X T fun it s₁ hit F N => ?_
  obtain ⟨S1, N1⟩ := S.it N hit
  refine begUn_not tok dtok file line j1 j2 j3 j4 u1 u2 u3 u4 B F X N1 T rfl six S1.ap lu (by omega) (S1.keep _ m1) (S1.keep _ m2) (by omega) (by omega) fun nv2 ns2 t2 h2 tk2 F2 N2 => ?_
  have S2 : Sta w keep ((I, it) :: rest) vl sl us xs (ps ++ [Value.str (Uop.not).word t2]) (ts ++ [(Uop.not).word]) := ⟨S1.ap, S1.keep, S1.vals, S1.sgs.app1 _ _ (uop_ok _)⟩
  have hI : (I, it) ∈ ((I, it) :: rest) := .head _
  have S3 := S2.off N2 hI hit hkeep
  have lo2 := led_off N2 hI hit
  refine ⟨false, _, h2, _, rfl, rfl, F2, N2, .tail _ (.tail _ (.tail _ (.tail _ hI))), .tail _ (.tail _ (.tail _ (.tail _ (S2.keep _ htl)))), ?_, ?_⟩
  · rw [lo2]; exact .tail _ (.tail _ (.tail _ (.tail _ (S3.keep _ htl))))
  · rw [lo2]; exact K t2 _ _ _ _ S3
theorem tUn_inv (B : Below A₀ base outer h₀) (X : (KQ w.params).In h₀) (T : Top viewQ looseQ mean mg mb h₀) (SA : SetsAt w h₀) (six : Six c dc vl sl) (hkeep : ∀ p ∈ keep, p.2.cls ≠ .type "list_iterator") (htl : (tl, lo) ∈ keep) (hd : dp + 100 < recursionLimit) (hu : un + 1500 < cLine) (lu : us.length < 900) (lp : ps.length < 890) (hv : TokAt w keep file line v (Str.ofString "punct") (Str.ofString "~")) (K : ∀ t, Kont w mean mg mb dp un gd outer h₀ L s E QF c dc vl sl tl pl k1 k2 k3 k4 keep I lo r false us xs (ps ++ [Value.str (Uop.inv).word t]) (ts ++ [(Uop.inv).word])) :
    Kont w mean mg mb dp un gd outer h₀ L s E QF c dc vl sl tl pl k1 k2 k3 k4 keep I lo (v :: r) false us xs ps ts := by
  obtain ⟨tok, dtok, j1, j2, j3, j4, u1, u2, u3, u4, rfl, m1, m2⟩ := hv
  intro nv ns rest tv S
  refine stepBegin B X T fun it s₁ hit F N => ?_
  obtain ⟨S1, N1⟩ := S.it N hit
  refine begUn_inv tok dtok file line j1 j2 j3 j4 u1 u2 u3 u4 B F X N1 T rfl six S1.ap lu (by omega) (S1.keep _ m1) (S1.keep _ m2) (by omega) (by omega) fun nv2 ns2 t2 h2 tk2 F2 N2 => ?_
  have S2 : Sta w keep ((I, it) :: rest) vl sl us xs (ps ++ [Value.str (Uop.inv).word t2]) (ts ++ [(Uop.inv).word]) := ⟨S1.ap, S1.keep, S1.vals, S1.sgs.app1 _ _ (uop_ok _)⟩
  have hI : (I, it) ∈ ((I, it) :: rest) := .head _
  have S3 := S2.off N2 hI hit hkeep
  have lo2 := led_off N2 hI hit
  refine ⟨false, _, h2, _, rfl, rfl, F2, N2, .tail _ (.tail _ (.tail _ (.tail _ hI))), .tail _ (.tail _ (.tail _ (.tail _ (S2.keep _ htl)))), ?_, ?_⟩
  · rw [lo2]; exact .tail _ (.tail _ (.tail _ (.tail _ (S3.keep _ htl))))
  · rw [lo2]; exact K t2 _ _ _ _ S3
theorem tUn_pos (B : Below A₀ base outer h₀) (X : (KQ w.params).In h₀) (T : Top viewQ looseQ mean mg mb h₀) (SA : SetsAt w h₀) (six : Six c dc vl sl) (hkeep : ∀ p ∈ keep, p.2.cls ≠ .type "list_iterator") (htl : (tl, lo) ∈ keep) (hd : dp + 100 < recursionLimit) (hu : un + 1500 < cLine) (lu : us.length < 900) (lp : ps.length < 890) (hv : TokAt w keep file line v (Str.ofString "punct") (Str.ofString "+")) (K : ∀ t, Kont w mean mg mb dp un gd outer h₀ L s E QF c dc vl sl tl pl k1 k2 k3 k4 keep I lo r false us xs (ps ++ [Value.str (Uop.pos).word t]) (ts ++ [(Uop.pos).word])) :
    Kont w mean mg mb dp un gd outer h₀ L s E QF c dc vl sl tl pl k1 k2 k3 k4 keep I lo (v :: r) false us xs ps ts := by
  obtain ⟨tok, dtok, j1, j2, j3, j4, u1, u2, u3, u4, rfl, m1, m2⟩ := hv
  intro nv ns rest tv S
  refine stepBegin B X T fun it s₁ hit F N => ?_
  obtain ⟨S1, N1⟩ := S.it N hit
  refine begUn_pos tok dtok file line j1 j2 j3 j4 u1 u2 u3 u4 B F X N1 T rfl six S1.ap lu (by omega) (S1.keep _ m1) (S1.keep _ m2) (by omega) (by omega) fun nv2 ns2 t2 h2 tk2 F2 N2 => ?_
  have S2 : Sta w keep ((I, it) :: rest) vl sl us xs (ps ++ [Value.str (Uop.pos).word t2]) (ts ++ [(Uop.pos).word]) := ⟨S1.ap, S1.keep, S1.vals, S1.sgs.app1 _ _ (uop_ok _)⟩
  have hI : (I, it) ∈ ((I, it) :: rest) := .head _
  have S3 := S2.off N2 hI hit hkeep
  have lo2 := led_off N2 hI hit
  refine ⟨false, _, h2, _, rfl, rfl, F2, N2, .tail _ (.tail _ (.tail _ (.tail _ hI))), .tail _ (.tail _ (.tail _ (.tail _ (S2.keep _ htl)))), ?_, ?_⟩
  · rw [lo2]; exact .tail _ (.tail _ (.tail _ (.tail _ (S3.keep _ htl))))
  · rw [lo2]; exact K t2 _ _ _ _ S3
theorem tNum (B : Below A₀ base outer h₀) (X : (KQ w.params).In h₀) (T : Top viewQ looseQ mean mg mb h₀) (SA : SetsAt w h₀) (six : Six c dc vl sl) (hkeep : ∀ p ∈ keep, p.2.cls ≠ .type "list_iterator") (htl : (tl, lo) ∈ keep) (hd : dp + 100 < recursionLimit) (hu : un + 1500 < cLine) (lu : us.length < 900) (lp : ps.length < 890) (k : Num) (hv : TokAt w keep file line v (Str.ofString "number") k.txt) (K : ∀ v', Kont w mean mg mb dp un gd outer h₀ L s E QF c dc vl sl tl pl k1 k2 k3 k4 keep I lo r true (us ++ [v']) (xs ++ [numV k]) ps ts) :
    Kont w mean mg mb dp un gd outer h₀ L s E QF c dc vl sl tl pl k1 k2 k3 k4 keep I lo (v :: r) false us xs ps ts := by
  obtain ⟨tok, dtok, j1, j2, j3, j4, u1, u2, u3, u4, rfl, m1, m2⟩ := hv
  intro nv ns rest tv S
  refine stepBegin B X T fun it s₁ hit F N => ?_
  obtain ⟨S1, N1⟩ := S.it N hit
  refine begNum k tok dtok file line j1 j2 j3 j4 u1 u2 u3 u4 B F X N1 T rfl SA six S1.ap lu (by omega) (S1.keep _ m1) (S1.keep _ m2) (by omega) (by omega) fun v2 rest2 nv2 h2 tk2 F2 N2 sub2 ap2 va2 => ?_
  have S2 : Sta w keep rest2 vl sl (us ++ [v2]) (xs ++ [numV k]) ps ts := ⟨ap2, fun p hp => sub2 p (S1.keep p hp), (S1.vals.mono sub2).app (.cons va2 (num_in33 k) .nil), S1.sgs⟩
  have hI : (I, it) ∈ rest2 := sub2 _ (.head _)
  have S3 := S2.off N2 hI hit hkeep
  have lo2 := led_off N2 hI hit
  refine ⟨true, _, h2, _, rfl, rfl, F2, N2, .tail _ (.tail _ (.tail _ (.tail _ hI))), .tail _ (.tail _ (.tail _ (.tail _ (S2.keep _ htl)))), ?_, ?_⟩
  · rw [lo2]; exact .tail _ (.tail _ (.tail _ (.tail _ (S3.keep _ htl))))
  · rw [lo2]; exact K v2 _ _ _ _ S3
theorem tClose0 (B : Below A₀ base outer h₀) (X : (KQ w.params).In h₀) (T : Top viewQ looseQ mean mg mb h₀) (SA : SetsAt w h₀) (six : Six c dc vl sl) (hkeep : ∀ p ∈ keep, p.2.cls ≠ .type "list_iterator") (htl : (tl, lo) ∈ keep) (hd : dp + 100 < recursionLimit) (hu : un + 1500 < cLine) (lu : us.length < 900) (lp : ps.length < 890) (hv : TokAt w keep file line v (Str.ofString "punct") (Str.ofString ")")) (t0 : Tok) (K : Kont w mean mg mb dp un gd outer h₀ L s E QF c dc vl sl tl pl k1 k2 k3 k4 keep I lo r true us xs ps ts) :
    Kont w mean mg mb dp un gd outer h₀ L s E QF c dc vl sl tl pl k1 k2 k3 k4 keep I lo (v :: r) true us xs (ps ++ [Value.str (Str.ofString "(") t0]) (ts ++ [Str.ofString "("]) := by
  obtain ⟨tok, dtok, j1, j2, j3, j4, u1, u2, u3, u4, rfl, m1, m2⟩ := hv
  intro nv ns rest tv S
  refine stepGo B X T fun it s₁ hit F N => ?_
  obtain ⟨S1, N1⟩ := S.it N hit
  refine goClose0 tok dtok file line j1 j2 j3 j4 u1 u2 u3 u4 t0 (ts ++ [Str.ofString "("]) B F X N1 T rfl six S1.ap lu (by omega) (S1.keep _ m1) (S1.keep _ m2) S1.sgs (by omega) (by omega) fun nv2 ns2 t2 h2 tk2 F2 N2 => ?_
  have S2 : Sta w keep ((I, it) :: rest) vl sl us xs ps ts := ⟨S1.ap, S1.keep, S1.vals, S1.sgs.pre⟩
  have hI : (I, it) ∈ ((I, it) :: rest) := .head _
  have S3 := S2.off N2 hI hit hkeep
  have lo2 := led_off N2 hI hit
  refine ⟨true, _, h2, _, rfl, rfl, F2, N2, .tail _ (.tail _ (.tail _ (.tail _ hI))), .tail _ (.tail _ (.tail _ (.tail _ (S2.keep _ htl)))), ?_, ?_⟩
  · rw [lo2]; exact .tail _ (.tail _ (.tail _ (.tail _ (S3.keep _ htl))))
  · rw [lo2]; exact K  _ _ _ _ S3
theorem tColon (B : Below A₀ base outer h₀) (X : (KQ w.params).In h₀) (T : Top viewQ looseQ mean mg mb h₀) (SA : SetsAt w h₀) (six : Six c dc vl sl) (hkeep : ∀ p ∈ keep, p.2.cls ≠ .type "list_iterator") (htl : (tl, lo) ∈ keep) (hd : dp + 100 < recursionLimit) (hu : un + 1500 < cLine) (lu : us.length < 900) (lp : ps.length < 890) (hv : TokAt w keep file line v (Str.ofString "punct") (Str.ofString ":")) (t0 : Tok) (K : ∀ t, Kont w mean mg mb dp un gd outer h₀ L s E QF c dc vl sl tl pl k1 k2 k3 k4 keep I lo r false us xs (ps ++ [Value.str (Str.ofString ":") t]) (ts ++ [Str.ofString ":"])) :
    Kont w mean mg mb dp un gd outer h₀ L s E QF c dc vl sl tl pl k1 k2 k3 k4 keep I lo (v :: r) true us xs (ps ++ [Value.str (Str.ofString "?") t0]) (ts ++ [Str.ofString "?"]) := by
  obtain ⟨tok, dtok, j1, j2, j3, j4, u1, u2, u3, u4, rfl, m1, m2⟩ := hv
  intro nv ns rest tv S
  refine stepGo B X T fun it s₁ hit F N => ?_
  obtain ⟨S1, N1⟩ := S.it N hit
  refine goColon tok dtok file line j1 j2 j3 j4 u1 u2 u3 u4 t0 (ts ++ [Str.ofString "?"]) B F X N1 T rfl six S1.ap lu (by omega) (S1.keep _ m1) (S1.keep _ m2) S1.sgs (by omega) (by omega) fun nv2 ns2 t2 h2 tk2 F2 N2 => ?_
  have S2 : Sta w keep ((I, it) :: rest) vl sl us xs (ps ++ [Value.str (Str.ofString ":") t2]) (ts ++ [Str.ofString ":"]) := ⟨S1.ap, S1.keep, S1.vals, S1.sgs.pre.app1 _ _ (by decide +kernel)⟩
  have hI : (I, it) ∈ ((I, it) :: rest) := .head _
  have S3 := S2.off N2 hI hit hkeep
  have lo2 := led_off N2 hI hit
  refine ⟨false, _, h2, _, rfl, rfl, F2, N2, .tail _ (.tail _ (.tail _ (.tail _ hI))), .tail _ (.tail _ (.tail _ (.tail _ (S2.keep _ htl)))), ?_, ?_⟩
  · rw [lo2]; exact .tail _ (.tail _ (.tail _ (.tail _ (S3.keep _ htl))))
  · rw [lo2]; exact K t2 _ _ _ _ S3
theorem tQuest0 (B : Below A₀ base outer h₀) (X : (KQ w.params).In h₀) (T : Top viewQ looseQ mean mg mb h₀) (SA : SetsAt w h₀) (six : Six c dc vl sl) (hkeep : ∀ p ∈ keep, p.2.cls ≠ .type "list_iterator") (htl : (tl, lo) ∈ keep) (hd : dp + 100 < recursionLimit) (hu : un + 1500 < cLine) (lu : us.length < 900) (lp : ps.length < 890) (hv : TokAt w keep file line v (Str.ofString "punct") (Str.ofString "?")) (K : ∀ t, Kont w mean mg mb dp un gd outer h₀ L s E QF c dc vl sl tl pl k1 k2 k3 k4 keep I lo r false us xs ([] ++ [Value.str (Str.ofString "?") t]) ([] ++ [Str.ofString "?"])) :
    Kont w mean mg mb dp un gd outer h₀ L s E QF c dc vl sl tl pl k1 k2 k3 k4 keep I lo (v :: r) true us xs [] [] := by
  obtain ⟨tok, dtok, j1, j2, j3, j4, u1, u2, u3, u4, rfl, m1, m2⟩ := hv
  intro nv ns rest tv S
  refine stepGo B X T fun it s₁ hit F N => ?_
  obtain ⟨S1, N1⟩ := S.it N hit
  refine goQuest0 (ps := []) tok dtok file line j1 j2 j3 j4 u1 u2 u3 u4 0 [] B F X N1 T rfl six S1.ap lu (by decide) (S1.keep _ m1) (S1.keep _ m2) (by omega) (by omega) fun nv2 ns2 t2 h2 tk2 F2 N2 => ?_
  have S2 : Sta w keep ((I, it) :: rest) vl sl us xs ([] ++ [Value.str (Str.ofString "?") t2]) ([] ++ [Str.ofString "?"]) := ⟨S1.ap, S1.keep, S1.vals, S1.sgs.app1 _ _ (by decide +kernel)⟩
  have hI : (I, it) ∈ ((I, it) :: rest) := .head _
  have S3 := S2.off N2 hI hit hkeep
  have lo2 := led_off N2 hI hit
  refine ⟨false, _, h2, _, rfl, rfl, F2, N2, .tail _ (.tail _ (.tail _ (.tail _ hI))), .tail _ (.tail _ (.tail _ (.tail _ (S2.keep _ htl)))), ?_, ?_⟩
  · rw [lo2]; exact .tail _ (.tail _ (.tail _ (.tail _ (S3.keep _ htl))))
  · rw [lo2]; exact K t2 _ _ _ _ S3
theorem tQuest1 (B : Below A₀ base outer h₀) (X : (KQ w.params).In h₀) (T : Top viewQ looseQ mean mg mb h₀) (SA : SetsAt w h₀) (six : Six c dc vl sl) (hkeep : ∀ p ∈ keep, p.2.cls ≠ .type "list_iterator") (htl : (tl, lo) ∈ keep) (hd : dp + 100 < recursionLimit) (hu : un + 1500 < cLine) (lu : us.length < 900) (lp : ps.length < 890) (hv : TokAt w keep file line v (Str.ofString "punct") (Str.ofString "?")) (t0 : Tok) (K : ∀ t, Kont w mean mg mb dp un gd outer h₀ L s E QF c dc vl sl tl pl k1 k2 k3 k4 keep I lo r false us xs ((ps ++ [Value.str (Str.ofString "(") t0]) ++ [Value.str (Str.ofString "?") t]) ((ts ++ [Str.ofString "("]) ++ [Str.ofString "?"])) :
    Kont w mean mg mb dp un gd outer h₀ L s E QF c dc vl sl tl pl k1 k2 k3 k4 keep I lo (v :: r) true us xs (ps ++ [Value.str (Str.ofString "(") t0]) (ts ++ [Str.ofString "("]) := by
  obtain ⟨tok, dtok, j1, j2, j3, j4, u1, u2, u3, u4, rfl, m1, m2⟩ := hv
  intro nv ns rest tv S
  refine stepGo B X T fun it s₁ hit F N => ?_
  obtain ⟨S1, N1⟩ := S.it N hit
  refine goQuest1 tok dtok file line j1 j2 j3 j4 u1 u2 u3 u4 t0 (ts ++ [Str.ofString "("]) B F X N1 T rfl six S1.ap lu (by omega) (S1.keep _ m1) (S1.keep _ m2) S1.sgs (by omega) (by omega) fun nv2 ns2 t2 h2 tk2 F2 N2 => ?_
  have S2 : Sta w keep ((I, it) :: rest) vl sl us xs ((ps ++ [Value.str (Str.ofString "(") t0]) ++ [Value.str (Str.ofString "?") t2]) ((ts ++ [Str.ofString "("]) ++ [Str.ofString "?"]) := ⟨S1.ap, S1.keep, S1.vals, S1.sgs.app1 _ _ (by decide +kernel)⟩
  have hI : (I, it) ∈ ((I, it) :: rest) := .head _
  have S3 := S2.off N2 hI hit hkeep
  have lo2 := led_off N2 hI hit
  refine ⟨false, _, h2, _, rfl, rfl, F2, N2, .tail _ (.tail _ (.tail _ (.tail _ hI))), .tail _ (.tail _ (.tail _ (.tail _ (S2.keep _ htl)))), ?_, ?_⟩
  · rw [lo2]; exact .tail _ (.tail _ (.tail _ (.tail _ (S3.keep _ htl))))
  · rw [lo2]; exact K t2 _ _ _ _ S3
theorem tBin0 (B : Below A₀ base outer h₀) (X : (KQ w.params).In h₀) (T : Top viewQ looseQ mean mg mb h₀) (SA : SetsAt w h₀) (six : Six c dc vl sl) (hkeep : ∀ p ∈ keep, p.2.cls ≠ .type "list_iterator") (htl : (tl, lo) ∈ keep) (hd : dp + 100 < recursionLimit) (hu : un + 1500 < cLine) (lu : us.length < 900) (lp : ps.length < 890) (o : Bop) (hv : TokAt w keep file line v (Str.ofString "punct") o.txt) (K : ∀ t, Kont w mean mg mb dp un gd outer h₀ L s E QF c dc vl sl tl pl k1 k2 k3 k4 keep I lo r false us xs ([] ++ [Value.str o.txt t]) ([] ++ [o.txt])) :
    Kont w mean mg mb dp un gd outer h₀ L s E QF c dc vl sl tl pl k1 k2 k3 k4 keep I lo (v :: r) true us xs [] [] := by
  obtain ⟨tok, dtok, j1, j2, j3, j4, u1, u2, u3, u4, rfl, m1, m2⟩ := hv
  intro nv ns rest tv S
  refine stepGo B X T fun it s₁ hit F N => ?_
  obtain ⟨S1, N1⟩ := S.it N hit
  refine goBin0 (ps := []) tok dtok file line j1 j2 j3 j4 u1 u2 u3 u4 0 [] o B F X N1 T rfl six S1.ap lu (by decide) (S1.keep _ m1) (S1.keep _ m2) (by omega) (by omega) fun nv2 ns2 t2 h2 tk2 F2 N2 => ?_
  have S2 : Sta w keep ((I, it) :: rest) vl sl us xs ([] ++ [Value.str o.txt t2]) ([] ++ [o.txt]) := ⟨S1.ap, S1.keep, S1.vals, S1.sgs.app1 _ _ (bop_ok o)⟩
  have hI : (I, it) ∈ ((I, it) :: rest) := .head _
  have S3 := S2.off N2 hI hit hkeep
  have lo2 := led_off N2 hI hit
  refine ⟨false, _, h2, _, rfl, rfl, F2, N2, .tail _ (.tail _ (.tail _ (.tail _ hI))), .tail _ (.tail _ (.tail _ (.tail _ (S2.keep _ htl)))), ?_, ?_⟩
  · rw [lo2]; exact .tail _ (.tail _ (.tail _ (.tail _ (S3.keep _ htl))))
  · rw [lo2]; exact K t2 _ _ _ _ S3
theorem tBin1 (B : Below A₀ base outer h₀) (X : (KQ w.params).In h₀) (T : Top viewQ looseQ mean mg mb h₀) (SA : SetsAt w h₀) (six : Six c dc vl sl) (hkeep : ∀ p ∈ keep, p.2.cls ≠ .type "list_iterator") (htl : (tl, lo) ∈ keep) (hd : dp + 100 < recursionLimit) (hu : un + 1500 < cLine) (lu : us.length < 900) (lp : ps.length < 890) (o : Bop) (hv : TokAt w keep file line v (Str.ofString "punct") o.txt) (t0 : Tok) (K : ∀ t, Kont w mean mg mb dp un gd outer h₀ L s E QF c dc vl sl tl pl k1 k2 k3 k4 keep I lo r false us xs ((ps ++ [Value.str (Str.ofString "(") t0]) ++ [Value.str o.txt t]) ((ts ++ [Str.ofString "("]) ++ [o.txt])) :
    Kont w mean mg mb dp un gd outer h₀ L s E QF c dc vl sl tl pl k1 k2 k3 k4 keep I lo (v :: r) true us xs (ps ++ [Value.str (Str.ofString "(") t0]) (ts ++ [Str.ofString "("]) := by
  obtain ⟨tok, dtok, j1, j2, j3, j4, u1, u2, u3, u4, rfl, m1, m2⟩ := hv
  intro nv ns rest tv S
  refine stepGo B X T fun it s₁ hit F N => ?_
  obtain ⟨S1, N1⟩ := S.it N hit
  refine goBin1 tok dtok file line j1 j2 j3 j4 u1 u2 u3 u4 t0 (ts ++ [Str.ofString "("]) o B F X N1 T rfl six S1.ap lu (by omega) (S1.keep _ m1) (S1.keep _ m2) S1.sgs (by omega) (by omega) fun nv2 ns2 t2 h2 tk2 F2 N2 => ?_
  have S2 : Sta w keep ((I, it) :: rest) vl sl us xs ((ps ++ [Value.str (Str.ofString "(") t0]) ++ [Value.str o.txt t2]) ((ts ++ [Str.ofString "("]) ++ [o.txt]) := ⟨S1.ap, S1.keep, S1.vals, S1.sgs.app1 _ _ (bop_ok o)⟩
  have hI : (I, it) ∈ ((I, it) :: rest) := .head _
  have S3 := S2.off N2 hI hit hkeep
  have lo2 := led_off N2 hI hit
  refine ⟨false, _, h2, _, rfl, rfl, F2, N2, .tail _ (.tail _ (.tail _ (.tail _ hI))), .tail _ (.tail _ (.tail _ (.tail _ (S2.keep _ htl)))), ?_, ?_⟩
  · rw [lo2]; exact .tail _ (.tail _ (.tail _ (.tail _ (S3.keep _ htl))))
  · rw [lo2]; exact K t2 _ _ _ _ S3
theorem tClose1 (B : Below A₀ base outer h₀) (X : (KQ w.params).In h₀) (T : Top viewQ looseQ mean mg mb h₀) (SA : SetsAt w h₀) (six : Six c dc vl sl) (hkeep : ∀ p ∈ keep, p.2.cls ≠ .type "list_iterator") (htl : (tl, lo) ∈ keep) (hd : dp + 100 < recursionLimit) (hu : un + 1500 < cLine) (lu : us.length < 900) (lp : ps.length < 890) (hv : TokAt w keep file line v (Str.ofString "punct") (Str.ofString ")")) (t0 t3 : Tok) (p : Pend) (args : List Value) (ys : List V) (la : us.length = xs.length) (ln : ys.length = p.ar) (K : ∀ v', Kont w mean mg mb dp un gd outer h₀ L s E QF c dc vl sl tl pl k1 k2 k3 k4 keep I lo r true (us ++ [v']) (xs ++ [p.run ys]) ps ts) :
    Kont w mean mg mb dp un gd outer h₀ L s E QF c dc vl sl tl pl k1 k2 k3 k4 keep I lo (v :: r) true (us ++ args) (xs ++ ys) ((ps ++ [Value.str (Str.ofString "(") t0]) ++ [Value.str p.word t3]) ((ts ++ [Str.ofString "("]) ++ [p.word]) := by
  obtain ⟨tok, dtok, j1, j2, j3, j4, u1, u2, u3, u4, rfl, m1, m2⟩ := hv
  intro nv ns rest tv S
  refine stepGo B X T fun it s₁ hit F N => ?_
  obtain ⟨S1, N1⟩ := S.it N hit
  have va1 := S1.vals.split la
  refine goClose1 tok dtok file line j1 j2 j3 j4 u1 u2 u3 u4 t0 t3 (ts ++ [Str.ofString "("]) p args ys B F X N1 T rfl six S1.ap lu (by omega) (S1.keep _ m1) (S1.keep _ m2) S1.sgs S1.sgs.pre (by rw [List.length_append]; show ps.length + 1 < 900; omega) va1.2 ln (by omega) (by omega) fun v2 rest2 nv2 ns2 h2 tk2 F2 N2 sub2 ap2 va2 => ?_
  have S2 : Sta w keep rest2 vl sl (us ++ [v2]) (xs ++ [p.run ys]) ps ts := ⟨ap2, fun p hp => sub2 p (S1.keep p hp), (va1.1.mono sub2).app (.cons va2 (run_in33 p ys va1.2.in33) .nil), S1.sgs.pre.pre⟩
  have hI : (I, it) ∈ rest2 := sub2 _ (.head _)
  have S3 := S2.off N2 hI hit hkeep
  have lo2 := led_off N2 hI hit
  refine ⟨true, _, h2, _, rfl, rfl, F2, N2, .tail _ (.tail _ (.tail _ (.tail _ hI))), .tail _ (.tail _ (.tail _ (.tail _ (S2.keep _ htl)))), ?_, ?_⟩
  · rw [lo2]; exact .tail _ (.tail _ (.tail _ (.tail _ (S3.keep _ htl))))
  · rw [lo2]; exact K v2 _ _ _ _ S3
end
end
end
section
open PySem PySem.W PyProof.Rows PySem.Calls PySem.Spec
section

inductive Tr where
  | leaf (k : Num) | un (o : Uop) (t : Tr) | bin (o : Bop) (a b : Tr) | cond (a b c : Tr)
abbrev pun (x : Str) : Str × Str := (Str.ofString "punct", x)
def brk (l : List (Str × Str)) : List (Str × Str) := pun (Str.ofString "(") :: (l ++ [pun (Str.ofString ")")])
def Tr.words : Tr → List (Str × Str)
  | .leaf k => [(Str.ofString "number", k.txt)]
  | .un o t => pun o.sign :: brk t.words
  | .bin o a b => brk a.words ++ pun o.txt :: brk b.words
  | .cond a b c => brk a.words ++ pun (Str.ofString "?") :: (brk b.words ++ pun (Str.ofString ":") :: brk c.words)
def Tr.val : Tr → V
  | .leaf k => numV k
  | .un o t => oneB o t.val
  | .bin o a b => twoB o a.val b.val
  | .cond a b c => chosenB a.val b.val c.val
def Tr.deep : Tr → Nat
  | .leaf _ => 0
  | .un _ t => t.deep + 1
  | .bin _ a b => max a.deep b.deep + 1
  | .cond a b c => max a.deep (max b.deep c.deep) + 1
inductive TokensAt (w : World) (keep : List (Addr × Obj)) (file : Str) (line : Int) : List Value → List (Str × Str) → Prop where
  | nil : TokensAt w keep file line [] []
  | cons {v : Value} {p : Str × Str} {vs : List Value} {ps : List (Str × Str)} : TokAt w keep file line v p.1 p.2 → TokensAt w keep file line vs ps → TokensAt w keep file line (v :: vs) (p :: ps)
theorem TokensAt.split {w : World} {keep : List (Addr × Obj)} {file : Str} {line : Int} : ∀ {l1 l2 : List (Str × Str)} {vs : List Value}, TokensAt w keep file line vs (l1 ++ l2) → ∃ v1 v2, vs = v1 ++ v2 ∧ TokensAt w keep file line v1 l1 ∧ TokensAt w keep file line v2 l2
  | [], _, vs, h => ⟨[], vs, rfl, .nil, h⟩
  | _ :: _, _, _, .cons a b => by
    obtain ⟨v1, v2, rfl, h1, h2⟩ := TokensAt.split b
    exact ⟨_ :: v1, v2, rfl, .cons a h1, h2⟩
def Opener (ps : List Value) (ts : List Str) : Prop := (ps = [] ∧ ts = []) ∨ ∃ p0 t0 s0, ps = p0 ++ [Value.str (Str.ofString "(") t0] ∧ ts = s0 ++ [Str.ofString "("]
section
variable {w : World} {mean : ExcName → Option Value} {mg mb : Str → Option Value} {dp un : Nat} {gd : Option (List Code)} {cn : Str} {cs : Scope} {a : Addr} {ccd : Value} {cl : List (Str × Addr)} {outer : List Env} {A₀ : Around} {base h₀ : Heap} {L : Addr} {news : List (Addr × Obj)} {s : Shared} {Q E : Value → Shared → Prop}
variable {c dc vl sl tl pl : Addr} {k1 k2 k3 k4 : Tok} {nv ns : Nat} {rest : List (Addr × Obj)} {us ps : List Value}
variable {keep : List (Addr × Obj)} {I : Addr} {lo : Obj} {QF : Flow → Shared → Prop} {file : Str} {line : Int}

theorem tBin (B : Below A₀ base outer h₀) (X : (KQ w.params).In h₀) (T : Top viewQ looseQ mean mg mb h₀) (SA : SetsAt w h₀) (six : Six c dc vl sl) (hkeep : ∀ p ∈ keep, p.2.cls ≠ .type "list_iterator") (htl : (tl, lo) ∈ keep) (hd : dp + 100 < recursionLimit) (hu : un + 1500 < cLine) {us : List Value} {xs : List V} {ps : List Value} {ts : List Str} {r : List Value} {v : Value} (lu : us.length < 900) (lp : ps.length < 890) (op : Opener ps ts) (o : Bop) (hv : TokAt w keep file line v (Str.ofString "punct") o.txt)
    (K : ∀ t, Kont w mean mg mb dp un gd outer h₀ L s E QF c dc vl sl tl pl k1 k2 k3 k4 keep I lo r false us xs (ps ++ [Value.str o.txt t]) (ts ++ [o.txt])) : Kont w mean mg mb dp un gd outer h₀ L s E QF c dc vl sl tl pl k1 k2 k3 k4 keep I lo (v :: r) true us xs ps ts := by
  rcases op with ⟨rfl, rfl⟩ | ⟨p0, t0, s0, rfl, rfl⟩
  · exact tBin0 (ps := []) B X T SA six hkeep htl hd hu lu lp o hv K
  · exact tBin1 B X T SA six hkeep htl hd hu lu (by rw [List.length_append] at lp; exact Nat.lt_of_le_of_lt (Nat.le_add_right _ _) lp) o hv t0 K
theorem tQuest (B : Below A₀ base outer h₀) (X : (KQ w.params).In h₀) (T : Top viewQ looseQ mean mg mb h₀) (SA : SetsAt w h₀) (six : Six c dc vl sl) (hkeep : ∀ p ∈ keep, p.2.cls ≠ .type "list_iterator") (htl : (tl, lo) ∈ keep) (hd : dp + 100 < recursionLimit) (hu : un + 1500 < cLine) {us : List Value} {xs : List V} {ps : List Value} {ts : List Str} {r : List Value} {v : Value} (lu : us.length < 900) (lp : ps.length < 890) (op : Opener ps ts) (hv : TokAt w keep file line v (Str.ofString "punct") (Str.ofString "?"))
    (K : ∀ t, Kont w mean mg mb dp un gd outer h₀ L s E QF c dc vl sl tl pl k1 k2 k3 k4 keep I lo r false us xs (ps ++ [Value.str (Str.ofString "?") t]) (ts ++ [Str.ofString "?"])) : Kont w mean mg mb dp un gd outer h₀ L s E QF c dc vl sl tl pl k1 k2 k3 k4 keep I lo (v :: r) true us xs ps ts := by
  rcases op with ⟨rfl, rfl⟩ | ⟨p0, t0, s0, rfl, rfl⟩
  · exact tQuest0 (ps := []) B X T SA six hkeep htl hd hu lu lp hv K
  · exact tQuest1 B X T SA six hkeep htl hd hu lu (by rw [List.length_append] at lp; exact Nat.lt_of_le_of_lt (Nat.le_add_right _ _) lp) hv t0 K
theorem tUn (B : Below A₀ base outer h₀) (X : (KQ w.params).In h₀) (T : Top viewQ looseQ mean mg mb h₀) (SA : SetsAt w h₀) (six : Six c dc vl sl) (hkeep : ∀ p ∈ keep, p.2.cls ≠ .type "list_iterator") (htl : (tl, lo) ∈ keep) (hd : dp + 100 < recursionLimit) (hu : un + 1500 < cLine) {us : List Value} {xs : List V} {ps : List Value} {ts : List Str} {r : List Value} {v : Value} (lu : us.length < 900) (lp : ps.length < 890) (o : Uop) (hv : TokAt w keep file line v (Str.ofString "punct") o.sign)
    (K : ∀ t, Kont w mean mg mb dp un gd outer h₀ L s E QF c dc vl sl tl pl k1 k2 k3 k4 keep I lo r false us xs (ps ++ [Value.str o.word t]) (ts ++ [o.word])) : Kont w mean mg mb dp un gd outer h₀ L s E QF c dc vl sl tl pl k1 k2 k3 k4 keep I lo (v :: r) false us xs ps ts := by
  cases o with
  | neg => exact tUn_neg B X T SA six hkeep htl hd hu lu lp hv K
  | not => exact tUn_not B X T SA six hkeep htl hd hu lu lp hv K
  | inv => exact tUn_inv B X T SA six hkeep htl hd hu lu lp hv K
  | pos => exact tUn_pos B X T SA six hkeep htl hd hu lu lp hv K
def Eats (w : World) (mean : ExcName → Option Value) (mg mb : Str → Option Value) (dp un : Nat) (gd : Option (List Code)) (outer : List Env) (h₀ : Heap) (L : Addr) (s : Shared) (E : Value → Shared → Prop) (QF : Flow → Shared → Prop) (c dc vl sl tl pl : Addr) (k1 k2 k3 k4 : Tok) (keep : List (Addr × Obj)) (I : Addr) (lo : Obj) (file : Str) (line : Int) (D : Tr) : Prop :=
  ∀ (us : List Value) (xs : List V) (ps : List Value) (ts : List Str) (r toks : List Value), Opener ps ts → TokensAt w keep file line toks D.words → us.length + 8 * D.deep < 800 → ps.length + 8 * D.deep < 800 → us.length = xs.length →
    (∀ v', Kont w mean mg mb dp un gd outer h₀ L s E QF c dc vl sl tl pl k1 k2 k3 k4 keep I lo r true (us ++ [v']) (xs ++ [D.val]) ps ts) →
    (∀ (p : Pend) (args : List Value) (ys : List V) (t3 : Tok), ys.length = p.ar → args.length = ys.length → p.run ys = D.val → Kont w mean mg mb dp un gd outer h₀ L s E QF c dc vl sl tl pl k1 k2 k3 k4 keep I lo r true (us ++ args) (xs ++ ys) (ps ++ [Value.str p.word t3]) (ts ++ [p.word])) →
    Kont w mean mg mb dp un gd outer h₀ L s E QF c dc vl sl tl pl k1 k2 k3 k4 keep I lo (toks ++ r) false us xs ps ts

theorem bracket (B : Below A₀ base outer h₀) (X : (KQ w.params).In h₀) (T : Top viewQ looseQ mean mg mb h₀) (SA : SetsAt w h₀) (six : Six c dc vl sl) (hkeep : ∀ p ∈ keep, p.2.cls ≠ .type "list_iterator") (htl : (tl, lo) ∈ keep) (hd : dp + 100 < recursionLimit) (hu : un + 1500 < cLine) {D : Tr} (IH : Eats w mean mg mb dp un gd outer h₀ L s E QF c dc vl sl tl pl k1 k2 k3 k4 keep I lo file line D) (us : List Value) (xs : List V) (ps : List Value) (ts : List Str) (r toks : List Value) (hT : TokensAt w keep file line toks (brk D.words)) (lu : us.length + 8 * D.deep + 3 < 800) (lp : ps.length + 8 * D.deep + 3 < 800) (la : us.length = xs.length)
    (K : ∀ v', Kont w mean mg mb dp un gd outer h₀ L s E QF c dc vl sl tl pl k1 k2 k3 k4 keep I lo r true (us ++ [v']) (xs ++ [D.val]) ps ts) : Kont w mean mg mb dp un gd outer h₀ L s E QF c dc vl sl tl pl k1 k2 k3 k4 keep I lo (toks ++ r) false us xs ps ts := by
  unfold brk at hT
  cases hT with
  | cons h1 hT =>
    obtain ⟨ti, tc, rfl, h2, h3⟩ := hT.split
    cases h3 with
    | cons h3 h4 =>
      cases h4
      rw [List.cons_append, List.append_assoc]
      refine tOpen B X T SA six hkeep htl hd hu (by omega) (by omega) h1 fun t => ?_
      refine IH us xs _ _ _ ti (.inr ⟨ps, t, ts, rfl, rfl⟩) h2 (by omega) (by rw [List.length_append]; show ps.length + 1 + _ < 800; omega) la (fun v' => ?_) fun p args ys t3 h5 h6 h7 => ?_
      · exact tClose0 B X T SA six hkeep htl hd hu (by rw [List.length_append]; show us.length + 1 < 900; omega) (by omega) h3 t (K v')
      · exact tClose1 B X T SA six hkeep htl hd hu (by omega) (by omega) h3 t t3 p args ys la h5 fun v' => h7 ▸ K v'
theorem eats (B : Below A₀ base outer h₀) (X : (KQ w.params).In h₀) (T : Top viewQ looseQ mean mg mb h₀) (SA : SetsAt w h₀) (six : Six c dc vl sl) (hkeep : ∀ p ∈ keep, p.2.cls ≠ .type "list_iterator") (htl : (tl, lo) ∈ keep) (hd : dp + 100 < recursionLimit) (hu : un + 1500 < cLine) : ∀ D : Tr, Eats w mean mg mb dp un gd outer h₀ L s E QF c dc vl sl tl pl k1 k2 k3 k4 keep I lo file line D
  | .leaf k => by
    intro us xs ps ts r toks op hT lu lp la K0 K1
    cases hT with
    | cons h1 h2 =>
      cases h2
      exact tNum B X T SA six hkeep htl hd hu (by omega) (by omega) k h1 K0
  | .un o t => by
    intro us xs ps ts r toks op hT lu lp la K0 K1
    unfold Tr.deep at lu lp
    unfold Tr.words at hT
    cases hT with
    | cons h1 hT =>
      refine tUn B X T SA six hkeep htl hd hu (by omega) (by omega) o h1 fun t1 => ?_
      refine bracket B X T SA six hkeep htl hd hu (eats B X T SA six hkeep htl hd hu t) us xs _ _ r _ hT (by omega) (by rw [List.length_append]; show ps.length + 1 + _ + _ < 800; omega) la fun v' => ?_
      exact K1 (.un o) [v'] [t.val] t1 rfl rfl rfl
  | .bin o a b => by
    intro us xs ps ts r toks op hT lu lp la K0 K1
    unfold Tr.deep at lu lp
    unfold Tr.words at hT
    obtain ⟨ta, tr, rfl, ha, hT⟩ := hT.split
    cases hT with
    | cons h1 hT =>
      rw [List.append_assoc]
      refine bracket B X T SA six hkeep htl hd hu (eats B X T SA six hkeep htl hd hu a) us xs ps ts _ ta ha (by omega) (by omega) la fun va => ?_
      rw [List.cons_append]
      refine tBin B X T SA six hkeep htl hd hu (by rw [List.length_append]; show us.length + 1 < 900; omega) (by omega) op o h1 fun t1 => ?_
      refine bracket B X T SA six hkeep htl hd hu (eats B X T SA six hkeep htl hd hu b) _ _ _ _ r _ hT (by rw [List.length_append]; show us.length + 1 + _ + _ < 800; omega) (by rw [List.length_append]; show ps.length + 1 + _ + _ < 800; omega) (by rw [List.length_append, List.length_append, la]; rfl) fun vb => ?_
      have := K1 (.bin o) [va, vb] [a.val, b.val] t1 rfl rfl rfl
      rw [List.append_assoc, List.append_assoc]
      exact this
  | .cond a b c => by
    intro us xs ps ts r toks op hT lu lp la K0 K1
    unfold Tr.deep at lu lp
    unfold Tr.words at hT
    obtain ⟨ta, tr, rfl, ha, hT⟩ := hT.split
    cases hT with
    | cons h1 hT =>
      obtain ⟨tb, tr2, rfl, hb, hT⟩ := hT.split
      cases hT with
      | cons h2 hT =>
        rw [List.append_assoc]
        refine bracket B X T SA six hkeep htl hd hu (eats B X T SA six hkeep htl hd hu a) us xs ps ts _ ta ha (by omega) (by omega) la fun va => ?_
        rw [List.cons_append, List.append_assoc]
        refine tQuest B X T SA six hkeep htl hd hu (by rw [List.length_append]; show us.length + 1 < 900; omega) (by omega) op h1 fun t1 => ?_
        refine bracket B X T SA six hkeep htl hd hu (eats B X T SA six hkeep htl hd hu b) _ _ _ _ _ tb hb (by rw [List.length_append]; show us.length + 1 + _ + _ < 800; omega) (by rw [List.length_append]; show ps.length + 1 + _ + _ < 800; omega) (by rw [List.length_append, List.length_append, la]; rfl) fun vb => ?_
        rw [List.cons_append]
        refine tColon B X T SA six hkeep htl hd hu (by rw [List.length_append, List.length_append]; show us.length + 1 + 1 < 900; omega) (by omega) h2 t1 fun t2 => ?_
        refine bracket B X T SA six hkeep htl hd hu (eats B X T SA six hkeep htl hd hu c) _ _ _ _ r _ hT (by rw [List.length_append, List.length_append]; show us.length + 1 + 1 + _ + _ < 800; omega) (by rw [List.length_append]; show ps.length + 1 + _ + _ < 800; omega) (by rw [List.length_append, List.length_append, List.length_append, List.length_append, la]; rfl) fun vc => ?_
        have := K1 .cond [va, vb, vc] [a.val, b.val, c.val] t2 rfl rfl rfl
        rw [List.append_assoc, List.append_assoc, List.append_assoc, List.append_assoc]
        exact this
end
end
end
section
open PySem PySem.W PyProof.Rows PySem.Calls PySem.Spec
section
abbrev tupL (l : List Value) : Obj := { cls := .type "tuple", data := .seq l.toArray }
def SrcTup (prog : Program) (w : World) (A : Around) (h₀ : Heap) (L : Addr) (m : Str → Option Value) (env : Env) (elt : PySem.Expr) (x : Str) (scope : Scope) (cl : List (Str × Addr)) (Fin : Shared → List Value → List (Addr × Obj) → Prop) (xv : Value) (s₁ : Shared) : Prop :=
  ∃ ax its news, xv = .ref ax ∧ A.handled = none ∧ Fr h₀ L s₁.heap m ∧ News h₀ L s₁.heap news ∧ (ax, tupL its) ∈ news ∧ its.length ≤ sizeLine ∧
    ∀ g : Heap, LCg.CompRest prog w A h₀ L m env elt x scope cl { s₁ with heap := g } (fun nw => (ax, tupL its) ∈ nw) (fun i v => its[i]? = some v) (Fin { s₁ with heap := g }) its.length 0 [] news
section
variable {prog : Program} {w : World} {A : Around} {E : Value → Shared → Prop} {s : Shared} {h₀ : Heap} {L : Addr} {m : Str → Option Value} {env : Env}
theorem Assign_ListComp_T {elt iter : PySem.Expr} {x y : Str} {px py : Pos} {scope : Scope} {cl : List (Str × Addr)} {pos spos : Pos} {Q : Flow → Shared → Prop} (F₀ : Fr h₀ L s.heap m) (hLe : env.locals = L)
    (hsw : swapsWith (.ListComp elt [⟨.Name x px, iter, [], 0⟩] scope pos) (some (.Name y py)) spos.line env = pure true)
    (hclos : closureFor scope env = pure cl) (hcell : ∀ z ∈ scope.names, z.2 ≠ .cell) (hkind : scope.kind = .function)
    (hnames : ∀ z ∈ scope.names, z.2 = .local → scope.names.lookup z.1 = some .local) (hx : scope.names.lookup x = some .local)
    (hy : env.kindOf y = some .local) (hp : (env.scope.kind == .class || (env.scope.kind == .module && env.locals != env.globals)) = false)
    (h : wpAny (model prog w) A (eval iter env) (SrcTup prog w A h₀ L m env elt x scope cl (fun s₂ => LCg.FinA h₀ L m s₂ y Q)) E s)
    (hs : ∀ x, foldedSetIterable iter env x = pure x) :
    wpAny (model prog w) A (exec (.Assign [.Name y py] (.ListComp elt [⟨.Name x px, iter, [], 0⟩] scope pos) spos) env) Q E s := by
  subst hLe
  rw [exec_Assign_Name_used _ _ _ _ hsw]
  refine wpAny_bind (wpAny_standAt (wpAny_bind ?_))
  show wpAny _ A (do let _ ← comprehension (.ListComp elt [⟨.Name x px, iter, [], 0⟩] scope pos) scope env _ (newList []) false (eval iter env) (some (assign (.Name y py) env))) _ _ s
  refine wpAny_bind (wpAny_mono (wpAny_comprehension_free (use := some (assign (.Name y py) env)) (Q := fun _ s' => Q .next s') rfl hs hclos hkind hnames
    (wpAny_mono h (fun xv s₁ h₁ => ?_) fun _ _ e => e)) (fun _ s' hq => wpAny_pure (wpAny_pure hq)) fun _ _ e => e)
  obtain ⟨ax, its, news, rfl, hh, F, N, hmem, hsz, R⟩ := h₁
  have hl : s₁.heap.IsTuple ax its.toArray := ⟨_, (N _ hmem).1, rfl, _, rfl⟩
  have hlt : ax < s₁.heap.objs.size := Heap.lt_size (N _ hmem).1
  have e1 : its.length = its.toArray.size := (List.size_toArray ..).symm
  refine wpAny_pyIter_tuple hl ?_
  have up : ∀ b o, s₁.heap.get? b = some o → (s₁.heap.push { cls := .type "tuple_iterator", data := .fields #[.ref ax, .int 0 0] }).get? b = some o := fun b o e => Heap.get?_push_of_some _ e
  have W := Walks.tuple (prog := prog) (w := w) hh s₁.heap.objs.size ax (Nat.ne_of_lt hlt) its.toArray
  rw [← e1] at W
  refine LCg.block_U (P := fun i v => its[i]? = some v) (S := fun nw => (ax, tupL its) ∈ nw) { sub := W.sub, frame := W.frame, done := W.done, self := W.self, item := fun i s Q E hi st hQ => W.item i s Q E hi st fun v h' tk hP => hQ v h' tk (by simpa using hP) } hsz (fun i h st => by obtain ⟨o, e, _⟩ := st.1; exact ⟨o, e⟩)
    (fun i h h' o nw st e e' k N' S => ⟨by obtain ⟨o', q, r⟩ := st.1; rw [e] at q; cases q; exact ⟨o, e', r⟩, ⟨_, (N' _ S).1, rfl, _, rfl⟩⟩) hcell hkind hx ⟨⟨_, Heap.get?_push_size _ rfl, rfl, rfl⟩, hl.push _⟩ (fun b hb => ?_)
    (F.keeps up) (N.grown up) (Nat.ne_of_lt F.ns.lt) (next_is_new F) (fun p hp => Nat.ne_of_lt (Heap.lt_size (N p hp).1)) hmem (R _) ?_
  · show b < (s₁.heap.push _).objs.size
    rw [Heap.size_push]
    rcases List.mem_cons.mp hb with rfl | hb
    · exact Nat.lt_succ_self _
    · rw [List.mem_singleton.mp hb]; exact Nat.lt_succ_of_lt hlt
  · intro D C h' tk m' ys news' F' N' o1 hn hC₀ hD₀ hCL hDL hCD offC fin
    show wpAny _ A (assign (.Name y py) env (.ref D)) _ _ _
    refine wpAny_assign_Name (wpAny_storeName_local hy F'.ns (fun h₂ hn₂ hs₂ => ?_) hp)
    have hL₀ : h₀.get? env.locals = none := Heap.get?_none_of_le F'.above
    have F₂ : Fr h₀ env.locals h₂ (fun z => if z = y then some (.ref D) else m z) := ⟨hn₂, fun b o e => hs₂.extBut b o (fun q => by rw [q, hL₀] at e; cases e) (F'.keep b o e), F'.above⟩
    refine ⟨m', hn.sameBut hs₂ hCL, fun h'' hs'' => fin D h'' _ (F₂.change hs'' hCL hC₀) (fun p hp => ?_) o1⟩
    have z : h₂.get? p.1 = some p.2 := hs₂.extBut _ _ (N' p hp).2.1 (N' p hp).1
    refine ⟨hs''.extBut _ _ ?_ z, (N' p hp).2⟩
    rcases List.mem_cons.mp hp with rfl | hp
    · exact Ne.symm hCD
    · exact offC p hp
end
def ElemTo (h₀ : Heap) (L : Addr) (m : Str → Option Value) (s₁ : Shared) (news : List (Addr × Obj)) (R : Obj → Prop) (y : Value) (s₂ : Shared) : Prop :=
  ∃ l o h' tk, y = .ref l ∧ s₂ = { s₁ with heap := h', toks := tk } ∧ Fr h₀ L h' m ∧ News h₀ L h' ((l, o) :: news) ∧ (∀ p ∈ news, p.1 ≠ l) ∧ R o
theorem compStep {prog : Program} {w : World} {A : Around} {h₀ : Heap} {L : Addr} {m : Str → Option Value} {env : Env} {elt : PySem.Expr} {x : Str} {scope : Scope} {cl : List (Str × Addr)} {s : Shared} {ax : Addr} {its : List Value} {Fin : List Value → List (Addr × Obj) → Prop} {k i : Nat} {ys : List Value} {news : List (Addr × Obj)} {v : Value} {R : Obj → Prop}
    (hv : its[i]? = some v) (hax : (ax, tupL its) ∈ news)
    (elem : ∀ (I C D : Addr) (oI oC : Obj) (m₂ : Str → Option Value) (s₁ : Shared) (E' : Value → Shared → Prop), LCg.NsObj oC m₂ → m₂ x = some v → Fr h₀ L s₁.heap m → News h₀ L s₁.heap ((I, oI) :: (C, oC) :: (D, LCg.lst ys) :: news) →
      wpAny (model prog w) A (eval elt (compEnvC scope cl C env)) (ElemTo h₀ L m s₁ ((I, oI) :: (C, oC) :: (D, LCg.lst ys) :: news) R) E' s₁)
    (next : ∀ l o, R o → (∀ p ∈ news, p.1 ≠ l) → LCg.CompRest prog w A h₀ L m env elt x scope cl s (fun nw => (ax, tupL its) ∈ nw) (fun i v => its[i]? = some v) Fin k (i + 1) (ys ++ [.ref l]) ((l, o) :: news)) :
    LCg.CompRest prog w A h₀ L m env elt x scope cl s (fun nw => (ax, tupL its) ∈ nw) (fun i v => its[i]? = some v) Fin (k + 1) i ys news := by
  refine LCg.CompRest.succ fun v' I oI C oC D m₂ h tk E' hP hC hx F N off ne => ?_
  obtain rfl : v = v' := Option.some.inj (hv.symm.trans hP)
  refine wpAny_mono (elem I C D oI oC m₂ { s with heap := h, toks := tk } E' hC hx F N) (fun y s₂ h₁ => ?_) fun _ _ e => e
  obtain ⟨l, o, h', tk', rfl, rfl, F', N', fr, hR⟩ := h₁
  refine LCg.CompEnd.intro F' N' ((l, o) :: news) (fun p hp => ?_) ⟨⟨?_, ?_, ?_⟩, off⟩ (.tail _ hax) (next l o hR fun p hp => fr p (.tail _ (.tail _ (.tail _ hp))))
  · simp only [List.mem_cons] at hp ⊢
    rcases hp with h | h | h | h | h <;> simp [h]
  · exact (fr _ (.head _)).symm
  · exact (fr _ (.tail _ (.head _))).symm
  · exact (fr _ (.tail _ (.tail _ (.head _)))).symm
end
end
section
open PySem PySem.W PyProof.Rows PySem.Calls PySem.Spec
local macro_rules | `(tactic| k_room) => `(tactic| ktr_room)
local macro_rules | `(tactic| k_units) => `(tactic| ktr_units)
local macro_rules | `(tactic| k_all) => `(tactic| assumption)
local macro_rules | `(tactic| walk_at "execs cons") => `(tactic| (with_reducible refine gen_toks ?_; intro tk))
local macro_rules | `(tactic| walk_at "execs nil") => `(tactic| (with_reducible refine gen_toks ?_; intro tk))
section
open PySem PySem.W PyProof.Rows PySem.Calls PySem.Spec
section

def cEl : List Stmt → PySem.Expr
  | _ :: .Assign _ (.ListComp e _ _ _) _ :: _ => e
  | _ => .Constant .none 0 ⟨0, 0, 0, 0⟩
def cSc : List Stmt → Scope
  | _ :: .Assign _ (.ListComp _ _ sc _) _ :: _ => sc
  | _ => PySem.Challenge.pw_on0057_01.main.scope
inductive TreeAt (news : List (Addr × Obj)) : Value → Tr → Prop where
  | leaf (k : Num) (t : Tok) : TreeAt news (.str k.txt t) (.leaf k)
  | un {D : Addr} {o : Uop} {t1 : Tok} {v : Value} {T : Tr} : (D, tupL [.str o.sign t1, v]) ∈ news → TreeAt news v T → TreeAt news (.ref D) (.un o T)
  | bin {D : Addr} {o : Bop} {t1 : Tok} {v1 v2 : Value} {T1 T2 : Tr} : (D, tupL [.str o.txt t1, v1, v2]) ∈ news → TreeAt news v1 T1 → TreeAt news v2 T2 → TreeAt news (.ref D) (.bin o T1 T2)
  | cond {D : Addr} {t1 : Tok} {v1 v2 v3 : Value} {T1 T2 T3 : Tr} : (D, tupL [.str (Str.ofString "?") t1, v1, v2, v3]) ∈ news → TreeAt news v1 T1 → TreeAt news v2 T2 → TreeAt news v3 T3 → TreeAt news (.ref D) (.cond T1 T2 T3)
  | lack : TreeAt news (.ref 298) (.bin .div (.leaf .a1) (.leaf .a0))
theorem TreeAt.mono {n1 n2 : List (Addr × Obj)} {v : Value} {T : Tr} (h : TreeAt n1 v T) (hs : ∀ p ∈ n1, p ∈ n2) : TreeAt n2 v T := by
  induction h with
  | leaf k t => exact .leaf k t
  | un a _ i => exact .un (hs _ a) i
  | bin a _ _ i j => exact .bin (hs _ a) i j
  | cond a _ _ _ i j k => exact .cond (hs _ a) i j k
  | lack => exact .lack
def Tr.texts (D : Tr) : List Str := D.words.map (·.2)
theorem texts_leaf (k : Num) : (Tr.leaf k).texts = [k.txt] := rfl
theorem texts_un (o : Uop) (t : Tr) : (Tr.un o t).texts = o.sign :: (Str.ofString "(" :: (t.texts ++ [Str.ofString ")"])) := by
  simp [Tr.texts, Tr.words, brk, pun]
theorem texts_bin (o : Bop) (a b : Tr) : (Tr.bin o a b).texts = (Str.ofString "(" :: (a.texts ++ [Str.ofString ")"])) ++ [o.txt] ++ (Str.ofString "(" :: (b.texts ++ [Str.ofString ")"])) := by
  simp [Tr.texts, Tr.words, brk, pun]
theorem texts_cond (a b c : Tr) : (Tr.cond a b c).texts = (Str.ofString "(" :: (a.texts ++ [Str.ofString ")"])) ++ [Str.ofString "?"] ++ (Str.ofString "(" :: (b.texts ++ [Str.ofString ")"])) ++ ([Str.ofString ":"] ++ (Str.ofString "(" :: (c.texts ++ [Str.ofString ")"]))) := by
  simp [Tr.texts, Tr.words, brk, pun]
theorem catL {prog : Program} {w : World} {A : Around} {h₀ : Heap} {L : Addr} {m : Str → Option Value} {news : List (Addr × Obj)} {s : Shared} {Q E : Value → Shared → Prop} {l1 l2 : Addr} {ws1 ws2 : List Value} {n1 n2 : Nat} {t1 t2 : List Str} (F : Fr h₀ L s.heap m) (N : News h₀ L s.heap news) (ha : (l1, listOf ws1.toArray n1) ∈ news) (hb : (l2, listOf ws2.toArray n2) ∈ news) (x : StrsAre ws1 t1) (y : StrsAre ws2 t2) (hz : t1.length + t2.length ≤ 4000)
    (h : ∀ (l : Addr) (ws : List Value) (n : Nat) (h' : Heap), StrsAre ws (t1 ++ t2) → Fr h₀ L h' m → News h₀ L h' ((l, listOf ws.toArray n) :: news) → (∀ p ∈ news, p.1 ≠ l) → Q (.ref l) { s with heap := h' }) :
    wpAny (model prog w) A (binaryOp .Add (.ref l1) (.ref l2)) Q E s := by
  refine add_lists (vs := ws1) (ws := ws2) (hsz := ?_) F N (N.isList ha) (N.isList hb) fun h' F' N' => h _ _ _ _ (x.append' y) F' N' fun p hp => Nat.ne_of_lt (Heap.lt_size (N p hp).1)
  rw [x.length, y.length, PySem.sizeLine_eq]
  exact Nat.le_trans hz (by decide)
abbrev WRet (h₀ : Heap) (L : Addr) (m : Str → Option Value) (s : Shared) (news : List (Addr × Obj)) (ts : List Str) (Q : Value → Shared → Prop) : Prop :=
  ∀ (l : Addr) (ws : List Value) (n : Nat) (h' : Heap) (tk' : Nat), Fr h₀ L h' m → News h₀ L h' ((l, listOf ws.toArray n) :: news) → (∀ p ∈ news, p.1 ≠ l) → StrsAre ws ts → Q (.ref l) { s with heap := h', toks := tk' }
def WordsTell (w : World) (D : Tr) : Prop :=
  ∀ {mean : ExcName → Option Value} {mg mb : Str → Option Value} {dp un : Nat} {gd : Option (List Code)} {cn : Str} {cs : Scope} {a : Addr} {ccd : Value} {cl : List (Str × Addr)} {outer : List Env} {A₀ : Around} {base h₀ : Heap} {L : Addr} {m : Str → Option Value} {news : List (Addr × Obj)} {s : Shared} {Q E : Value → Shared → Prop} (v : Value), Below A₀ base outer h₀ → Fr h₀ L s.heap m → (KQ w.params).In h₀ → News h₀ L s.heap news → Top viewQ looseQ mean mg mb h₀ → cs.kind = .function → TreeAt news v D → D.texts.length < 1000 →
    dp + 10 * D.deep + 20 < recursionLimit → un + 200 * D.deep + 300 < cLine → WRet h₀ L m s news D.texts Q →
    wpAny (MQ w) (ktrTop dp un gd cn cs L a ccd cl outer) (call (.ref 324) [v]) Q E s
section
variable {w : World} {mean : ExcName → Option Value} {mg mb : Str → Option Value} {dp un : Nat} {gd : Option (List Code)} {cn : Str} {cs : Scope} {a : Addr} {ccd : Value} {cl : List (Str × Addr)} {outer : List Env} {A₀ : Around} {base h₀ : Heap} {L : Addr} {m : Str → Option Value} {news : List (Addr × Obj)} {s : Shared} {Q E : Value → Shared → Prop}

theorem wordsUse {D : Tr} {v : Value} (W : WordsTell w D) (B : Below A₀ base outer h₀) (F : Fr h₀ L s.heap m) (X : (KQ w.params).In h₀) (N : News h₀ L s.heap news) (T : Top viewQ looseQ mean mg mb h₀) (hk : cs.kind = .function) (ht : TreeAt news v D) (hw : D.texts.length < 1000)
    (hd : dp + 10 * D.deep + 20 < recursionLimit) (hu : un + 200 * D.deep + 300 < cLine) (ret : WRet h₀ L m s news D.texts Q) : wpAny (MQ w) (ktrTop dp un gd cn cs L a ccd cl outer) (call (.ref 324) [v]) Q E s :=
  W v B F X N T hk ht hw hd hu ret
end
local macro_rules | `(tactic| walk_at "eval Call") => `(tactic| ((with_reducible show wpAny _ _ (eval (Expr.Call (Expr.Name _ _) _ [] _) _) _ _ _); k_dflt (refine Call_ ?_)))
local macro_rules | `(tactic| walk_at "exec Assign cons ListComp") => `(tactic| (k_dflt (refine Assign_ListComp_T (F₀ := by k_asm) (by rfl) (by with_unfolding_all rfl) (by rfl) (by decide) (by rfl) (by decide) (by rfl) (by rfl) (by rfl) ?_ (by intro _; rfl))))
local macro_rules | `(tactic| walk_at "subscriptTail") => `(tactic| ((with_reducible show wpAny _ _ (subscriptTail _ (PySem.Expr.Slice _ _ _ _) (Value.ref _) (Value.ref _)) _ _ _); k_dflt (refine slice_tuple_from (a := 1) (by k_asm) (by k_asm) (News.isTup (by k_asm) (by k_mem)) (by decide) ?_ ?_)))
local macro_rules | `(tactic| walk_at "binaryOp Add ref ref") => `(tactic| ((with_reducible show wpAny _ _ (binaryOp PySem.Operator.Add (Value.ref _) (Value.ref _)) _ _ _); k_dflt (refine' catL ?F ?N ?a ?b ?x ?y ?z ?_; (case F => k_asm); (case N => k_asm); (case a => k_mem); (case b => k_mem); (case x => first | assumption | exact StrsAre.nil | exact StrsAre.cons _ _ StrsAre.nil); (case y => first | assumption | exact StrsAre.cons _ _ StrsAre.nil | exact StrsAre.nil); (case z => (simp only [List.length_append, List.length_cons, List.length_nil]; omega)); intro l' ws' n' h' hs' F' N' hf')))
local macro_rules | `(tactic| walk_at "call ref") => `(tactic| ((k_dflt (show wpAny _ _ (call (Value.ref 324) [_]) _ _ _)); k_dflt (refine' wordsUse (by assumption) ?k1 ?k2 ?k3 ?k4 ?k5 ?kK ?kt ?kw ?kd ?ku ?_; (case k1 | k2 | k3 | k4 | k5 => k_asm); (case kK => first | exact rfl | assumption); (case kt => first | assumption | (exact TreeAt.mono (by assumption) (by intro p hp; simp only [List.mem_cons, hp, or_true, true_or]))); (case kw => assumption); (case kd => ktr_room); (case ku => ktr_units); k_whole; intro l' ws' n' h' tk' F' N' hf' hs'); (try dsimp only); (try k_fold)))
section
variable {w : World} {mean : ExcName → Option Value} {mg mb : Str → Option Value} {dp un : Nat} {gd : Option (List Code)} {cn : Str} {cs : Scope} {a : Addr} {ccd : Value} {cl : List (Str × Addr)} {outer : List Env} {A₀ : Around} {base h₀ : Heap} {L : Addr} {m : Str → Option Value} {news : List (Addr × Obj)} {s : Shared} {Q E : Value → Shared → Prop}
theorem wordsElem {C I P : Addr} {oI oC oP : Obj} {m₂ : Str → Option Value} {s₁ : Shared} {v : Value} {D : Tr} {E' : Value → Shared → Prop} (W : WordsTell w D) (B : Below A₀ base outer h₀) (X : (KQ w.params).In h₀) (T : Top viewQ looseQ mean mg mb h₀)
    (hC : LCg.NsObj oC m₂) (hx : m₂ (Str.ofString "part") = some v) (F : Fr h₀ L s₁.heap m) (N : News h₀ L s₁.heap ((I, oI) :: (C, oC) :: (P, oP) :: news)) (ht : TreeAt news v D) (hw : D.texts.length < 1000)
    (hd : dp + 10 * D.deep + 25 < recursionLimit) (hu : un + 200 * D.deep + 350 < cLine) :
    wpAny (MQ w) (ktrTop dp un gd (Str.ofString "_law_words") (pS (Mine.D 38)) L 324 (Value.ref 323) [] outer) (eval (cEl (pB (Mine.D 38))) (compEnvC (cSc (pB (Mine.D 38))) [] C (envOf (Str.ofString "_law_words") (pS (Mine.D 38)) L 324 (Value.ref 323)))) (ElemTo h₀ L m s₁ ((I, oI) :: (C, oC) :: (P, oP) :: news) (fun o => ∃ ws n, o = listOf ws.toArray n ∧ StrsAre ws (Str.ofString "(" :: (D.texts ++ [Str.ofString ")"])))) E' s₁ := by
  k_dflt (show wpAny _ _ (eval (PySem.Expr.BinOp (PySem.Expr.BinOp _ _ _ _) _ _ _) _) _ _ _)
  k_steps
  all_goals (refine ⟨_, _, _, _, rfl, rfl, by assumption, vdrop1 (by assumption) (show ∀ r ∈ _, _ from fun p hp => ?_), fun p hp => (by assumption : ∀ q ∈ _, q.1 ≠ _) p ?_, ⟨_, _, rfl, by assumption⟩⟩)
  all_goals (simp only [List.mem_cons, hp, or_true, true_or])
end
end
end
section
open PySem PySem.W PyProof.Rows PySem.Calls PySem.Spec
section
theorem fm0 (a : Int) {b : Int} (h : 0 < b) : 0 ≤ a.fmod b := by rw [Int.fmod_eq_emod_of_nonneg _ (Int.le_of_lt h)]; exact Int.emod_nonneg _ (by omega)
theorem fm1 (a : Int) {b : Int} (h : 0 < b) : a.fmod b < b := by rw [Int.fmod_eq_emod_of_nonneg _ (Int.le_of_lt h)]; exact Int.emod_lt_of_pos _ h
def ApOk (wl : Addr) (news : List (Addr × Obj)) : Prop := ∀ p ∈ news, p.1 ≠ wl ∧ p.2.cls ≠ .type "list_iterator"
def Cells (cells : List Value) : Prop := ∃ zs : List Int, IntsAre cells zs ∧ (∀ z ∈ zs, 0 ≤ z ∧ z < 2147483647) ∧ zs.length ≤ 60
theorem Cells.len {cells : List Value} (c : Cells cells) : cells.length ≤ 60 := by
  obtain ⟨zs, h, _, l⟩ := c
  rw [h.length]; exact l
theorem ints_get : ∀ {vs : List Value} {zs : List Int} {i : Nat}, IntsAre vs zs → (hi : i < zs.length) → ∃ t, vs[i]? = some (.int zs[i] t)
  | _, _, 0, .cons n t _, _ => ⟨t, rfl⟩
  | _, _, i + 1, .cons n t h, hi => by
    obtain ⟨t', e⟩ := ints_get h (Nat.lt_of_succ_lt_succ hi)
    exact ⟨t', e⟩
theorem Cells.item {cells : List Value} {k : Int} (c : Cells cells) (h0 : 0 ≤ k) (h1 : k < (cells.length : Int)) : ∃ (z : Int) (t : Tok), cells[k.toNat]? = some (.int z t) ∧ 0 ≤ z ∧ z < 2147483647 := by
  obtain ⟨zs, h, b, l⟩ := c
  have hk : k.toNat < zs.length := by rw [← h.length]; omega
  obtain ⟨t, e⟩ := ints_get h hk
  exact ⟨zs[k.toNat], t, e, b _ (List.getElem_mem hk)⟩
section
variable {prog : Program} {w : World} {A : Around} {h₀ : Heap} {L a : Addr} {news : List (Addr × Obj)} {s : Shared} {Q E : Value → Shared → Prop} {l : List Value} {n : Nat}
theorem lenCells (N : News h₀ L s.heap news) (hm : (a, listOf l.toArray n) ∈ news) (c : Cells l) (h : ∀ t, Q (.int l.length t) { s with toks := s.toks + 1 + 1 }) : wpAny (model prog w) A (call (.builtin "len") [.ref a]) Q E s := by
  obtain ⟨zs, hi, b, lz⟩ := c
  refine len_list_made (N.isList hm) hi.carried (by rw [List.length_map]; exact Nat.le_trans lz (by decide)) ?_
  rw [List.length_map, ← hi.length]; exact h _
theorem cellGet {value slice : PySem.Expr} {k : Int} {u : Tok} (N : News h₀ L s.heap news) (hm : (a, listOf l.toArray n) ∈ news) (c : Cells l) (h0 : 0 ≤ k) (h1 : k < (l.length : Int)) (h : ∀ z t, 0 ≤ z → z < 2147483647 → Q (.int z t) s)
    (hs : subscripted slice false (.ref a) (.int k u) = operate [.ref a, .int k u] (getItem (.ref a) (.int k u)) := by with_unfolding_all rfl) (hg : ∀ r, letTemporaryGo value (.ref a) r = pure () := by intro _; with_unfolding_all rfl) :
    wpAny (model prog w) A (subscriptTail value slice (.ref a) (.int k u)) Q E s := by
  obtain ⟨z, t, e, b0, b1⟩ := c.item h0 h1
  have hl := c.len
  exact kim_list N hm rfl rfl h0 (by omega) e (h z t b0 b1) hs hg
end
local macro_rules | `(tactic| walk_at "call builtin:len") => `(tactic| ((with_reducible show wpAny _ _ (call (Value.builtin "len") [Value.ref _]) _ _ _); k_dflt (refine' lenCells ?N ?a ?c ?_; (case N => k_asm); (case a => k_mem); (case c => assumption)); intro tl'; (try dsimp only)))
local macro_rules | `(tactic| walk_at "subscriptTail") => `(tactic| ((with_reducible show wpAny _ _ (subscriptTail _ _ (Value.ref _) (Value.int _ _)) _ _ _); k_dflt (refine' cellGet ?N ?a ?c ?x ?y ?_; (case N => k_asm); (case a => k_mem); (case c => assumption); (case x => assumption); (case y => assumption)); intro z' tz' hz0' hz1'; (try dsimp only)))
local macro_rules | `(tactic| walk_at "eval Call") => `(tactic| ((with_reducible show wpAny _ _ (eval (Expr.Call (Expr.Name _ _) _ [] _) _) _ _ _); k_dflt (refine Call_ ?_)))
section
variable {w : World} {mean : ExcName → Option Value} {mg mb : Str → Option Value} {dp un : Nat} {gd : Option (List Code)} {cn : Str} {cs : Scope} {a : Addr} {ccd : Value} {cl : List (Str × Addr)} {outer : List Env} {A₀ : Around} {base h₀ : Heap} {L : Addr} {m : Str → Option Value} {news : List (Addr × Obj)} {s : Shared} {Q E : Value → Shared → Prop}
variable {wl cl1 : Addr} {sp st : Int} {t1 t2 : Tok} {nw nc : Nat} {cells : List Value}
theorem drawC (size : Int) (ts : Tok) (B : Below A₀ base outer h₀) (F : Fr h₀ L s.heap m) (X : (KQ w.params).In h₀) (N : News h₀ L s.heap (((wl, listOf [Value.ref cl1, Value.int sp t1, Value.int st t2].toArray nw)) :: news)) (T : Top viewQ looseQ mean mg mb h₀) (hk : cs.kind = .function) (hcl : (cl1, listOf cells.toArray nc) ∈ news) (hap : ApOk wl news) (hc : Cells cells) (hsp : 0 ≤ sp) (hs0 : 0 ≤ st) (hs1 : st < 997) (hz : 0 < size)
    (hd : dp + 10 < recursionLimit) (hu : un + 80 < cLine)
    (ret : ∀ (r : Int) (t : Tok) (sp' st' : Int) (t1' t2' : Tok) (n' : Nat) (h' : Heap) (tk' : Nat), 0 ≤ r → r < size → 0 ≤ sp' → 0 ≤ st' → st' < 997 → Fr h₀ L h' m → News h₀ L h' ((wl, listOf [Value.ref cl1, Value.int sp' t1', Value.int st' t2'].toArray n') :: news) → Q (.int r t) { s with heap := h', toks := tk' }) :
    wpAny (MQ w) (ktrTop dp un gd cn cs L a ccd cl outer) (call (.ref 305) [.ref wl, .int size ts]) Q E s := by
  have hap1 : ∀ p ∈ news, p.1 ≠ wl := fun p hp => (hap p hp).1
  have e1 : @Ne Nat cl1 wl := (hap _ hcl).1
  have N2 := News.dup N (.tail _ hcl)
  refine wpAny_call ?_
  (k_dflt (refine' code_def (binds := [(Str.ofString "well", .ref wl), (Str.ofString "size", .int size ts)]) ?k1 ?k2 ?k3 ?k4 ?k5 ?kA ?kF ?kK ?k6 ?k7 ?k8 ?k9 ?kB ?_ ?c2 ?c3 ?c4 ?c5; (case kA | kF => exact rfl); (case kK => first | exact rfl | assumption); (case k1 | k2 | k3 | k4 | k5 => k_asm); (case k6 | k7 => k_is); (case k8 => ktr_room); (case k9 => exact BindsTo.of_eq rfl); (case c5 => decide); (case kB => exact locs rfl); (case c2 | c3 | c4 => exact rfl); k_whole; intro g' L' h' FG' F' N' B' X' T'; (try dsimp only); (try k_lift B'); (try k_fold)))
  k_steps
  all_goals (refine ret _ _ _ _ _ _ _ _ _ (fm0 _ hz) (fm1 _ hz) ?_ ?_ ?_ (by assumption) (vdrop1 (News.tl (News.tl (by assumption))) (show ∀ r ∈ news, _ from fun p hp => hp)))
  all_goals first | exact fm0 _ (by decide) | exact fm1 _ (by decide) | omega
end
end
end
section
open PySem PySem.W PyProof.Rows PySem.Calls PySem.Spec
section
def TupIn (h₀ : Heap) (news : List (Addr × Obj)) (mu : Addr) (items : List Value) : Prop := IsTup h₀ mu items.toArray ∨ (mu, tupL items) ∈ news
section
variable {prog : Program} {w : World} {A : Around} {h₀ : Heap} {L a : Addr} {m : Str → Option Value} {news : List (Addr × Obj)} {s : Shared} {Q E : Value → Shared → Prop} {l : List Value}
theorem TupIn.is {h : Heap} (t : TupIn h₀ news a l) (F : Fr h₀ L h m) (N : News h₀ L h news) : IsTup h a l.toArray := by
  rcases t with t | t
  · exact t.keeps F.keep
  · exact News.isTup N t
theorem TupIn.keeps {g : Heap} (t : TupIn h₀ news a l) (F : Fr h₀ L g m) : TupIn g news a l := by
  rcases t with t | t
  · exact .inl (t.keeps F.keep)
  · exact .inr t
theorem TupIn.more {news' : List (Addr × Obj)} (t : TupIn h₀ news a l) (hs : ∀ p ∈ news, p ∈ news') : TupIn h₀ news' a l := by
  rcases t with t | t
  · exact .inl t
  · exact .inr (hs _ t)
theorem lenTup {news0 : List (Addr × Obj)} (t : TupIn h₀ news0 a l) (hs0 : ∀ p ∈ news0, p ∈ news) (F : Fr h₀ L s.heap m) (N : News h₀ L s.heap news) (hz : l.length < 100) (h : ∀ t, Q (.int l.length t) { s with toks := s.toks + 1 + 1 }) : wpAny (model prog w) A (call (.builtin "len") [.ref a]) Q E s :=
  len_tuple ((t.more hs0).is F N) (by rw [List.size_toArray]; omega) (by rw [List.size_toArray]; exact h _)
theorem tupGet {value slice : PySem.Expr} {k : Int} {u : Tok} {news0 : List (Addr × Obj)} (t : TupIn h₀ news0 a l) (hs0 : ∀ p ∈ news0, p ∈ news) (F : Fr h₀ L s.heap m) (N : News h₀ L s.heap news) (hz : l.length < 100) (h0 : 0 ≤ k) (h1 : k < (l.length : Int)) (h : ∀ v, v ∈ l → Q v s)
    (hs : subscripted slice false (.ref a) (.int k u) = operate [.ref a, .int k u] (getItem (.ref a) (.int k u)) := by with_unfolding_all rfl) (hg : ∀ r, letTemporaryGo value (.ref a) r = pure () := by intro _; with_unfolding_all rfl) :
    wpAny (model prog w) A (subscriptTail value slice (.ref a) (.int k u)) Q E s := by
  have hk : k.toNat < l.length := by omega
  refine item_tupleL (j := k.toNat) ((t.more hs0).is F N) (by omega) (by omega) ?_ (List.getElem?_eq_getElem hk) (h _ (List.getElem_mem hk)) hs hg
  have hn : ¬ k < 0 := by omega
  unfold seqIndex?
  simp only [if_neg hn]
  exact if_pos (by simp; omega)
end
local macro_rules | `(tactic| walk_at "eval Call") => `(tactic| ((with_reducible show wpAny _ _ (eval (Expr.Call (Expr.Name _ _) _ [] _) _) _ _ _); k_dflt (refine Call_ ?_)))
local macro_rules | `(tactic| walk_at "call ref") => `(tactic| ((k_dflt (show wpAny _ _ (call (Value.ref 305) [Value.ref _, Value.int _ _]) _ _ _)); k_dflt (refine' drawC _ _ ?k1 ?k2 ?k3 ?k4 ?k5 ?kK ?y1 ?y2 ?y3 ?y4 ?y5 ?y6 ?kz ?kd ?ku ?_; (case k1 | k2 | k3 | k4 | k5 => k_asm); (case kK => first | exact rfl | assumption); (case y1 => k_mem); (case y2 => assumption); (case y3 => assumption); (case y4 => assumption); (case y5 => assumption); (case y6 => assumption); (case kz => first | assumption | decide | omega); (case kd => ktr_room); (case ku => ktr_units); k_whole; intro r' tr' sp' st' t1' t2' n' h' tk' hr0' hr1' hsp' hs0' hs1' F' N'); (try dsimp only); (try k_fold)))
local macro_rules | `(tactic| walk_at "call builtin:len") => `(tactic| ((with_reducible show wpAny _ _ (call (Value.builtin "len") [Value.ref _]) _ _ _); k_dflt (refine' lenTup ?t ?s ?F ?N ?z ?_; (case t => assumption); (case F => k_asm); (case N => k_asm); (case s => (intro p hp; simp only [List.mem_cons, hp, or_true])); (case z => assumption)); intro tl'; (try dsimp only)))
local macro_rules | `(tactic| walk_at "subscriptTail") => `(tactic| ((with_reducible show wpAny _ _ (subscriptTail _ _ (Value.ref _) (Value.int _ _)) _ _ _); k_dflt (refine' tupGet ?t ?s ?F ?N ?z ?x ?y ?_; (case t => assumption); (case F => k_asm); (case N => k_asm); (case s => (intro p hp; simp only [List.mem_cons, hp, or_true])); (case z => assumption); (case x => assumption); (case y => assumption)); intro v' hv'; (try dsimp only)))
section
variable {w : World} {mean : ExcName → Option Value} {mg mb : Str → Option Value} {dp un : Nat} {gd : Option (List Code)} {cn : Str} {cs : Scope} {a : Addr} {ccd : Value} {cl : List (Str × Addr)} {outer : List Env} {A₀ : Around} {base h₀ : Heap} {L : Addr} {m : Str → Option Value} {news : List (Addr × Obj)} {s : Shared} {Q E : Value → Shared → Prop}
variable {wl cl1 : Addr} {sp st : Int} {t1 t2 : Tok} {nw nc : Nat} {cells : List Value}
theorem pickC (mu : Addr) (items : List Value) (B : Below A₀ base outer h₀) (F : Fr h₀ L s.heap m) (X : (KQ w.params).In h₀) (N : News h₀ L s.heap ((wl, listOf [Value.ref cl1, Value.int sp t1, Value.int st t2].toArray nw) :: news)) (T : Top viewQ looseQ mean mg mb h₀) (hk : cs.kind = .function) (hcl : (cl1, listOf cells.toArray nc) ∈ news) (hap : ApOk wl news) (hc : Cells cells) (hsp : 0 ≤ sp) (hs0 : 0 ≤ st) (hs1 : st < 997) (ht : TupIn h₀ news mu items) (hz0 : 0 < items.length) (hz1 : items.length < 100)
    (hd : dp + 20 < recursionLimit) (hu : un + 160 < cLine)
    (ret : ∀ (v : Value), v ∈ items → ∀ (sp' st' : Int) (t1' t2' : Tok) (n' : Nat) (h' : Heap) (tk' : Nat), 0 ≤ sp' → 0 ≤ st' → st' < 997 → Fr h₀ L h' m → News h₀ L h' ((wl, listOf [Value.ref cl1, Value.int sp' t1', Value.int st' t2'].toArray n') :: news) → Q v { s with heap := h', toks := tk' }) :
    wpAny (MQ w) (ktrTop dp un gd cn cs L a ccd cl outer) (call (.ref 312) [.ref wl, .ref mu]) Q E s := by
  refine wpAny_call ?_
  (k_dflt (refine' code_def (binds := [(Str.ofString "well", .ref wl), (Str.ofString "menu", .ref mu)]) ?k1 ?k2 ?k3 ?k4 ?k5 ?kA ?kF ?kK ?k6 ?k7 ?k8 ?k9 ?kB ?_ ?c2 ?c3 ?c4 ?c5; (case kA | kF => exact rfl); (case kK => first | exact rfl | assumption); (case k1 | k2 | k3 | k4 | k5 => k_asm); (case k6 | k7 => k_is); (case k8 => ktr_room); (case k9 => exact BindsTo.of_eq rfl); (case c5 => decide); (case kB => exact locs rfl); (case c2 | c3 | c4 => exact rfl); k_whole; intro g' L' h' FG' F' N' B' X' T'; (try dsimp only); (try k_lift B'); (try k_fold)))
  have ht' := ht.keeps FG'
  have hz0' : 0 < (items.length : Int) := by omega
  clear ht
  k_steps
  all_goals (refine ret _ (by assumption) _ _ _ _ _ _ _ ?_ ?_ ?_ (by assumption) (by assumption) <;> assumption)
end
end
end
section
open PySem PySem.W PyProof.Rows PySem.Calls PySem.Spec
section

def optV (o : Option Int) (t : Tok) : Value := match o with
  | some n => .int n t
  | none => .none
section
variable {w : World} {mean : ExcName → Option Value} {mg mb : Str → Option Value} {dp un : Nat} {gd : Option (List Code)} {cn : Str} {cs : Scope} {a : Addr} {ccd : Value} {cl : List (Str × Addr)} {outer : List Env} {A₀ : Around} {base h₀ : Heap} {L : Addr} {m : Str → Option Value} {news : List (Addr × Obj)} {s : Shared} {Q E : Value → Shared → Prop}

abbrev PRet (h₀ : Heap) (L : Addr) (m : Str → Option Value) (news : List (Addr × Obj)) (s : Shared) (Q : Value → Shared → Prop) (x : Option Int) (u : Bool) : Prop :=
  ∀ (l : Addr) (t : Tok) (x' : Option Int) (u' : Bool) (h' : Heap) (tk' : Nat), x' = x → u' = u → Fr h₀ L h' m → News h₀ L h' ((l, tupL [optV x' t, .bool u']) :: news) → AllLt l news → Q (.ref l) { s with heap := h', toks := tk' }
abbrev LRet (h₀ : Heap) (L : Addr) (m : Str → Option Value) (news : List (Addr × Obj)) (s : Shared) (Q : Value → Shared → Prop) (n : Int) (u : Bool) : Prop :=
  ∀ (l : Addr) (t : Tok) (y : Int) (h' : Heap) (tk' : Nat), y = n → Fr h₀ L h' m → News h₀ L h' ((l, tupL [.int y t, .bool u]) :: news) → AllLt l news → Q (.ref l) { s with heap := h', toks := tk' }
theorem ledC (n : Int) (t1 : Tok) (u : Bool) (B : Below A₀ base outer h₀) (F : Fr h₀ L s.heap m) (X : (KQ w.params).In h₀) (N : News h₀ L s.heap news) (T : Top viewQ looseQ mean mg mb h₀) (hk : cs.kind = .function) 
    (hd : dp + 6 < recursionLimit) (hu : un + 40 < cLine)
    (ret : LRet h₀ L m news s Q (led32 n u) u) :
    wpAny (MQ w) (ktrTop dp un gd cn cs L a ccd cl outer) (call (.ref 331) [.int n t1, .bool u]) Q E s := by
  refine wpAny_call ?_
  (k_dflt (refine' code_def (binds := [(Str.ofString "number", .int n t1), (Str.ofString "has_none", .bool u)]) ?k1 ?k2 ?k3 ?k4 ?k5 ?kA ?kF ?kK ?k6 ?k7 ?k8 ?k9 ?kB ?_ ?c2 ?c3 ?c4 ?c5; (case kA | kF => exact rfl); (case kK => first | exact rfl | assumption); (case k1 | k2 | k3 | k4 | k5 => k_asm); (case k6 | k7 => k_is); (case k8 => ktr_room); (case k9 => exact BindsTo.of_eq rfl); (case c5 => decide); (case kB => exact locs rfl); (case c2 | c3 | c4 => exact rfl); k_whole; intro g' L' h' FG' F' N' B' X' T'; (try dsimp only); (try k_lift B'); (try k_fold)))
  k_steps
  all_goals (refine ret _ _ _ _ _ ?_ (by assumption) (by assumption) (by first | assumption | exact allLt_of (by assumption)); rw [Int.fmod_eq_emod_of_nonneg _ (by decide)] at *; unfold led32; split <;> simp_all <;> omega)
end
end
end
end
section
open PySem PySem.W PyProof.Rows PySem.Calls PySem.Spec
inductive Grp where
  | log | shift | div | cmp | ari
deriving DecidableEq
def Bop.grp : Bop → Grp
  | .and => .log | .or => .log | .shl => .shift | .shr => .shift | .div => .div | .mod => .div
  | .lt => .cmp | .le => .cmp | .gt => .cmp | .ge => .cmp | .eq => .cmp | .ne => .cmp
  | _ => .ari
theorem rr5 {a b c d e f : Prop} (h : a ∧ b ∧ c ∧ d ∧ e ∧ f) : f := h.2.2.2.2.2
theorem ldrop1 {h₀ h : Heap} {L : Addr} {p : Addr × Obj} {rest news : List (Addr × Obj)} (N : News h₀ L h (p :: rest)) (hs : ∀ r ∈ news, r ∈ rest) : News h₀ L h (p :: news) :=
  cb_drop N fun r hr => by
    rcases List.mem_cons.mp hr with rfl | hr
    · exact .head _
    · exact .tail _ (hs r hr)
theorem in_two {prog : Program} {w : World} {A : Around} {h₀ : Heap} {L D : Addr} {news : List (Addr × Obj)} {s : Shared} {Q E : Value → Shared → Prop} {x p0 p1 : Str} {t t0 t1 : Tok} {d : Option Addr} {n : Nat} {sl : Array (Option Value)} {b : Bool} (N : News h₀ L s.heap news) (hm : (D, ({ cls := .type "tuple", dict := d, data := .seq #[.str p0 t0, .str p1 t1] n, slots := sl } : Obj)) ∈ news)
    (hx : ([p0, p1].any fun y => y == x) = b) (h : Q (.bool b) s) : wpAny (model prog w) A (compareOp .In (.str x t) (.ref D)) Q E s :=
  in_tuple_strs (News.isTup N hm) (.cons _ _ (.cons _ _ .nil)) (by rw [hx]; exact h)
theorem in_six {prog : Program} {w : World} {A : Around} {h₀ : Heap} {L D : Addr} {news : List (Addr × Obj)} {s : Shared} {Q E : Value → Shared → Prop} {x p0 p1 p2 p3 p4 p5 : Str} {t t0 t1 t2 t3 t4 t5 : Tok} {d : Option Addr} {n : Nat} {sl : Array (Option Value)} {b : Bool} (N : News h₀ L s.heap news) (hm : (D, ({ cls := .type "tuple", dict := d, data := .seq #[.str p0 t0, .str p1 t1, .str p2 t2, .str p3 t3, .str p4 t4, .str p5 t5] n, slots := sl } : Obj)) ∈ news)
    (hx : ([p0, p1, p2, p3, p4, p5].any fun y => y == x) = b) (h : Q (.bool b) s) : wpAny (model prog w) A (compareOp .In (.str x t) (.ref D)) Q E s :=
  in_tuple_strs (News.isTup N hm) (.cons _ _ (.cons _ _ (.cons _ _ (.cons _ _ (.cons _ _ (.cons _ _ .nil)))))) (by rw [hx]; exact h)
theorem grp_log (o : Bop) (h : o.grp = .log) : ([Str.ofString "&&", Str.ofString "||"].any fun y => y == o.txt) = true ∧ ([Str.ofString "<<", Str.ofString ">>"].any fun y => y == o.txt) = false ∧ ([Str.ofString "/", Str.ofString "%"].any fun y => y == o.txt) = false ∧ ([Str.ofString "<", Str.ofString "<=", Str.ofString ">", Str.ofString ">=", Str.ofString "==", Str.ofString "!="].any fun y => y == o.txt) = false := by
  cases o <;> first | exact absurd h (by decide) | decide
theorem grp_shift (o : Bop) (h : o.grp = .shift) : ([Str.ofString "&&", Str.ofString "||"].any fun y => y == o.txt) = false ∧ ([Str.ofString "<<", Str.ofString ">>"].any fun y => y == o.txt) = true ∧ ([Str.ofString "/", Str.ofString "%"].any fun y => y == o.txt) = false ∧ ([Str.ofString "<", Str.ofString "<=", Str.ofString ">", Str.ofString ">=", Str.ofString "==", Str.ofString "!="].any fun y => y == o.txt) = false := by
  cases o <;> first | exact absurd h (by decide) | decide
theorem grp_div (o : Bop) (h : o.grp = .div) : ([Str.ofString "&&", Str.ofString "||"].any fun y => y == o.txt) = false ∧ ([Str.ofString "<<", Str.ofString ">>"].any fun y => y == o.txt) = false ∧ ([Str.ofString "/", Str.ofString "%"].any fun y => y == o.txt) = true ∧ ([Str.ofString "<", Str.ofString "<=", Str.ofString ">", Str.ofString ">=", Str.ofString "==", Str.ofString "!="].any fun y => y == o.txt) = false := by
  cases o <;> first | exact absurd h (by decide) | decide
theorem grp_cmp (o : Bop) (h : o.grp = .cmp) : ([Str.ofString "&&", Str.ofString "||"].any fun y => y == o.txt) = false ∧ ([Str.ofString "<<", Str.ofString ">>"].any fun y => y == o.txt) = false ∧ ([Str.ofString "/", Str.ofString "%"].any fun y => y == o.txt) = false ∧ ([Str.ofString "<", Str.ofString "<=", Str.ofString ">", Str.ofString ">=", Str.ofString "==", Str.ofString "!="].any fun y => y == o.txt) = true := by
  cases o <;> first | exact absurd h (by decide) | decide
theorem grp_ari (o : Bop) (h : o.grp = .ari) : ([Str.ofString "&&", Str.ofString "||"].any fun y => y == o.txt) = false ∧ ([Str.ofString "<<", Str.ofString ">>"].any fun y => y == o.txt) = false ∧ ([Str.ofString "/", Str.ofString "%"].any fun y => y == o.txt) = false ∧ ([Str.ofString "<", Str.ofString "<=", Str.ofString ">", Str.ofString ">=", Str.ofString "==", Str.ofString "!="].any fun y => y == o.txt) = false := by
  cases o <;> first | exact absurd h (by decide) | decide
def logS (o : Bop) (x y : Int) : Int := if o.txt == Str.ofString "&&" then (if x != 0 && y != 0 then 1 else 0) else (if x != 0 || y != 0 then 1 else 0)
def logSN (o : Bop) (x : Int) : Option Int := if ((x == 0) == (o.txt == Str.ofString "||")) then none else some (if o.txt == Str.ofString "&&" then 0 else 1)
def shS (o : Bop) (x y : Int) (u : Bool) : Int := if o.txt == Str.ofString "<<" then led32 (x * 2 ^ y.toNat) u else led32 (x.fdiv (2 ^ y.toNat)) u
def divS (o : Bop) (x y : Int) (u : Bool) : Option Int := if y = 0 then none else some (led32 (if o.txt == Str.ofString "/" then Int.tdiv (led32 x u) (led32 y u) else led32 x u - Int.tdiv (led32 x u) (led32 y u) * led32 y u) u)
def ariP (o : Bop) (a b : Int) : Int := match o with | .add => a + b | .sub => a - b | .mul => a * b | .band => Builtin.bitAnd a b | .bor => Builtin.bitOr a b | _ => Builtin.bitXor a b
def ariS (o : Bop) (a b : Int) (u : Bool) : Int := led32 (ariP o a b) u
theorem logSN_a {o : Bop} {x : Int} (h : ((x == 0) == (o.txt == Str.ofString "||")) = true) : none = logSN o x := by unfold logSN; rw [if_pos h]
theorem logSN_and {o : Bop} {x : Int} (h : ((x == 0) == (o.txt == Str.ofString "||")) = false) (h2 : (o.txt == Str.ofString "&&") = true) (hx : x = 0) : some (if (x != 0) = true then 1 else 0) = logSN o x := by
  unfold logSN; rw [h, h2, hx]; rfl
theorem logSN_or {o : Bop} {x : Int} (h : ((x == 0) == (o.txt == Str.ofString "||")) = false) (h2 : (o.txt == Str.ofString "&&") = false) (hx : x ≠ 0) : some (if (x != 0) = true then 1 else 0) = logSN o x := by
  have e : (x != 0) = true := by simpa using hx
  unfold logSN; rw [h, h2, e]; rfl
theorem logSN_d (o : Bop) {x : Int} (hA : ([Str.ofString "&&", Str.ofString "||"].any fun y => y == o.txt) = true) (h : ((x == 0) == (o.txt == Str.ofString "||")) = false) (h2 : (o.txt == Str.ofString "&&") = true) (hx : x ≠ 0) : False := by
  have e : (x == 0) = false := by simpa using hx
  rw [e] at h
  cases o <;> first | exact absurd h2 (by decide) | exact absurd h (by decide)
theorem logSN_e (o : Bop) {x : Int} (hA : ([Str.ofString "&&", Str.ofString "||"].any fun y => y == o.txt) = true) (h : ((x == 0) == (o.txt == Str.ofString "||")) = false) (h2 : (o.txt == Str.ofString "&&") = false) (hx : x = 0) : False := by
  have e : (x == 0) = true := by rw [hx]; rfl
  rw [e] at h
  cases o <;> first | exact absurd h2 (by decide) | exact absurd h (by decide) | exact absurd hA (by decide)
theorem pow_ok (x : Int) {y : Int} (h0 : 0 ≤ y) (h1 : y ≤ 31) : IntMulOk x (2 ^ y.toNat) := by
  obtain ⟨n, rfl⟩ := Int.eq_ofNat_of_zero_le h0
  refine IntMulOk.of_right ?_
  have h : (2 : Int) ^ n ≤ 2 ^ 31 := by exact_mod_cast Nat.pow_le_pow_right (by decide) (by omega : n ≤ 31)
  have h2 : (0 : Int) < 2 ^ n := Int.pow_pos (by decide)
  exact intBits_le_64 (by rw [Int.toNat_natCast]; omega) (by rw [Int.toNat_natCast]; omega)
theorem mulR_ok (x c : Int) (v : Bool) : IntMulOk x (led32 c v) := by
  refine IntMulOk.of_right ?_
  have h := led_in c v
  unfold In33 at h
  exact intBits_le_64 (by omega) (by omega)
theorem abs_log (a : Int) (u : Bool) : (if led32 a u < 0 then -led32 a u else led32 a u).natAbs.log2 < 9000 := log_small (by have h := led_in a u; unfold In33 at h; split <;> omega)
theorem abs_ne {k : Int} (h : k ≠ 0) : (if k < 0 then -k else k) ≠ 0 := by split <;> omega
theorem quot1 {a b : Int} (hz : b ≠ 0) (hs : (decide (a < 0) == decide (b < 0)) = true) : Int.fdiv (if a < 0 then -a else a) (if b < 0 then -b else b) * 1 = Int.tdiv a b := by
  rw [quot_is hz, if_pos (by simpa using hs), Int.mul_one]
theorem quot2 {a b : Int} (hz : b ≠ 0) (hs : (decide (a < 0) == decide (b < 0)) = false) : Int.fdiv (if a < 0 then -a else a) (if b < 0 then -b else b) * -1 = Int.tdiv a b := by
  rw [quot_is hz, if_neg (by simpa using hs)]; omega
theorem divS_z {o : Bop} {x y : Int} {u : Bool} (hy : y = 0) : none = divS o x y u := by unfold divS; rw [if_pos hy]
theorem divS_q {o : Bop} {x y W : Int} {u : Bool} (hy : y ≠ 0) (hw : W = Int.tdiv (led32 x u) (led32 y u)) (ho : (o.txt == Str.ofString "/") = true) : some (led32 W u) = divS o x y u := by
  unfold divS; rw [if_neg hy, if_pos ho, hw]
theorem divS_r {o : Bop} {x y W : Int} {u : Bool} (hy : y ≠ 0) (hw : W = Int.tdiv (led32 x u) (led32 y u)) (ho : (o.txt == Str.ofString "/") = false) : some (led32 (led32 x u - W * led32 y u) u) = divS o x y u := by
  unfold divS; rw [if_neg hy, if_neg (by rw [ho]; decide), hw]
theorem kys_cmp {o : Bop} {a b : Int} {t1 t2 t3 t4 t5 t6 : Tok} {R : Value → Prop} (hg : o.grp = .cmp) (h : ∀ q, q = cmpS o.txt a b → R (.bool q)) :
    KysD PyData.str o.txt (strData [(.str (Str.ofString "<") t1, .bool (decide (a < b))), (.str (Str.ofString "<=") t2, .bool (decide (a ≤ b))), (.str (Str.ofString ">") t3, .bool (decide (b < a))), (.str (Str.ofString ">=") t4, .bool (decide (b ≤ a))), (.str (Str.ofString "==") t5, .bool (a == b)), (.str (Str.ofString "!=") t6, .bool (a != b))]) (fun dv => KysVal dv R) False := by
  have k : ∀ (z : Bool), z = cmpS o.txt a b → KysVal (.bool z) R := fun z e => KysVal.intro fun v hv => by
    have e9 := PyProof.V.Flat.bool_inv hv; subst e9; exact h _ e
  cases o <;> first
    | exact absurd hg (by decide)
    | (repeat (first | refine kysD_cons_hit PyProof.V.same_str rfl (k _ rfl) | refine kysD_cons_miss PyProof.V.same_str (by decide) ?_))
theorem kys_ari {o : Bop} {a b : Int} {t1 t2 t3 t4 t5 t6 j1 j2 j3 j4 j5 j6 : Tok} {R : Value → Prop} (hg : o.grp = .ari) (h : ∀ q t, q = ariP o a b → R (.int q t)) :
    KysD PyData.str o.txt (strData [(.str (Str.ofString "+") t1, .int (a + b) j1), (.str (Str.ofString "-") t2, .int (a - b) j2), (.str (Str.ofString "*") t3, .int (a * b) j3), (.str (Str.ofString "&") t4, .int (Builtin.bitAnd a b) j4), (.str (Str.ofString "|") t5, .int (Builtin.bitOr a b) j5), (.str (Str.ofString "^") t6, .int (Builtin.bitXor a b) j6)]) (fun dv => KysVal dv R) False := by
  have k : ∀ (z : Int), z = ariP o a b → KysVal (.int z) R := fun z e => KysVal.intro fun v hv => by
    obtain ⟨_, e9⟩ := PyProof.V.Flat.int_inv hv; subst e9; exact h _ _ e
  cases o <;> first
    | exact absurd hg (by decide)
    | (repeat (first | refine kysD_cons_hit PyProof.V.same_str rfl (k _ rfl) | refine kysD_cons_miss PyProof.V.same_str (by decide) ?_))
end
section
open PySem PySem.W PyProof.Rows PySem.Calls PySem.Spec
local macro_rules | `(tactic| k_room) => `(tactic| ktr_room)
local macro_rules | `(tactic| k_units) => `(tactic| ktr_units)
local macro_rules | `(tactic| k_all) => `(tactic| assumption)
local macro_rules | `(tactic| walk_at "execs cons") => `(tactic| (with_reducible refine gen_toks ?_; intro tk))
local macro_rules | `(tactic| walk_at "execs nil") => `(tactic| (with_reducible refine gen_toks ?_; intro tk))
section
open PySem PySem.W PyProof.Rows PySem.Calls PySem.Spec
section
local macro_rules | `(tactic| walk_at "eval Call") => `(tactic| ((with_reducible show wpAny _ _ (eval (Expr.Call (Expr.Name _ _) _ [] _) _) _ _ _); k_dflt (refine Call_ ?_)))
local macro_rules | `(tactic| ktr_rel) => `(tactic| first | assumption | exact allLt_of (by assumption) | exact And.right (by assumption) | exact And.right (And.right (by assumption)) | exact And.right (And.right (And.right (by assumption))) | exact And.right (And.right (And.right (And.right (by assumption)))) | exact rr5 (by assumption) | exact rr5 (And.right (by assumption)) | exact rr5 (And.right (And.right (by assumption))) | exact rr5 (And.right (And.right (And.right (by assumption)))) | exact rr5 (And.right (And.right (And.right (And.right (by assumption))))) | exact rr5 (rr5 (by assumption)) | exact rr5 (rr5 (And.right (by assumption))) | exact rr5 (rr5 (And.right (And.right (by assumption)))) | exact rr5 (rr5 (And.right (And.right (And.right (by assumption))))) | exact rr5 (rr5 (And.right (And.right (And.right (And.right (by assumption)))))) | exact rr5 (rr5 (rr5 (by assumption))) | exact rr5 (rr5 (rr5 (And.right (by assumption)))) | exact rr5 (rr5 (rr5 (And.right (And.right (by assumption))))) | exact rr5 (rr5 (rr5 (And.right (And.right (And.right (by assumption)))))) | exact rr5 (rr5 (rr5 (And.right (And.right (And.right (And.right (by assumption))))))) | exact rr5 (rr5 (rr5 (rr5 (by assumption)))) | exact rr5 (rr5 (rr5 (rr5 (And.right (by assumption))))) | exact rr5 (rr5 (rr5 (rr5 (And.right (And.right (by assumption)))))) | exact rr5 (rr5 (rr5 (rr5 (And.right (And.right (And.right (by assumption))))))))
local macro_rules | `(tactic| walk_at "call ref") => `(tactic| ((k_dflt (show wpAny _ _ (call (Value.ref 331) [Value.int _ _, Value.bool _]) _ _ _)); k_dflt (refine' ledC _ _ _ ?k1 ?k2 ?k3 ?k4 ?k5 ?kK  ?kd ?ku ?_; (case k1 | k2 | k3 | k4 | k5 => k_asm); (case kK => first | exact rfl | assumption);  (case kd => ktr_room); (case ku => ktr_units); k_whole; intro l' t' y' h' tk' hy' F' N' hf'); (subst hy'); (try dsimp only); (try k_fold)))
local macro_rules | `(tactic| walk_at "KysD") => `(tactic| first
  | (k_dflt (refine kys_cmp (by assumption) ?_); intro q' hq'; (try dsimp only))
  | (k_dflt (refine kys_ari (by assumption) ?_); intro q' t' hq'; (try dsimp only)))
local macro_rules | `(tactic| walk_at "eval BoolOp") => `(tactic| ((with_reducible show wpAny _ _ (eval (Expr.BoolOp BoolOp.Or [Expr.Name _ _, Expr.Name _ _] _) _) _ _ _); refine or_uns (by assumption) ?_))
local macro_rules | `(tactic| walk_at "And") => `(tactic| first | k_dflt (exact ⟨rfl, ⟨_, rfl⟩⟩) | (refine ⟨rfl, ?_, fun tk => ?_⟩ <;> (try dsimp only)))
local macro_rules | `(tactic| walk_at "compareOp In str ref") => `(tactic| ((with_reducible show wpAny _ _ (compareOp CmpOp.In (Value.str (Bop.txt _) _) (Value.ref _)) _ _ _); first | (k_dflt (refine' in_two ?N ?m ?x ?_; (case N => k_asm); (case m => k_mem); (case x => assumption))) | (k_dflt (refine' in_six ?N ?m ?x ?_; (case N => k_asm); (case m => k_mem); (case x => assumption)))))
local macro_rules | `(tactic| walk_at "binaryOp Mult int int") => `(tactic| (first | (with_reducible refine mul_int ?_ (mul_ok _ _ _ _)) | (with_reducible refine mul_int ?_ (tdiv_ok _ _ _ _ _ _)) | (with_reducible refine mul_int ?_ (mulR_ok _ _ _)) | (refine mul_int ?_ (pow_ok _ (by assumption) (by assumption)))))
local macro_rules | `(tactic| walk_at "binaryOp FloorDiv int int") => `(tactic| ((with_reducible refine floordiv_int ?k1 ?_ (Or.inl (PyProof.noPylong_of_log2 ?k2))); (case k1 => exact abs_ne (by first | assumption | (apply_assumption; assumption))); (case k2 => exact abs_log _ _)))
section
variable {w : World} {mean : ExcName → Option Value} {mg mb : Str → Option Value} {dp un : Nat} {gd : Option (List Code)} {cn : Str} {cs : Scope} {a : Addr} {ccd : Value} {cl : List (Str × Addr)} {outer : List Env} {A₀ : Around} {base h₀ : Heap} {L : Addr} {m : Str → Option Value} {news : List (Addr × Obj)} {s : Shared} {Q E : Value → Shared → Prop}
theorem two_log_n (o : Bop) (hg : o.grp = .log) (p1 p2 : Addr) (y : Value) (xu yu : Bool) (t0 t1 t2 : Tok) (B : Below A₀ base outer h₀) (F : Fr h₀ L s.heap m) (X : (KQ w.params).In h₀) (N : News h₀ L s.heap news) (T : Top viewQ looseQ mean mg mb h₀) (hk : cs.kind = .function) (m1 : (p1, tupL [.none, .bool xu]) ∈ news) (m2 : (p2, tupL [y, .bool yu]) ∈ news) 
    (hd : dp + 20 < recursionLimit) (hu : un + 160 < cLine)
    (ret : PRet h₀ L m news s Q (none) (false)) :
    wpAny (MQ w) (ktrTop dp un gd cn cs L a ccd cl outer) (call (.ref 338) [.str o.txt t0, .ref p1, .ref p2]) Q E s := by
  have N2 := News.dup (News.dup N m2) (.tail _ m1)
  obtain ⟨hA, hS, hD, hC⟩ := grp_log o hg
  have hJ : JoinOr xu yu xu yu := ⟨⟩
  refine wpAny_call ?_
  (k_dflt (refine' code_def (binds := [(Str.ofString "mark", .str o.txt t0), (Str.ofString "one", .ref p1), (Str.ofString "other", .ref p2)]) ?k1 ?k2 ?k3 ?k4 ?k5 ?kA ?kF ?kK ?k6 ?k7 ?k8 ?k9 ?kB ?_ ?c2 ?c3 ?c4 ?c5; (case kA | kF => exact rfl); (case kK => first | exact rfl | assumption); (case k1 | k2 | k3 | k4 | k5 => k_asm); (case k6 | k7 => k_is); (case k8 => ktr_room); (case k9 => exact BindsTo.of_eq rfl); (case c5 => decide); (case kB => exact locs rfl); (case c2 | c3 | c4 => exact rfl); k_whole; intro g' L' h' FG' F' N' B' X' T'; (try dsimp only); (try k_lift B'); (try k_fold)))
  k_steps
  all_goals (first
    | (refine ret _ 0 none _ _ _ ?_ ?_ (by assumption) (by first | assumption | (exact ldrop1 (by assumption) (show ∀ r ∈ news, _ from by intro p hp; simp only [List.mem_cons, hp, or_true, true_or]))) (by ktr_rel) <;> (first | rfl | simp_all))
    | (refine ret _ _ (some _) _ _ _ ?_ ?_ (by assumption) (by first | assumption | (exact ldrop1 (by assumption) (show ∀ r ∈ news, _ from by intro p hp; simp only [List.mem_cons, hp, or_true, true_or]))) (by ktr_rel) <;> (first | rfl | simp_all)))

end
section
variable {w : World} {mean : ExcName → Option Value} {mg mb : Str → Option Value} {dp un : Nat} {gd : Option (List Code)} {cn : Str} {cs : Scope} {a : Addr} {ccd : Value} {cl : List (Str × Addr)} {outer : List Env} {A₀ : Around} {base h₀ : Heap} {L : Addr} {m : Str → Option Value} {news : List (Addr × Obj)} {s : Shared} {Q E : Value → Shared → Prop}
theorem two_log_sn (o : Bop) (hg : o.grp = .log) (p1 p2 : Addr) (x : Int) (xu yu : Bool) (t0 t1 t2 : Tok) (B : Below A₀ base outer h₀) (F : Fr h₀ L s.heap m) (X : (KQ w.params).In h₀) (N : News h₀ L s.heap news) (T : Top viewQ looseQ mean mg mb h₀) (hk : cs.kind = .function) (m1 : (p1, tupL [.int x t1, .bool xu]) ∈ news) (m2 : (p2, tupL [.none, .bool yu]) ∈ news) 
    (hd : dp + 20 < recursionLimit) (hu : un + 160 < cLine)
    (ret : PRet h₀ L m news s Q (logSN o x) (false)) :
    wpAny (MQ w) (ktrTop dp un gd cn cs L a ccd cl outer) (call (.ref 338) [.str o.txt t0, .ref p1, .ref p2]) Q E s := by
  have N2 := News.dup (News.dup N m2) (.tail _ m1)
  obtain ⟨hA, hS, hD, hC⟩ := grp_log o hg
  have hJ : JoinOr xu yu xu yu := ⟨⟩
  refine wpAny_call ?_
  (k_dflt (refine' code_def (binds := [(Str.ofString "mark", .str o.txt t0), (Str.ofString "one", .ref p1), (Str.ofString "other", .ref p2)]) ?k1 ?k2 ?k3 ?k4 ?k5 ?kA ?kF ?kK ?k6 ?k7 ?k8 ?k9 ?kB ?_ ?c2 ?c3 ?c4 ?c5; (case kA | kF => exact rfl); (case kK => first | exact rfl | assumption); (case k1 | k2 | k3 | k4 | k5 => k_asm); (case k6 | k7 => k_is); (case k8 => ktr_room); (case k9 => exact BindsTo.of_eq rfl); (case c5 => decide); (case kB => exact locs rfl); (case c2 | c3 | c4 => exact rfl); k_whole; intro g' L' h' FG' F' N' B' X' T'; (try dsimp only); (try k_lift B'); (try k_fold)))
  k_steps
  all_goals (first
    | (refine ret _ 0 none _ _ _ ?_ ?_ (by assumption) (by first | assumption | (exact ldrop1 (by assumption) (show ∀ r ∈ news, _ from by intro p hp; simp only [List.mem_cons, hp, or_true, true_or]))) (by ktr_rel) <;> (first | rfl | (first | exact logSN_a (by assumption) | exact logSN_and (by assumption) (by assumption) (by assumption) | exact logSN_or (by assumption) (by assumption) (by assumption) | (exfalso; exact logSN_d o hA (by assumption) (by assumption) (by assumption)) | (exfalso; exact logSN_e o hA (by assumption) (by assumption) (by assumption)))))
    | (refine ret _ _ (some _) _ _ _ ?_ ?_ (by assumption) (by first | assumption | (exact ldrop1 (by assumption) (show ∀ r ∈ news, _ from by intro p hp; simp only [List.mem_cons, hp, or_true, true_or]))) (by ktr_rel) <;> (first | rfl | (first | exact logSN_a (by assumption) | exact logSN_and (by assumption) (by assumption) (by assumption) | exact logSN_or (by assumption) (by assumption) (by assumption) | (exfalso; exact logSN_d o hA (by assumption) (by assumption) (by assumption)) | (exfalso; exact logSN_e o hA (by assumption) (by assumption) (by assumption))))))

end
section
variable {w : World} {mean : ExcName → Option Value} {mg mb : Str → Option Value} {dp un : Nat} {gd : Option (List Code)} {cn : Str} {cs : Scope} {a : Addr} {ccd : Value} {cl : List (Str × Addr)} {outer : List Env} {A₀ : Around} {base h₀ : Heap} {L : Addr} {m : Str → Option Value} {news : List (Addr × Obj)} {s : Shared} {Q E : Value → Shared → Prop}
theorem two_log_ss (o : Bop) (hg : o.grp = .log) (p1 p2 : Addr) (x y : Int) (xu yu : Bool) (t0 t1 t2 : Tok) (B : Below A₀ base outer h₀) (F : Fr h₀ L s.heap m) (X : (KQ w.params).In h₀) (N : News h₀ L s.heap news) (T : Top viewQ looseQ mean mg mb h₀) (hk : cs.kind = .function) (m1 : (p1, tupL [.int x t1, .bool xu]) ∈ news) (m2 : (p2, tupL [.int y t2, .bool yu]) ∈ news) 
    (hd : dp + 20 < recursionLimit) (hu : un + 160 < cLine)
    (ret : PRet h₀ L m news s Q (some (logS o x y)) (false)) :
    wpAny (MQ w) (ktrTop dp un gd cn cs L a ccd cl outer) (call (.ref 338) [.str o.txt t0, .ref p1, .ref p2]) Q E s := by
  have N2 := News.dup (News.dup N m2) (.tail _ m1)
  obtain ⟨hA, hS, hD, hC⟩ := grp_log o hg
  have hJ : JoinOr xu yu xu yu := ⟨⟩
  refine wpAny_call ?_
  (k_dflt (refine' code_def (binds := [(Str.ofString "mark", .str o.txt t0), (Str.ofString "one", .ref p1), (Str.ofString "other", .ref p2)]) ?k1 ?k2 ?k3 ?k4 ?k5 ?kA ?kF ?kK ?k6 ?k7 ?k8 ?k9 ?kB ?_ ?c2 ?c3 ?c4 ?c5; (case kA | kF => exact rfl); (case kK => first | exact rfl | assumption); (case k1 | k2 | k3 | k4 | k5 => k_asm); (case k6 | k7 => k_is); (case k8 => ktr_room); (case k9 => exact BindsTo.of_eq rfl); (case c5 => decide); (case kB => exact locs rfl); (case c2 | c3 | c4 => exact rfl); k_whole; intro g' L' h' FG' F' N' B' X' T'; (try dsimp only); (try k_lift B'); (try k_fold)))
  k_steps
  all_goals (first
    | (refine ret _ 0 none _ _ _ ?_ ?_ (by assumption) (by first | assumption | (exact ldrop1 (by assumption) (show ∀ r ∈ news, _ from by intro p hp; simp only [List.mem_cons, hp, or_true, true_or]))) (by ktr_rel) <;> (first | rfl | (simp_all [logS]; done)))
    | (refine ret _ _ (some _) _ _ _ ?_ ?_ (by assumption) (by first | assumption | (exact ldrop1 (by assumption) (show ∀ r ∈ news, _ from by intro p hp; simp only [List.mem_cons, hp, or_true, true_or]))) (by ktr_rel) <;> (first | rfl | (simp_all [logS]; done))))

end
section
variable {w : World} {mean : ExcName → Option Value} {mg mb : Str → Option Value} {dp un : Nat} {gd : Option (List Code)} {cn : Str} {cs : Scope} {a : Addr} {ccd : Value} {cl : List (Str × Addr)} {outer : List Env} {A₀ : Around} {base h₀ : Heap} {L : Addr} {m : Str → Option Value} {news : List (Addr × Obj)} {s : Shared} {Q E : Value → Shared → Prop}
theorem two_shift_n (o : Bop) (hg : o.grp = .shift) (p1 p2 : Addr) (y : Value) (xu yu : Bool) (t0 t1 t2 : Tok) (B : Below A₀ base outer h₀) (F : Fr h₀ L s.heap m) (X : (KQ w.params).In h₀) (N : News h₀ L s.heap news) (T : Top viewQ looseQ mean mg mb h₀) (hk : cs.kind = .function) (m1 : (p1, tupL [.none, .bool xu]) ∈ news) (m2 : (p2, tupL [y, .bool yu]) ∈ news) 
    (hd : dp + 20 < recursionLimit) (hu : un + 160 < cLine)
    (ret : PRet h₀ L m news s Q (none) (xu)) :
    wpAny (MQ w) (ktrTop dp un gd cn cs L a ccd cl outer) (call (.ref 338) [.str o.txt t0, .ref p1, .ref p2]) Q E s := by
  have N2 := News.dup (News.dup N m2) (.tail _ m1)
  obtain ⟨hA, hS, hD, hC⟩ := grp_shift o hg
  have hJ : JoinOr xu yu xu yu := ⟨⟩
  refine wpAny_call ?_
  (k_dflt (refine' code_def (binds := [(Str.ofString "mark", .str o.txt t0), (Str.ofString "one", .ref p1), (Str.ofString "other", .ref p2)]) ?k1 ?k2 ?k3 ?k4 ?k5 ?kA ?kF ?kK ?k6 ?k7 ?k8 ?k9 ?kB ?_ ?c2 ?c3 ?c4 ?c5; (case kA | kF => exact rfl); (case kK => first | exact rfl | assumption); (case k1 | k2 | k3 | k4 | k5 => k_asm); (case k6 | k7 => k_is); (case k8 => ktr_room); (case k9 => exact BindsTo.of_eq rfl); (case c5 => decide); (case kB => exact locs rfl); (case c2 | c3 | c4 => exact rfl); k_whole; intro g' L' h' FG' F' N' B' X' T'; (try dsimp only); (try k_lift B'); (try k_fold)))
  k_steps
  all_goals (first
    | (refine ret _ 0 none _ _ _ ?_ ?_ (by assumption) (by first | assumption | (exact ldrop1 (by assumption) (show ∀ r ∈ news, _ from by intro p hp; simp only [List.mem_cons, hp, or_true, true_or]))) (by ktr_rel) <;> (first | rfl | simp_all))
    | (refine ret _ _ (some _) _ _ _ ?_ ?_ (by assumption) (by first | assumption | (exact ldrop1 (by assumption) (show ∀ r ∈ news, _ from by intro p hp; simp only [List.mem_cons, hp, or_true, true_or]))) (by ktr_rel) <;> (first | rfl | simp_all)))

end
section
variable {w : World} {mean : ExcName → Option Value} {mg mb : Str → Option Value} {dp un : Nat} {gd : Option (List Code)} {cn : Str} {cs : Scope} {a : Addr} {ccd : Value} {cl : List (Str × Addr)} {outer : List Env} {A₀ : Around} {base h₀ : Heap} {L : Addr} {m : Str → Option Value} {news : List (Addr × Obj)} {s : Shared} {Q E : Value → Shared → Prop}
theorem two_shift_sn (o : Bop) (hg : o.grp = .shift) (p1 p2 : Addr) (x : Int) (xu yu : Bool) (t0 t1 t2 : Tok) (B : Below A₀ base outer h₀) (F : Fr h₀ L s.heap m) (X : (KQ w.params).In h₀) (N : News h₀ L s.heap news) (T : Top viewQ looseQ mean mg mb h₀) (hk : cs.kind = .function) (m1 : (p1, tupL [.int x t1, .bool xu]) ∈ news) (m2 : (p2, tupL [.none, .bool yu]) ∈ news) 
    (hd : dp + 20 < recursionLimit) (hu : un + 160 < cLine)
    (ret : PRet h₀ L m news s Q (none) (xu)) :
    wpAny (MQ w) (ktrTop dp un gd cn cs L a ccd cl outer) (call (.ref 338) [.str o.txt t0, .ref p1, .ref p2]) Q E s := by
  have N2 := News.dup (News.dup N m2) (.tail _ m1)
  obtain ⟨hA, hS, hD, hC⟩ := grp_shift o hg
  have hJ : JoinOr xu yu xu yu := ⟨⟩
  refine wpAny_call ?_
  (k_dflt (refine' code_def (binds := [(Str.ofString "mark", .str o.txt t0), (Str.ofString "one", .ref p1), (Str.ofString "other", .ref p2)]) ?k1 ?k2 ?k3 ?k4 ?k5 ?kA ?kF ?kK ?k6 ?k7 ?k8 ?k9 ?kB ?_ ?c2 ?c3 ?c4 ?c5; (case kA | kF => exact rfl); (case kK => first | exact rfl | assumption); (case k1 | k2 | k3 | k4 | k5 => k_asm); (case k6 | k7 => k_is); (case k8 => ktr_room); (case k9 => exact BindsTo.of_eq rfl); (case c5 => decide); (case kB => exact locs rfl); (case c2 | c3 | c4 => exact rfl); k_whole; intro g' L' h' FG' F' N' B' X' T'; (try dsimp only); (try k_lift B'); (try k_fold)))
  k_steps
  all_goals (first
    | (refine ret _ 0 none _ _ _ ?_ ?_ (by assumption) (by first | assumption | (exact ldrop1 (by assumption) (show ∀ r ∈ news, _ from by intro p hp; simp only [List.mem_cons, hp, or_true, true_or]))) (by ktr_rel) <;> (first | rfl | simp_all))
    | (refine ret _ _ (some _) _ _ _ ?_ ?_ (by assumption) (by first | assumption | (exact ldrop1 (by assumption) (show ∀ r ∈ news, _ from by intro p hp; simp only [List.mem_cons, hp, or_true, true_or]))) (by ktr_rel) <;> (first | rfl | simp_all)))

end
section
variable {w : World} {mean : ExcName → Option Value} {mg mb : Str → Option Value} {dp un : Nat} {gd : Option (List Code)} {cn : Str} {cs : Scope} {a : Addr} {ccd : Value} {cl : List (Str × Addr)} {outer : List Env} {A₀ : Around} {base h₀ : Heap} {L : Addr} {m : Str → Option Value} {news : List (Addr × Obj)} {s : Shared} {Q E : Value → Shared → Prop}
theorem two_shift_s (o : Bop) (hg : o.grp = .shift) (p1 p2 : Addr) (x y : Int) (xu yu : Bool) (t0 t1 t2 : Tok) (B : Below A₀ base outer h₀) (F : Fr h₀ L s.heap m) (X : (KQ w.params).In h₀) (N : News h₀ L s.heap news) (T : Top viewQ looseQ mean mg mb h₀) (hk : cs.kind = .function) (m1 : (p1, tupL [.int x t1, .bool xu]) ∈ news) (m2 : (p2, tupL [.int y t2, .bool yu]) ∈ news) (hy0 : 0 ≤ y) (hy1 : y ≤ 31)
    (hd : dp + 20 < recursionLimit) (hu : un + 160 < cLine)
    (ret : PRet h₀ L m news s Q (some (shS o x y xu)) (xu)) :
    wpAny (MQ w) (ktrTop dp un gd cn cs L a ccd cl outer) (call (.ref 338) [.str o.txt t0, .ref p1, .ref p2]) Q E s := by
  have N2 := News.dup (News.dup N m2) (.tail _ m1)
  obtain ⟨hA, hS, hD, hC⟩ := grp_shift o hg
  have hJ : JoinOr xu yu xu yu := ⟨⟩
  refine wpAny_call ?_
  (k_dflt (refine' code_def (binds := [(Str.ofString "mark", .str o.txt t0), (Str.ofString "one", .ref p1), (Str.ofString "other", .ref p2)]) ?k1 ?k2 ?k3 ?k4 ?k5 ?kA ?kF ?kK ?k6 ?k7 ?k8 ?k9 ?kB ?_ ?c2 ?c3 ?c4 ?c5; (case kA | kF => exact rfl); (case kK => first | exact rfl | assumption); (case k1 | k2 | k3 | k4 | k5 => k_asm); (case k6 | k7 => k_is); (case k8 => ktr_room); (case k9 => exact BindsTo.of_eq rfl); (case c5 => decide); (case kB => exact locs rfl); (case c2 | c3 | c4 => exact rfl); k_whole; intro g' L' h' FG' F' N' B' X' T'; (try dsimp only); (try k_lift B'); (try k_fold)))
  k_steps
  all_goals (first
    | (refine ret _ 0 none _ _ _ ?_ ?_ (by assumption) (by first | assumption | (exact ldrop1 (by assumption) (show ∀ r ∈ news, _ from by intro p hp; simp only [List.mem_cons, hp, or_true, true_or]))) (by ktr_rel) <;> (first | rfl | (simp_all [shS]; done)))
    | (refine ret _ _ (some _) _ _ _ ?_ ?_ (by assumption) (by first | assumption | (exact ldrop1 (by assumption) (show ∀ r ∈ news, _ from by intro p hp; simp only [List.mem_cons, hp, or_true, true_or]))) (by ktr_rel) <;> (first | rfl | (simp_all [shS]; done))))

end
section
variable {w : World} {mean : ExcName → Option Value} {mg mb : Str → Option Value} {dp un : Nat} {gd : Option (List Code)} {cn : Str} {cs : Scope} {a : Addr} {ccd : Value} {cl : List (Str × Addr)} {outer : List Env} {A₀ : Around} {base h₀ : Heap} {L : Addr} {m : Str → Option Value} {news : List (Addr × Obj)} {s : Shared} {Q E : Value → Shared → Prop}
theorem two_div_n (o : Bop) (hg : o.grp = .div) (p1 p2 : Addr) (y : Value) (xu yu : Bool) (t0 t1 t2 : Tok) (B : Below A₀ base outer h₀) (F : Fr h₀ L s.heap m) (X : (KQ w.params).In h₀) (N : News h₀ L s.heap news) (T : Top viewQ looseQ mean mg mb h₀) (hk : cs.kind = .function) (m1 : (p1, tupL [.none, .bool xu]) ∈ news) (m2 : (p2, tupL [y, .bool yu]) ∈ news) 
    (hd : dp + 20 < recursionLimit) (hu : un + 160 < cLine)
    (ret : PRet h₀ L m news s Q (none) (xu || yu)) :
    wpAny (MQ w) (ktrTop dp un gd cn cs L a ccd cl outer) (call (.ref 338) [.str o.txt t0, .ref p1, .ref p2]) Q E s := by
  have N2 := News.dup (News.dup N m2) (.tail _ m1)
  obtain ⟨hA, hS, hD, hC⟩ := grp_div o hg
  have hJ : JoinOr xu yu xu yu := ⟨⟩
  refine wpAny_call ?_
  (k_dflt (refine' code_def (binds := [(Str.ofString "mark", .str o.txt t0), (Str.ofString "one", .ref p1), (Str.ofString "other", .ref p2)]) ?k1 ?k2 ?k3 ?k4 ?k5 ?kA ?kF ?kK ?k6 ?k7 ?k8 ?k9 ?kB ?_ ?c2 ?c3 ?c4 ?c5; (case kA | kF => exact rfl); (case kK => first | exact rfl | assumption); (case k1 | k2 | k3 | k4 | k5 => k_asm); (case k6 | k7 => k_is); (case k8 => ktr_room); (case k9 => exact BindsTo.of_eq rfl); (case c5 => decide); (case kB => exact locs rfl); (case c2 | c3 | c4 => exact rfl); k_whole; intro g' L' h' FG' F' N' B' X' T'; (try dsimp only); (try k_lift B'); (try k_fold)))
  k_steps
  all_goals (first
    | (refine ret _ 0 none _ _ _ ?_ ?_ (by assumption) (by first | assumption | (exact ldrop1 (by assumption) (show ∀ r ∈ news, _ from by intro p hp; simp only [List.mem_cons, hp, or_true, true_or]))) (by ktr_rel) <;> (first | rfl | simp_all))
    | (refine ret _ _ (some _) _ _ _ ?_ ?_ (by assumption) (by first | assumption | (exact ldrop1 (by assumption) (show ∀ r ∈ news, _ from by intro p hp; simp only [List.mem_cons, hp, or_true, true_or]))) (by ktr_rel) <;> (first | rfl | simp_all)))

end
section
variable {w : World} {mean : ExcName → Option Value} {mg mb : Str → Option Value} {dp un : Nat} {gd : Option (List Code)} {cn : Str} {cs : Scope} {a : Addr} {ccd : Value} {cl : List (Str × Addr)} {outer : List Env} {A₀ : Around} {base h₀ : Heap} {L : Addr} {m : Str → Option Value} {news : List (Addr × Obj)} {s : Shared} {Q E : Value → Shared → Prop}
theorem two_div_sn (o : Bop) (hg : o.grp = .div) (p1 p2 : Addr) (x : Int) (xu yu : Bool) (t0 t1 t2 : Tok) (B : Below A₀ base outer h₀) (F : Fr h₀ L s.heap m) (X : (KQ w.params).In h₀) (N : News h₀ L s.heap news) (T : Top viewQ looseQ mean mg mb h₀) (hk : cs.kind = .function) (m1 : (p1, tupL [.int x t1, .bool xu]) ∈ news) (m2 : (p2, tupL [.none, .bool yu]) ∈ news) 
    (hd : dp + 20 < recursionLimit) (hu : un + 160 < cLine)
    (ret : PRet h₀ L m news s Q (none) (xu || yu)) :
    wpAny (MQ w) (ktrTop dp un gd cn cs L a ccd cl outer) (call (.ref 338) [.str o.txt t0, .ref p1, .ref p2]) Q E s := by
  have N2 := News.dup (News.dup N m2) (.tail _ m1)
  obtain ⟨hA, hS, hD, hC⟩ := grp_div o hg
  have hJ : JoinOr xu yu xu yu := ⟨⟩
  refine wpAny_call ?_
  (k_dflt (refine' code_def (binds := [(Str.ofString "mark", .str o.txt t0), (Str.ofString "one", .ref p1), (Str.ofString "other", .ref p2)]) ?k1 ?k2 ?k3 ?k4 ?k5 ?kA ?kF ?kK ?k6 ?k7 ?k8 ?k9 ?kB ?_ ?c2 ?c3 ?c4 ?c5; (case kA | kF => exact rfl); (case kK => first | exact rfl | assumption); (case k1 | k2 | k3 | k4 | k5 => k_asm); (case k6 | k7 => k_is); (case k8 => ktr_room); (case k9 => exact BindsTo.of_eq rfl); (case c5 => decide); (case kB => exact locs rfl); (case c2 | c3 | c4 => exact rfl); k_whole; intro g' L' h' FG' F' N' B' X' T'; (try dsimp only); (try k_lift B'); (try k_fold)))
  k_steps
  all_goals (first
    | (refine ret _ 0 none _ _ _ ?_ ?_ (by assumption) (by first | assumption | (exact ldrop1 (by assumption) (show ∀ r ∈ news, _ from by intro p hp; simp only [List.mem_cons, hp, or_true, true_or]))) (by ktr_rel) <;> (first | rfl | simp_all))
    | (refine ret _ _ (some _) _ _ _ ?_ ?_ (by assumption) (by first | assumption | (exact ldrop1 (by assumption) (show ∀ r ∈ news, _ from by intro p hp; simp only [List.mem_cons, hp, or_true, true_or]))) (by ktr_rel) <;> (first | rfl | simp_all)))

end
section
variable {w : World} {mean : ExcName → Option Value} {mg mb : Str → Option Value} {dp un : Nat} {gd : Option (List Code)} {cn : Str} {cs : Scope} {a : Addr} {ccd : Value} {cl : List (Str × Addr)} {outer : List Env} {A₀ : Around} {base h₀ : Heap} {L : Addr} {m : Str → Option Value} {news : List (Addr × Obj)} {s : Shared} {Q E : Value → Shared → Prop}
theorem two_div_ss (o : Bop) (hg : o.grp = .div) (p1 p2 : Addr) (x y : Int) (xu yu : Bool) (t0 t1 t2 : Tok) (B : Below A₀ base outer h₀) (F : Fr h₀ L s.heap m) (X : (KQ w.params).In h₀) (N : News h₀ L s.heap news) (T : Top viewQ looseQ mean mg mb h₀) (hk : cs.kind = .function) (m1 : (p1, tupL [.int x t1, .bool xu]) ∈ news) (m2 : (p2, tupL [.int y t2, .bool yu]) ∈ news) (hyz : y ≠ 0 → led32 y (xu || yu) ≠ 0)
    (hd : dp + 20 < recursionLimit) (hu : un + 160 < cLine)
    (ret : PRet h₀ L m news s Q (divS o x y (xu || yu)) (xu || yu)) :
    wpAny (MQ w) (ktrTop dp un gd cn cs L a ccd cl outer) (call (.ref 338) [.str o.txt t0, .ref p1, .ref p2]) Q E s := by
  have N2 := News.dup (News.dup N m2) (.tail _ m1)
  obtain ⟨hA, hS, hD, hC⟩ := grp_div o hg
  have hJ : JoinOr xu yu xu yu := ⟨⟩
  refine wpAny_call ?_
  (k_dflt (refine' code_def (binds := [(Str.ofString "mark", .str o.txt t0), (Str.ofString "one", .ref p1), (Str.ofString "other", .ref p2)]) ?k1 ?k2 ?k3 ?k4 ?k5 ?kA ?kF ?kK ?k6 ?k7 ?k8 ?k9 ?kB ?_ ?c2 ?c3 ?c4 ?c5; (case kA | kF => exact rfl); (case kK => first | exact rfl | assumption); (case k1 | k2 | k3 | k4 | k5 => k_asm); (case k6 | k7 => k_is); (case k8 => ktr_room); (case k9 => exact BindsTo.of_eq rfl); (case c5 => decide); (case kB => exact locs rfl); (case c2 | c3 | c4 => exact rfl); k_whole; intro g' L' h' FG' F' N' B' X' T'; (try dsimp only); (try k_lift B'); (try k_fold)))
  k_steps
  all_goals (first
    | (refine ret _ 0 none _ _ _ ?_ ?_ (by assumption) (by first | assumption | (exact ldrop1 (by assumption) (show ∀ r ∈ news, _ from by intro p hp; simp only [List.mem_cons, hp, or_true, true_or]))) (by ktr_rel) <;> (first | rfl | exact divS_z (by assumption) | exact divS_q (by assumption) (by first | exact quot1 (hyz (by assumption)) (by assumption) | exact quot2 (hyz (by assumption)) (by assumption)) (by assumption) | exact divS_r (by assumption) (by first | exact quot1 (hyz (by assumption)) (by assumption) | exact quot2 (hyz (by assumption)) (by assumption)) (by assumption)))
    | (refine ret _ _ (some _) _ _ _ ?_ ?_ (by assumption) (by first | assumption | (exact ldrop1 (by assumption) (show ∀ r ∈ news, _ from by intro p hp; simp only [List.mem_cons, hp, or_true, true_or]))) (by ktr_rel) <;> (first | rfl | exact divS_z (by assumption) | exact divS_q (by assumption) (by first | exact quot1 (hyz (by assumption)) (by assumption) | exact quot2 (hyz (by assumption)) (by assumption)) (by assumption) | exact divS_r (by assumption) (by first | exact quot1 (hyz (by assumption)) (by assumption) | exact quot2 (hyz (by assumption)) (by assumption)) (by assumption))))

end
section
variable {w : World} {mean : ExcName → Option Value} {mg mb : Str → Option Value} {dp un : Nat} {gd : Option (List Code)} {cn : Str} {cs : Scope} {a : Addr} {ccd : Value} {cl : List (Str × Addr)} {outer : List Env} {A₀ : Around} {base h₀ : Heap} {L : Addr} {m : Str → Option Value} {news : List (Addr × Obj)} {s : Shared} {Q E : Value → Shared → Prop}
theorem two_cmp_n (o : Bop) (hg : o.grp = .cmp) (p1 p2 : Addr) (y : Value) (xu yu : Bool) (t0 t1 t2 : Tok) (B : Below A₀ base outer h₀) (F : Fr h₀ L s.heap m) (X : (KQ w.params).In h₀) (N : News h₀ L s.heap news) (T : Top viewQ looseQ mean mg mb h₀) (hk : cs.kind = .function) (m1 : (p1, tupL [.none, .bool xu]) ∈ news) (m2 : (p2, tupL [y, .bool yu]) ∈ news) 
    (hd : dp + 20 < recursionLimit) (hu : un + 160 < cLine)
    (ret : PRet h₀ L m news s Q (none) (false)) :
    wpAny (MQ w) (ktrTop dp un gd cn cs L a ccd cl outer) (call (.ref 338) [.str o.txt t0, .ref p1, .ref p2]) Q E s := by
  have N2 := News.dup (News.dup N m2) (.tail _ m1)
  obtain ⟨hA, hS, hD, hC⟩ := grp_cmp o hg
  have hJ : JoinOr xu yu xu yu := ⟨⟩
  refine wpAny_call ?_
  (k_dflt (refine' code_def (binds := [(Str.ofString "mark", .str o.txt t0), (Str.ofString "one", .ref p1), (Str.ofString "other", .ref p2)]) ?k1 ?k2 ?k3 ?k4 ?k5 ?kA ?kF ?kK ?k6 ?k7 ?k8 ?k9 ?kB ?_ ?c2 ?c3 ?c4 ?c5; (case kA | kF => exact rfl); (case kK => first | exact rfl | assumption); (case k1 | k2 | k3 | k4 | k5 => k_asm); (case k6 | k7 => k_is); (case k8 => ktr_room); (case k9 => exact BindsTo.of_eq rfl); (case c5 => decide); (case kB => exact locs rfl); (case c2 | c3 | c4 => exact rfl); k_whole; intro g' L' h' FG' F' N' B' X' T'; (try dsimp only); (try k_lift B'); (try k_fold)))
  k_steps
  all_goals (first
    | (refine ret _ 0 none _ _ _ ?_ ?_ (by assumption) (by first | assumption | (exact ldrop1 (by assumption) (show ∀ r ∈ news, _ from by intro p hp; simp only [List.mem_cons, hp, or_true, true_or]))) (by ktr_rel) <;> (first | rfl | simp_all))
    | (refine ret _ _ (some _) _ _ _ ?_ ?_ (by assumption) (by first | assumption | (exact ldrop1 (by assumption) (show ∀ r ∈ news, _ from by intro p hp; simp only [List.mem_cons, hp, or_true, true_or]))) (by ktr_rel) <;> (first | rfl | simp_all)))

end
section
variable {w : World} {mean : ExcName → Option Value} {mg mb : Str → Option Value} {dp un : Nat} {gd : Option (List Code)} {cn : Str} {cs : Scope} {a : Addr} {ccd : Value} {cl : List (Str × Addr)} {outer : List Env} {A₀ : Around} {base h₀ : Heap} {L : Addr} {m : Str → Option Value} {news : List (Addr × Obj)} {s : Shared} {Q E : Value → Shared → Prop}
theorem two_cmp_sn (o : Bop) (hg : o.grp = .cmp) (p1 p2 : Addr) (x : Int) (xu yu : Bool) (t0 t1 t2 : Tok) (B : Below A₀ base outer h₀) (F : Fr h₀ L s.heap m) (X : (KQ w.params).In h₀) (N : News h₀ L s.heap news) (T : Top viewQ looseQ mean mg mb h₀) (hk : cs.kind = .function) (m1 : (p1, tupL [.int x t1, .bool xu]) ∈ news) (m2 : (p2, tupL [.none, .bool yu]) ∈ news) 
    (hd : dp + 20 < recursionLimit) (hu : un + 160 < cLine)
    (ret : PRet h₀ L m news s Q (none) (false)) :
    wpAny (MQ w) (ktrTop dp un gd cn cs L a ccd cl outer) (call (.ref 338) [.str o.txt t0, .ref p1, .ref p2]) Q E s := by
  have N2 := News.dup (News.dup N m2) (.tail _ m1)
  obtain ⟨hA, hS, hD, hC⟩ := grp_cmp o hg
  have hJ : JoinOr xu yu xu yu := ⟨⟩
  refine wpAny_call ?_
  (k_dflt (refine' code_def (binds := [(Str.ofString "mark", .str o.txt t0), (Str.ofString "one", .ref p1), (Str.ofString "other", .ref p2)]) ?k1 ?k2 ?k3 ?k4 ?k5 ?kA ?kF ?kK ?k6 ?k7 ?k8 ?k9 ?kB ?_ ?c2 ?c3 ?c4 ?c5; (case kA | kF => exact rfl); (case kK => first | exact rfl | assumption); (case k1 | k2 | k3 | k4 | k5 => k_asm); (case k6 | k7 => k_is); (case k8 => ktr_room); (case k9 => exact BindsTo.of_eq rfl); (case c5 => decide); (case kB => exact locs rfl); (case c2 | c3 | c4 => exact rfl); k_whole; intro g' L' h' FG' F' N' B' X' T'; (try dsimp only); (try k_lift B'); (try k_fold)))
  k_steps
  all_goals (first
    | (refine ret _ 0 none _ _ _ ?_ ?_ (by assumption) (by first | assumption | (exact ldrop1 (by assumption) (show ∀ r ∈ news, _ from by intro p hp; simp only [List.mem_cons, hp, or_true, true_or]))) (by ktr_rel) <;> (first | rfl | simp_all))
    | (refine ret _ _ (some _) _ _ _ ?_ ?_ (by assumption) (by first | assumption | (exact ldrop1 (by assumption) (show ∀ r ∈ news, _ from by intro p hp; simp only [List.mem_cons, hp, or_true, true_or]))) (by ktr_rel) <;> (first | rfl | simp_all)))

end
section
variable {w : World} {mean : ExcName → Option Value} {mg mb : Str → Option Value} {dp un : Nat} {gd : Option (List Code)} {cn : Str} {cs : Scope} {a : Addr} {ccd : Value} {cl : List (Str × Addr)} {outer : List Env} {A₀ : Around} {base h₀ : Heap} {L : Addr} {m : Str → Option Value} {news : List (Addr × Obj)} {s : Shared} {Q E : Value → Shared → Prop}
theorem two_cmp_ss (o : Bop) (hg : o.grp = .cmp) (p1 p2 : Addr) (x y : Int) (xu yu : Bool) (t0 t1 t2 : Tok) (B : Below A₀ base outer h₀) (F : Fr h₀ L s.heap m) (X : (KQ w.params).In h₀) (N : News h₀ L s.heap news) (T : Top viewQ looseQ mean mg mb h₀) (hk : cs.kind = .function) (m1 : (p1, tupL [.int x t1, .bool xu]) ∈ news) (m2 : (p2, tupL [.int y t2, .bool yu]) ∈ news) 
    (hd : dp + 20 < recursionLimit) (hu : un + 160 < cLine)
    (ret : PRet h₀ L m news s Q (some (if cmpS o.txt (led32 x (xu || yu)) (led32 y (xu || yu)) then 1 else 0)) (false)) :
    wpAny (MQ w) (ktrTop dp un gd cn cs L a ccd cl outer) (call (.ref 338) [.str o.txt t0, .ref p1, .ref p2]) Q E s := by
  have N2 := News.dup (News.dup N m2) (.tail _ m1)
  obtain ⟨hA, hS, hD, hC⟩ := grp_cmp o hg
  have hJ : JoinOr xu yu xu yu := ⟨⟩
  refine wpAny_call ?_
  (k_dflt (refine' code_def (binds := [(Str.ofString "mark", .str o.txt t0), (Str.ofString "one", .ref p1), (Str.ofString "other", .ref p2)]) ?k1 ?k2 ?k3 ?k4 ?k5 ?kA ?kF ?kK ?k6 ?k7 ?k8 ?k9 ?kB ?_ ?c2 ?c3 ?c4 ?c5; (case kA | kF => exact rfl); (case kK => first | exact rfl | assumption); (case k1 | k2 | k3 | k4 | k5 => k_asm); (case k6 | k7 => k_is); (case k8 => ktr_room); (case k9 => exact BindsTo.of_eq rfl); (case c5 => decide); (case kB => exact locs rfl); (case c2 | c3 | c4 => exact rfl); k_whole; intro g' L' h' FG' F' N' B' X' T'; (try dsimp only); (try k_lift B'); (try k_fold)))
  k_steps
  all_goals (first
    | (refine ret _ 0 none _ _ _ ?_ ?_ (by assumption) (by first | assumption | (exact ldrop1 (by assumption) (show ∀ r ∈ news, _ from by intro p hp; simp only [List.mem_cons, hp, or_true, true_or]))) (by ktr_rel) <;> (first | rfl | (simp_all; done)))
    | (refine ret _ _ (some _) _ _ _ ?_ ?_ (by assumption) (by first | assumption | (exact ldrop1 (by assumption) (show ∀ r ∈ news, _ from by intro p hp; simp only [List.mem_cons, hp, or_true, true_or]))) (by ktr_rel) <;> (first | rfl | (simp_all; done))))

end
section
variable {w : World} {mean : ExcName → Option Value} {mg mb : Str → Option Value} {dp un : Nat} {gd : Option (List Code)} {cn : Str} {cs : Scope} {a : Addr} {ccd : Value} {cl : List (Str × Addr)} {outer : List Env} {A₀ : Around} {base h₀ : Heap} {L : Addr} {m : Str → Option Value} {news : List (Addr × Obj)} {s : Shared} {Q E : Value → Shared → Prop}
theorem two_ari_n (o : Bop) (hg : o.grp = .ari) (p1 p2 : Addr) (y : Value) (xu yu : Bool) (t0 t1 t2 : Tok) (B : Below A₀ base outer h₀) (F : Fr h₀ L s.heap m) (X : (KQ w.params).In h₀) (N : News h₀ L s.heap news) (T : Top viewQ looseQ mean mg mb h₀) (hk : cs.kind = .function) (m1 : (p1, tupL [.none, .bool xu]) ∈ news) (m2 : (p2, tupL [y, .bool yu]) ∈ news) 
    (hd : dp + 20 < recursionLimit) (hu : un + 160 < cLine)
    (ret : PRet h₀ L m news s Q (none) (xu || yu)) :
    wpAny (MQ w) (ktrTop dp un gd cn cs L a ccd cl outer) (call (.ref 338) [.str o.txt t0, .ref p1, .ref p2]) Q E s := by
  have N2 := News.dup (News.dup N m2) (.tail _ m1)
  obtain ⟨hA, hS, hD, hC⟩ := grp_ari o hg
  have hJ : JoinOr xu yu xu yu := ⟨⟩
  refine wpAny_call ?_
  (k_dflt (refine' code_def (binds := [(Str.ofString "mark", .str o.txt t0), (Str.ofString "one", .ref p1), (Str.ofString "other", .ref p2)]) ?k1 ?k2 ?k3 ?k4 ?k5 ?kA ?kF ?kK ?k6 ?k7 ?k8 ?k9 ?kB ?_ ?c2 ?c3 ?c4 ?c5; (case kA | kF => exact rfl); (case kK => first | exact rfl | assumption); (case k1 | k2 | k3 | k4 | k5 => k_asm); (case k6 | k7 => k_is); (case k8 => ktr_room); (case k9 => exact BindsTo.of_eq rfl); (case c5 => decide); (case kB => exact locs rfl); (case c2 | c3 | c4 => exact rfl); k_whole; intro g' L' h' FG' F' N' B' X' T'; (try dsimp only); (try k_lift B'); (try k_fold)))
  k_steps
  all_goals (first
    | (refine ret _ 0 none _ _ _ ?_ ?_ (by assumption) (by first | assumption | (exact ldrop1 (by assumption) (show ∀ r ∈ news, _ from by intro p hp; simp only [List.mem_cons, hp, or_true, true_or]))) (by ktr_rel) <;> (first | rfl | simp_all))
    | (refine ret _ _ (some _) _ _ _ ?_ ?_ (by assumption) (by first | assumption | (exact ldrop1 (by assumption) (show ∀ r ∈ news, _ from by intro p hp; simp only [List.mem_cons, hp, or_true, true_or]))) (by ktr_rel) <;> (first | rfl | simp_all)))

end
section
variable {w : World} {mean : ExcName → Option Value} {mg mb : Str → Option Value} {dp un : Nat} {gd : Option (List Code)} {cn : Str} {cs : Scope} {a : Addr} {ccd : Value} {cl : List (Str × Addr)} {outer : List Env} {A₀ : Around} {base h₀ : Heap} {L : Addr} {m : Str → Option Value} {news : List (Addr × Obj)} {s : Shared} {Q E : Value → Shared → Prop}
theorem two_ari_sn (o : Bop) (hg : o.grp = .ari) (p1 p2 : Addr) (x : Int) (xu yu : Bool) (t0 t1 t2 : Tok) (B : Below A₀ base outer h₀) (F : Fr h₀ L s.heap m) (X : (KQ w.params).In h₀) (N : News h₀ L s.heap news) (T : Top viewQ looseQ mean mg mb h₀) (hk : cs.kind = .function) (m1 : (p1, tupL [.int x t1, .bool xu]) ∈ news) (m2 : (p2, tupL [.none, .bool yu]) ∈ news) 
    (hd : dp + 20 < recursionLimit) (hu : un + 160 < cLine)
    (ret : PRet h₀ L m news s Q (none) (xu || yu)) :
    wpAny (MQ w) (ktrTop dp un gd cn cs L a ccd cl outer) (call (.ref 338) [.str o.txt t0, .ref p1, .ref p2]) Q E s := by
  have N2 := News.dup (News.dup N m2) (.tail _ m1)
  obtain ⟨hA, hS, hD, hC⟩ := grp_ari o hg
  have hJ : JoinOr xu yu xu yu := ⟨⟩
  refine wpAny_call ?_
  (k_dflt (refine' code_def (binds := [(Str.ofString "mark", .str o.txt t0), (Str.ofString "one", .ref p1), (Str.ofString "other", .ref p2)]) ?k1 ?k2 ?k3 ?k4 ?k5 ?kA ?kF ?kK ?k6 ?k7 ?k8 ?k9 ?kB ?_ ?c2 ?c3 ?c4 ?c5; (case kA | kF => exact rfl); (case kK => first | exact rfl | assumption); (case k1 | k2 | k3 | k4 | k5 => k_asm); (case k6 | k7 => k_is); (case k8 => ktr_room); (case k9 => exact BindsTo.of_eq rfl); (case c5 => decide); (case kB => exact locs rfl); (case c2 | c3 | c4 => exact rfl); k_whole; intro g' L' h' FG' F' N' B' X' T'; (try dsimp only); (try k_lift B'); (try k_fold)))
  k_steps
  all_goals (first
    | (refine ret _ 0 none _ _ _ ?_ ?_ (by assumption) (by first | assumption | (exact ldrop1 (by assumption) (show ∀ r ∈ news, _ from by intro p hp; simp only [List.mem_cons, hp, or_true, true_or]))) (by ktr_rel) <;> (first | rfl | simp_all))
    | (refine ret _ _ (some _) _ _ _ ?_ ?_ (by assumption) (by first | assumption | (exact ldrop1 (by assumption) (show ∀ r ∈ news, _ from by intro p hp; simp only [List.mem_cons, hp, or_true, true_or]))) (by ktr_rel) <;> (first | rfl | simp_all)))

end
section
variable {w : World} {mean : ExcName → Option Value} {mg mb : Str → Option Value} {dp un : Nat} {gd : Option (List Code)} {cn : Str} {cs : Scope} {a : Addr} {ccd : Value} {cl : List (Str × Addr)} {outer : List Env} {A₀ : Around} {base h₀ : Heap} {L : Addr} {m : Str → Option Value} {news : List (Addr × Obj)} {s : Shared} {Q E : Value → Shared → Prop}
theorem two_ari_ss (o : Bop) (hg : o.grp = .ari) (p1 p2 : Addr) (x y : Int) (xu yu : Bool) (t0 t1 t2 : Tok) (B : Below A₀ base outer h₀) (F : Fr h₀ L s.heap m) (X : (KQ w.params).In h₀) (N : News h₀ L s.heap news) (T : Top viewQ looseQ mean mg mb h₀) (hk : cs.kind = .function) (m1 : (p1, tupL [.int x t1, .bool xu]) ∈ news) (m2 : (p2, tupL [.int y t2, .bool yu]) ∈ news) 
    (hd : dp + 20 < recursionLimit) (hu : un + 160 < cLine)
    (ret : PRet h₀ L m news s Q (some (ariS o (led32 x (xu || yu)) (led32 y (xu || yu)) (xu || yu))) (xu || yu)) :
    wpAny (MQ w) (ktrTop dp un gd cn cs L a ccd cl outer) (call (.ref 338) [.str o.txt t0, .ref p1, .ref p2]) Q E s := by
  have N2 := News.dup (News.dup N m2) (.tail _ m1)
  obtain ⟨hA, hS, hD, hC⟩ := grp_ari o hg
  have hJ : JoinOr xu yu xu yu := ⟨⟩
  refine wpAny_call ?_
  (k_dflt (refine' code_def (binds := [(Str.ofString "mark", .str o.txt t0), (Str.ofString "one", .ref p1), (Str.ofString "other", .ref p2)]) ?k1 ?k2 ?k3 ?k4 ?k5 ?kA ?kF ?kK ?k6 ?k7 ?k8 ?k9 ?kB ?_ ?c2 ?c3 ?c4 ?c5; (case kA | kF => exact rfl); (case kK => first | exact rfl | assumption); (case k1 | k2 | k3 | k4 | k5 => k_asm); (case k6 | k7 => k_is); (case k8 => ktr_room); (case k9 => exact BindsTo.of_eq rfl); (case c5 => decide); (case kB => exact locs rfl); (case c2 | c3 | c4 => exact rfl); k_whole; intro g' L' h' FG' F' N' B' X' T'; (try dsimp only); (try k_lift B'); (try k_fold)))
  k_steps
  all_goals (first
    | (refine ret _ 0 none _ _ _ ?_ ?_ (by assumption) (by first | assumption | (exact ldrop1 (by assumption) (show ∀ r ∈ news, _ from by intro p hp; simp only [List.mem_cons, hp, or_true, true_or]))) (by ktr_rel) <;> (first | rfl | (simp_all [ariS]; done)))
    | (refine ret _ _ (some _) _ _ _ ?_ ?_ (by assumption) (by first | assumption | (exact ldrop1 (by assumption) (show ∀ r ∈ news, _ from by intro p hp; simp only [List.mem_cons, hp, or_true, true_or]))) (by ktr_rel) <;> (first | rfl | (simp_all [ariS]; done))))

end
end
end
section
open PySem PySem.W PyProof.Rows PySem.Calls PySem.Spec
section
local macro_rules | `(tactic| walk_at "eval Call") => `(tactic| ((with_reducible show wpAny _ _ (eval (Expr.Call (Expr.Name _ _) _ [] _) _) _ _ _); k_dflt (refine Call_ ?_)))
local macro_rules | `(tactic| walk_at "exec Assign cons ListComp") => `(tactic| (k_dflt (refine Assign_ListComp_T (F₀ := by k_asm) (by rfl) (by with_unfolding_all rfl) (by rfl) (by decide) (by rfl) (by decide) (by rfl) (by rfl) (by rfl) ?_ (by intro _; rfl))))
local macro_rules | `(tactic| walk_at "subscriptTail") => `(tactic| ((with_reducible show wpAny _ _ (subscriptTail _ (PySem.Expr.Slice _ _ _ _) (Value.ref _) (Value.ref _)) _ _ _); k_dflt (refine slice_tuple_from (a := 1) (by k_asm) (by k_asm) (News.isTup (by k_asm) (by k_mem)) (by decide) ?_ ?_)))
local macro_rules | `(tactic| walk_at "binaryOp Add ref ref") => `(tactic| ((with_reducible show wpAny _ _ (binaryOp PySem.Operator.Add (Value.ref _) (Value.ref _)) _ _ _); k_dflt (refine' catL ?F ?N ?a ?b ?x ?y ?z ?_; (case F => k_asm); (case N => k_asm); (case a => k_mem); (case b => k_mem); (case x => first | assumption | exact StrsAre.nil | exact StrsAre.cons _ _ StrsAre.nil); (case y => first | assumption | exact StrsAre.cons _ _ StrsAre.nil | exact StrsAre.nil); (case z => (simp only [List.length_append, List.length_cons, List.length_nil]; omega)); intro l' ws' n' h' hs' F' N' hf')))
local macro_rules | `(tactic| walk_at "SrcTup") => `(tactic| (k_dflt (refine ⟨_, _, _, rfl, rfl, by k_asm, by k_asm, .head _, Nat.le_of_ble_eq_true rfl, fun gH => ?_⟩)))
section
variable {w : World} {mean : ExcName → Option Value} {mg mb : Str → Option Value} {dp un : Nat} {gd : Option (List Code)} {cn : Str} {cs : Scope} {a : Addr} {ccd : Value} {cl : List (Str × Addr)} {outer : List Env} {A₀ : Around} {base h₀ : Heap} {L : Addr} {m : Str → Option Value} {news : List (Addr × Obj)} {s : Shared} {Q E : Value → Shared → Prop}

theorem tup298 {h : Heap} (X : (KQ w.params).In h) : IsTup h 298 #[.str (Str.ofString "/") 810, .str (Str.ofString "1") 811, .str (Str.ofString "0") 812] := ⟨o298_j w.params, X _ _ (by kernel_rfl), rfl, _, rfl⟩
local macro_rules | `(tactic| walk_at "subscriptTail") => `(tactic| ((with_reducible show wpAny _ _ (subscriptTail _ (PySem.Expr.Slice _ _ _ _) (Value.ref 298) (Value.ref _)) _ _ _); k_dflt (refine slice_tuple_from (a := 1) (by k_asm) (by k_asm) (tup298 (Frag.In.keeps (by k_asm) (Fr.keep (by k_asm)))) (by decide) ?_ ?_)))
theorem strs_end {ws : List Value} {l : List Str} (h : StrsAre ws (l ++ [])) : StrsAre ws l := by rw [List.append_nil] at h; exact h
abbrev Brk (D : Tr) (ws : List Value) : Prop := StrsAre ws (Str.ofString "(" :: (D.texts ++ [Str.ofString ")"]))
theorem wordsStep {v : Value} {D : Tr} {ax : Addr} {its : List Value} {Fin : List Value → List (Addr × Obj) → Prop} {k i : Nat} {ys : List Value} (W : WordsTell w D) (B : Below A₀ base outer h₀) (X : (KQ w.params).In h₀) (T : Top viewQ looseQ mean mg mb h₀)
    (hv : its[i]? = some v) (hax : (ax, tupL its) ∈ news) (ht : TreeAt news v D) (hw : D.texts.length < 1000)
    (hd : dp + 10 * D.deep + 25 < recursionLimit) (hu : un + 200 * D.deep + 350 < cLine)
    (next : ∀ l ws n, Brk D ws → (∀ p ∈ news, p.1 ≠ l) → LCg.CompRest PySem.Challenge.rw_on0057_01.prog w (ktrTop dp un gd (Str.ofString "_law_words") (pS (Mine.D 38)) L 324 (Value.ref 323) [] outer) h₀ L m (envOf (Str.ofString "_law_words") (pS (Mine.D 38)) L 324 (Value.ref 323)) (cEl (pB (Mine.D 38))) (Str.ofString "part") (cSc (pB (Mine.D 38))) [] s (fun nw => (ax, tupL its) ∈ nw) (fun i v => its[i]? = some v) Fin k (i + 1) (ys ++ [.ref l]) ((l, listOf ws.toArray n) :: news)) :
    LCg.CompRest PySem.Challenge.rw_on0057_01.prog w (ktrTop dp un gd (Str.ofString "_law_words") (pS (Mine.D 38)) L 324 (Value.ref 323) [] outer) h₀ L m (envOf (Str.ofString "_law_words") (pS (Mine.D 38)) L 324 (Value.ref 323)) (cEl (pB (Mine.D 38))) (Str.ofString "part") (cSc (pB (Mine.D 38))) [] s (fun nw => (ax, tupL its) ∈ nw) (fun i v => its[i]? = some v) Fin (k + 1) i ys news :=
  compStep hv hax (fun I C P oI oC m₂ s₁ E' hC hx F1 N1 => wordsElem W B X T hC hx F1 N1 ht hw hd hu) (fun l o hR fr => by obtain ⟨ws, n, rfl, hs⟩ := hR; exact next l ws n hs fr)
theorem words_leaf (k : Num) : WordsTell w (.leaf k) := by
  intro mean mg mb dp un gd cn cs a ccd cl outer A₀ base h₀ L m news s Q E v B F X N T hk ht hw hd hu ret
  cases ht with
  | @leaf _ t1 =>
  refine wpAny_call ?_
  (k_dflt (refine' code_def (binds := [(Str.ofString "tree", .str k.txt t1)]) ?k1 ?k2 ?k3 ?k4 ?k5 ?kA ?kF ?kK ?k6 ?k7 ?k8 ?k9 ?kB ?_ ?c2 ?c3 ?c4 ?c5; (case kA | kF => exact rfl); (case kK => first | exact rfl | assumption); (case k1 | k2 | k3 | k4 | k5 => k_asm); (case k6 | k7 => k_is); (case k8 => ktr_room); (case k9 => exact BindsTo.of_eq rfl); (case c5 => decide); (case kB => exact locs rfl); (case c2 | c3 | c4 => exact rfl); k_whole; intro g' L' h' FG' F' N' B' X' T'; (try dsimp only); (try k_lift B'); (try k_fold)))
  k_steps
  all_goals (refine ret _ _ _ _ _ (by assumption) (by first | assumption | exact vdrop1 (by assumption) (show ∀ r ∈ _, _ from fun p hp => by simp only [List.mem_cons, hp, or_true, true_or])) (fun p hp => by first | exact (by assumption : ∀ q ∈ _, q.1 ≠ _) p (by simp only [List.mem_cons, hp, or_true, true_or]) | exact Nat.ne_of_lt ((by assumption : ∀ q ∈ _, q.1 < _) p (by simp only [List.mem_cons, hp, or_true, true_or]))) (by first | assumption | exact StrsAre.cons _ _ StrsAre.nil | exact strs_end (by assumption)))
theorem words_un (o : Uop) (D1 : Tr) (W1 : WordsTell w D1) : WordsTell w (.un o D1) := by
  intro mean mg mb dp un gd cn cs a ccd cl outer A₀ base h₀ L m news s Q E v B F X N T hk ht hw hd hu ret
  cases ht with
  | @un D' _ t1 v1 _ hm ht1 =>
  rw [texts_un] at hw ret
  simp only [List.length_append, List.length_cons, List.length_nil] at hw
  unfold Tr.deep at hd hu
  have N2 := News.dup N hm
  refine wpAny_call ?_
  (k_dflt (refine' code_def (binds := [(Str.ofString "tree", .ref D')]) ?k1 ?k2 ?k3 ?k4 ?k5 ?kA ?kF ?kK ?k6 ?k7 ?k8 ?k9 ?kB ?_ ?c2 ?c3 ?c4 ?c5; (case kA | kF => exact rfl); (case kK => first | exact rfl | assumption); (case k1 | k2 | k3 | k4 | k5 => k_asm); (case k6 | k7 => k_is); (case k8 => ktr_room); (case k9 => exact BindsTo.of_eq rfl); (case c5 => decide); (case kB => exact locs rfl); (case c2 | c3 | c4 => exact rfl); k_whole; intro g' L' h' FG' F' N' B' X' T'; (try dsimp only); (try k_lift B'); (try k_fold)))
  k_steps
  all_goals (refine wordsStep W1 (by assumption) (by assumption) (by assumption) rfl (.head _) (ht1.mono (fun p hp => .tail _ (.tail _ hp))) (by omega) (by ktr_room) (by ktr_units) (fun l1 ws1 n1 hs1 fr1 => ?_))
  all_goals k_steps
  all_goals (refine ret _ _ _ _ _ (by assumption) (by first | assumption | exact vdrop1 (by assumption) (show ∀ r ∈ _, _ from fun p hp => by simp only [List.mem_cons, hp, or_true, true_or])) (fun p hp => by first | exact (by assumption : ∀ q ∈ _, q.1 ≠ _) p (by simp only [List.mem_cons, hp, or_true, true_or]) | exact Nat.ne_of_lt ((by assumption : ∀ q ∈ _, q.1 < _) p (by simp only [List.mem_cons, hp, or_true, true_or]))) (by first | assumption | exact StrsAre.cons _ _ StrsAre.nil | exact strs_end (by assumption)))
abbrev lackT : Tr := .bin .div (.leaf .a1) (.leaf .a0)
theorem words_lack (B : Below A₀ base outer h₀) (F : Fr h₀ L s.heap m) (X : (KQ w.params).In h₀) (N : News h₀ L s.heap news) (T : Top viewQ looseQ mean mg mb h₀) (hk : cs.kind = .function) (hd : dp + 30 < recursionLimit) (hu : un + 500 < cLine) (ret : WRet h₀ L m s news lackT.texts Q) :
    wpAny (MQ w) (ktrTop dp un gd cn cs L a ccd cl outer) (call (.ref 324) [.ref 298]) Q E s := by
  have W1 : WordsTell w (.leaf .a1) := words_leaf .a1
  have W2 : WordsTell w (.leaf .a0) := words_leaf .a0
  refine wpAny_call ?_
  (k_dflt (refine' code_def (binds := [(Str.ofString "tree", .ref 298)]) ?k1 ?k2 ?k3 ?k4 ?k5 ?kA ?kF ?kK ?k6 ?k7 ?k8 ?k9 ?kB ?_ ?c2 ?c3 ?c4 ?c5; (case kA | kF => exact rfl); (case kK => first | exact rfl | assumption); (case k1 | k2 | k3 | k4 | k5 => k_asm); (case k6 | k7 => k_is); (case k8 => ktr_room); (case k9 => exact BindsTo.of_eq rfl); (case c5 => decide); (case kB => exact locs rfl); (case c2 | c3 | c4 => exact rfl); k_whole; intro g' L' h' FG' F' N' B' X' T'; (try dsimp only); (try k_lift B'); (try k_fold)))
  have hw1 : (Tr.leaf .a1).texts.length < 1000 := by decide
  have hw2 : (Tr.leaf .a0).texts.length < 1000 := by decide
  rw [texts_bin] at ret
  k_steps
  all_goals (refine wordsStep W1 (by assumption) (by assumption) (by assumption) rfl (.head _) (.leaf .a1 _) hw1 (by unfold Tr.deep; ktr_room) (by unfold Tr.deep; ktr_units) (fun l1 ws1 n1 hs1 fr1 => ?_))
  all_goals (refine wordsStep W2 (by assumption) (by assumption) (by assumption) rfl (.tail _ (.head _)) (.leaf .a0 _) hw2 (by unfold Tr.deep; ktr_room) (by unfold Tr.deep; ktr_units) (fun l2 ws2 n2 hs2 fr2 => ?_))
  all_goals (have b1 : (Tr.leaf .a1).texts.length = 1 := rfl)
  all_goals (have b2 : (Tr.leaf .a0).texts.length = 1 := rfl)
  all_goals k_steps
  all_goals (refine ret _ _ _ _ _ (by assumption) (by first | assumption | exact vdrop1 (by assumption) (show ∀ r ∈ _, _ from fun p hp => by simp only [List.mem_cons, hp, or_true, true_or])) (fun p hp => by first | exact (by assumption : ∀ q ∈ _, q.1 ≠ _) p (by simp only [List.mem_cons, hp, or_true, true_or]) | exact Nat.ne_of_lt ((by assumption : ∀ q ∈ _, q.1 < _) p (by simp only [List.mem_cons, hp, or_true, true_or]))) (by first | assumption | exact StrsAre.cons _ _ StrsAre.nil | exact strs_end (by assumption)))
theorem words_bin (o : Bop) (D1 : Tr) (D2 : Tr) (W1 : WordsTell w D1) (W2 : WordsTell w D2) : WordsTell w (.bin o D1 D2) := by
  intro mean mg mb dp un gd cn cs a ccd cl outer A₀ base h₀ L m news s Q E v B F X N T hk ht hw hd hu ret
  cases ht with
  | lack => exact words_lack B F X N T hk (by simp only [Tr.deep] at hd; omega) (by simp only [Tr.deep] at hu; omega) ret
  | @bin D' _ t1 v1 v2 _ _ hm ht1 ht2 =>
  rw [texts_bin] at hw ret
  simp only [List.length_append, List.length_cons, List.length_nil] at hw
  unfold Tr.deep at hd hu
  have N2 := News.dup N hm
  refine wpAny_call ?_
  (k_dflt (refine' code_def (binds := [(Str.ofString "tree", .ref D')]) ?k1 ?k2 ?k3 ?k4 ?k5 ?kA ?kF ?kK ?k6 ?k7 ?k8 ?k9 ?kB ?_ ?c2 ?c3 ?c4 ?c5; (case kA | kF => exact rfl); (case kK => first | exact rfl | assumption); (case k1 | k2 | k3 | k4 | k5 => k_asm); (case k6 | k7 => k_is); (case k8 => ktr_room); (case k9 => exact BindsTo.of_eq rfl); (case c5 => decide); (case kB => exact locs rfl); (case c2 | c3 | c4 => exact rfl); k_whole; intro g' L' h' FG' F' N' B' X' T'; (try dsimp only); (try k_lift B'); (try k_fold)))
  k_steps
  all_goals (refine wordsStep W1 (by assumption) (by assumption) (by assumption) rfl (.head _) (ht1.mono (fun p hp => .tail _ (.tail _ hp))) (by omega) (by ktr_room) (by ktr_units) (fun l1 ws1 n1 hs1 fr1 => ?_))
  all_goals (refine wordsStep W2 (by assumption) (by assumption) (by assumption) rfl (.tail _ (.head _)) (ht2.mono (fun p hp => .tail _ (.tail _ (.tail _ hp)))) (by omega) (by ktr_room) (by ktr_units) (fun l2 ws2 n2 hs2 fr2 => ?_))
  all_goals k_steps
  all_goals (refine ret _ _ _ _ _ (by assumption) (by first | assumption | exact vdrop1 (by assumption) (show ∀ r ∈ _, _ from fun p hp => by simp only [List.mem_cons, hp, or_true, true_or])) (fun p hp => by first | exact (by assumption : ∀ q ∈ _, q.1 ≠ _) p (by simp only [List.mem_cons, hp, or_true, true_or]) | exact Nat.ne_of_lt ((by assumption : ∀ q ∈ _, q.1 < _) p (by simp only [List.mem_cons, hp, or_true, true_or]))) (by first | assumption | exact StrsAre.cons _ _ StrsAre.nil | exact strs_end (by assumption)))
theorem words_cond  (D1 : Tr) (D2 : Tr) (D3 : Tr) (W1 : WordsTell w D1) (W2 : WordsTell w D2) (W3 : WordsTell w D3) : WordsTell w (.cond D1 D2 D3) := by
  intro mean mg mb dp un gd cn cs a ccd cl outer A₀ base h₀ L m news s Q E v B F X N T hk ht hw hd hu ret
  cases ht with
  | @cond D' t1 v1 v2 v3 _ _ _ hm ht1 ht2 ht3 =>
  rw [texts_cond] at hw ret
  simp only [List.length_append, List.length_cons, List.length_nil] at hw
  unfold Tr.deep at hd hu
  have N2 := News.dup N hm
  refine wpAny_call ?_
  (k_dflt (refine' code_def (binds := [(Str.ofString "tree", .ref D')]) ?k1 ?k2 ?k3 ?k4 ?k5 ?kA ?kF ?kK ?k6 ?k7 ?k8 ?k9 ?kB ?_ ?c2 ?c3 ?c4 ?c5; (case kA | kF => exact rfl); (case kK => first | exact rfl | assumption); (case k1 | k2 | k3 | k4 | k5 => k_asm); (case k6 | k7 => k_is); (case k8 => ktr_room); (case k9 => exact BindsTo.of_eq rfl); (case c5 => decide); (case kB => exact locs rfl); (case c2 | c3 | c4 => exact rfl); k_whole; intro g' L' h' FG' F' N' B' X' T'; (try dsimp only); (try k_lift B'); (try k_fold)))
  k_steps
  all_goals (refine wordsStep W1 (by assumption) (by assumption) (by assumption) rfl (.head _) (ht1.mono (fun p hp => .tail _ (.tail _ hp))) (by omega) (by ktr_room) (by ktr_units) (fun l1 ws1 n1 hs1 fr1 => ?_))
  all_goals (refine wordsStep W2 (by assumption) (by assumption) (by assumption) rfl (.tail _ (.head _)) (ht2.mono (fun p hp => .tail _ (.tail _ (.tail _ hp)))) (by omega) (by ktr_room) (by ktr_units) (fun l2 ws2 n2 hs2 fr2 => ?_))
  all_goals (refine wordsStep W3 (by assumption) (by assumption) (by assumption) rfl (.tail _ (.tail _ (.head _))) (ht3.mono (fun p hp => .tail _ (.tail _ (.tail _ (.tail _ hp))))) (by omega) (by ktr_room) (by ktr_units) (fun l3 ws3 n3 hs3 fr3 => ?_))
  all_goals k_steps
  all_goals (refine ret _ _ _ _ _ (by assumption) (by first | assumption | exact vdrop1 (by assumption) (show ∀ r ∈ _, _ from fun p hp => by simp only [List.mem_cons, hp, or_true, true_or])) (fun p hp => by first | exact (by assumption : ∀ q ∈ _, q.1 ≠ _) p (by simp only [List.mem_cons, hp, or_true, true_or]) | exact Nat.ne_of_lt ((by assumption : ∀ q ∈ _, q.1 < _) p (by simp only [List.mem_cons, hp, or_true, true_or]))) (by first | assumption | exact StrsAre.cons _ _ StrsAre.nil | exact strs_end (by assumption)))
theorem words_tell : ∀ D : Tr, WordsTell w D
  | .leaf k => words_leaf k
  | .un o t => words_un o t (words_tell t)
  | .bin o a b => words_bin o a b (words_tell a) (words_tell b)
  | .cond a b c => words_cond a b c (words_tell a) (words_tell b) (words_tell c)
end
end
end
end
section
open PySem PySem.W PyProof.Rows PySem.Calls PySem.Spec
section
def lawTwo (o : Bop) (x : Option Int) (xu : Bool) (y : Option Int) (yu : Bool) : Option Int × Bool :=
  match o.grp, x, y with
  | .log, none, _ => (none, false)
  | .log, some a, none => (logSN o a, false)
  | .log, some a, some b => (some (logS o a b), false)
  | .shift, some a, some b => (some (shS o a b xu), xu)
  | .shift, _, _ => (none, xu)
  | .div, some a, some b => (divS o a b (xu || yu), xu || yu)
  | .div, _, _ => (none, xu || yu)
  | .cmp, some a, some b => (some (if cmpS o.txt (led32 a (xu || yu)) (led32 b (xu || yu)) then 1 else 0), false)
  | .cmp, _, _ => (none, false)
  | .ari, some a, some b => (some (ariS o (led32 a (xu || yu)) (led32 b (xu || yu)) (xu || yu)), xu || yu)
  | .ari, _, _ => (none, xu || yu)
structure PairOk (o : Bop) (xu : Bool) (y : Option Int) (yu : Bool) : Prop where
  sh : o.grp = .shift → ∀ b, y = some b → 0 ≤ b ∧ b ≤ 31
  dv : ∀ b, y = some b → b ≠ 0 → led32 b (xu || yu) ≠ 0
section
variable {w : World} {mean : ExcName → Option Value} {mg mb : Str → Option Value} {dp un : Nat} {gd : Option (List Code)} {cn : Str} {cs : Scope} {a : Addr} {ccd : Value} {cl : List (Str × Addr)} {outer : List Env} {A₀ : Around} {base h₀ : Heap} {L : Addr} {m : Str → Option Value} {news : List (Addr × Obj)} {s : Shared} {Q E : Value → Shared → Prop}

theorem twoL (o : Bop) (p1 p2 : Addr) (x y : Option Int) (xu yu : Bool) (t0 t1 t2 : Tok) (B : Below A₀ base outer h₀) (F : Fr h₀ L s.heap m) (X : (KQ w.params).In h₀) (N : News h₀ L s.heap news) (T : Top viewQ looseQ mean mg mb h₀) (hk : cs.kind = .function) (m1 : (p1, tupL [optV x t1, .bool xu]) ∈ news) (m2 : (p2, tupL [optV y t2, .bool yu]) ∈ news) (ok : PairOk o xu y yu)
    (hd : dp + 20 < recursionLimit) (hu : un + 160 < cLine) (ret : PRet h₀ L m news s Q (lawTwo o x xu y yu).1 (lawTwo o x xu y yu).2) :
    wpAny (MQ w) (ktrTop dp un gd cn cs L a ccd cl outer) (call (.ref 338) [.str o.txt t0, .ref p1, .ref p2]) Q E s := by
  unfold lawTwo at ret
  cases hg : o.grp with
  | log =>
    rw [hg] at ret
    cases x with
    | none => exact two_log_n o hg p1 p2 (optV y t2) xu yu t0 t1 t2 B F X N T hk m1 m2 hd hu ret
    | some a => cases y with
      | none => exact two_log_sn o hg p1 p2 a xu yu t0 t1 t2 B F X N T hk m1 m2 hd hu ret
      | some b => exact two_log_ss o hg p1 p2 a b xu yu t0 t1 t2 B F X N T hk m1 m2 hd hu ret
  | shift =>
    rw [hg] at ret
    cases x with
    | none => exact two_shift_n o hg p1 p2 (optV y t2) xu yu t0 t1 t2 B F X N T hk m1 m2 hd hu ret
    | some a => cases y with
      | none => exact two_shift_sn o hg p1 p2 a xu yu t0 t1 t2 B F X N T hk m1 m2 hd hu ret
      | some b => exact two_shift_s o hg p1 p2 a b xu yu t0 t1 t2 B F X N T hk m1 m2 (ok.sh hg b rfl).1 (ok.sh hg b rfl).2 hd hu ret
  | div =>
    rw [hg] at ret
    cases x with
    | none => exact two_div_n o hg p1 p2 (optV y t2) xu yu t0 t1 t2 B F X N T hk m1 m2 hd hu ret
    | some a => cases y with
      | none => exact two_div_sn o hg p1 p2 a xu yu t0 t1 t2 B F X N T hk m1 m2 hd hu ret
      | some b => exact two_div_ss o hg p1 p2 a b xu yu t0 t1 t2 B F X N T hk m1 m2 (ok.dv b rfl) hd hu ret
  | cmp =>
    rw [hg] at ret
    cases x with
    | none => exact two_cmp_n o hg p1 p2 (optV y t2) xu yu t0 t1 t2 B F X N T hk m1 m2 hd hu ret
    | some a => cases y with
      | none => exact two_cmp_sn o hg p1 p2 a xu yu t0 t1 t2 B F X N T hk m1 m2 hd hu ret
      | some b => exact two_cmp_ss o hg p1 p2 a b xu yu t0 t1 t2 B F X N T hk m1 m2 hd hu ret
  | ari =>
    rw [hg] at ret
    cases x with
    | none => exact two_ari_n o hg p1 p2 (optV y t2) xu yu t0 t1 t2 B F X N T hk m1 m2 hd hu ret
    | some a => cases y with
      | none => exact two_ari_sn o hg p1 p2 a xu yu t0 t1 t2 B F X N T hk m1 m2 hd hu ret
      | some b => exact two_ari_ss o hg p1 p2 a b xu yu t0 t1 t2 B F X N T hk m1 m2 hd hu ret
end
def lawCond (x : Option Int × Bool) (y z : Option Int × Bool) : Option Int × Bool :=
  (match x.1, (if x.1 = some 0 then z.1 else y.1) with
   | some _, some n => some (led32 n (y.2 || z.2))
   | _, _ => none, y.2 || z.2)
def lawOne (o : Uop) (x : Option Int × Bool) : Option Int × Bool :=
  match o, x.1 with
  | .not, none => (none, false)
  | .not, some a => (some (if a == 0 then 1 else 0), false)
  | .neg, some a => (some (led32 (0 - a) x.2), x.2)
  | .inv, some a => (some (led32 (-1 - a) x.2), x.2)
  | _, _ => x
def Tr.lawW : Tr → Option Int × Bool
  | .leaf k => (some k.val, k.uns)
  | .un o t => lawOne o t.lawW
  | .bin o a b => lawTwo o a.lawW.1 a.lawW.2 b.lawW.1 b.lawW.2
  | .cond a b c => lawCond a.lawW b.lawW c.lawW
def Tr.Good : Tr → Prop
  | .leaf _ => True
  | .un _ t => t.Good
  | .bin o a b => a.Good ∧ b.Good ∧ (o.grp = .shift → ∃ k, b = .leaf k ∧ 0 ≤ k.val ∧ k.val ≤ 31)
  | .cond a b c => a.Good ∧ b.Good ∧ c.Good
def InW (n : Int) (u : Bool) : Prop := led32 n u = n
theorem led_led (n : Int) (u : Bool) : led32 (led32 n u) u = led32 n u := by
  unfold led32
  cases u
  · simp only [and_true]; split <;> split <;> omega
  · simp only [Bool.true_eq_false, and_false, if_false]; omega
theorem in_one (b : Bool) : InW 1 b := by cases b <;> (unfold InW; decide)
theorem in_zero (b : Bool) : InW 0 b := by cases b <;> (unfold InW; decide)
theorem in_if (p : Prop) [Decidable p] (b : Bool) : InW (if p then 1 else 0) b := by split <;> first | exact in_one _ | exact in_zero _
theorem in_log (o : Bop) (a b : Int) (u : Bool) : InW (logS o a b) u := by unfold logS; split <;> exact in_if _ _
theorem in_logN {o : Bop} {a n : Int} {u : Bool} (h : logSN o a = some n) : InW n u := by
  unfold logSN at h
  split at h
  · cases h
  · cases h; split <;> first | exact in_one _ | exact in_zero _
theorem in_pair {o : Bop} {x y : Option Int} {xu yu : Bool} {n : Int} (h : (lawTwo o x xu y yu).1 = some n) : InW n (lawTwo o x xu y yu).2 := by
  unfold lawTwo at h ⊢
  split at h <;> first
    | (exfalso; simp at h; done)
    | skip
  all_goals (try simp only at h ⊢)
  all_goals first
    | exact in_logN h
    | (cases h; first | exact in_log _ _ _ _ | exact in_if _ _ | (unfold shS; split <;> exact led_led _ _) | exact led_led _ _)
    | (unfold divS at h; split at h <;> cases h; exact led_led _ _)
theorem in_num (k : Num) : InW k.val k.uns := by cases k <;> (unfold InW; decide)
theorem lawW_in : ∀ (D : Tr) (n : Int), D.lawW.1 = some n → InW n D.lawW.2
  | .leaf k, n, h => by cases h; exact in_num k
  | .un o t, n, h => by
    have ih := lawW_in t
    unfold Tr.lawW lawOne at h ⊢
    split at h <;> first
      | (exfalso; simp at h; done)
      | skip
    all_goals (try simp only at h ⊢)
    all_goals first
      | exact ih _ h
      | (cases h; first | exact in_if _ _ | exact led_led _ _)
  | .bin o a b, n, h => in_pair h
  | .cond a b c, n, h => by
    unfold Tr.lawW lawCond at h ⊢
    simp only at h ⊢
    split at h <;> cases h
    exact led_led _ _
theorem in_nz {b : Int} {u v : Bool} (h : InW b u) (hz : b ≠ 0) : led32 b v ≠ 0 := by
  unfold InW led32 at *
  split at h <;> split <;> omega
theorem pair_ok {o : Bop} {a b : Tr} {xu : Bool} (g : (Tr.bin o a b).Good) : PairOk o xu b.lawW.1 b.lawW.2 := by
  refine ⟨fun hg n hn => ?_, fun n hn hz => in_nz (lawW_in b n hn) hz⟩
  obtain ⟨k, rfl, h1, h2⟩ := g.2.2 hg
  cases hn
  exact ⟨h1, h2⟩
end
end
section
open PySem PySem.W PyProof.Rows PySem.Calls PySem.Spec
section
def numItems : List Value := [.str (Str.ofString "0") 776, .str (Str.ofString "1") 777, .str (Str.ofString "2") 778, .str (Str.ofString "3") 779, .str (Str.ofString "7") 780, .str (Str.ofString "5u") 781, .str (Str.ofString "4294967295") 782, .str (Str.ofString "2147483647") 783, .str (Str.ofString "0x80000000") 784, .str (Str.ofString "0u") 785, .str (Str.ofString "1u") 786, .str (Str.ofString "31") 787]
def sgnItems : List Value := [.str (Str.ofString "&&") 789, .str (Str.ofString "||") 790, .str (Str.ofString "/") 791, .str (Str.ofString "%") 792, .str (Str.ofString "+") 793, .str (Str.ofString "-") 794, .str (Str.ofString "*") 795, .str (Str.ofString "<") 796, .str (Str.ofString "<=") 797, .str (Str.ofString ">") 798, .str (Str.ofString ">=") 799, .str (Str.ofString "==") 800, .str (Str.ofString "!=") 801, .str (Str.ofString "&") 802, .str (Str.ofString "|") 803, .str (Str.ofString "^") 804, .str (Str.ofString "&&") 805, .str (Str.ofString "||") 806, .str (Str.ofString "<<") 807, .str (Str.ofString ">>") 808]
theorem tup296 {w : World} {h : Heap} (X : (KQ w.params).In h) : IsTup h 296 numItems.toArray := ⟨o296_j w.params, X _ _ (by kernel_rfl), rfl, _, rfl⟩
theorem tup297 {w : World} {h : Heap} (X : (KQ w.params).In h) : IsTup h 297 sgnItems.toArray := ⟨o297_j w.params, X _ _ (by kernel_rfl), rfl, _, rfl⟩
theorem swapN {h₀ h : Heap} {L : Addr} {p q : Addr × Obj} {r : List (Addr × Obj)} (N : News h₀ L h (p :: q :: r)) : News h₀ L h (q :: p :: r) := cb_drop N fun x hx => by
  simp only [List.mem_cons] at hx ⊢
  rcases hx with h | h | h <;> simp [h]
theorem swapN2 {h₀ h : Heap} {L : Addr} {p q k : Addr × Obj} {r : List (Addr × Obj)} (N : News h₀ L h (p :: q :: k :: r)) : News h₀ L h (k :: p :: q :: r) := cb_drop N fun x hx => by
  simp only [List.mem_cons] at hx ⊢
  rcases hx with h | h | h | h <;> simp [h]
theorem sub1 {r1 news : List (Addr × Obj)} {d : Addr × Obj} (a : ∀ p ∈ news, p ∈ r1) : ∀ p ∈ news, p ∈ d :: r1 := fun p hp => .tail _ (a p hp)
theorem sub2 {r1 r2 news : List (Addr × Obj)} {d : Addr × Obj} (a : ∀ p ∈ news, p ∈ r1) (b : ∀ p ∈ r1, p ∈ r2) : ∀ p ∈ news, p ∈ d :: r2 := fun p hp => .tail _ (b p (a p hp))
theorem sub3 {r1 r2 r3 news : List (Addr × Obj)} {d : Addr × Obj} (a : ∀ p ∈ news, p ∈ r1) (b : ∀ p ∈ r1, p ∈ r2) (c : ∀ p ∈ r2, p ∈ r3) : ∀ p ∈ news, p ∈ d :: r3 := fun p hp => .tail _ (c p (b p (a p hp)))
theorem tl1 {r1 r2 : List (Addr × Obj)} {d : Addr × Obj} (a : ∀ p ∈ r1, p ∈ r2) : ∀ p ∈ r1, p ∈ d :: r2 := fun p hp => .tail _ (a p hp)
theorem noShift (o : Bop) (h : ([Str.ofString "<<", Str.ofString ">>"].any fun y => y == o.txt) = false) : o.grp ≠ .shift := fun q => by rw [(grp_shift o q).2.1] at h; cases h
theorem apCons {wl d : Addr} {o : Obj} {r : List (Addr × Obj)} (h : @Ne Nat d wl) (hc : o.cls ≠ .type "list_iterator") (ha : ApOk wl r) : ApOk wl ((d, o) :: r) := fun p hp => by
  rcases List.mem_cons.mp hp with rfl | hp
  · exact ⟨h, hc⟩
  · exact ha p hp
section
variable {w : World} {mean : ExcName → Option Value} {mg mb : Str → Option Value} {dp un : Nat} {gd : Option (List Code)} {cn : Str} {cs : Scope} {a : Addr} {ccd : Value} {cl : List (Str × Addr)} {outer : List Env} {A₀ : Around} {base h₀ : Heap} {L : Addr} {m : Str → Option Value} {news : List (Addr × Obj)} {s : Shared} {Q E : Value → Shared → Prop}
variable {wl cl1 : Addr} {sp st : Int} {t1 t2 : Tok} {nw nc : Nat} {cells : List Value}
theorem pickNum  (B : Below A₀ base outer h₀) (F : Fr h₀ L s.heap m) (X : (KQ w.params).In h₀) (N : News h₀ L s.heap ((wl, listOf [Value.ref cl1, Value.int sp t1, Value.int st t2].toArray nw) :: news)) (T : Top viewQ looseQ mean mg mb h₀) (hk : cs.kind = .function) (hcl : (cl1, listOf cells.toArray nc) ∈ news) (hap : ApOk wl news) (hc : Cells cells) (hsp : 0 ≤ sp) (hs0 : 0 ≤ st) (hs1 : st < 997)
    (hd : dp + 20 < recursionLimit) (hu : un + 160 < cLine)
    (ret : ∀ (k : Num) (t : Tok), ∀ (sp' st' : Int) (t1' t2' : Tok) (n' : Nat) (h' : Heap) (tk' : Nat), 0 ≤ sp' → 0 ≤ st' → st' < 997 → Fr h₀ L h' m → News h₀ L h' ((wl, listOf [Value.ref cl1, Value.int sp' t1', Value.int st' t2'].toArray n') :: news) → Q (.str k.txt t) { s with heap := h', toks := tk' }) :
    wpAny (MQ w) (ktrTop dp un gd cn cs L a ccd cl outer) (call (.ref 312) [.ref wl, .ref 296]) Q E s := by
  refine pickC 296 _ B F X N T hk hcl hap hc hsp hs0 hs1 (.inl (tup296 X)) (Nat.le_of_ble_eq_true rfl) (Nat.le_of_ble_eq_true rfl) hd hu (fun v hv sp' st' t1' t2' n' h' tk' b0 b1 b2 F' N' => ?_)
  simp only [numItems, sgnItems, List.mem_cons, List.not_mem_nil, or_false] at hv
  rcases hv with rfl | rfl | rfl | rfl | rfl | rfl | rfl | rfl | rfl | rfl | rfl | rfl
  · exact ret .a0 _ sp' st' t1' t2' n' h' tk' b0 b1 b2 F' N'
  · exact ret .a1 _ sp' st' t1' t2' n' h' tk' b0 b1 b2 F' N'
  · exact ret .a2 _ sp' st' t1' t2' n' h' tk' b0 b1 b2 F' N'
  · exact ret .a3 _ sp' st' t1' t2' n' h' tk' b0 b1 b2 F' N'
  · exact ret .a7 _ sp' st' t1' t2' n' h' tk' b0 b1 b2 F' N'
  · exact ret .u5 _ sp' st' t1' t2' n' h' tk' b0 b1 b2 F' N'
  · exact ret .big _ sp' st' t1' t2' n' h' tk' b0 b1 b2 F' N'
  · exact ret .mid _ sp' st' t1' t2' n' h' tk' b0 b1 b2 F' N'
  · exact ret .hex _ sp' st' t1' t2' n' h' tk' b0 b1 b2 F' N'
  · exact ret .u0 _ sp' st' t1' t2' n' h' tk' b0 b1 b2 F' N'
  · exact ret .u1 _ sp' st' t1' t2' n' h' tk' b0 b1 b2 F' N'
  · exact ret .a31 _ sp' st' t1' t2' n' h' tk' b0 b1 b2 F' N'


theorem pickSign  (B : Below A₀ base outer h₀) (F : Fr h₀ L s.heap m) (X : (KQ w.params).In h₀) (N : News h₀ L s.heap ((wl, listOf [Value.ref cl1, Value.int sp t1, Value.int st t2].toArray nw) :: news)) (T : Top viewQ looseQ mean mg mb h₀) (hk : cs.kind = .function) (hcl : (cl1, listOf cells.toArray nc) ∈ news) (hap : ApOk wl news) (hc : Cells cells) (hsp : 0 ≤ sp) (hs0 : 0 ≤ st) (hs1 : st < 997)
    (hd : dp + 20 < recursionLimit) (hu : un + 160 < cLine)
    (ret : ∀ (o : Bop) (t : Tok), ∀ (sp' st' : Int) (t1' t2' : Tok) (n' : Nat) (h' : Heap) (tk' : Nat), 0 ≤ sp' → 0 ≤ st' → st' < 997 → Fr h₀ L h' m → News h₀ L h' ((wl, listOf [Value.ref cl1, Value.int sp' t1', Value.int st' t2'].toArray n') :: news) → Q (.str o.txt t) { s with heap := h', toks := tk' }) :
    wpAny (MQ w) (ktrTop dp un gd cn cs L a ccd cl outer) (call (.ref 312) [.ref wl, .ref 297]) Q E s := by
  refine pickC 297 _ B F X N T hk hcl hap hc hsp hs0 hs1 (.inl (tup297 X)) (Nat.le_of_ble_eq_true rfl) (Nat.le_of_ble_eq_true rfl) hd hu (fun v hv sp' st' t1' t2' n' h' tk' b0 b1 b2 F' N' => ?_)
  simp only [numItems, sgnItems, List.mem_cons, List.not_mem_nil, or_false] at hv
  rcases hv with rfl | rfl | rfl | rfl | rfl | rfl | rfl | rfl | rfl | rfl | rfl | rfl | rfl | rfl | rfl | rfl | rfl | rfl | rfl | rfl
  · exact ret .and _ sp' st' t1' t2' n' h' tk' b0 b1 b2 F' N'
  · exact ret .or _ sp' st' t1' t2' n' h' tk' b0 b1 b2 F' N'
  · exact ret .div _ sp' st' t1' t2' n' h' tk' b0 b1 b2 F' N'
  · exact ret .mod _ sp' st' t1' t2' n' h' tk' b0 b1 b2 F' N'
  · exact ret .add _ sp' st' t1' t2' n' h' tk' b0 b1 b2 F' N'
  · exact ret .sub _ sp' st' t1' t2' n' h' tk' b0 b1 b2 F' N'
  · exact ret .mul _ sp' st' t1' t2' n' h' tk' b0 b1 b2 F' N'
  · exact ret .lt _ sp' st' t1' t2' n' h' tk' b0 b1 b2 F' N'
  · exact ret .le _ sp' st' t1' t2' n' h' tk' b0 b1 b2 F' N'
  · exact ret .gt _ sp' st' t1' t2' n' h' tk' b0 b1 b2 F' N'
  · exact ret .ge _ sp' st' t1' t2' n' h' tk' b0 b1 b2 F' N'
  · exact ret .eq _ sp' st' t1' t2' n' h' tk' b0 b1 b2 F' N'
  · exact ret .ne _ sp' st' t1' t2' n' h' tk' b0 b1 b2 F' N'
  · exact ret .band _ sp' st' t1' t2' n' h' tk' b0 b1 b2 F' N'
  · exact ret .bor _ sp' st' t1' t2' n' h' tk' b0 b1 b2 F' N'
  · exact ret .bxor _ sp' st' t1' t2' n' h' tk' b0 b1 b2 F' N'
  · exact ret .and _ sp' st' t1' t2' n' h' tk' b0 b1 b2 F' N'
  · exact ret .or _ sp' st' t1' t2' n' h' tk' b0 b1 b2 F' N'
  · exact ret .shl _ sp' st' t1' t2' n' h' tk' b0 b1 b2 F' N'
  · exact ret .shr _ sp' st' t1' t2' n' h' tk' b0 b1 b2 F' N'


theorem pickUn  (B : Below A₀ base outer h₀) (F : Fr h₀ L s.heap m) (X : (KQ w.params).In h₀) (N : News h₀ L s.heap ((wl, listOf [Value.ref cl1, Value.int sp t1, Value.int st t2].toArray nw) :: news)) (T : Top viewQ looseQ mean mg mb h₀) (hk : cs.kind = .function) (hcl : (cl1, listOf cells.toArray nc) ∈ news) (hap : ApOk wl news) (hc : Cells cells) (hsp : 0 ≤ sp) (hs0 : 0 ≤ st) (hs1 : st < 997) {mu : Addr} {j1 j2 j3 j4 : Tok} (hmu : (mu, tupL [.str (Str.ofString "-") j1, .str (Str.ofString "!") j2, .str (Str.ofString "~") j3, .str (Str.ofString "+") j4]) ∈ news)
    (hd : dp + 20 < recursionLimit) (hu : un + 160 < cLine)
    (ret : ∀ (o : Uop) (t : Tok), ∀ (sp' st' : Int) (t1' t2' : Tok) (n' : Nat) (h' : Heap) (tk' : Nat), 0 ≤ sp' → 0 ≤ st' → st' < 997 → Fr h₀ L h' m → News h₀ L h' ((wl, listOf [Value.ref cl1, Value.int sp' t1', Value.int st' t2'].toArray n') :: news) → Q (.str o.sign t) { s with heap := h', toks := tk' }) :
    wpAny (MQ w) (ktrTop dp un gd cn cs L a ccd cl outer) (call (.ref 312) [.ref wl, .ref mu]) Q E s := by
  refine pickC mu _ B F X N T hk hcl hap hc hsp hs0 hs1 (.inr hmu) (Nat.le_of_ble_eq_true rfl) (Nat.le_of_ble_eq_true rfl) hd hu (fun v hv sp' st' t1' t2' n' h' tk' b0 b1 b2 F' N' => ?_)
  simp only [numItems, sgnItems, List.mem_cons, List.not_mem_nil, or_false] at hv
  rcases hv with rfl | rfl | rfl | rfl
  · exact ret .neg _ sp' st' t1' t2' n' h' tk' b0 b1 b2 F' N'
  · exact ret .not _ sp' st' t1' t2' n' h' tk' b0 b1 b2 F' N'
  · exact ret .inv _ sp' st' t1' t2' n' h' tk' b0 b1 b2 F' N'
  · exact ret .pos _ sp' st' t1' t2' n' h' tk' b0 b1 b2 F' N'


theorem pickSh  (B : Below A₀ base outer h₀) (F : Fr h₀ L s.heap m) (X : (KQ w.params).In h₀) (N : News h₀ L s.heap ((wl, listOf [Value.ref cl1, Value.int sp t1, Value.int st t2].toArray nw) :: news)) (T : Top viewQ looseQ mean mg mb h₀) (hk : cs.kind = .function) (hcl : (cl1, listOf cells.toArray nc) ∈ news) (hap : ApOk wl news) (hc : Cells cells) (hsp : 0 ≤ sp) (hs0 : 0 ≤ st) (hs1 : st < 997) {mu : Addr} {j1 j2 j3 j4 : Tok} (hmu : (mu, tupL [.str (Str.ofString "0") j1, .str (Str.ofString "1") j2, .str (Str.ofString "31") j3, .str (Str.ofString "7") j4]) ∈ news)
    (hd : dp + 20 < recursionLimit) (hu : un + 160 < cLine)
    (ret : ∀ (k : Num) (t : Tok), 0 ≤ k.val → k.val ≤ 31 → ∀ (sp' st' : Int) (t1' t2' : Tok) (n' : Nat) (h' : Heap) (tk' : Nat), 0 ≤ sp' → 0 ≤ st' → st' < 997 → Fr h₀ L h' m → News h₀ L h' ((wl, listOf [Value.ref cl1, Value.int sp' t1', Value.int st' t2'].toArray n') :: news) → Q (.str k.txt t) { s with heap := h', toks := tk' }) :
    wpAny (MQ w) (ktrTop dp un gd cn cs L a ccd cl outer) (call (.ref 312) [.ref wl, .ref mu]) Q E s := by
  refine pickC mu _ B F X N T hk hcl hap hc hsp hs0 hs1 (.inr hmu) (Nat.le_of_ble_eq_true rfl) (Nat.le_of_ble_eq_true rfl) hd hu (fun v hv sp' st' t1' t2' n' h' tk' b0 b1 b2 F' N' => ?_)
  simp only [numItems, sgnItems, List.mem_cons, List.not_mem_nil, or_false] at hv
  rcases hv with rfl | rfl | rfl | rfl
  · exact ret .a0 _ (by decide) (by decide) sp' st' t1' t2' n' h' tk' b0 b1 b2 F' N'
  · exact ret .a1 _ (by decide) (by decide) sp' st' t1' t2' n' h' tk' b0 b1 b2 F' N'
  · exact ret .a31 _ (by decide) (by decide) sp' st' t1' t2' n' h' tk' b0 b1 b2 F' N'
  · exact ret .a7 _ (by decide) (by decide) sp' st' t1' t2' n' h' tk' b0 b1 b2 F' N'


end
def TreeTell (w : World) (n : Nat) : Prop :=
  ∀ {mean : ExcName → Option Value} {mg mb : Str → Option Value} {dp un : Nat} {gd : Option (List Code)} {cn : Str} {cs : Scope} {a : Addr} {ccd : Value} {cl : List (Str × Addr)} {outer : List Env} {A₀ : Around} {base h₀ : Heap} {L : Addr} {m : Str → Option Value} {news : List (Addr × Obj)} {s : Shared} {Q E : Value → Shared → Prop} {wl cl1 : Addr} {sp st : Int} {t1 t2 : Tok} {nw nc : Nat} {cells : List Value} (d : Int) (t : Tok), d = (n : Int) → Below A₀ base outer h₀ → Fr h₀ L s.heap m → (KQ w.params).In h₀ → News h₀ L s.heap ((wl, listOf [Value.ref cl1, Value.int sp t1, Value.int st t2].toArray nw) :: news) → Top viewQ looseQ mean mg mb h₀ → cs.kind = .function →
    (cl1, listOf cells.toArray nc) ∈ news → ApOk wl news → Cells cells → 0 ≤ sp → 0 ≤ st → st < 997 → dp + 10 * n + 60 < recursionLimit → un + 200 * n + 500 < cLine → (∀ (v : Value) (sp' st' : Int) (t1' t2' : Tok) (n' : Nat) (h' : Heap) (tk' : Nat) (news' : List (Addr × Obj)) (D : Tr), (∀ p ∈ news, p ∈ news') → ApOk wl news' → (cl1, listOf cells.toArray nc) ∈ news' → TreeAt news' v D → D.deep ≤ n → D.Good → 0 ≤ sp' → 0 ≤ st' → st' < 997 → Fr h₀ L h' m → News h₀ L h' ((wl, listOf [Value.ref cl1, Value.int sp' t1', Value.int st' t2'].toArray n') :: news') → Q v { s with heap := h', toks := tk' }) →
    wpAny (MQ w) (ktrTop dp un gd cn cs L a ccd cl outer) (call (.ref 319) [.ref wl, .int d t]) Q E s
section
variable {w : World} {mean : ExcName → Option Value} {mg mb : Str → Option Value} {dp un : Nat} {gd : Option (List Code)} {cn : Str} {cs : Scope} {a : Addr} {ccd : Value} {cl : List (Str × Addr)} {outer : List Env} {A₀ : Around} {base h₀ : Heap} {L : Addr} {m : Str → Option Value} {news : List (Addr × Obj)} {s : Shared} {Q E : Value → Shared → Prop}
variable {wl cl1 : Addr} {sp st : Int} {t1 t2 : Tok} {nw nc : Nat} {cells : List Value}

theorem treeUse {n : Nat} {d : Int} {t : Tok} (W : TreeTell w n) (hdn : d = (n : Int)) (B : Below A₀ base outer h₀) (F : Fr h₀ L s.heap m) (X : (KQ w.params).In h₀) (N : News h₀ L s.heap ((wl, listOf [Value.ref cl1, Value.int sp t1, Value.int st t2].toArray nw) :: news)) (T : Top viewQ looseQ mean mg mb h₀) (hk : cs.kind = .function) (hcl : (cl1, listOf cells.toArray nc) ∈ news) (hap : ApOk wl news) (hc : Cells cells) (hsp : 0 ≤ sp) (hs0 : 0 ≤ st) (hs1 : st < 997)
    (hd : dp + 10 * n + 60 < recursionLimit) (hu : un + 200 * n + 500 < cLine) (ret : ∀ (v : Value) (sp' st' : Int) (t1' t2' : Tok) (n' : Nat) (h' : Heap) (tk' : Nat) (news' : List (Addr × Obj)) (D : Tr), (∀ p ∈ news, p ∈ news') → ApOk wl news' → (cl1, listOf cells.toArray nc) ∈ news' → TreeAt news' v D → D.deep ≤ n → D.Good → 0 ≤ sp' → 0 ≤ st' → st' < 997 → Fr h₀ L h' m → News h₀ L h' ((wl, listOf [Value.ref cl1, Value.int sp' t1', Value.int st' t2'].toArray n') :: news') → Q v { s with heap := h', toks := tk' }) : wpAny (MQ w) (ktrTop dp un gd cn cs L a ccd cl outer) (call (.ref 319) [.ref wl, .int d t]) Q E s :=
  W d t hdn B F X N T hk hcl hap hc hsp hs0 hs1 hd hu ret
end
end
end
section
open PySem PySem.W PyProof.Rows PySem.Calls PySem.Spec
local macro_rules | `(tactic| k_room) => `(tactic| ktr_room)
local macro_rules | `(tactic| k_units) => `(tactic| ktr_units)
local macro_rules | `(tactic| k_all) => `(tactic| assumption)
local macro_rules | `(tactic| walk_at "execs cons") => `(tactic| (with_reducible refine gen_toks ?_; intro tk))
local macro_rules | `(tactic| walk_at "execs nil") => `(tactic| (with_reducible refine gen_toks ?_; intro tk))
section
open PySem PySem.W PyProof.Rows PySem.Calls PySem.Spec
section
local macro_rules | `(tactic| walk_at "eval Call") => `(tactic| ((with_reducible show wpAny _ _ (eval (Expr.Call (Expr.Name _ _) _ [] _) _) _ _ _); k_dflt (refine Call_ ?_)))
local macro_rules | `(tactic| walk_at "call ref") => `(tactic| ((k_dflt (show wpAny _ _ (call (Value.ref 305) [Value.ref _, Value.int _ _]) _ _ _)); k_dflt (refine' drawC _ _ ?k1 ?k2 ?k3 ?k4 ?k5 ?kK ?y1 ?y2 ?y3 ?y4 ?y5 ?y6 ?kz ?kd ?ku ?_; (case k1 => k_asm); (case k2 => k_asm); (case k3 => k_asm); (case k4 => exact (by first | k_asm | exact swapN (by assumption) | exact swapN2 (by assumption))); (case k5 => k_asm); (case kK => first | exact rfl | assumption); (case y1 => first | assumption | exact .tail _ (by assumption) | exact .tail _ (.tail _ (by assumption))); (case y2 => first | assumption | (exact apCons (by k_ne) (by intro q; exact absurd (Value.type.inj q) (by decide)) (by assumption)) | (exact apCons (by k_ne) (by intro q; exact absurd (Value.type.inj q) (by decide)) (apCons (by k_ne) (by intro q; exact absurd (Value.type.inj q) (by decide)) (by assumption)))); (case y3 => assumption); (case y4 => assumption); (case y5 => assumption); (case y6 => assumption); (case kz => first | assumption | decide | omega); (case kd => ktr_room); (case ku => ktr_units); k_whole; intro r' tr' sp' st' t1' t2' n' h' tk' hr0' hr1' hsp' hs0' hs1' F' N'); (try dsimp only); (try k_fold)))
local macro_rules | `(tactic| walk_at "call ref") => `(tactic| ((k_dflt (show wpAny _ _ (call (Value.ref 312) [Value.ref _, Value.ref _]) _ _ _)); k_dflt (refine' pickUn ?k1 ?k2 ?k3 ?k4 ?k5 ?kK ?y1 ?y2 ?y3 ?y4 ?y5 ?y6 ?m ?kd ?ku ?_; (case k1 => k_asm); (case k2 => k_asm); (case k3 => k_asm); (case k4 => exact (by first | k_asm | exact swapN (by assumption) | exact swapN2 (by assumption))); (case k5 => k_asm); (case kK => first | exact rfl | assumption); (case y1 => first | assumption | exact .tail _ (by assumption) | exact .tail _ (.tail _ (by assumption))); (case y2 => first | assumption | (exact apCons (by k_ne) (by intro q; exact absurd (Value.type.inj q) (by decide)) (by assumption)) | (exact apCons (by k_ne) (by intro q; exact absurd (Value.type.inj q) (by decide)) (apCons (by k_ne) (by intro q; exact absurd (Value.type.inj q) (by decide)) (by assumption)))); (case y3 => assumption); (case y4 => assumption); (case y5 => assumption); (case y6 => assumption); (case m => k_mem); (case kd => ktr_room); (case ku => ktr_units); k_whole; intro o' tv' sp' st' t1' t2' n' h' tk' hsp' hs0' hs1' F' N'); (try dsimp only); (try k_fold)))
local macro_rules | `(tactic| walk_at "call ref") => `(tactic| ((k_dflt (show wpAny _ _ (call (Value.ref 312) [Value.ref _, Value.ref _]) _ _ _)); k_dflt (refine' pickSh ?k1 ?k2 ?k3 ?k4 ?k5 ?kK ?y1 ?y2 ?y3 ?y4 ?y5 ?y6 ?m ?kd ?ku ?_; (case k1 => k_asm); (case k2 => k_asm); (case k3 => k_asm); (case k4 => exact (by first | k_asm | exact swapN (by assumption) | exact swapN2 (by assumption))); (case k5 => k_asm); (case kK => first | exact rfl | assumption); (case y1 => first | assumption | exact .tail _ (by assumption) | exact .tail _ (.tail _ (by assumption))); (case y2 => first | assumption | (exact apCons (by k_ne) (by intro q; exact absurd (Value.type.inj q) (by decide)) (by assumption)) | (exact apCons (by k_ne) (by intro q; exact absurd (Value.type.inj q) (by decide)) (apCons (by k_ne) (by intro q; exact absurd (Value.type.inj q) (by decide)) (by assumption)))); (case y3 => assumption); (case y4 => assumption); (case y5 => assumption); (case y6 => assumption); (case m => k_mem); (case kd => ktr_room); (case ku => ktr_units); k_whole; intro k' tv' hk0' hk1' sp' st' t1' t2' n' h' tk' hsp' hs0' hs1' F' N'); (try dsimp only); (try k_fold)))
local macro_rules | `(tactic| walk_at "call ref") => `(tactic| ((k_dflt (show wpAny _ _ (call (Value.ref 312) [Value.ref _, Value.ref 297]) _ _ _)); k_dflt (refine' pickSign ?k1 ?k2 ?k3 ?k4 ?k5 ?kK ?y1 ?y2 ?y3 ?y4 ?y5 ?y6  ?kd ?ku ?_; (case k1 => k_asm); (case k2 => k_asm); (case k3 => k_asm); (case k4 => exact (by first | k_asm | exact swapN (by assumption) | exact swapN2 (by assumption))); (case k5 => k_asm); (case kK => first | exact rfl | assumption); (case y1 => first | assumption | exact .tail _ (by assumption) | exact .tail _ (.tail _ (by assumption))); (case y2 => first | assumption | (exact apCons (by k_ne) (by intro q; exact absurd (Value.type.inj q) (by decide)) (by assumption)) | (exact apCons (by k_ne) (by intro q; exact absurd (Value.type.inj q) (by decide)) (apCons (by k_ne) (by intro q; exact absurd (Value.type.inj q) (by decide)) (by assumption)))); (case y3 => assumption); (case y4 => assumption); (case y5 => assumption); (case y6 => assumption);  (case kd => ktr_room); (case ku => ktr_units); k_whole; intro o' tv' sp' st' t1' t2' n' h' tk' hsp' hs0' hs1' F' N'); (try dsimp only); (try k_fold)))
local macro_rules | `(tactic| walk_at "call ref") => `(tactic| ((k_dflt (show wpAny _ _ (call (Value.ref 312) [Value.ref _, Value.ref 296]) _ _ _)); k_dflt (refine' pickNum ?k1 ?k2 ?k3 ?k4 ?k5 ?kK ?y1 ?y2 ?y3 ?y4 ?y5 ?y6  ?kd ?ku ?_; (case k1 => k_asm); (case k2 => k_asm); (case k3 => k_asm); (case k4 => exact (by first | k_asm | exact swapN (by assumption) | exact swapN2 (by assumption))); (case k5 => k_asm); (case kK => first | exact rfl | assumption); (case y1 => first | assumption | exact .tail _ (by assumption) | exact .tail _ (.tail _ (by assumption))); (case y2 => first | assumption | (exact apCons (by k_ne) (by intro q; exact absurd (Value.type.inj q) (by decide)) (by assumption)) | (exact apCons (by k_ne) (by intro q; exact absurd (Value.type.inj q) (by decide)) (apCons (by k_ne) (by intro q; exact absurd (Value.type.inj q) (by decide)) (by assumption)))); (case y3 => assumption); (case y4 => assumption); (case y5 => assumption); (case y6 => assumption);  (case kd => ktr_room); (case ku => ktr_units); k_whole; intro k' tv' sp' st' t1' t2' n' h' tk' hsp' hs0' hs1' F' N'); (try dsimp only); (try k_fold)))
local macro_rules | `(tactic| walk_at "call ref") => `(tactic| ((k_dflt (show wpAny _ _ (call (Value.ref 319) [Value.ref _, Value.int _ _]) _ _ _)); k_dflt (refine' treeUse (by assumption) ?dn ?k1 ?k2 ?k3 ?k4 ?k5 ?kK ?y1 ?y2 ?y3 ?y4 ?y5 ?y6 ?kd ?ku ?_; (case dn => omega); (case k1 => k_asm); (case k2 => k_asm); (case k3 => k_asm); (case k4 => exact (by first | k_asm | exact swapN (by assumption) | exact swapN2 (by assumption))); (case k5 => k_asm); (case kK => first | exact rfl | assumption); (case y1 => first | assumption | exact .tail _ (by assumption) | exact .tail _ (.tail _ (by assumption))); (case y2 => first | assumption | (exact apCons (by k_ne) (by intro q; exact absurd (Value.type.inj q) (by decide)) (by assumption)) | (exact apCons (by k_ne) (by intro q; exact absurd (Value.type.inj q) (by decide)) (apCons (by k_ne) (by intro q; exact absurd (Value.type.inj q) (by decide)) (by assumption)))); (case y3 => assumption); (case y4 => assumption); (case y5 => assumption); (case y6 => assumption); (case kd => ktr_room); (case ku => ktr_units); k_whole; intro v' sp' st' t1' t2' n' h' tk' rest' D' hsub' hap' hcl' ht' hdp' hgd' hsp' hs0' hs1' F' N'); (try dsimp only); (try k_fold)))
section
variable {w : World} {mean : ExcName → Option Value} {mg mb : Str → Option Value} {dp un : Nat} {gd : Option (List Code)} {cn : Str} {cs : Scope} {a : Addr} {ccd : Value} {cl : List (Str × Addr)} {outer : List Env} {A₀ : Around} {base h₀ : Heap} {L : Addr} {m : Str → Option Value} {news : List (Addr × Obj)} {s : Shared} {Q E : Value → Shared → Prop}
theorem tree_zero : TreeTell w 0 := by
  intro mean mg mb dp un gd cn cs a ccd cl outer A₀ base h₀ L m news s Q E wl cl1 sp st t1 t2 nw nc cells d t hdn B F X N T hk hcl hap hc hsp hs0 hs1 hd hu ret
  have hdn' : d = 0 := hdn
  clear hdn
  subst hdn'
  refine wpAny_call ?_
  (k_dflt (refine' code_def (binds := [(Str.ofString "well", .ref wl), (Str.ofString "deep", .int 0 t)]) ?k1 ?k2 ?k3 ?k4 ?k5 ?kA ?kF ?kK ?k6 ?k7 ?k8 ?k9 ?kB ?_ ?c2 ?c3 ?c4 ?c5; (case kA | kF => exact rfl); (case kK => first | exact rfl | assumption); (case k1 | k2 | k3 | k4 | k5 => k_asm); (case k6 | k7 => k_is); (case k8 => ktr_room); (case k9 => exact BindsTo.of_eq rfl); (case c5 => decide); (case kB => exact locs rfl); (case c2 | c3 | c4 => exact rfl); k_whole; intro g' L' h' FG' F' N' B' X' T'; (try dsimp only); (try k_lift B'); (try k_fold)))
  k_steps
  all_goals (refine ret _ _ _ _ _ _ _ _ news (.leaf _) (fun p hp => hp) hap hcl (.leaf _ _) (Nat.le_refl _) trivial ?_ ?_ ?_ (by assumption) (by assumption) <;> assumption)
theorem tree_succ (n : Nat) (W : TreeTell w n) : TreeTell w (n + 1) := by
  intro mean mg mb dp un gd cn cs a ccd cl outer A₀ base h₀ L m news s Q E wl cl1 sp st t1 t2 nw nc cells d t hdn B F X N T hk hcl hap hc hsp hs0 hs1 hd hu ret
  have hd1 : 0 < d := by omega
  refine wpAny_call ?_
  (k_dflt (refine' code_def (binds := [(Str.ofString "well", .ref wl), (Str.ofString "deep", .int d t)]) ?k1 ?k2 ?k3 ?k4 ?k5 ?kA ?kF ?kK ?k6 ?k7 ?k8 ?k9 ?kB ?_ ?c2 ?c3 ?c4 ?c5; (case kA | kF => exact rfl); (case kK => first | exact rfl | assumption); (case k1 | k2 | k3 | k4 | k5 => k_asm); (case k6 | k7 => k_is); (case k8 => ktr_room); (case k9 => exact BindsTo.of_eq rfl); (case c5 => decide); (case kB => exact locs rfl); (case c2 | c3 | c4 => exact rfl); k_whole; intro g' L' h' FG' F' N' B' X' T'; (try dsimp only); (try k_lift B'); (try k_fold)))
  k_steps
  · refine ret _ _ _ _ _ _ _ _ news (.leaf _) (fun p hp => hp) hap hcl (.leaf _ _) (Nat.zero_le _) trivial ?_ ?_ ?_ (by assumption) (by assumption) <;> assumption
  · refine' ret _ _ _ _ _ _ _ _ _ (.un _ _) ?hsZ1 ?apZ1 ?hcZ1 (.un (.head _) ?tZ1) ?dpZ1 ?gdZ1 ?aZ1 ?bZ1 ?cZ1 (by assumption) (swapN (by assumption))
    case apZ1 => first | exact apCons (by k_ne) (by intro q; exact absurd (Value.type.inj q) (by decide)) (by assumption) | exact apCons (by k_ne) (by intro q; exact absurd (Value.type.inj q) (by decide)) (apCons (by k_ne) (by intro q; exact absurd (Value.type.inj q) (by decide)) (apCons (by k_ne) (by intro q; exact absurd (Value.type.inj q) (by decide)) (by assumption)))
    case hcZ1 => first | exact .tail _ (by assumption) | exact .tail _ (.tail _ (.tail _ (by assumption)))
    case tZ1 => exact TreeAt.mono (by assumption) (fun p hp => by first | exact .tail _ hp | exact .tail _ (.tail _ (.tail _ hp)))
    case dpZ1 => simp only [Tr.deep]; omega
    case gdZ1 => first | assumption | exact ⟨by assumption, by assumption, by assumption⟩ | exact ⟨by assumption, trivial, fun _ => ⟨_, rfl, by assumption, by assumption⟩⟩ | exact ⟨by assumption, by assumption, fun h => absurd h (noShift _ (by assumption))⟩
    case hsZ1 => exact sub1 (fun p hp => (by assumption : ∀ q ∈ _ :: _, q ∈ _) p (.tail _ hp))
    case aZ1 => assumption
    case bZ1 => assumption
    case cZ1 => assumption
  · refine' ret _ _ _ _ _ _ _ _ _ (.cond _ _ _) ?hsZ2 ?apZ2 ?hcZ2 (.cond (.head _) ?t1Z2 ?t2Z2 ?tZ2) ?dpZ2 ?gdZ2 ?aZ2 ?bZ2 ?cZ2 (by assumption) (swapN (by assumption))
    case apZ2 => first | exact apCons (by k_ne) (by intro q; exact absurd (Value.type.inj q) (by decide)) (by assumption) | exact apCons (by k_ne) (by intro q; exact absurd (Value.type.inj q) (by decide)) (apCons (by k_ne) (by intro q; exact absurd (Value.type.inj q) (by decide)) (apCons (by k_ne) (by intro q; exact absurd (Value.type.inj q) (by decide)) (by assumption)))
    case hcZ2 => first | exact .tail _ (by assumption) | exact .tail _ (.tail _ (.tail _ (by assumption)))
    case tZ2 => exact TreeAt.mono (by assumption) (fun p hp => by first | exact .tail _ hp | exact .tail _ (.tail _ (.tail _ hp)))
    case t2Z2 => exact TreeAt.mono (by assumption) (tl1 (by assumption))
    case t1Z2 => exact TreeAt.mono (TreeAt.mono (by assumption) (by assumption)) (tl1 (by assumption))
    case dpZ2 => simp only [Tr.deep]; omega
    case gdZ2 => first | assumption | exact ⟨by assumption, by assumption, by assumption⟩ | exact ⟨by assumption, trivial, fun _ => ⟨_, rfl, by assumption, by assumption⟩⟩ | exact ⟨by assumption, by assumption, fun h => absurd h (noShift _ (by assumption))⟩
    case hsZ2 => exact sub3 (by assumption) (by assumption) (by assumption)
    case aZ2 => assumption
    case bZ2 => assumption
    case cZ2 => assumption
  · refine ret _ _ _ _ _ _ _ _ news (.bin .div (.leaf .a1) (.leaf .a0)) (fun p hp => hp) hap hcl .lack (by simp only [Tr.deep]; omega) ⟨trivial, trivial, fun h => absurd h (by decide)⟩ ?_ ?_ ?_ (by assumption) (by assumption) <;> assumption
  · refine' ret _ _ _ _ _ _ _ _ _ (.bin _ _ (.leaf _)) ?hsZ4 ?apZ4 ?hcZ4 (.bin (.head _) ?tZ4 (.leaf _ _)) ?dpZ4 ?gdZ4 ?aZ4 ?bZ4 ?cZ4 (by assumption) (swapN (by assumption))
    case apZ4 => first | exact apCons (by k_ne) (by intro q; exact absurd (Value.type.inj q) (by decide)) (by assumption) | exact apCons (by k_ne) (by intro q; exact absurd (Value.type.inj q) (by decide)) (apCons (by k_ne) (by intro q; exact absurd (Value.type.inj q) (by decide)) (apCons (by k_ne) (by intro q; exact absurd (Value.type.inj q) (by decide)) (by assumption)))
    case hcZ4 => first | exact .tail _ (by assumption) | exact .tail _ (.tail _ (.tail _ (by assumption)))
    case tZ4 => exact TreeAt.mono (by assumption) (fun p hp => by first | exact .tail _ hp | exact .tail _ (.tail _ (.tail _ hp)))
    case dpZ4 => simp only [Tr.deep]; omega
    case gdZ4 => first | assumption | exact ⟨by assumption, by assumption, by assumption⟩ | exact ⟨by assumption, trivial, fun _ => ⟨_, rfl, by assumption, by assumption⟩⟩ | exact ⟨by assumption, by assumption, fun h => absurd h (noShift _ (by assumption))⟩
    case hsZ4 => exact sub1 (fun p hp => .tail _ (.tail _ ((by assumption : ∀ q ∈ news, q ∈ _) p hp)))
    case aZ4 => assumption
    case bZ4 => assumption
    case cZ4 => assumption
  · refine' ret _ _ _ _ _ _ _ _ _ (.bin _ _ _) ?hsZ5 ?apZ5 ?hcZ5 (.bin (.head _) ?t1Z5 ?tZ5) ?dpZ5 ?gdZ5 ?aZ5 ?bZ5 ?cZ5 (by assumption) (swapN (by assumption))
    case apZ5 => first | exact apCons (by k_ne) (by intro q; exact absurd (Value.type.inj q) (by decide)) (by assumption) | exact apCons (by k_ne) (by intro q; exact absurd (Value.type.inj q) (by decide)) (apCons (by k_ne) (by intro q; exact absurd (Value.type.inj q) (by decide)) (apCons (by k_ne) (by intro q; exact absurd (Value.type.inj q) (by decide)) (by assumption)))
    case hcZ5 => first | exact .tail _ (by assumption) | exact .tail _ (.tail _ (.tail _ (by assumption)))
    case tZ5 => exact TreeAt.mono (by assumption) (fun p hp => by first | exact .tail _ hp | exact .tail _ (.tail _ (.tail _ hp)))
    case t1Z5 => exact TreeAt.mono (by assumption) (tl1 (fun p hp => (by assumption : ∀ q ∈ _ :: _, q ∈ _) p (.tail _ hp)))
    case dpZ5 => simp only [Tr.deep]; omega
    case gdZ5 => first | assumption | exact ⟨by assumption, by assumption, by assumption⟩ | exact ⟨by assumption, trivial, fun _ => ⟨_, rfl, by assumption, by assumption⟩⟩ | exact ⟨by assumption, by assumption, fun h => absurd h (noShift _ (by assumption))⟩
    case hsZ5 => exact sub2 (by assumption) (fun p hp => (by assumption : ∀ q ∈ _ :: _, q ∈ _) p (.tail _ hp))
    case aZ5 => assumption
    case bZ5 => assumption
    case cZ5 => assumption
theorem tree_tell : ∀ n : Nat, TreeTell w n
  | 0 => tree_zero
  | n + 1 => tree_succ n (tree_tell n)
end
end
end
section
open PySem PySem.W PyProof.Rows PySem.Calls PySem.Spec
section
theorem gj_0 (u v : Tok) : Gives (Builtin.«int.__new__» ⟨[.type "int", .str (Str.ofString "0") u, .int 0 v], []⟩) (.int 0) := gi _ 0 0 u v (by decide) (by kernel_rfl)
theorem gj_1 (u v : Tok) : Gives (Builtin.«int.__new__» ⟨[.type "int", .str (Str.ofString "1") u, .int 0 v], []⟩) (.int 1) := gi _ 0 1 u v (by decide) (by kernel_rfl)
theorem gj_2 (u v : Tok) : Gives (Builtin.«int.__new__» ⟨[.type "int", .str (Str.ofString "2") u, .int 0 v], []⟩) (.int 2) := gi _ 0 2 u v (by decide) (by kernel_rfl)
theorem gj_3 (u v : Tok) : Gives (Builtin.«int.__new__» ⟨[.type "int", .str (Str.ofString "3") u, .int 0 v], []⟩) (.int 3) := gi _ 0 3 u v (by decide) (by kernel_rfl)
theorem gj_7 (u v : Tok) : Gives (Builtin.«int.__new__» ⟨[.type "int", .str (Str.ofString "7") u, .int 0 v], []⟩) (.int 7) := gi _ 0 7 u v (by decide) (by kernel_rfl)
theorem gj_5 (u v : Tok) : Gives (Builtin.«int.__new__» ⟨[.type "int", .str (Str.ofString "5") u, .int 0 v], []⟩) (.int 5) := gi _ 0 5 u v (by decide) (by kernel_rfl)
theorem gj_4294967295 (u v : Tok) : Gives (Builtin.«int.__new__» ⟨[.type "int", .str (Str.ofString "4294967295") u, .int 0 v], []⟩) (.int 4294967295) := gi _ 0 4294967295 u v (by decide) (by kernel_rfl)
theorem gj_2147483647 (u v : Tok) : Gives (Builtin.«int.__new__» ⟨[.type "int", .str (Str.ofString "2147483647") u, .int 0 v], []⟩) (.int 2147483647) := gi _ 0 2147483647 u v (by decide) (by kernel_rfl)
theorem gj_0x80000000 (u v : Tok) : Gives (Builtin.«int.__new__» ⟨[.type "int", .str (Str.ofString "0x80000000") u, .int 0 v], []⟩) (.int 2147483648) := gi _ 0 2147483648 u v (by decide) (by kernel_rfl)
theorem gj_31 (u v : Tok) : Gives (Builtin.«int.__new__» ⟨[.type "int", .str (Str.ofString "31") u, .int 0 v], []⟩) (.int 31) := gi _ 0 31 u v (by decide) (by kernel_rfl)
abbrev PRetN (h₀ : Heap) (L : Addr) (m : Str → Option Value) (news : List (Addr × Obj)) (s : Shared) (Q : Value → Shared → Prop) (x : Option Int) (u : Bool) : Prop :=
  ∀ (l : Addr) (t : Tok) (x' : Option Int) (u' : Bool) (h' : Heap) (tk' : Nat), x' = x → u' = u → Fr h₀ L h' m → News h₀ L h' ((l, tupL [optV x' t, .bool u']) :: news) → (∀ p ∈ news, p.1 ≠ l) → Q (.ref l) { s with heap := h', toks := tk' }
def WorthTo (w : World) (D : Tr) (x : Option Int) (u : Bool) : Prop :=
  ∀ {mean : ExcName → Option Value} {mg mb : Str → Option Value} {dp un : Nat} {gd : Option (List Code)} {cn : Str} {cs : Scope} {a : Addr} {ccd : Value} {cl : List (Str × Addr)} {outer : List Env} {A₀ : Around} {base h₀ : Heap} {L : Addr} {m : Str → Option Value} {news : List (Addr × Obj)} {s : Shared} {Q E : Value → Shared → Prop} (v : Value), Below A₀ base outer h₀ → Fr h₀ L s.heap m → (KQ w.params).In h₀ → News h₀ L s.heap news → Top viewQ looseQ mean mg mb h₀ → cs.kind = .function → TreeAt news v D → D.Good →
    dp + 10 * D.deep + 30 < recursionLimit → un + 200 * D.deep + 300 < cLine → PRetN h₀ L m news s Q x u →
    wpAny (MQ w) (ktrTop dp un gd cn cs L a ccd cl outer) (call (.ref 343) [v]) Q E s
abbrev WorthTell (w : World) (D : Tr) : Prop := WorthTo w D D.lawW.1 D.lawW.2
section
variable {w : World} {mean : ExcName → Option Value} {mg mb : Str → Option Value} {dp un : Nat} {gd : Option (List Code)} {cn : Str} {cs : Scope} {a : Addr} {ccd : Value} {cl : List (Str × Addr)} {outer : List Env} {A₀ : Around} {base h₀ : Heap} {L : Addr} {m : Str → Option Value} {news : List (Addr × Obj)} {s : Shared} {Q E : Value → Shared → Prop}

theorem worthUse {D : Tr} {xx : Option Int} {uu : Bool} {v : Value} (W : WorthTo w D xx uu) (B : Below A₀ base outer h₀) (F : Fr h₀ L s.heap m) (X : (KQ w.params).In h₀) (N : News h₀ L s.heap news) (T : Top viewQ looseQ mean mg mb h₀) (hk : cs.kind = .function) (ht : TreeAt news v D) (hg : D.Good)
    (hd : dp + 10 * D.deep + 30 < recursionLimit) (hu : un + 200 * D.deep + 300 < cLine) (ret : PRetN h₀ L m news s Q xx uu) : wpAny (MQ w) (ktrTop dp un gd cn cs L a ccd cl outer) (call (.ref 343) [v]) Q E s :=
  W v B F X N T hk ht hg hd hu ret
end
local macro_rules | `(tactic| walk_at "eval Call") => `(tactic| ((with_reducible show wpAny _ _ (eval (Expr.Call (Expr.Name _ _) _ [] _) _) _ _ _); k_dflt (refine Call_ ?_)))
local macro_rules | `(tactic| walk_at "exec Assign cons ListComp") => `(tactic| (k_dflt (refine Assign_ListComp_T (F₀ := by k_asm) (by rfl) (by with_unfolding_all rfl) (by rfl) (by decide) (by rfl) (by decide) (by rfl) (by rfl) (by rfl) ?_ (by intro _; rfl))))
local macro_rules | `(tactic| walk_at "subscriptTail") => `(tactic| ((with_reducible show wpAny _ _ (subscriptTail _ (PySem.Expr.Slice _ _ _ _) (Value.ref _) (Value.ref _)) _ _ _); k_dflt (refine slice_tuple_from (a := 1) (by k_asm) (by k_asm) (News.isTup (by k_asm) (by k_mem)) (by decide) ?_ ?_)))
local macro_rules | `(tactic| walk_at "call ref") => `(tactic| ((k_dflt (show wpAny _ _ (call (Value.ref 343) [_]) _ _ _)); k_dflt (refine' worthUse (by assumption) ?k1 ?k2 ?k3 ?k4 ?k5 ?kK ?kt ?kw ?kd ?ku ?_; (case k1 | k2 | k3 | k4 | k5 => k_asm); (case kK => first | exact rfl | assumption); (case kt => first | assumption | (exact TreeAt.mono (by assumption) (by intro p hp; simp only [List.mem_cons, hp, or_true, true_or]))); (case kw => assumption); (case kd => ktr_room); (case ku => ktr_units); k_whole; intro l' t' x' u' h' tk' hx' hu' F' N' hf'); (try dsimp only); (try k_fold)))
section
variable {w : World} {mean : ExcName → Option Value} {mg mb : Str → Option Value} {dp un : Nat} {gd : Option (List Code)} {cn : Str} {cs : Scope} {a : Addr} {ccd : Value} {cl : List (Str × Addr)} {outer : List Env} {A₀ : Around} {base h₀ : Heap} {L : Addr} {m : Str → Option Value} {news : List (Addr × Obj)} {s : Shared} {Q E : Value → Shared → Prop}
theorem worthElem {C I P : Addr} {oI oC oP : Obj} {m₂ : Str → Option Value} {s₁ : Shared} {v : Value} {D : Tr} {E' : Value → Shared → Prop} {xx : Option Int} {uu : Bool} (W : WorthTo w D xx uu) (B : Below A₀ base outer h₀) (X : (KQ w.params).In h₀) (T : Top viewQ looseQ mean mg mb h₀)
    (hC : LCg.NsObj oC m₂) (hx : m₂ (Str.ofString "part") = some v) (F : Fr h₀ L s₁.heap m) (N : News h₀ L s₁.heap ((I, oI) :: (C, oC) :: (P, oP) :: news)) (ht : TreeAt news v D) (hg : D.Good)
    (hd : dp + 10 * D.deep + 35 < recursionLimit) (hu : un + 200 * D.deep + 350 < cLine) :
    wpAny (MQ w) (ktrTop dp un gd (Str.ofString "_law_worth") (pS (Mine.D 41)) L 343 (Value.ref 342) [] outer) (eval (cEl (pB (Mine.D 41))) (compEnvC (cSc (pB (Mine.D 41))) [] C (envOf (Str.ofString "_law_worth") (pS (Mine.D 41)) L 343 (Value.ref 342)))) (ElemTo h₀ L m s₁ ((I, oI) :: (C, oC) :: (P, oP) :: news) (fun o => ∃ t, o = tupL [optV xx t, .bool uu])) E' s₁ := by
  k_dflt (show wpAny _ _ (eval (PySem.Expr.Call _ _ _ _) _) _ _ _)
  k_steps
  all_goals (subst_vars)
  all_goals (refine ⟨_, _, _, _, rfl, rfl, by assumption, by assumption, by assumption, ⟨_, rfl⟩⟩)
theorem worthStep {v : Value} {D : Tr} {ax : Addr} {its : List Value} {Fin : List Value → List (Addr × Obj) → Prop} {k i : Nat} {ys : List Value} {xx : Option Int} {uu : Bool} (W : WorthTo w D xx uu) (B : Below A₀ base outer h₀) (X : (KQ w.params).In h₀) (T : Top viewQ looseQ mean mg mb h₀)
    (hv : its[i]? = some v) (hax : (ax, tupL its) ∈ news) (ht : TreeAt news v D) (hg : D.Good)
    (hd : dp + 10 * D.deep + 35 < recursionLimit) (hu : un + 200 * D.deep + 350 < cLine)
    (next : ∀ l t, (∀ p ∈ news, p.1 ≠ l) → LCg.CompRest PySem.Challenge.rw_on0057_01.prog w (ktrTop dp un gd (Str.ofString "_law_worth") (pS (Mine.D 41)) L 343 (Value.ref 342) [] outer) h₀ L m (envOf (Str.ofString "_law_worth") (pS (Mine.D 41)) L 343 (Value.ref 342)) (cEl (pB (Mine.D 41))) (Str.ofString "part") (cSc (pB (Mine.D 41))) [] s (fun nw => (ax, tupL its) ∈ nw) (fun i v => its[i]? = some v) Fin k (i + 1) (ys ++ [.ref l]) ((l, tupL [optV xx t, .bool uu]) :: news)) :
    LCg.CompRest PySem.Challenge.rw_on0057_01.prog w (ktrTop dp un gd (Str.ofString "_law_worth") (pS (Mine.D 41)) L 343 (Value.ref 342) [] outer) h₀ L m (envOf (Str.ofString "_law_worth") (pS (Mine.D 41)) L 343 (Value.ref 342)) (cEl (pB (Mine.D 41))) (Str.ofString "part") (cSc (pB (Mine.D 41))) [] s (fun nw => (ax, tupL its) ∈ nw) (fun i v => its[i]? = some v) Fin (k + 1) i ys news :=
  compStep hv hax (fun I C P oI oC m₂ s₁ E' hC hx F1 N1 => worthElem W B X T hC hx F1 N1 ht hg hd hu) (fun l o hR fr => by obtain ⟨t, rfl⟩ := hR; exact next l t fr)
end
end
end
section
open PySem PySem.W PyProof.Rows PySem.Calls PySem.Spec
section
local macro_rules | `(tactic| walk_at "eval Call") => `(tactic| ((with_reducible show wpAny _ _ (eval (Expr.Call (Expr.Name _ _) _ [] _) _) _ _ _); k_dflt (refine Call_ ?_)))
local macro_rules | `(tactic| ktr_rel) => `(tactic| first | assumption | exact altsub (by assumption) (by intro p hp; simp only [List.mem_cons, hp, or_true, true_or]) | exact allLt_of (by assumption) | exact And.right (by assumption) | exact And.right (And.right (by assumption)) | exact And.right (And.right (And.right (by assumption))) | exact And.right (And.right (And.right (And.right (by assumption)))) | exact rr5 (by assumption) | exact rr5 (And.right (by assumption)) | exact rr5 (And.right (And.right (by assumption))) | exact rr5 (And.right (And.right (And.right (by assumption)))) | exact rr5 (And.right (And.right (And.right (And.right (by assumption))))) | exact rr5 (rr5 (by assumption)) | exact rr5 (rr5 (And.right (by assumption))) | exact rr5 (rr5 (And.right (And.right (by assumption)))) | exact rr5 (rr5 (And.right (And.right (And.right (by assumption))))) | exact rr5 (rr5 (And.right (And.right (And.right (And.right (by assumption)))))) | exact rr5 (rr5 (rr5 (by assumption))) | exact rr5 (rr5 (rr5 (And.right (by assumption)))) | exact rr5 (rr5 (rr5 (And.right (And.right (by assumption))))) | exact rr5 (rr5 (rr5 (And.right (And.right (And.right (by assumption)))))) | exact rr5 (rr5 (rr5 (And.right (And.right (And.right (And.right (by assumption))))))) | exact rr5 (rr5 (rr5 (rr5 (by assumption)))) | exact rr5 (rr5 (rr5 (rr5 (And.right (by assumption))))) | exact rr5 (rr5 (rr5 (rr5 (And.right (And.right (by assumption)))))) | exact rr5 (rr5 (rr5 (rr5 (And.right (And.right (And.right (by assumption))))))))
local macro_rules | `(tactic| walk_at "exec Assign cons ListComp") => `(tactic| (k_dflt (refine Assign_ListComp_T (F₀ := by k_asm) (by rfl) (by with_unfolding_all rfl) (by rfl) (by decide) (by rfl) (by decide) (by rfl) (by rfl) (by rfl) ?_ (by intro _; rfl))))
local macro_rules | `(tactic| walk_at "subscriptTail") => `(tactic| ((with_reducible show wpAny _ _ (subscriptTail _ (PySem.Expr.Slice _ _ _ _) (Value.ref _) (Value.ref _)) _ _ _); k_dflt (refine slice_tuple_from (a := 1) (by k_asm) (by k_asm) (News.isTup (by k_asm) (by k_mem)) (by decide) ?_ ?_)))
local macro_rules | `(tactic| walk_at "call type:int") => `(tactic| ((with_reducible show wpAny _ _ (call (Value.type "int") [Value.str _ _, Value.int _ _]) _ _ _); (with_reducible first | refine call_int_base (gj_0 _ _) ?_ | refine call_int_base (gj_1 _ _) ?_ | refine call_int_base (gj_2 _ _) ?_ | refine call_int_base (gj_3 _ _) ?_ | refine call_int_base (gj_7 _ _) ?_ | refine call_int_base (gj_5 _ _) ?_ | refine call_int_base (gj_4294967295 _ _) ?_ | refine call_int_base (gj_2147483647 _ _) ?_ | refine call_int_base (gj_0x80000000 _ _) ?_ | refine call_int_base (gj_31 _ _) ?_); (try dsimp only)))
local macro_rules | `(tactic| walk_at "subscriptTail") => `(tactic| ((with_reducible show wpAny _ _ (subscriptTail _ (PySem.Expr.Slice _ _ _ _) (Value.ref 298) (Value.ref _)) _ _ _); k_dflt (refine slice_tuple_from (a := 1) (by k_asm) (by k_asm) (tup298 (Frag.In.keeps (by k_asm) (Fr.keep (by k_asm)))) (by decide) ?_ ?_)))
local macro_rules | `(tactic| walk_at "SrcTup") => `(tactic| (k_dflt (refine ⟨_, _, _, rfl, rfl, by k_asm, by k_asm, .head _, Nat.le_of_ble_eq_true rfl, fun gH => ?_⟩)))
local macro_rules | `(tactic| walk_at "call ref") => `(tactic| ((k_dflt (show wpAny _ _ (call (Value.ref 331) [Value.int _ _, Value.bool _]) _ _ _)); k_dflt (refine' ledC _ _ _ ?k1 ?k2 ?k3 ?k4 ?k5 ?kK  ?kd ?ku ?_; (case k1 | k2 | k3 | k4 | k5 => k_asm); (case kK => first | exact rfl | assumption);  (case kd => ktr_room); (case ku => ktr_units); k_whole; intro l' t' y' h' tk' hy' F' N' hf'); (subst hy'); (try dsimp only); (try k_fold)))
local macro_rules | `(tactic| walk_at "call ref") => `(tactic| ((k_dflt (show wpAny _ _ (call (Value.ref 338) [Value.str (Bop.txt _) _, Value.ref _, Value.ref _]) _ _ _)); k_dflt (refine' twoL _ _ _ _ _ _ _ _ _ _ ?k1 ?k2 ?k3 ?k4 ?k5 ?kK ?m1 ?m2 ?ok ?kd ?ku ?_; (case k1 | k2 | k3 | k4 | k5 => k_asm); (case kK => first | exact rfl | assumption); (case m1 => k_mem); (case m2 => k_mem); (case ok => assumption); (case kd => ktr_room); (case ku => ktr_units); k_whole; intro l' t' x' u' h' tk' hx' hu' F' N' hf'); (try dsimp only); (try k_fold)))
local macro_rules | `(tactic| walk_at "call ref") => `(tactic| ((k_dflt (show wpAny _ _ (call (Value.ref 338) [Value.str (Str.ofString "/") _, Value.ref _, Value.ref _]) _ _ _)); k_dflt (refine' twoL Bop.div _ _ _ _ _ _ _ _ _ ?k1 ?k2 ?k3 ?k4 ?k5 ?kK ?m1 ?m2 ?ok ?kd ?ku ?_; (case k1 | k2 | k3 | k4 | k5 => k_asm); (case kK => first | exact rfl | assumption); (case m1 => k_mem); (case m2 => k_mem); (case ok => assumption); (case kd => ktr_room); (case ku => ktr_units); k_whole; intro l' t' x' u' h' tk' hx' hu' F' N' hf'); (try dsimp only); (try k_fold)))
local macro_rules | `(tactic| walk_at "eval BoolOp") => `(tactic| ((with_reducible show wpAny _ _ (eval (Expr.BoolOp BoolOp.Or [Expr.Subscript _ _ _, Expr.Subscript _ _ _] _) _) _ _ _); refine or_uns (by assumption) ?_))
local macro_rules | `(tactic| walk_at "And") => `(tactic| first | k_dflt (exact ⟨rfl, ⟨_, rfl⟩⟩) | (refine ⟨rfl, ?_, fun tk => ?_⟩ <;> (try dsimp only)))
section
variable {w : World} {mean : ExcName → Option Value} {mg mb : Str → Option Value} {dp un : Nat} {gd : Option (List Code)} {cn : Str} {cs : Scope} {a : Addr} {ccd : Value} {cl : List (Str × Addr)} {outer : List Env} {A₀ : Around} {base h₀ : Heap} {L : Addr} {m : Str → Option Value} {news : List (Addr × Obj)} {s : Shared} {Q E : Value → Shared → Prop}
theorem worth_a0 : WorthTell w (.leaf .a0) := by
  intro mean mg mb dp un gd cn cs a ccd cl outer A₀ base h₀ L m news s Q E v B F X N T hk ht hg hd hu ret
  cases ht with
  | @leaf _ t1 =>
  refine wpAny_call ?_
  (k_dflt (refine' code_def (binds := [(Str.ofString "tree", .str (Str.ofString "0") t1)]) ?k1 ?k2 ?k3 ?k4 ?k5 ?kA ?kF ?kK ?k6 ?k7 ?k8 ?k9 ?kB ?_ ?c2 ?c3 ?c4 ?c5; (case kA | kF => exact rfl); (case kK => first | exact rfl | assumption); (case k1 | k2 | k3 | k4 | k5 => k_asm); (case k6 | k7 => k_is); (case k8 => ktr_room); (case k9 => exact BindsTo.of_eq rfl); (case c5 => decide); (case kB => exact locs rfl); (case c2 | c3 | c4 => exact rfl); k_whole; intro g' L' h' FG' F' N' B' X' T'; (try dsimp only); (try k_lift B'); (try k_fold)))
  k_steps
  all_goals (exact ret _ _ (some _) _ _ _ rfl rfl (by assumption) (by assumption) (fun p hp => Nat.ne_of_lt ((by assumption : ∀ q ∈ _, q.1 < _) p hp)))
theorem worth_a1 : WorthTell w (.leaf .a1) := by
  intro mean mg mb dp un gd cn cs a ccd cl outer A₀ base h₀ L m news s Q E v B F X N T hk ht hg hd hu ret
  cases ht with
  | @leaf _ t1 =>
  refine wpAny_call ?_
  (k_dflt (refine' code_def (binds := [(Str.ofString "tree", .str (Str.ofString "1") t1)]) ?k1 ?k2 ?k3 ?k4 ?k5 ?kA ?kF ?kK ?k6 ?k7 ?k8 ?k9 ?kB ?_ ?c2 ?c3 ?c4 ?c5; (case kA | kF => exact rfl); (case kK => first | exact rfl | assumption); (case k1 | k2 | k3 | k4 | k5 => k_asm); (case k6 | k7 => k_is); (case k8 => ktr_room); (case k9 => exact BindsTo.of_eq rfl); (case c5 => decide); (case kB => exact locs rfl); (case c2 | c3 | c4 => exact rfl); k_whole; intro g' L' h' FG' F' N' B' X' T'; (try dsimp only); (try k_lift B'); (try k_fold)))
  k_steps
  all_goals (exact ret _ _ (some _) _ _ _ rfl rfl (by assumption) (by assumption) (fun p hp => Nat.ne_of_lt ((by assumption : ∀ q ∈ _, q.1 < _) p hp)))
theorem worth_a2 : WorthTell w (.leaf .a2) := by
  intro mean mg mb dp un gd cn cs a ccd cl outer A₀ base h₀ L m news s Q E v B F X N T hk ht hg hd hu ret
  cases ht with
  | @leaf _ t1 =>
  refine wpAny_call ?_
  (k_dflt (refine' code_def (binds := [(Str.ofString "tree", .str (Str.ofString "2") t1)]) ?k1 ?k2 ?k3 ?k4 ?k5 ?kA ?kF ?kK ?k6 ?k7 ?k8 ?k9 ?kB ?_ ?c2 ?c3 ?c4 ?c5; (case kA | kF => exact rfl); (case kK => first | exact rfl | assumption); (case k1 | k2 | k3 | k4 | k5 => k_asm); (case k6 | k7 => k_is); (case k8 => ktr_room); (case k9 => exact BindsTo.of_eq rfl); (case c5 => decide); (case kB => exact locs rfl); (case c2 | c3 | c4 => exact rfl); k_whole; intro g' L' h' FG' F' N' B' X' T'; (try dsimp only); (try k_lift B'); (try k_fold)))
  k_steps
  all_goals (exact ret _ _ (some _) _ _ _ rfl rfl (by assumption) (by assumption) (fun p hp => Nat.ne_of_lt ((by assumption : ∀ q ∈ _, q.1 < _) p hp)))
theorem worth_a3 : WorthTell w (.leaf .a3) := by
  intro mean mg mb dp un gd cn cs a ccd cl outer A₀ base h₀ L m news s Q E v B F X N T hk ht hg hd hu ret
  cases ht with
  | @leaf _ t1 =>
  refine wpAny_call ?_
  (k_dflt (refine' code_def (binds := [(Str.ofString "tree", .str (Str.ofString "3") t1)]) ?k1 ?k2 ?k3 ?k4 ?k5 ?kA ?kF ?kK ?k6 ?k7 ?k8 ?k9 ?kB ?_ ?c2 ?c3 ?c4 ?c5; (case kA | kF => exact rfl); (case kK => first | exact rfl | assumption); (case k1 | k2 | k3 | k4 | k5 => k_asm); (case k6 | k7 => k_is); (case k8 => ktr_room); (case k9 => exact BindsTo.of_eq rfl); (case c5 => decide); (case kB => exact locs rfl); (case c2 | c3 | c4 => exact rfl); k_whole; intro g' L' h' FG' F' N' B' X' T'; (try dsimp only); (try k_lift B'); (try k_fold)))
  k_steps
  all_goals (exact ret _ _ (some _) _ _ _ rfl rfl (by assumption) (by assumption) (fun p hp => Nat.ne_of_lt ((by assumption : ∀ q ∈ _, q.1 < _) p hp)))
theorem worth_a7 : WorthTell w (.leaf .a7) := by
  intro mean mg mb dp un gd cn cs a ccd cl outer A₀ base h₀ L m news s Q E v B F X N T hk ht hg hd hu ret
  cases ht with
  | @leaf _ t1 =>
  refine wpAny_call ?_
  (k_dflt (refine' code_def (binds := [(Str.ofString "tree", .str (Str.ofString "7") t1)]) ?k1 ?k2 ?k3 ?k4 ?k5 ?kA ?kF ?kK ?k6 ?k7 ?k8 ?k9 ?kB ?_ ?c2 ?c3 ?c4 ?c5; (case kA | kF => exact rfl); (case kK => first | exact rfl | assumption); (case k1 | k2 | k3 | k4 | k5 => k_asm); (case k6 | k7 => k_is); (case k8 => ktr_room); (case k9 => exact BindsTo.of_eq rfl); (case c5 => decide); (case kB => exact locs rfl); (case c2 | c3 | c4 => exact rfl); k_whole; intro g' L' h' FG' F' N' B' X' T'; (try dsimp only); (try k_lift B'); (try k_fold)))
  k_steps
  all_goals (exact ret _ _ (some _) _ _ _ rfl rfl (by assumption) (by assumption) (fun p hp => Nat.ne_of_lt ((by assumption : ∀ q ∈ _, q.1 < _) p hp)))
theorem worth_u5 : WorthTell w (.leaf .u5) := by
  intro mean mg mb dp un gd cn cs a ccd cl outer A₀ base h₀ L m news s Q E v B F X N T hk ht hg hd hu ret
  cases ht with
  | @leaf _ t1 =>
  refine wpAny_call ?_
  (k_dflt (refine' code_def (binds := [(Str.ofString "tree", .str (Str.ofString "5u") t1)]) ?k1 ?k2 ?k3 ?k4 ?k5 ?kA ?kF ?kK ?k6 ?k7 ?k8 ?k9 ?kB ?_ ?c2 ?c3 ?c4 ?c5; (case kA | kF => exact rfl); (case kK => first | exact rfl | assumption); (case k1 | k2 | k3 | k4 | k5 => k_asm); (case k6 | k7 => k_is); (case k8 => ktr_room); (case k9 => exact BindsTo.of_eq rfl); (case c5 => decide); (case kB => exact locs rfl); (case c2 | c3 | c4 => exact rfl); k_whole; intro g' L' h' FG' F' N' B' X' T'; (try dsimp only); (try k_lift B'); (try k_fold)))
  k_steps
  all_goals (exact ret _ _ (some _) _ _ _ rfl rfl (by assumption) (by assumption) (fun p hp => Nat.ne_of_lt ((by assumption : ∀ q ∈ _, q.1 < _) p hp)))
theorem worth_big : WorthTell w (.leaf .big) := by
  intro mean mg mb dp un gd cn cs a ccd cl outer A₀ base h₀ L m news s Q E v B F X N T hk ht hg hd hu ret
  cases ht with
  | @leaf _ t1 =>
  refine wpAny_call ?_
  (k_dflt (refine' code_def (binds := [(Str.ofString "tree", .str (Str.ofString "4294967295") t1)]) ?k1 ?k2 ?k3 ?k4 ?k5 ?kA ?kF ?kK ?k6 ?k7 ?k8 ?k9 ?kB ?_ ?c2 ?c3 ?c4 ?c5; (case kA | kF => exact rfl); (case kK => first | exact rfl | assumption); (case k1 | k2 | k3 | k4 | k5 => k_asm); (case k6 | k7 => k_is); (case k8 => ktr_room); (case k9 => exact BindsTo.of_eq rfl); (case c5 => decide); (case kB => exact locs rfl); (case c2 | c3 | c4 => exact rfl); k_whole; intro g' L' h' FG' F' N' B' X' T'; (try dsimp only); (try k_lift B'); (try k_fold)))
  k_steps
  all_goals (exact ret _ _ (some _) _ _ _ rfl rfl (by assumption) (by assumption) (fun p hp => Nat.ne_of_lt ((by assumption : ∀ q ∈ _, q.1 < _) p hp)))
theorem worth_mid : WorthTell w (.leaf .mid) := by
  intro mean mg mb dp un gd cn cs a ccd cl outer A₀ base h₀ L m news s Q E v B F X N T hk ht hg hd hu ret
  cases ht with
  | @leaf _ t1 =>
  refine wpAny_call ?_
  (k_dflt (refine' code_def (binds := [(Str.ofString "tree", .str (Str.ofString "2147483647") t1)]) ?k1 ?k2 ?k3 ?k4 ?k5 ?kA ?kF ?kK ?k6 ?k7 ?k8 ?k9 ?kB ?_ ?c2 ?c3 ?c4 ?c5; (case kA | kF => exact rfl); (case kK => first | exact rfl | assumption); (case k1 | k2 | k3 | k4 | k5 => k_asm); (case k6 | k7 => k_is); (case k8 => ktr_room); (case k9 => exact BindsTo.of_eq rfl); (case c5 => decide); (case kB => exact locs rfl); (case c2 | c3 | c4 => exact rfl); k_whole; intro g' L' h' FG' F' N' B' X' T'; (try dsimp only); (try k_lift B'); (try k_fold)))
  k_steps
  all_goals (exact ret _ _ (some _) _ _ _ rfl rfl (by assumption) (by assumption) (fun p hp => Nat.ne_of_lt ((by assumption : ∀ q ∈ _, q.1 < _) p hp)))
theorem worth_hex : WorthTell w (.leaf .hex) := by
  intro mean mg mb dp un gd cn cs a ccd cl outer A₀ base h₀ L m news s Q E v B F X N T hk ht hg hd hu ret
  cases ht with
  | @leaf _ t1 =>
  refine wpAny_call ?_
  (k_dflt (refine' code_def (binds := [(Str.ofString "tree", .str (Str.ofString "0x80000000") t1)]) ?k1 ?k2 ?k3 ?k4 ?k5 ?kA ?kF ?kK ?k6 ?k7 ?k8 ?k9 ?kB ?_ ?c2 ?c3 ?c4 ?c5; (case kA | kF => exact rfl); (case kK => first | exact rfl | assumption); (case k1 | k2 | k3 | k4 | k5 => k_asm); (case k6 | k7 => k_is); (case k8 => ktr_room); (case k9 => exact BindsTo.of_eq rfl); (case c5 => decide); (case kB => exact locs rfl); (case c2 | c3 | c4 => exact rfl); k_whole; intro g' L' h' FG' F' N' B' X' T'; (try dsimp only); (try k_lift B'); (try k_fold)))
  k_steps
  all_goals (exact ret _ _ (some _) _ _ _ rfl rfl (by assumption) (by assumption) (fun p hp => Nat.ne_of_lt ((by assumption : ∀ q ∈ _, q.1 < _) p hp)))
theorem worth_u0 : WorthTell w (.leaf .u0) := by
  intro mean mg mb dp un gd cn cs a ccd cl outer A₀ base h₀ L m news s Q E v B F X N T hk ht hg hd hu ret
  cases ht with
  | @leaf _ t1 =>
  refine wpAny_call ?_
  (k_dflt (refine' code_def (binds := [(Str.ofString "tree", .str (Str.ofString "0u") t1)]) ?k1 ?k2 ?k3 ?k4 ?k5 ?kA ?kF ?kK ?k6 ?k7 ?k8 ?k9 ?kB ?_ ?c2 ?c3 ?c4 ?c5; (case kA | kF => exact rfl); (case kK => first | exact rfl | assumption); (case k1 | k2 | k3 | k4 | k5 => k_asm); (case k6 | k7 => k_is); (case k8 => ktr_room); (case k9 => exact BindsTo.of_eq rfl); (case c5 => decide); (case kB => exact locs rfl); (case c2 | c3 | c4 => exact rfl); k_whole; intro g' L' h' FG' F' N' B' X' T'; (try dsimp only); (try k_lift B'); (try k_fold)))
  k_steps
  all_goals (exact ret _ _ (some _) _ _ _ rfl rfl (by assumption) (by assumption) (fun p hp => Nat.ne_of_lt ((by assumption : ∀ q ∈ _, q.1 < _) p hp)))
theorem worth_u1 : WorthTell w (.leaf .u1) := by
  intro mean mg mb dp un gd cn cs a ccd cl outer A₀ base h₀ L m news s Q E v B F X N T hk ht hg hd hu ret
  cases ht with
  | @leaf _ t1 =>
  refine wpAny_call ?_
  (k_dflt (refine' code_def (binds := [(Str.ofString "tree", .str (Str.ofString "1u") t1)]) ?k1 ?k2 ?k3 ?k4 ?k5 ?kA ?kF ?kK ?k6 ?k7 ?k8 ?k9 ?kB ?_ ?c2 ?c3 ?c4 ?c5; (case kA | kF => exact rfl); (case kK => first | exact rfl | assumption); (case k1 | k2 | k3 | k4 | k5 => k_asm); (case k6 | k7 => k_is); (case k8 => ktr_room); (case k9 => exact BindsTo.of_eq rfl); (case c5 => decide); (case kB => exact locs rfl); (case c2 | c3 | c4 => exact rfl); k_whole; intro g' L' h' FG' F' N' B' X' T'; (try dsimp only); (try k_lift B'); (try k_fold)))
  k_steps
  all_goals (exact ret _ _ (some _) _ _ _ rfl rfl (by assumption) (by assumption) (fun p hp => Nat.ne_of_lt ((by assumption : ∀ q ∈ _, q.1 < _) p hp)))
theorem worth_a31 : WorthTell w (.leaf .a31) := by
  intro mean mg mb dp un gd cn cs a ccd cl outer A₀ base h₀ L m news s Q E v B F X N T hk ht hg hd hu ret
  cases ht with
  | @leaf _ t1 =>
  refine wpAny_call ?_
  (k_dflt (refine' code_def (binds := [(Str.ofString "tree", .str (Str.ofString "31") t1)]) ?k1 ?k2 ?k3 ?k4 ?k5 ?kA ?kF ?kK ?k6 ?k7 ?k8 ?k9 ?kB ?_ ?c2 ?c3 ?c4 ?c5; (case kA | kF => exact rfl); (case kK => first | exact rfl | assumption); (case k1 | k2 | k3 | k4 | k5 => k_asm); (case k6 | k7 => k_is); (case k8 => ktr_room); (case k9 => exact BindsTo.of_eq rfl); (case c5 => decide); (case kB => exact locs rfl); (case c2 | c3 | c4 => exact rfl); k_whole; intro g' L' h' FG' F' N' B' X' T'; (try dsimp only); (try k_lift B'); (try k_fold)))
  k_steps
  all_goals (exact ret _ _ (some _) _ _ _ rfl rfl (by assumption) (by assumption) (fun p hp => Nat.ne_of_lt ((by assumption : ∀ q ∈ _, q.1 < _) p hp)))
theorem worth_leaf : ∀ k : Num, WorthTell w (.leaf k)
  | .a0 => worth_a0
  | .a1 => worth_a1
  | .a2 => worth_a2
  | .a3 => worth_a3
  | .a7 => worth_a7
  | .u5 => worth_u5
  | .big => worth_big
  | .mid => worth_mid
  | .hex => worth_hex
  | .u0 => worth_u0
  | .u1 => worth_u1
  | .a31 => worth_a31
end
end
end
section
open PySem PySem.W PyProof.Rows PySem.Calls PySem.Spec
section
local macro_rules | `(tactic| walk_at "eval Call") => `(tactic| ((with_reducible show wpAny _ _ (eval (Expr.Call (Expr.Name _ _) _ [] _) _) _ _ _); k_dflt (refine Call_ ?_)))
local macro_rules | `(tactic| ktr_rel) => `(tactic| first | assumption | exact altsub (by assumption) (by intro p hp; simp only [List.mem_cons, hp, or_true, true_or]) | exact allLt_of (by assumption) | exact And.right (by assumption) | exact And.right (And.right (by assumption)) | exact And.right (And.right (And.right (by assumption))) | exact And.right (And.right (And.right (And.right (by assumption)))) | exact rr5 (by assumption) | exact rr5 (And.right (by assumption)) | exact rr5 (And.right (And.right (by assumption))) | exact rr5 (And.right (And.right (And.right (by assumption)))) | exact rr5 (And.right (And.right (And.right (And.right (by assumption))))) | exact rr5 (rr5 (by assumption)) | exact rr5 (rr5 (And.right (by assumption))) | exact rr5 (rr5 (And.right (And.right (by assumption)))) | exact rr5 (rr5 (And.right (And.right (And.right (by assumption))))) | exact rr5 (rr5 (And.right (And.right (And.right (And.right (by assumption)))))) | exact rr5 (rr5 (rr5 (by assumption))) | exact rr5 (rr5 (rr5 (And.right (by assumption)))) | exact rr5 (rr5 (rr5 (And.right (And.right (by assumption))))) | exact rr5 (rr5 (rr5 (And.right (And.right (And.right (by assumption)))))) | exact rr5 (rr5 (rr5 (And.right (And.right (And.right (And.right (by assumption))))))) | exact rr5 (rr5 (rr5 (rr5 (by assumption)))) | exact rr5 (rr5 (rr5 (rr5 (And.right (by assumption))))) | exact rr5 (rr5 (rr5 (rr5 (And.right (And.right (by assumption)))))) | exact rr5 (rr5 (rr5 (rr5 (And.right (And.right (And.right (by assumption))))))))
local macro_rules | `(tactic| walk_at "exec Assign cons ListComp") => `(tactic| (k_dflt (refine Assign_ListComp_T (F₀ := by k_asm) (by rfl) (by with_unfolding_all rfl) (by rfl) (by decide) (by rfl) (by decide) (by rfl) (by rfl) (by rfl) ?_ (by intro _; rfl))))
local macro_rules | `(tactic| walk_at "subscriptTail") => `(tactic| ((with_reducible show wpAny _ _ (subscriptTail _ (PySem.Expr.Slice _ _ _ _) (Value.ref _) (Value.ref _)) _ _ _); k_dflt (refine slice_tuple_from (a := 1) (by k_asm) (by k_asm) (News.isTup (by k_asm) (by k_mem)) (by decide) ?_ ?_)))
local macro_rules | `(tactic| walk_at "call type:int") => `(tactic| ((with_reducible show wpAny _ _ (call (Value.type "int") [Value.str _ _, Value.int _ _]) _ _ _); (with_reducible first | refine call_int_base (gj_0 _ _) ?_ | refine call_int_base (gj_1 _ _) ?_ | refine call_int_base (gj_2 _ _) ?_ | refine call_int_base (gj_3 _ _) ?_ | refine call_int_base (gj_7 _ _) ?_ | refine call_int_base (gj_5 _ _) ?_ | refine call_int_base (gj_4294967295 _ _) ?_ | refine call_int_base (gj_2147483647 _ _) ?_ | refine call_int_base (gj_0x80000000 _ _) ?_ | refine call_int_base (gj_31 _ _) ?_); (try dsimp only)))
local macro_rules | `(tactic| walk_at "subscriptTail") => `(tactic| ((with_reducible show wpAny _ _ (subscriptTail _ (PySem.Expr.Slice _ _ _ _) (Value.ref 298) (Value.ref _)) _ _ _); k_dflt (refine slice_tuple_from (a := 1) (by k_asm) (by k_asm) (tup298 (Frag.In.keeps (by k_asm) (Fr.keep (by k_asm)))) (by decide) ?_ ?_)))
local macro_rules | `(tactic| walk_at "SrcTup") => `(tactic| (k_dflt (refine ⟨_, _, _, rfl, rfl, by k_asm, by k_asm, .head _, Nat.le_of_ble_eq_true rfl, fun gH => ?_⟩)))
local macro_rules | `(tactic| walk_at "call ref") => `(tactic| ((k_dflt (show wpAny _ _ (call (Value.ref 331) [Value.int _ _, Value.bool _]) _ _ _)); k_dflt (refine' ledC _ _ _ ?k1 ?k2 ?k3 ?k4 ?k5 ?kK  ?kd ?ku ?_; (case k1 | k2 | k3 | k4 | k5 => k_asm); (case kK => first | exact rfl | assumption);  (case kd => ktr_room); (case ku => ktr_units); k_whole; intro l' t' y' h' tk' hy' F' N' hf'); (subst hy'); (try dsimp only); (try k_fold)))
local macro_rules | `(tactic| walk_at "call ref") => `(tactic| ((k_dflt (show wpAny _ _ (call (Value.ref 338) [Value.str (Bop.txt _) _, Value.ref _, Value.ref _]) _ _ _)); k_dflt (refine' twoL _ _ _ _ _ _ _ _ _ _ ?k1 ?k2 ?k3 ?k4 ?k5 ?kK ?m1 ?m2 ?ok ?kd ?ku ?_; (case k1 | k2 | k3 | k4 | k5 => k_asm); (case kK => first | exact rfl | assumption); (case m1 => k_mem); (case m2 => k_mem); (case ok => assumption); (case kd => ktr_room); (case ku => ktr_units); k_whole; intro l' t' x' u' h' tk' hx' hu' F' N' hf'); (try dsimp only); (try k_fold)))
local macro_rules | `(tactic| walk_at "call ref") => `(tactic| ((k_dflt (show wpAny _ _ (call (Value.ref 338) [Value.str (Str.ofString "/") _, Value.ref _, Value.ref _]) _ _ _)); k_dflt (refine' twoL Bop.div _ _ _ _ _ _ _ _ _ ?k1 ?k2 ?k3 ?k4 ?k5 ?kK ?m1 ?m2 ?ok ?kd ?ku ?_; (case k1 | k2 | k3 | k4 | k5 => k_asm); (case kK => first | exact rfl | assumption); (case m1 => k_mem); (case m2 => k_mem); (case ok => assumption); (case kd => ktr_room); (case ku => ktr_units); k_whole; intro l' t' x' u' h' tk' hx' hu' F' N' hf'); (try dsimp only); (try k_fold)))
local macro_rules | `(tactic| walk_at "eval BoolOp") => `(tactic| ((with_reducible show wpAny _ _ (eval (Expr.BoolOp BoolOp.Or [Expr.Subscript _ _ _, Expr.Subscript _ _ _] _) _) _ _ _); refine or_uns (by assumption) ?_))
local macro_rules | `(tactic| walk_at "And") => `(tactic| first | k_dflt (exact ⟨rfl, ⟨_, rfl⟩⟩) | (refine ⟨rfl, ?_, fun tk => ?_⟩ <;> (try dsimp only)))
section
variable {w : World} {mean : ExcName → Option Value} {mg mb : Str → Option Value} {dp un : Nat} {gd : Option (List Code)} {cn : Str} {cs : Scope} {a : Addr} {ccd : Value} {cl : List (Str × Addr)} {outer : List Env} {A₀ : Around} {base h₀ : Heap} {L : Addr} {m : Str → Option Value} {news : List (Addr × Obj)} {s : Shared} {Q E : Value → Shared → Prop}
theorem worth_lack (B : Below A₀ base outer h₀) (F : Fr h₀ L s.heap m) (X : (KQ w.params).In h₀) (N : News h₀ L s.heap news) (T : Top viewQ looseQ mean mg mb h₀) (hk : cs.kind = .function) (hd : dp + 40 < recursionLimit) (hu : un + 500 < cLine) (ret : PRetN h₀ L m news s Q lackT.lawW.1 lackT.lawW.2) :
    wpAny (MQ w) (ktrTop dp un gd cn cs L a ccd cl outer) (call (.ref 343) [.ref 298]) Q E s := by
  have W1 : WorthTell w (.leaf .a1) := worth_leaf .a1
  have W2 : WorthTell w (.leaf .a0) := worth_leaf .a0
  have ok : PairOk .div (Tr.leaf .a1).lawW.2 (Tr.leaf .a0).lawW.1 (Tr.leaf .a0).lawW.2 := pair_ok (a := .leaf .a1) (b := .leaf .a0) ⟨trivial, trivial, fun h => absurd h (by decide)⟩
  refine wpAny_call ?_
  (k_dflt (refine' code_def (binds := [(Str.ofString "tree", .ref 298)]) ?k1 ?k2 ?k3 ?k4 ?k5 ?kA ?kF ?kK ?k6 ?k7 ?k8 ?k9 ?kB ?_ ?c2 ?c3 ?c4 ?c5; (case kA | kF => exact rfl); (case kK => first | exact rfl | assumption); (case k1 | k2 | k3 | k4 | k5 => k_asm); (case k6 | k7 => k_is); (case k8 => ktr_room); (case k9 => exact BindsTo.of_eq rfl); (case c5 => decide); (case kB => exact locs rfl); (case c2 | c3 | c4 => exact rfl); k_whole; intro g' L' h' FG' F' N' B' X' T'; (try dsimp only); (try k_lift B'); (try k_fold)))
  k_steps
  all_goals (refine worthStep W1 (by assumption) (by assumption) (by assumption) rfl (.head _) (.leaf .a1 _) trivial (by unfold Tr.deep; ktr_room) (by unfold Tr.deep; ktr_units) (fun l1 t1 fr1 => ?_))
  all_goals (refine worthStep W2 (by assumption) (by assumption) (by assumption) rfl (.tail _ (.head _)) (.leaf .a0 _) trivial (by unfold Tr.deep; ktr_room) (by unfold Tr.deep; ktr_units) (fun l2 t2 fr2 => ?_))
  all_goals k_steps
  all_goals (first
    | (refine ret _ 0 none _ _ _ ?_ ?_ (by assumption) (by first | assumption | (exact vdrop1 (by assumption) (show ∀ r ∈ news, _ from by intro p hp; simp only [List.mem_cons, hp, or_true, true_or]))) (fun p hp => by first | exact Nat.ne_of_lt (ktn_ltOf (by ktr_rel) p hp) | exact (by assumption : ∀ q ∈ _, q.1 ≠ _) p (by simp only [List.mem_cons, hp, or_true])) <;> (assumption))
    | (refine ret _ _ (some _) _ _ _ ?_ ?_ (by assumption) (by first | assumption | (exact vdrop1 (by assumption) (show ∀ r ∈ news, _ from by intro p hp; simp only [List.mem_cons, hp, or_true, true_or]))) (fun p hp => by first | exact Nat.ne_of_lt (ktn_ltOf (by ktr_rel) p hp) | exact (by assumption : ∀ q ∈ _, q.1 ≠ _) p (by simp only [List.mem_cons, hp, or_true])) <;> (assumption))
    | (refine ret _ _ _ _ _ _ ?_ ?_ (by assumption) (by first | assumption | (exact vdrop1 (by assumption) (show ∀ r ∈ news, _ from by intro p hp; simp only [List.mem_cons, hp, or_true, true_or]))) (fun p hp => by first | exact Nat.ne_of_lt (ktn_ltOf (by ktr_rel) p hp) | exact (by assumption : ∀ q ∈ _, q.1 ≠ _) p (by simp only [List.mem_cons, hp, or_true])) <;> (assumption)))

theorem worth_bin (o : Bop) (D1 D2 : Tr) (W1 : WorthTell w D1) (W2 : WorthTell w D2) : WorthTell w (.bin o D1 D2) := by
  intro mean mg mb dp un gd cn cs a ccd cl outer A₀ base h₀ L m news s Q E v B F X N T hk ht hg hd hu ret
  have ok : PairOk o D1.lawW.2 D2.lawW.1 D2.lawW.2 := pair_ok hg
  obtain ⟨hg1, hg2, _⟩ := hg
  cases ht with
  | lack => exact worth_lack B F X N T hk (by simp only [Tr.deep] at hd; omega) (by simp only [Tr.deep] at hu; omega) ret
  | @bin D' _ t1 v1 v2 _ _ hm ht1 ht2 =>
  unfold Tr.deep at hd hu
  unfold Tr.lawW at ret
  have N2 := News.dup N hm
  refine wpAny_call ?_
  (k_dflt (refine' code_def (binds := [(Str.ofString "tree", .ref D')]) ?k1 ?k2 ?k3 ?k4 ?k5 ?kA ?kF ?kK ?k6 ?k7 ?k8 ?k9 ?kB ?_ ?c2 ?c3 ?c4 ?c5; (case kA | kF => exact rfl); (case kK => first | exact rfl | assumption); (case k1 | k2 | k3 | k4 | k5 => k_asm); (case k6 | k7 => k_is); (case k8 => ktr_room); (case k9 => exact BindsTo.of_eq rfl); (case c5 => decide); (case kB => exact locs rfl); (case c2 | c3 | c4 => exact rfl); k_whole; intro g' L' h' FG' F' N' B' X' T'; (try dsimp only); (try k_lift B'); (try k_fold)))
  k_steps
  all_goals (refine worthStep W1 (by assumption) (by assumption) (by assumption) rfl (.head _) (ht1.mono (fun p hp => .tail _ (.tail _ hp))) hg1 (by ktr_room) (by ktr_units) (fun l1 t1 fr1 => ?_))
  all_goals (refine worthStep W2 (by assumption) (by assumption) (by assumption) rfl (.tail _ (.head _)) (ht2.mono (fun p hp => .tail _ (.tail _ (.tail _ hp)))) hg2 (by ktr_room) (by ktr_units) (fun l2 t2 fr2 => ?_))
  all_goals k_steps
  all_goals (first
    | (refine ret _ 0 none _ _ _ ?_ ?_ (by assumption) (by first | assumption | (exact vdrop1 (by assumption) (show ∀ r ∈ news, _ from by intro p hp; simp only [List.mem_cons, hp, or_true, true_or]))) (fun p hp => by first | exact Nat.ne_of_lt (ktn_ltOf (by ktr_rel) p hp) | exact (by assumption : ∀ q ∈ _, q.1 ≠ _) p (by simp only [List.mem_cons, hp, or_true])) <;> (assumption))
    | (refine ret _ _ (some _) _ _ _ ?_ ?_ (by assumption) (by first | assumption | (exact vdrop1 (by assumption) (show ∀ r ∈ news, _ from by intro p hp; simp only [List.mem_cons, hp, or_true, true_or]))) (fun p hp => by first | exact Nat.ne_of_lt (ktn_ltOf (by ktr_rel) p hp) | exact (by assumption : ∀ q ∈ _, q.1 ≠ _) p (by simp only [List.mem_cons, hp, or_true])) <;> (assumption))
    | (refine ret _ _ _ _ _ _ ?_ ?_ (by assumption) (by first | assumption | (exact vdrop1 (by assumption) (show ∀ r ∈ news, _ from by intro p hp; simp only [List.mem_cons, hp, or_true, true_or]))) (fun p hp => by first | exact Nat.ne_of_lt (ktn_ltOf (by ktr_rel) p hp) | exact (by assumption : ∀ q ∈ _, q.1 ≠ _) p (by simp only [List.mem_cons, hp, or_true])) <;> (assumption)))
end
end
end
section
open PySem PySem.W PyProof.Rows PySem.Calls PySem.Spec
section
local macro_rules | `(tactic| walk_at "eval Call") => `(tactic| ((with_reducible show wpAny _ _ (eval (Expr.Call (Expr.Name _ _) _ [] _) _) _ _ _); k_dflt (refine Call_ ?_)))
local macro_rules | `(tactic| ktr_rel) => `(tactic| first | assumption | exact altsub (by assumption) (by intro p hp; simp only [List.mem_cons, hp, or_true, true_or]) | exact allLt_of (by assumption) | exact And.right (by assumption) | exact And.right (And.right (by assumption)) | exact And.right (And.right (And.right (by assumption))) | exact And.right (And.right (And.right (And.right (by assumption)))) | exact rr5 (by assumption) | exact rr5 (And.right (by assumption)) | exact rr5 (And.right (And.right (by assumption))) | exact rr5 (And.right (And.right (And.right (by assumption)))) | exact rr5 (And.right (And.right (And.right (And.right (by assumption))))) | exact rr5 (rr5 (by assumption)) | exact rr5 (rr5 (And.right (by assumption))) | exact rr5 (rr5 (And.right (And.right (by assumption)))) | exact rr5 (rr5 (And.right (And.right (And.right (by assumption))))) | exact rr5 (rr5 (And.right (And.right (And.right (And.right (by assumption)))))) | exact rr5 (rr5 (rr5 (by assumption))) | exact rr5 (rr5 (rr5 (And.right (by assumption)))) | exact rr5 (rr5 (rr5 (And.right (And.right (by assumption))))) | exact rr5 (rr5 (rr5 (And.right (And.right (And.right (by assumption)))))) | exact rr5 (rr5 (rr5 (And.right (And.right (And.right (And.right (by assumption))))))) | exact rr5 (rr5 (rr5 (rr5 (by assumption)))) | exact rr5 (rr5 (rr5 (rr5 (And.right (by assumption))))) | exact rr5 (rr5 (rr5 (rr5 (And.right (And.right (by assumption)))))) | exact rr5 (rr5 (rr5 (rr5 (And.right (And.right (And.right (by assumption))))))))
local macro_rules | `(tactic| walk_at "exec Assign cons ListComp") => `(tactic| (k_dflt (refine Assign_ListComp_T (F₀ := by k_asm) (by rfl) (by with_unfolding_all rfl) (by rfl) (by decide) (by rfl) (by decide) (by rfl) (by rfl) (by rfl) ?_ (by intro _; rfl))))
local macro_rules | `(tactic| walk_at "subscriptTail") => `(tactic| ((with_reducible show wpAny _ _ (subscriptTail _ (PySem.Expr.Slice _ _ _ _) (Value.ref _) (Value.ref _)) _ _ _); k_dflt (refine slice_tuple_from (a := 1) (by k_asm) (by k_asm) (News.isTup (by k_asm) (by k_mem)) (by decide) ?_ ?_)))
local macro_rules | `(tactic| walk_at "call type:int") => `(tactic| ((with_reducible show wpAny _ _ (call (Value.type "int") [Value.str _ _, Value.int _ _]) _ _ _); (with_reducible first | refine call_int_base (gj_0 _ _) ?_ | refine call_int_base (gj_1 _ _) ?_ | refine call_int_base (gj_2 _ _) ?_ | refine call_int_base (gj_3 _ _) ?_ | refine call_int_base (gj_7 _ _) ?_ | refine call_int_base (gj_5 _ _) ?_ | refine call_int_base (gj_4294967295 _ _) ?_ | refine call_int_base (gj_2147483647 _ _) ?_ | refine call_int_base (gj_0x80000000 _ _) ?_ | refine call_int_base (gj_31 _ _) ?_); (try dsimp only)))
local macro_rules | `(tactic| walk_at "subscriptTail") => `(tactic| ((with_reducible show wpAny _ _ (subscriptTail _ (PySem.Expr.Slice _ _ _ _) (Value.ref 298) (Value.ref _)) _ _ _); k_dflt (refine slice_tuple_from (a := 1) (by k_asm) (by k_asm) (tup298 (Frag.In.keeps (by k_asm) (Fr.keep (by k_asm)))) (by decide) ?_ ?_)))
local macro_rules | `(tactic| walk_at "SrcTup") => `(tactic| (k_dflt (refine ⟨_, _, _, rfl, rfl, by k_asm, by k_asm, .head _, Nat.le_of_ble_eq_true rfl, fun gH => ?_⟩)))
local macro_rules | `(tactic| walk_at "call ref") => `(tactic| ((k_dflt (show wpAny _ _ (call (Value.ref 331) [Value.int _ _, Value.bool _]) _ _ _)); k_dflt (refine' ledC _ _ _ ?k1 ?k2 ?k3 ?k4 ?k5 ?kK  ?kd ?ku ?_; (case k1 | k2 | k3 | k4 | k5 => k_asm); (case kK => first | exact rfl | assumption);  (case kd => ktr_room); (case ku => ktr_units); k_whole; intro l' t' y' h' tk' hy' F' N' hf'); (subst hy'); (try dsimp only); (try k_fold)))
local macro_rules | `(tactic| walk_at "call ref") => `(tactic| ((k_dflt (show wpAny _ _ (call (Value.ref 338) [Value.str (Bop.txt _) _, Value.ref _, Value.ref _]) _ _ _)); k_dflt (refine' twoL _ _ _ _ _ _ _ _ _ _ ?k1 ?k2 ?k3 ?k4 ?k5 ?kK ?m1 ?m2 ?ok ?kd ?ku ?_; (case k1 | k2 | k3 | k4 | k5 => k_asm); (case kK => first | exact rfl | assumption); (case m1 => k_mem); (case m2 => k_mem); (case ok => assumption); (case kd => ktr_room); (case ku => ktr_units); k_whole; intro l' t' x' u' h' tk' hx' hu' F' N' hf'); (try dsimp only); (try k_fold)))
local macro_rules | `(tactic| walk_at "call ref") => `(tactic| ((k_dflt (show wpAny _ _ (call (Value.ref 338) [Value.str (Str.ofString "/") _, Value.ref _, Value.ref _]) _ _ _)); k_dflt (refine' twoL Bop.div _ _ _ _ _ _ _ _ _ ?k1 ?k2 ?k3 ?k4 ?k5 ?kK ?m1 ?m2 ?ok ?kd ?ku ?_; (case k1 | k2 | k3 | k4 | k5 => k_asm); (case kK => first | exact rfl | assumption); (case m1 => k_mem); (case m2 => k_mem); (case ok => assumption); (case kd => ktr_room); (case ku => ktr_units); k_whole; intro l' t' x' u' h' tk' hx' hu' F' N' hf'); (try dsimp only); (try k_fold)))
local macro_rules | `(tactic| walk_at "eval BoolOp") => `(tactic| ((with_reducible show wpAny _ _ (eval (Expr.BoolOp BoolOp.Or [Expr.Subscript _ _ _, Expr.Subscript _ _ _] _) _) _ _ _); refine or_uns (by assumption) ?_))
local macro_rules | `(tactic| walk_at "And") => `(tactic| first | k_dflt (exact ⟨rfl, ⟨_, rfl⟩⟩) | (refine ⟨rfl, ?_, fun tk => ?_⟩ <;> (try dsimp only)))
section
variable {w : World} {mean : ExcName → Option Value} {mg mb : Str → Option Value} {dp un : Nat} {gd : Option (List Code)} {cn : Str} {cs : Scope} {a : Addr} {ccd : Value} {cl : List (Str × Addr)} {outer : List Env} {A₀ : Around} {base h₀ : Heap} {L : Addr} {m : Str → Option Value} {news : List (Addr × Obj)} {s : Shared} {Q E : Value → Shared → Prop}
theorem worth_un (o : Uop) (D1 : Tr) (W1 : WorthTell w D1) : WorthTell w (.un o D1) := by
  intro mean mg mb dp un gd cn cs a ccd cl outer A₀ base h₀ L m news s Q E v B F X N T hk ht hg hd hu ret
  cases ht with
  | @un D' _ t1 v1 _ hm ht1 =>
  unfold Tr.deep at hd hu
  unfold Tr.lawW at ret
  have hg1 : D1.Good := hg
  have N2 := News.dup N hm
  refine wpAny_call ?_
  (k_dflt (refine' code_def (binds := [(Str.ofString "tree", .ref D')]) ?k1 ?k2 ?k3 ?k4 ?k5 ?kA ?kF ?kK ?k6 ?k7 ?k8 ?k9 ?kB ?_ ?c2 ?c3 ?c4 ?c5; (case kA | kF => exact rfl); (case kK => first | exact rfl | assumption); (case k1 | k2 | k3 | k4 | k5 => k_asm); (case k6 | k7 => k_is); (case k8 => ktr_room); (case k9 => exact BindsTo.of_eq rfl); (case c5 => decide); (case kB => exact locs rfl); (case c2 | c3 | c4 => exact rfl); k_whole; intro g' L' h' FG' F' N' B' X' T'; (try dsimp only); (try k_lift B'); (try k_fold)))
  k_steps
  all_goals (refine worthStep W1 (by assumption) (by assumption) (by assumption) rfl (.head _) (ht1.mono (fun p hp => .tail _ (.tail _ hp))) hg1 (by ktr_room) (by ktr_units) (fun l1 t1 fr1 => ?_))
  all_goals (generalize D1.lawW = z at *)
  all_goals (obtain ⟨x, u⟩ := z)
  all_goals (cases x)
  all_goals (dsimp only [optV] at *)
  all_goals k_steps
  all_goals (first
    | (refine ret l1 t1 none _ _ _ ?_ ?_ (by assumption) (vdrop1 (News.tl (by assumption)) (show ∀ r ∈ news, _ from fun p hp => by simp only [List.mem_cons, hp, or_true])) (fun p hp => fr1 p (by simp only [List.mem_cons, hp, or_true])) <;> (first | rfl | (cases o <;> first | rfl | (exfalso; simp_all (decide := true); done) | (simp_all (decide := true) [lawOne]; done)); skip))
    | (refine ret l1 t1 (some _) _ _ _ ?_ ?_ (by assumption) (vdrop1 (News.tl (by assumption)) (show ∀ r ∈ news, _ from fun p hp => by simp only [List.mem_cons, hp, or_true])) (fun p hp => fr1 p (by simp only [List.mem_cons, hp, or_true])) <;> (first | rfl | (cases o <;> first | rfl | (exfalso; simp_all (decide := true); done) | (simp_all (decide := true) [lawOne]; done)); skip))
    | (refine ret _ 0 none _ _ _ ?_ ?_ (by assumption) (by first | assumption | (exact vdrop1 (by assumption) (show ∀ r ∈ news, _ from by intro p hp; simp only [List.mem_cons, hp, or_true, true_or]))) (fun p hp => by first | exact Nat.ne_of_lt (ktn_ltOf (by ktr_rel) p hp) | exact (by assumption : ∀ q ∈ _, q.1 ≠ _) p (by simp only [List.mem_cons, hp, or_true])) <;> (first | rfl | (cases o <;> first | rfl | (exfalso; simp_all (decide := true); done) | (simp_all (decide := true) [lawOne]; done)); skip))
    | (refine ret _ _ (some _) _ _ _ ?_ ?_ (by assumption) (by first | assumption | (exact vdrop1 (by assumption) (show ∀ r ∈ news, _ from by intro p hp; simp only [List.mem_cons, hp, or_true, true_or]))) (fun p hp => by first | exact Nat.ne_of_lt (ktn_ltOf (by ktr_rel) p hp) | exact (by assumption : ∀ q ∈ _, q.1 ≠ _) p (by simp only [List.mem_cons, hp, or_true])) <;> (first | rfl | (cases o <;> first | rfl | (exfalso; simp_all (decide := true); done) | (simp_all (decide := true) [lawOne]; done)); skip))
    | (refine ret _ _ _ _ _ _ ?_ ?_ (by assumption) (by first | assumption | (exact vdrop1 (by assumption) (show ∀ r ∈ news, _ from by intro p hp; simp only [List.mem_cons, hp, or_true, true_or]))) (fun p hp => by first | exact Nat.ne_of_lt (ktn_ltOf (by ktr_rel) p hp) | exact (by assumption : ∀ q ∈ _, q.1 ≠ _) p (by simp only [List.mem_cons, hp, or_true])) <;> (first | rfl | (cases o <;> first | rfl | (exfalso; simp_all (decide := true); done) | (simp_all (decide := true) [lawOne]; done)); skip)))
end
end
end
section
open PySem PySem.W PyProof.Rows PySem.Calls PySem.Spec
section
local macro_rules | `(tactic| walk_at "eval Call") => `(tactic| ((with_reducible show wpAny _ _ (eval (Expr.Call (Expr.Name _ _) _ [] _) _) _ _ _); k_dflt (refine Call_ ?_)))
local macro_rules | `(tactic| ktr_rel) => `(tactic| first | assumption | exact altsub (by assumption) (by intro p hp; simp only [List.mem_cons, hp, or_true, true_or]) | exact allLt_of (by assumption) | exact And.right (by assumption) | exact And.right (And.right (by assumption)) | exact And.right (And.right (And.right (by assumption))) | exact And.right (And.right (And.right (And.right (by assumption)))) | exact rr5 (by assumption) | exact rr5 (And.right (by assumption)) | exact rr5 (And.right (And.right (by assumption))) | exact rr5 (And.right (And.right (And.right (by assumption)))) | exact rr5 (And.right (And.right (And.right (And.right (by assumption))))) | exact rr5 (rr5 (by assumption)) | exact rr5 (rr5 (And.right (by assumption))) | exact rr5 (rr5 (And.right (And.right (by assumption)))) | exact rr5 (rr5 (And.right (And.right (And.right (by assumption))))) | exact rr5 (rr5 (And.right (And.right (And.right (And.right (by assumption)))))) | exact rr5 (rr5 (rr5 (by assumption))) | exact rr5 (rr5 (rr5 (And.right (by assumption)))) | exact rr5 (rr5 (rr5 (And.right (And.right (by assumption))))) | exact rr5 (rr5 (rr5 (And.right (And.right (And.right (by assumption)))))) | exact rr5 (rr5 (rr5 (And.right (And.right (And.right (And.right (by assumption))))))) | exact rr5 (rr5 (rr5 (rr5 (by assumption)))) | exact rr5 (rr5 (rr5 (rr5 (And.right (by assumption))))) | exact rr5 (rr5 (rr5 (rr5 (And.right (And.right (by assumption)))))) | exact rr5 (rr5 (rr5 (rr5 (And.right (And.right (And.right (by assumption))))))))
local macro_rules | `(tactic| walk_at "exec Assign cons ListComp") => `(tactic| (k_dflt (refine Assign_ListComp_T (F₀ := by k_asm) (by rfl) (by with_unfolding_all rfl) (by rfl) (by decide) (by rfl) (by decide) (by rfl) (by rfl) (by rfl) ?_ (by intro _; rfl))))
local macro_rules | `(tactic| walk_at "subscriptTail") => `(tactic| ((with_reducible show wpAny _ _ (subscriptTail _ (PySem.Expr.Slice _ _ _ _) (Value.ref _) (Value.ref _)) _ _ _); k_dflt (refine slice_tuple_from (a := 1) (by k_asm) (by k_asm) (News.isTup (by k_asm) (by k_mem)) (by decide) ?_ ?_)))
local macro_rules | `(tactic| walk_at "call type:int") => `(tactic| ((with_reducible show wpAny _ _ (call (Value.type "int") [Value.str _ _, Value.int _ _]) _ _ _); (with_reducible first | refine call_int_base (gj_0 _ _) ?_ | refine call_int_base (gj_1 _ _) ?_ | refine call_int_base (gj_2 _ _) ?_ | refine call_int_base (gj_3 _ _) ?_ | refine call_int_base (gj_7 _ _) ?_ | refine call_int_base (gj_5 _ _) ?_ | refine call_int_base (gj_4294967295 _ _) ?_ | refine call_int_base (gj_2147483647 _ _) ?_ | refine call_int_base (gj_0x80000000 _ _) ?_ | refine call_int_base (gj_31 _ _) ?_); (try dsimp only)))
local macro_rules | `(tactic| walk_at "subscriptTail") => `(tactic| ((with_reducible show wpAny _ _ (subscriptTail _ (PySem.Expr.Slice _ _ _ _) (Value.ref 298) (Value.ref _)) _ _ _); k_dflt (refine slice_tuple_from (a := 1) (by k_asm) (by k_asm) (tup298 (Frag.In.keeps (by k_asm) (Fr.keep (by k_asm)))) (by decide) ?_ ?_)))
local macro_rules | `(tactic| walk_at "SrcTup") => `(tactic| (k_dflt (refine ⟨_, _, _, rfl, rfl, by k_asm, by k_asm, .head _, Nat.le_of_ble_eq_true rfl, fun gH => ?_⟩)))
local macro_rules | `(tactic| walk_at "call ref") => `(tactic| ((k_dflt (show wpAny _ _ (call (Value.ref 331) [Value.int _ _, Value.bool _]) _ _ _)); k_dflt (refine' ledC _ _ _ ?k1 ?k2 ?k3 ?k4 ?k5 ?kK  ?kd ?ku ?_; (case k1 | k2 | k3 | k4 | k5 => k_asm); (case kK => first | exact rfl | assumption);  (case kd => ktr_room); (case ku => ktr_units); k_whole; intro l' t' y' h' tk' hy' F' N' hf'); (subst hy'); (try dsimp only); (try k_fold)))
local macro_rules | `(tactic| walk_at "call ref") => `(tactic| ((k_dflt (show wpAny _ _ (call (Value.ref 338) [Value.str (Bop.txt _) _, Value.ref _, Value.ref _]) _ _ _)); k_dflt (refine' twoL _ _ _ _ _ _ _ _ _ _ ?k1 ?k2 ?k3 ?k4 ?k5 ?kK ?m1 ?m2 ?ok ?kd ?ku ?_; (case k1 | k2 | k3 | k4 | k5 => k_asm); (case kK => first | exact rfl | assumption); (case m1 => k_mem); (case m2 => k_mem); (case ok => assumption); (case kd => ktr_room); (case ku => ktr_units); k_whole; intro l' t' x' u' h' tk' hx' hu' F' N' hf'); (try dsimp only); (try k_fold)))
local macro_rules | `(tactic| walk_at "call ref") => `(tactic| ((k_dflt (show wpAny _ _ (call (Value.ref 338) [Value.str (Str.ofString "/") _, Value.ref _, Value.ref _]) _ _ _)); k_dflt (refine' twoL Bop.div _ _ _ _ _ _ _ _ _ ?k1 ?k2 ?k3 ?k4 ?k5 ?kK ?m1 ?m2 ?ok ?kd ?ku ?_; (case k1 | k2 | k3 | k4 | k5 => k_asm); (case kK => first | exact rfl | assumption); (case m1 => k_mem); (case m2 => k_mem); (case ok => assumption); (case kd => ktr_room); (case ku => ktr_units); k_whole; intro l' t' x' u' h' tk' hx' hu' F' N' hf'); (try dsimp only); (try k_fold)))
local macro_rules | `(tactic| walk_at "eval BoolOp") => `(tactic| ((with_reducible show wpAny _ _ (eval (Expr.BoolOp BoolOp.Or [Expr.Subscript _ _ _, Expr.Subscript _ _ _] _) _) _ _ _); refine or_uns (by assumption) ?_))
local macro_rules | `(tactic| walk_at "And") => `(tactic| first | k_dflt (exact ⟨rfl, ⟨_, rfl⟩⟩) | (refine ⟨rfl, ?_, fun tk => ?_⟩ <;> (try dsimp only)))
section
variable {w : World} {mean : ExcName → Option Value} {mg mb : Str → Option Value} {dp un : Nat} {gd : Option (List Code)} {cn : Str} {cs : Scope} {a : Addr} {ccd : Value} {cl : List (Str × Addr)} {outer : List Env} {A₀ : Around} {base h₀ : Heap} {L : Addr} {m : Str → Option Value} {news : List (Addr × Obj)} {s : Shared} {Q E : Value → Shared → Prop}
theorem worth_cond_nxx (D1 D2 D3 : Tr) (x2 : Option Int) (x3 : Option Int) (u1 u2 u3 : Bool) (W1 : WorthTo w D1 none u1) (W2 : WorthTo w D2 x2 u2) (W3 : WorthTo w D3 x3 u3) : WorthTo w (.cond D1 D2 D3) (lawCond (none, u1) (x2, u2) (x3, u3)).1 (u2 || u3) := by
  intro mean mg mb dp un gd cn cs a ccd cl outer A₀ base h₀ L m news s Q E v B F X N T hk ht hg hd hu ret
  obtain ⟨hg1, hg2, hg3⟩ := hg
  cases ht with
  | @cond D' t1 v1 v2 v3 _ _ _ hm ht1 ht2 ht3 =>
  unfold Tr.deep at hd hu
  have hJ : JoinOr u2 u3 u2 u3 := ⟨⟩
  have N2 := News.dup N hm
  refine wpAny_call ?_
  (k_dflt (refine' code_def (binds := [(Str.ofString "tree", .ref D')]) ?k1 ?k2 ?k3 ?k4 ?k5 ?kA ?kF ?kK ?k6 ?k7 ?k8 ?k9 ?kB ?_ ?c2 ?c3 ?c4 ?c5; (case kA | kF => exact rfl); (case kK => first | exact rfl | assumption); (case k1 | k2 | k3 | k4 | k5 => k_asm); (case k6 | k7 => k_is); (case k8 => ktr_room); (case k9 => exact BindsTo.of_eq rfl); (case c5 => decide); (case kB => exact locs rfl); (case c2 | c3 | c4 => exact rfl); k_whole; intro g' L' h' FG' F' N' B' X' T'; (try dsimp only); (try k_lift B'); (try k_fold)))
  k_steps
  all_goals (refine worthStep W1 (by assumption) (by assumption) (by assumption) rfl (.head _) (ht1.mono (fun p hp => .tail _ (.tail _ hp))) hg1 (by ktr_room) (by ktr_units) (fun l1 t1 fr1 => ?_))
  all_goals (refine worthStep W2 (by assumption) (by assumption) (by assumption) rfl (.tail _ (.head _)) (ht2.mono (fun p hp => .tail _ (.tail _ (.tail _ hp)))) hg2 (by ktr_room) (by ktr_units) (fun l2 t2 fr2 => ?_))
  all_goals (refine worthStep W3 (by assumption) (by assumption) (by assumption) rfl (.tail _ (.tail _ (.head _))) (ht3.mono (fun p hp => .tail _ (.tail _ (.tail _ (.tail _ hp))))) hg3 (by ktr_room) (by ktr_units) (fun l3 t3 fr3 => ?_))
  all_goals (dsimp only [optV])
  all_goals k_steps
  all_goals (first
    | (refine ret _ 0 none _ _ _ ?_ ?_ (by assumption) (by first | assumption | (exact vdrop1 (by assumption) (show ∀ r ∈ news, _ from by intro p hp; simp only [List.mem_cons, hp, or_true, true_or]))) (fun p hp => by first | exact Nat.ne_of_lt (ktn_ltOf (by ktr_rel) p hp) | exact (by assumption : ∀ q ∈ _, q.1 ≠ _) p (by simp only [List.mem_cons, hp, or_true])) <;> (first | rfl | simp_all [lawCond]))
    | (refine ret _ _ (some _) _ _ _ ?_ ?_ (by assumption) (by first | assumption | (exact vdrop1 (by assumption) (show ∀ r ∈ news, _ from by intro p hp; simp only [List.mem_cons, hp, or_true, true_or]))) (fun p hp => by first | exact Nat.ne_of_lt (ktn_ltOf (by ktr_rel) p hp) | exact (by assumption : ∀ q ∈ _, q.1 ≠ _) p (by simp only [List.mem_cons, hp, or_true])) <;> (first | rfl | simp_all [lawCond]))
    | (refine ret _ _ _ _ _ _ ?_ ?_ (by assumption) (by first | assumption | (exact vdrop1 (by assumption) (show ∀ r ∈ news, _ from by intro p hp; simp only [List.mem_cons, hp, or_true, true_or]))) (fun p hp => by first | exact Nat.ne_of_lt (ktn_ltOf (by ktr_rel) p hp) | exact (by assumption : ∀ q ∈ _, q.1 ≠ _) p (by simp only [List.mem_cons, hp, or_true])) <;> (first | rfl | simp_all [lawCond])))
theorem worth_cond_snn (D1 D2 D3 : Tr) (a1 : Int) (u1 u2 u3 : Bool) (W1 : WorthTo w D1 (some a1) u1) (W2 : WorthTo w D2 none u2) (W3 : WorthTo w D3 none u3) : WorthTo w (.cond D1 D2 D3) (lawCond ((some a1), u1) (none, u2) (none, u3)).1 (u2 || u3) := by
  intro mean mg mb dp un gd cn cs a ccd cl outer A₀ base h₀ L m news s Q E v B F X N T hk ht hg hd hu ret
  obtain ⟨hg1, hg2, hg3⟩ := hg
  cases ht with
  | @cond D' t1 v1 v2 v3 _ _ _ hm ht1 ht2 ht3 =>
  unfold Tr.deep at hd hu
  have hJ : JoinOr u2 u3 u2 u3 := ⟨⟩
  have N2 := News.dup N hm
  refine wpAny_call ?_
  (k_dflt (refine' code_def (binds := [(Str.ofString "tree", .ref D')]) ?k1 ?k2 ?k3 ?k4 ?k5 ?kA ?kF ?kK ?k6 ?k7 ?k8 ?k9 ?kB ?_ ?c2 ?c3 ?c4 ?c5; (case kA | kF => exact rfl); (case kK => first | exact rfl | assumption); (case k1 | k2 | k3 | k4 | k5 => k_asm); (case k6 | k7 => k_is); (case k8 => ktr_room); (case k9 => exact BindsTo.of_eq rfl); (case c5 => decide); (case kB => exact locs rfl); (case c2 | c3 | c4 => exact rfl); k_whole; intro g' L' h' FG' F' N' B' X' T'; (try dsimp only); (try k_lift B'); (try k_fold)))
  k_steps
  all_goals (refine worthStep W1 (by assumption) (by assumption) (by assumption) rfl (.head _) (ht1.mono (fun p hp => .tail _ (.tail _ hp))) hg1 (by ktr_room) (by ktr_units) (fun l1 t1 fr1 => ?_))
  all_goals (refine worthStep W2 (by assumption) (by assumption) (by assumption) rfl (.tail _ (.head _)) (ht2.mono (fun p hp => .tail _ (.tail _ (.tail _ hp)))) hg2 (by ktr_room) (by ktr_units) (fun l2 t2 fr2 => ?_))
  all_goals (refine worthStep W3 (by assumption) (by assumption) (by assumption) rfl (.tail _ (.tail _ (.head _))) (ht3.mono (fun p hp => .tail _ (.tail _ (.tail _ (.tail _ hp))))) hg3 (by ktr_room) (by ktr_units) (fun l3 t3 fr3 => ?_))
  all_goals (dsimp only [optV])
  all_goals k_steps
  all_goals (first
    | (refine ret _ 0 none _ _ _ ?_ ?_ (by assumption) (by first | assumption | (exact vdrop1 (by assumption) (show ∀ r ∈ news, _ from by intro p hp; simp only [List.mem_cons, hp, or_true, true_or]))) (fun p hp => by first | exact Nat.ne_of_lt (ktn_ltOf (by ktr_rel) p hp) | exact (by assumption : ∀ q ∈ _, q.1 ≠ _) p (by simp only [List.mem_cons, hp, or_true])) <;> (first | rfl | simp_all [lawCond]))
    | (refine ret _ _ (some _) _ _ _ ?_ ?_ (by assumption) (by first | assumption | (exact vdrop1 (by assumption) (show ∀ r ∈ news, _ from by intro p hp; simp only [List.mem_cons, hp, or_true, true_or]))) (fun p hp => by first | exact Nat.ne_of_lt (ktn_ltOf (by ktr_rel) p hp) | exact (by assumption : ∀ q ∈ _, q.1 ≠ _) p (by simp only [List.mem_cons, hp, or_true])) <;> (first | rfl | simp_all [lawCond]))
    | (refine ret _ _ _ _ _ _ ?_ ?_ (by assumption) (by first | assumption | (exact vdrop1 (by assumption) (show ∀ r ∈ news, _ from by intro p hp; simp only [List.mem_cons, hp, or_true, true_or]))) (fun p hp => by first | exact Nat.ne_of_lt (ktn_ltOf (by ktr_rel) p hp) | exact (by assumption : ∀ q ∈ _, q.1 ≠ _) p (by simp only [List.mem_cons, hp, or_true])) <;> (first | rfl | simp_all [lawCond])))
theorem worth_cond_sns (D1 D2 D3 : Tr) (a1 : Int) (a3 : Int) (u1 u2 u3 : Bool) (W1 : WorthTo w D1 (some a1) u1) (W2 : WorthTo w D2 none u2) (W3 : WorthTo w D3 (some a3) u3) : WorthTo w (.cond D1 D2 D3) (lawCond ((some a1), u1) (none, u2) ((some a3), u3)).1 (u2 || u3) := by
  intro mean mg mb dp un gd cn cs a ccd cl outer A₀ base h₀ L m news s Q E v B F X N T hk ht hg hd hu ret
  obtain ⟨hg1, hg2, hg3⟩ := hg
  cases ht with
  | @cond D' t1 v1 v2 v3 _ _ _ hm ht1 ht2 ht3 =>
  unfold Tr.deep at hd hu
  have hJ : JoinOr u2 u3 u2 u3 := ⟨⟩
  have N2 := News.dup N hm
  refine wpAny_call ?_
  (k_dflt (refine' code_def (binds := [(Str.ofString "tree", .ref D')]) ?k1 ?k2 ?k3 ?k4 ?k5 ?kA ?kF ?kK ?k6 ?k7 ?k8 ?k9 ?kB ?_ ?c2 ?c3 ?c4 ?c5; (case kA | kF => exact rfl); (case kK => first | exact rfl | assumption); (case k1 | k2 | k3 | k4 | k5 => k_asm); (case k6 | k7 => k_is); (case k8 => ktr_room); (case k9 => exact BindsTo.of_eq rfl); (case c5 => decide); (case kB => exact locs rfl); (case c2 | c3 | c4 => exact rfl); k_whole; intro g' L' h' FG' F' N' B' X' T'; (try dsimp only); (try k_lift B'); (try k_fold)))
  k_steps
  all_goals (refine worthStep W1 (by assumption) (by assumption) (by assumption) rfl (.head _) (ht1.mono (fun p hp => .tail _ (.tail _ hp))) hg1 (by ktr_room) (by ktr_units) (fun l1 t1 fr1 => ?_))
  all_goals (refine worthStep W2 (by assumption) (by assumption) (by assumption) rfl (.tail _ (.head _)) (ht2.mono (fun p hp => .tail _ (.tail _ (.tail _ hp)))) hg2 (by ktr_room) (by ktr_units) (fun l2 t2 fr2 => ?_))
  all_goals (refine worthStep W3 (by assumption) (by assumption) (by assumption) rfl (.tail _ (.tail _ (.head _))) (ht3.mono (fun p hp => .tail _ (.tail _ (.tail _ (.tail _ hp))))) hg3 (by ktr_room) (by ktr_units) (fun l3 t3 fr3 => ?_))
  all_goals (dsimp only [optV])
  all_goals k_steps
  all_goals (first
    | (refine ret _ 0 none _ _ _ ?_ ?_ (by assumption) (by first | assumption | (exact vdrop1 (by assumption) (show ∀ r ∈ news, _ from by intro p hp; simp only [List.mem_cons, hp, or_true, true_or]))) (fun p hp => by first | exact Nat.ne_of_lt (ktn_ltOf (by ktr_rel) p hp) | exact (by assumption : ∀ q ∈ _, q.1 ≠ _) p (by simp only [List.mem_cons, hp, or_true])) <;> (first | rfl | simp_all [lawCond]))
    | (refine ret _ _ (some _) _ _ _ ?_ ?_ (by assumption) (by first | assumption | (exact vdrop1 (by assumption) (show ∀ r ∈ news, _ from by intro p hp; simp only [List.mem_cons, hp, or_true, true_or]))) (fun p hp => by first | exact Nat.ne_of_lt (ktn_ltOf (by ktr_rel) p hp) | exact (by assumption : ∀ q ∈ _, q.1 ≠ _) p (by simp only [List.mem_cons, hp, or_true])) <;> (first | rfl | simp_all [lawCond]))
    | (refine ret _ _ _ _ _ _ ?_ ?_ (by assumption) (by first | assumption | (exact vdrop1 (by assumption) (show ∀ r ∈ news, _ from by intro p hp; simp only [List.mem_cons, hp, or_true, true_or]))) (fun p hp => by first | exact Nat.ne_of_lt (ktn_ltOf (by ktr_rel) p hp) | exact (by assumption : ∀ q ∈ _, q.1 ≠ _) p (by simp only [List.mem_cons, hp, or_true])) <;> (first | rfl | simp_all [lawCond])))
theorem worth_cond_ssn (D1 D2 D3 : Tr) (a1 : Int) (a2 : Int) (u1 u2 u3 : Bool) (W1 : WorthTo w D1 (some a1) u1) (W2 : WorthTo w D2 (some a2) u2) (W3 : WorthTo w D3 none u3) : WorthTo w (.cond D1 D2 D3) (lawCond ((some a1), u1) ((some a2), u2) (none, u3)).1 (u2 || u3) := by
  intro mean mg mb dp un gd cn cs a ccd cl outer A₀ base h₀ L m news s Q E v B F X N T hk ht hg hd hu ret
  obtain ⟨hg1, hg2, hg3⟩ := hg
  cases ht with
  | @cond D' t1 v1 v2 v3 _ _ _ hm ht1 ht2 ht3 =>
  unfold Tr.deep at hd hu
  have hJ : JoinOr u2 u3 u2 u3 := ⟨⟩
  have N2 := News.dup N hm
  refine wpAny_call ?_
  (k_dflt (refine' code_def (binds := [(Str.ofString "tree", .ref D')]) ?k1 ?k2 ?k3 ?k4 ?k5 ?kA ?kF ?kK ?k6 ?k7 ?k8 ?k9 ?kB ?_ ?c2 ?c3 ?c4 ?c5; (case kA | kF => exact rfl); (case kK => first | exact rfl | assumption); (case k1 | k2 | k3 | k4 | k5 => k_asm); (case k6 | k7 => k_is); (case k8 => ktr_room); (case k9 => exact BindsTo.of_eq rfl); (case c5 => decide); (case kB => exact locs rfl); (case c2 | c3 | c4 => exact rfl); k_whole; intro g' L' h' FG' F' N' B' X' T'; (try dsimp only); (try k_lift B'); (try k_fold)))
  k_steps
  all_goals (refine worthStep W1 (by assumption) (by assumption) (by assumption) rfl (.head _) (ht1.mono (fun p hp => .tail _ (.tail _ hp))) hg1 (by ktr_room) (by ktr_units) (fun l1 t1 fr1 => ?_))
  all_goals (refine worthStep W2 (by assumption) (by assumption) (by assumption) rfl (.tail _ (.head _)) (ht2.mono (fun p hp => .tail _ (.tail _ (.tail _ hp)))) hg2 (by ktr_room) (by ktr_units) (fun l2 t2 fr2 => ?_))
  all_goals (refine worthStep W3 (by assumption) (by assumption) (by assumption) rfl (.tail _ (.tail _ (.head _))) (ht3.mono (fun p hp => .tail _ (.tail _ (.tail _ (.tail _ hp))))) hg3 (by ktr_room) (by ktr_units) (fun l3 t3 fr3 => ?_))
  all_goals (dsimp only [optV])
  all_goals k_steps
  all_goals (first
    | (refine ret _ 0 none _ _ _ ?_ ?_ (by assumption) (by first | assumption | (exact vdrop1 (by assumption) (show ∀ r ∈ news, _ from by intro p hp; simp only [List.mem_cons, hp, or_true, true_or]))) (fun p hp => by first | exact Nat.ne_of_lt (ktn_ltOf (by ktr_rel) p hp) | exact (by assumption : ∀ q ∈ _, q.1 ≠ _) p (by simp only [List.mem_cons, hp, or_true])) <;> (first | rfl | simp_all [lawCond]))
    | (refine ret _ _ (some _) _ _ _ ?_ ?_ (by assumption) (by first | assumption | (exact vdrop1 (by assumption) (show ∀ r ∈ news, _ from by intro p hp; simp only [List.mem_cons, hp, or_true, true_or]))) (fun p hp => by first | exact Nat.ne_of_lt (ktn_ltOf (by ktr_rel) p hp) | exact (by assumption : ∀ q ∈ _, q.1 ≠ _) p (by simp only [List.mem_cons, hp, or_true])) <;> (first | rfl | simp_all [lawCond]))
    | (refine ret _ _ _ _ _ _ ?_ ?_ (by assumption) (by first | assumption | (exact vdrop1 (by assumption) (show ∀ r ∈ news, _ from by intro p hp; simp only [List.mem_cons, hp, or_true, true_or]))) (fun p hp => by first | exact Nat.ne_of_lt (ktn_ltOf (by ktr_rel) p hp) | exact (by assumption : ∀ q ∈ _, q.1 ≠ _) p (by simp only [List.mem_cons, hp, or_true])) <;> (first | rfl | simp_all [lawCond])))
theorem worth_cond_sss (D1 D2 D3 : Tr) (a1 : Int) (a2 : Int) (a3 : Int) (u1 u2 u3 : Bool) (W1 : WorthTo w D1 (some a1) u1) (W2 : WorthTo w D2 (some a2) u2) (W3 : WorthTo w D3 (some a3) u3) : WorthTo w (.cond D1 D2 D3) (lawCond ((some a1), u1) ((some a2), u2) ((some a3), u3)).1 (u2 || u3) := by
  intro mean mg mb dp un gd cn cs a ccd cl outer A₀ base h₀ L m news s Q E v B F X N T hk ht hg hd hu ret
  obtain ⟨hg1, hg2, hg3⟩ := hg
  cases ht with
  | @cond D' t1 v1 v2 v3 _ _ _ hm ht1 ht2 ht3 =>
  unfold Tr.deep at hd hu
  have hJ : JoinOr u2 u3 u2 u3 := ⟨⟩
  have N2 := News.dup N hm
  refine wpAny_call ?_
  (k_dflt (refine' code_def (binds := [(Str.ofString "tree", .ref D')]) ?k1 ?k2 ?k3 ?k4 ?k5 ?kA ?kF ?kK ?k6 ?k7 ?k8 ?k9 ?kB ?_ ?c2 ?c3 ?c4 ?c5; (case kA | kF => exact rfl); (case kK => first | exact rfl | assumption); (case k1 | k2 | k3 | k4 | k5 => k_asm); (case k6 | k7 => k_is); (case k8 => ktr_room); (case k9 => exact BindsTo.of_eq rfl); (case c5 => decide); (case kB => exact locs rfl); (case c2 | c3 | c4 => exact rfl); k_whole; intro g' L' h' FG' F' N' B' X' T'; (try dsimp only); (try k_lift B'); (try k_fold)))
  k_steps
  all_goals (refine worthStep W1 (by assumption) (by assumption) (by assumption) rfl (.head _) (ht1.mono (fun p hp => .tail _ (.tail _ hp))) hg1 (by ktr_room) (by ktr_units) (fun l1 t1 fr1 => ?_))
  all_goals (refine worthStep W2 (by assumption) (by assumption) (by assumption) rfl (.tail _ (.head _)) (ht2.mono (fun p hp => .tail _ (.tail _ (.tail _ hp)))) hg2 (by ktr_room) (by ktr_units) (fun l2 t2 fr2 => ?_))
  all_goals (refine worthStep W3 (by assumption) (by assumption) (by assumption) rfl (.tail _ (.tail _ (.head _))) (ht3.mono (fun p hp => .tail _ (.tail _ (.tail _ (.tail _ hp))))) hg3 (by ktr_room) (by ktr_units) (fun l3 t3 fr3 => ?_))
  all_goals (dsimp only [optV])
  all_goals k_steps
  all_goals (first
    | (refine ret _ 0 none _ _ _ ?_ ?_ (by assumption) (by first | assumption | (exact vdrop1 (by assumption) (show ∀ r ∈ news, _ from by intro p hp; simp only [List.mem_cons, hp, or_true, true_or]))) (fun p hp => by first | exact Nat.ne_of_lt (ktn_ltOf (by ktr_rel) p hp) | exact (by assumption : ∀ q ∈ _, q.1 ≠ _) p (by simp only [List.mem_cons, hp, or_true])) <;> (first | rfl | simp_all [lawCond]))
    | (refine ret _ _ (some _) _ _ _ ?_ ?_ (by assumption) (by first | assumption | (exact vdrop1 (by assumption) (show ∀ r ∈ news, _ from by intro p hp; simp only [List.mem_cons, hp, or_true, true_or]))) (fun p hp => by first | exact Nat.ne_of_lt (ktn_ltOf (by ktr_rel) p hp) | exact (by assumption : ∀ q ∈ _, q.1 ≠ _) p (by simp only [List.mem_cons, hp, or_true])) <;> (first | rfl | simp_all [lawCond]))
    | (refine ret _ _ _ _ _ _ ?_ ?_ (by assumption) (by first | assumption | (exact vdrop1 (by assumption) (show ∀ r ∈ news, _ from by intro p hp; simp only [List.mem_cons, hp, or_true, true_or]))) (fun p hp => by first | exact Nat.ne_of_lt (ktn_ltOf (by ktr_rel) p hp) | exact (by assumption : ∀ q ∈ _, q.1 ≠ _) p (by simp only [List.mem_cons, hp, or_true])) <;> (first | rfl | simp_all [lawCond])))
theorem worth_cond (D1 D2 D3 : Tr) (W1 : WorthTell w D1) (W2 : WorthTell w D2) (W3 : WorthTell w D3) : WorthTell w (.cond D1 D2 D3) := by
  unfold WorthTell at *
  show WorthTo w (.cond D1 D2 D3) (lawCond (D1.lawW.1, D1.lawW.2) (D2.lawW.1, D2.lawW.2) (D3.lawW.1, D3.lawW.2)).1 (D2.lawW.2 || D3.lawW.2)
  cases h1 : D1.lawW.1 with
  | none => rw [h1] at W1; exact worth_cond_nxx D1 D2 D3 _ _ _ _ _ W1 W2 W3
  | some a1 =>
    rw [h1] at W1
    cases h2 : D2.lawW.1 <;> cases h3 : D3.lawW.1 <;> rw [h2] at W2 <;> rw [h3] at W3
    · exact worth_cond_snn D1 D2 D3 _ _ _ _ W1 W2 W3
    · exact worth_cond_sns D1 D2 D3 _ _ _ _ _ W1 W2 W3
    · exact worth_cond_ssn D1 D2 D3 _ _ _ _ _ W1 W2 W3
    · exact worth_cond_sss D1 D2 D3 _ _ _ _ _ _ W1 W2 W3
end
end
end
end
section
open PySem PySem.W PyProof.Rows PySem.Calls PySem.Spec PySem.Builtin PySem.Builtin.ObjectAttr
section
def RaisableD (K : Frag) (C : Addr) (E : Value → Shared → Prop) (v : Value) (s₁ : Shared) : Prop :=
  ∃ e t d, v = .ref e ∧ K.In s₁.heap ∧ s₁.heap.get? e = some (excObj C t (some d)) ∧ E (.ref e) s₁
theorem exec_raiseD {prog : Program} {w : World} {A : Around} {E : Value → Shared → Prop} {s : Shared} {env : Env} {K : Frag} {C : Addr} {ex : PySem.Expr} {pos : Pos} {Q : Flow → Shared → Prop} {h₀ : Heap} (X₀ : K.In h₀) (hb : ktsIn K C "BaseException" = true) (hh : A.handled = none)
    (h : wpAny (model prog w) A (eval ex env) (RaisableD K C E) E s) : wpAny (model prog w) A (exec (.Raise (some ex) none pos) env) Q E s := by
  show wpAny _ _ (do standAt pos; raiseStmt env (some (do let v ← eval ex env; standAt pos; pure v)) none) _ _ _
  refine wpAny_bind (wpAny_standAt ?_)
  unfold raiseStmt
  dsimp only
  refine wpAny_bind (wpAny_bind (wpAny_mono h (fun v s₁ h₁ => wpAny_bind (wpAny_standAt (wpAny_pure ?_))) fun _ _ x => x))
  obtain ⟨e, t, d, rfl, X, he, hE⟩ := h₁
  obtain ⟨nm, qn, NS, bs, bm, hdct, sn, sub, ab, col, dd, k0, k1, k2, k3, k5, newId, hC, hbase, hbT⟩ := kts_cls X hb
  have hcB : (Value.ref C :: bm).contains (.type "BaseException") = true := by rw [List.contains_cons, hbase, Bool.or_true]
  obtain ⟨hp, g, dr, tk, os⟩ := s₁
  repeat (first | with_reducible refine wpAny_loadPart_at he ?_ | with_reducible refine wpAny_loadPart_at hC ?_ | (with_reducible refine wpAny_isSubtype_exc hC ?_; rw [hcB]) | wp_step)
  exact wpAny_raiseNew_none hh hE
end
end
section
open PySem PySem.W PyProof.Rows PySem.Calls PySem.Spec
local macro_rules | `(tactic| k_room) => `(tactic| ktr_room)
local macro_rules | `(tactic| k_units) => `(tactic| ktr_units)
local macro_rules | `(tactic| k_all) => `(tactic| assumption)
local macro_rules | `(tactic| walk_at "execs cons") => `(tactic| (with_reducible refine gen_toks ?_; intro tk))
local macro_rules | `(tactic| walk_at "execs nil") => `(tactic| (with_reducible refine gen_toks ?_; intro tk))
section
open PySem PySem.W PyProof.Rows PySem.Calls PySem.Spec
section
section
variable {w : World} {mean : ExcName → Option Value} {mg mb : Str → Option Value} {dp un : Nat} {gd : Option (List Code)} {cn : Str} {cs : Scope} {a : Addr} {ccd : Value} {cl : List (Str × Addr)} {outer : List Env} {A₀ : Around} {base h₀ : Heap} {L : Addr} {news : List (Addr × Obj)} {s : Shared} {Q E : Value → Shared → Prop}
variable {c dc vl sl tl pl : Addr} {k1 k2 k3 k4 : Tok} {nv ns : Nat} {rest : List (Addr × Obj)} {us ps : List Value}
variable {keep : List (Addr × Obj)} {I : Addr} {lo : Obj} {QF : Flow → Shared → Prop} {file : Str} {line : Int}

theorem eats_top (B : Below A₀ base outer h₀) (X : (KQ w.params).In h₀) (T : Top viewQ looseQ mean mg mb h₀) (SA : SetsAt w h₀) (six : Six c dc vl sl) (hkeep : ∀ p ∈ keep, p.2.cls ≠ .type "list_iterator") (htl : (tl, lo) ∈ keep) (hd : dp + 100 < recursionLimit) (hu : un + 1500 < cLine) (D : Tr) (toks : List Value) (hT : TokensAt w keep file line toks D.words) (hdp : D.deep < 90) (S : Sta w keep rest vl sl [] [] [] [])
    (K0 : ∀ v', Kont w mean mg mb dp un gd outer h₀ L s E QF c dc vl sl tl pl k1 k2 k3 k4 keep I lo [] true ([] ++ [v']) ([] ++ [D.val]) [] [])
    (K1 : ∀ (p : Pend) (args : List Value) (ys : List V) (t3 : Tok), ys.length = p.ar → args.length = ys.length → p.run ys = D.val → Kont w mean mg mb dp un gd outer h₀ L s E QF c dc vl sl tl pl k1 k2 k3 k4 keep I lo [] true ([] ++ args) ([] ++ ys) ([] ++ [Value.str p.word t3]) ([] ++ [p.word])) :
    ListRest PySem.Challenge.rw_on0057_01.prog w (ktrTop dp un gd (Str.ofString "Condition.is_so") (pS (M 30 9)) L 288 (Value.ref 287) [] outer) E h₀ (envOf (Str.ofString "Condition.is_so") (pS (M 30 9)) L 288 (Value.ref 287)) (Str.ofString "token") bodyIS QF s I (tl, lo) toks (fun y => if y = Str.ofString "is_whole" then some (.bool false) else ([(Str.ofString "self", Value.ref c)] : List (Str × Value)).reverse.lookup y) ((c, instObj 291 dc) :: (dc, cdict w tl pl vl sl k1 k2 k3 k4) :: (vl, listOf [].toArray nv) :: (sl, listOf [].toArray ns) :: rest) := by
  have h := eats B X T SA six hkeep htl hd hu D [] [] [] [] [] toks (.inl ⟨rfl, rfl⟩) hT (by show 0 + _ < 800; omega) (by show 0 + _ < 800; omega) rfl K0 K1 nv ns rest none S
  rw [List.append_nil] at h
  rw [mF_start]
  exact h
end
theorem raisable_of {K : Frag} {E : Value → Shared → Prop} {s : Shared} {g : Heap} {L e t C d : Addr} {m : Str → Option Value} {news : List (Addr × Obj)} (X : K.In g) (F : Fr g L s.heap m) (N : News g L s.heap ((e, excObj C t (some d)) :: news)) (h : E (.ref e) s) : RaisableD K C E (.ref e) s :=
  ⟨e, t, d, rfl, X.keeps F.keep, (N _ (.head _)).1, h⟩
section
variable {w : World} {mean : ExcName → Option Value} {mg mb : Str → Option Value} {dp un : Nat} {gd : Option (List Code)} {cn : Str} {cs : Scope} {a : Addr} {ccd : Value} {cl : List (Str × Addr)} {outer : List Env} {A₀ : Around} {base h₀ : Heap} {L : Addr} {m : Str → Option Value} {news : List (Addr × Obj)} {s : Shared} {Q E : Value → Shared → Prop}
variable {c dc vl sl tl pl : Addr} {k1 k2 k3 k4 : Tok} {nv ns : Nat} {rest : List (Addr × Obj)} {us ps : List Value}
theorem redC0 (p : Pend) (args : List Value) (xs : List V) (t0 : Tok) (B : Below A₀ base outer h₀) (F : Fr h₀ L s.heap m) (X : (KQ w.params).In h₀) (N : News h₀ L s.heap ((c, instObj 291 dc) :: (dc, cdict w tl pl vl sl k1 k2 k3 k4) :: (vl, listOf args.toArray nv) :: (sl, listOf [Value.str p.word t0].toArray ns) :: rest)) (T : Top viewQ looseQ mean mg mb h₀) (hk : cs.kind = .function) (six : Six c dc vl sl) (ap : Apart rest vl sl) (ha : ValsAt w rest args xs) (hn : xs.length = p.ar)
    (hd : dp + 20 < recursionLimit) (hu : un + 220 < cLine)
    (ret : ∀ (xa da : Addr) (ka kb kc kt : Tok) (rest' : List (Addr × Obj)) (nv' ns' : Nat) (h' : Heap) (tk' : Nat), Fr h₀ L h' m → News h₀ L h' ((c, instObj 291 dc) :: (dc, cdict w tl pl vl sl k1 k2 k3 k4) :: (vl, listOf [Value.ref xa].toArray nv') :: (sl, listOf [].toArray ns') :: rest') → (∀ p ∈ rest, p ∈ rest') → Apart rest' vl sl → (xa, instObj 165 da) ∈ rest' → (da, vdict w (p.run xs).n (p.run xs).u (p.run xs).b ka kb kc kt) ∈ rest' → Q .none { s with heap := h', toks := tk' }) :
    wpAny (MQ w) (ktrTop dp un gd cn cs L a ccd cl outer) (call (.ref 253) [.ref c]) Q E s := by
  exact redC (us := []) (ps := []) p args xs t0 B F X N T hk six ap (by decide) (by decide) ha hn hd hu (fun v rest' nv' ns' h' tk' F' N' hs ap' hv => by
    obtain ⟨xa, da, ka, kb, kc, kt, rfl, m1, m2⟩ := hv
    exact ret xa da ka kb kc kt rest' nv' ns' h' tk' F' N' hs ap' m1 m2)
end
theorem keepOn {r1 r2 r3 r4 : List (Addr × Obj)} (a : ∀ p ∈ r1, p ∈ r2) (b : ∀ p ∈ r2, p ∈ r3) (c : ∀ p ∈ r3, p ∈ r4) : ∀ p ∈ r1, p ∈ r4 := fun p hp => c p (b p (a p hp))
theorem dup4 {h₀ h : Heap} {L : Addr} {p1 p2 p3 p4 x y q1 q2 : Addr × Obj} {rest : List (Addr × Obj)} (N : News h₀ L h (p1 :: p2 :: p3 :: p4 :: rest)) (hx : x ∈ rest) (hy : y ∈ rest) (h1 : q1 ∈ rest) (h2 : q2 ∈ rest) : News h₀ L h (q1 :: q2 :: x :: y :: p1 :: p2 :: p3 :: p4 :: rest) := fun p hp => N p (by
  simp only [List.mem_cons] at hp ⊢
  rcases hp with rfl | rfl | rfl | rfl | h | h | h | h | h <;> simp [*])
local macro_rules | `(tactic| walk_at "compareOp Eq ref ref") => `(tactic| ((with_reducible show wpAny _ _ (compareOp CmpOp.Eq (Value.ref _) (Value.ref _)) _ _ _); k_dflt (refine' some_eq_nil ?N ?a ?b ?s ?u ?_; (case N => k_asm); (case a => k_mem); (case b => k_mem); (case s => assumption); (case u => units_room))))
local macro_rules | `(tactic| walk_at "compareOp NotEq ref ref") => `(tactic| ((with_reducible show wpAny _ _ (compareOp CmpOp.NotEq (Value.ref _) (Value.ref _)) _ _ _); k_dflt (refine' some_ne_nil ?N ?a ?b ?s ?u ?_; (case N => k_asm); (case a => k_mem); (case b => k_mem); (case s => assumption); (case u => units_room))))
local macro_rules | `(tactic| walk_at "subscriptTail") => `(tactic| ((with_reducible show wpAny _ _ (subscriptTail _ _ (Value.ref _) (Value.int (-1) _)) _ _ _); k_dflt (refine' last_item ?N ?a ?_; (case N => k_asm); (case a => k_mem))))
local macro_rules | `(tactic| walk_at "call ref") => `(tactic| ((k_dflt (show wpAny _ _ (call (Value.ref 253) [Value.ref _]) _ _ _)); k_dflt (refine' redC0 _ _ _ _ ?k1 ?k2 ?k3 ?k4 ?k5 ?kK ?s1 ?s2 ?s5 ?s6  ?kd ?ku ?_; (case k1 => k_asm); (case k2 => k_asm); (case k3 => k_asm); (case k4 => exact (by first | assumption  | exact News.tl (by assumption) | exact News.tl (News.tl (by assumption)) | exact News.tl (News.tl (News.tl (by assumption))) | exact News.tl (News.tl (News.tl (News.tl (by assumption)))) | exact News.tl (News.tl (News.tl (News.tl (News.tl (by assumption))))) | exact News.tl (News.tl (News.tl (News.tl (News.tl (News.tl (by assumption)))))) | exact News.tl (News.tl (News.tl (News.tl (News.tl (News.tl (News.tl (by assumption))))))))); (case k5 => k_asm); (case kK => first | exact rfl | assumption); (case s1 => assumption); (case s2 => assumption); (case s5 => assumption); (case s6 => assumption); (case kd => ktr_room); (case ku => ktr_units); k_whole; intro xa' da' ka1' ka2' ka3' ta' rest' nv' ns' h' tk' F' N' hs' ap' m1' m2'); (k_dflt (obtain ⟨_, _⟩ := id ap')); (k_dflt (have hq1' := hs' (_, instObj 106 _) (by assumption))); (k_dflt (have hq2' := hs' (_, tdict _ _ _ _ _ _ _ _ _ _ _ _ _) (by assumption))); (k_dflt (replace N' := dup4 N' m1' m2' hq1' hq2')); (try dsimp only); (try k_fold)))
local macro_rules | `(tactic| walk_at "call ref") => `(tactic| ((k_dflt (show wpAny _ _ (call (Value.ref 232) [Value.ref _, Value.str _ _]) _ _ _)); k_dflt (refine' faultC _ _ _ _ _ _ _ _ _ _ _ _ _ _ ?k1 ?k2 ?k3 ?k4 ?k5 ?kK ?m1 ?m2 ?m3 ?m4 ?kd ?ku ?_; (case k1 => k_asm); (case k2 => k_asm); (case k3 => k_asm); (case k4 => exact (by first | assumption  | exact News.tl (by assumption) | exact News.tl (News.tl (by assumption)) | exact News.tl (News.tl (News.tl (by assumption))) | exact News.tl (News.tl (News.tl (News.tl (by assumption)))) | exact News.tl (News.tl (News.tl (News.tl (News.tl (by assumption))))) | exact News.tl (News.tl (News.tl (News.tl (News.tl (News.tl (by assumption)))))) | exact News.tl (News.tl (News.tl (News.tl (News.tl (News.tl (News.tl (by assumption))))))))); (case k5 => k_asm); (case kK => first | exact rfl | assumption); (case m1 => first | k_mem | assumption); (case m2 => first | k_mem | assumption); (case m3 => first | k_mem | (simp only [List.mem_cons, or_true, true_or, *]; done)); (case m4 => first | k_mem | (simp only [List.mem_cons, or_true, true_or, *]; done)); (case kd => ktr_room); (case ku => ktr_units); k_whole; intro x' tp' dx' kf1 kf2 kf3 h' tk' F' N' hfr'); (try dsimp only); (try k_fold)))
local macro_rules | `(tactic| walk_at "exec Raise some none") => `(tactic| (k_dflt (refine' exec_raiseD (C := 58) ?kX ?kb ?kh ?_; (case kX => k_asm); (case kb => kernel_rfl!); (case kh => exact rfl); k_whole)))
section
variable {w : World} {mean : ExcName → Option Value} {mg mb : Str → Option Value} {dp un : Nat} {gd : Option (List Code)} {cn : Str} {cs : Scope} {a : Addr} {ccd : Value} {cl : List (Str × Addr)} {outer : List Env} {A₀ : Around} {base h₀ : Heap} {L : Addr} {m : Str → Option Value} {news : List (Addr × Obj)} {s : Shared} {Q E : Value → Shared → Prop}
variable {c dc vl sl tl pl : Addr} {k1 k2 k3 k4 : Tok} {nv ns : Nat} {rest : List (Addr × Obj)} {us ps : List Value}
variable {dpl : Addr}
theorem isoC (D : Tr) (toks : List Value) (nt : Nat) (kind text file : Str) (line : Int) (j1 j2 j3 j4 u1 u2 u3 u4 : Tok) (B : Below A₀ base outer h₀) (F : Fr h₀ L s.heap m) (X : (KQ w.params).In h₀) (N : News h₀ L s.heap ((c, instObj 291 dc) :: (dc, cdict w tl pl vl sl k1 k2 k3 k4) :: (vl, listOf [].toArray nv) :: (sl, listOf [].toArray ns) :: rest)) (T : Top viewQ looseQ mean mg mb h₀) (hk : cs.kind = .function) (SA : SetsAt w h₀) (six : Six c dc vl sl) (ap : Apart rest vl sl) (hkeep : ∀ p ∈ rest, p.2.cls ≠ .type "list_iterator") (htl : (tl, listOf toks.toArray nt) ∈ rest) (hto : TokensAt w rest file line toks D.words) (hdp : D.deep < 90) (hp1 : (pl, instObj 106 dpl) ∈ rest) (hp2 : (dpl, tdict w kind text file line j1 j2 j3 j4 u1 u2 u3 u4) ∈ rest) (raised : D.val.b = true → ∀ (g' h' : Heap) (e d : Addr) (f1 f2 f3 t0 v3 v4 : Tok) (news' : List (Addr × Obj)) (tk' : Nat), Fr h₀ L g' m → RaisedD base g' (envX cn cs L a ccd cl :: outer) e 58 d news' h' → g'.UpToSlots h' → (d, edict w (Str.ofString "the condition divides by nought") file line f1 f2 f3 t0 v3 v4) ∈ news' → (∀ p ∈ rest, p ∈ news') → E (.ref e) { s with heap := h', toks := tk' })
    (hd : dp + 150 < recursionLimit) (hu : un + 3000 < cLine)
    (ret : D.val.b = false → ∀ (h' : Heap) (tk' : Nat), Fr h₀ L h' m → News h₀ L h' rest → Q (.bool (D.val.n != 0)) { s with heap := h', toks := tk' }) :
    wpAny (MQ w) (ktrTop dp un gd cn cs L a ccd cl outer) (call (.ref 288) [.ref c]) Q E s := by
  obtain ⟨e1, e2, e3, e4, e5, e6⟩ := id six
  refine wpAny_call ?_
  (k_dflt (refine' code_def (binds := [(Str.ofString "self", .ref c)]) ?k1 ?k2 ?k3 ?k4 ?k5 ?kA ?kF ?kK ?k6 ?k7 ?k8 ?k9 ?kB ?_ ?c2 ?c3 ?c4 ?c5; (case kA | kF => exact rfl); (case kK => first | exact rfl | assumption); (case k1 | k2 | k3 | k4 | k5 => k_asm); (case k6 | k7 => k_is); (case k8 => ktr_room); (case k9 => exact BindsTo.of_eq rfl); (case c5 => decide); (case kB => exact locs rfl); (case c2 | c3 | c4 => exact rfl); k_whole; intro g' L' h' FG' F' N' B' X' T'; (try dsimp only); (try k_lift B'); (try k_fold)))
  have SA' := SA.keeps FG'.keep
  k_steps
  all_goals (rename Fr _ _ _ _ => lF; rename News _ _ _ _ => lN; rename Below _ _ _ _ => lB; rename Frag.In _ _ => lX; rename Top _ _ _ _ _ _ => lT)
  all_goals (refine iter_listUnr (lo := listOf toks.toArray nt) (vs := toks) rfl lF lN (.tail _ (.tail _ (.tail _ (.tail _ htl)))) rfl rfl fun I hI => ?_)
  all_goals (k_dflt (refine eats_top lB lX lT SA' six hkeep htl ?_ ?_ D toks hto hdp ⟨ap, fun p hp => hp, .nil, ⟨.nil, fun t ht => nomatch ht⟩⟩ ?_ ?_))
  · ktr_room
  · ktr_units
  · intro v2 nv2 ns2 rest2 tv S
    refine ListRest.zero (fun h2 tk2 F2 N2 => ?_)
    obtain ⟨a1, a2⟩ := S.ap
    cases S.vals with
    | cons va _ vr =>
      cases vr
      obtain ⟨xa, da, ka1, ka2, ka3, ta, rfl, m1, m2⟩ := va
      have hq1 := S.keep _ hp1
      have hq2 := S.keep _ hp2
      have N3 := News.dup (News.dup N2 (.tail _ (.tail _ (.tail _ (.tail _ m2))))) (.tail _ (.tail _ (.tail _ (.tail _ (.tail _ m1)))))
      replace N3 := News.dup (News.dup N3 (.tail _ (.tail _ (.tail _ (.tail _ (.tail _ (.tail _ hq2))))))) (.tail _ (.tail _ (.tail _ (.tail _ (.tail _ (.tail _ (.tail _ hq1)))))))
      clear N2 lN lF
      dsimp only
      k_steps
      all_goals first
        | (k_dflt (exact ret (by assumption) _ _ (by assumption) (cb_drop (by assumption) fun p hp => by simp only [List.mem_cons, S.keep p hp, or_true])))
        | (k_dflt (refine raisable_of lX (by assumption) (by assumption) ?_); k_unfold; k_dflt (refine leave_raiseD lB (by assumption) (by assumption) (by assumption) (fun h3 R U => ?_) (by exact rfl)); k_dflt (exact raised (by assumption) _ _ _ _ _ _ _ _ _ _ _ _ (by assumption) R U (.head _) (fun p hp => by simp only [List.mem_cons, S.keep p hp, or_true])))
  · intro p args ys t3 hn hl hr nv2 ns2 rest2 tv S
    refine ListRest.zero (fun h2 tk2 F2 N2 => ?_)
    obtain ⟨a1, a2⟩ := S.ap
    have hq1 := S.keep _ hp1
    have hq2 := S.keep _ hp2
    have hva : ValsAt w rest2 args ys := S.vals
    have hsg := S.sgs
    have hap := S.ap
    have lu0 : ([] : List Value).length < 900 := by decide
    clear lN lF
    rw [← hr] at ret raised
    dsimp only
    k_steps
    all_goals first
      | (k_dflt (refine ret (by assumption) _ _ (by assumption) (cb_drop (by assumption) ?_)); exact keepOn S.keep (by assumption) (fun p hp => by simp only [List.mem_cons, hp, or_true]))
      | (k_dflt (refine raisable_of lX (by assumption) (by assumption) ?_); k_unfold; k_dflt (refine leave_raiseD lB (by assumption) (by assumption) (by assumption) (fun h3 R U => ?_) (by exact rfl)); k_dflt (exact raised (by assumption) _ _ _ _ _ _ _ _ _ _ _ _ (by assumption) R U (.head _) (keepOn S.keep (by assumption) (fun p hp => by simp only [List.mem_cons, hp, or_true]))))
end
end
end
section
open PySem PySem.W PyProof.Rows PySem.Calls PySem.Spec
section
theorem worth_tell {w : World} : ∀ D : Tr, WorthTell w D
  | .leaf k => worth_leaf k
  | .un o t => worth_un o t (worth_tell t)
  | .bin o a b => worth_bin o a b (worth_tell a) (worth_tell b)
  | .cond a b c => worth_cond a b c (worth_tell a) (worth_tell b) (worth_tell c)
theorem shuf3 {h₀ h : Heap} {L : Addr} {p q k : Addr × Obj} {r : List (Addr × Obj)} (N : News h₀ L h (p :: q :: k :: r)) : News h₀ L h (k :: p :: q :: r) := cb_drop N fun x hx => by
  simp only [List.mem_cons] at hx ⊢
  rcases hx with h | h | h | h <;> simp [h]
def fBody : List Stmt → List Stmt
  | _ :: .For _ _ b _ _ :: _ => b
  | _ => []
def digit (c : Nat) : Bool := !(Builtin.Str.occurrences (Str.ofString "0123456789") ⟨#[c]⟩ 0 (Str.ofString "0123456789").length 1).isEmpty
section
variable {prog : Program} {w : World} {A : Around} {s : Shared} {Q E : Value → Shared → Prop}
theorem strHead {value slice : PySem.Expr} {x : Str} {t u : Tok} {c : Nat} (hc : x.cps[0]? = some c) (h : Q (.str ⟨#[c]⟩ s.toks) { s with toks := s.toks + 1 })
    (hs : subscripted slice false (.str x t) (.int 0 u) = operate [.str x t, .int 0 u] (getItem (.str x t) (.int 0 u)) := by with_unfolding_all rfl) (hg : ∀ r, letTemporaryGo value (.str x t) r = pure () := by intro _; with_unfolding_all rfl) :
    wpAny (model prog w) A (subscriptTail value slice (.str x t) (.int 0 u)) Q E s := by
  have hl : 0 < x.cps.size := (Array.getElem?_eq_some_iff.mp hc).1
  have e : seqIndex? 0 x.length = some 0 := by
    unfold seqIndex?
    simp only [if_neg (show ¬ ((0 : Int) < 0) by decide)]
    exact if_pos (by show (decide ((0 : Int) ≤ 0) && decide ((0 : Int) < ((x.cps.size : Nat) : Int))) = true; simp; omega)
  exact tail_any (typeIs_str _ _ _) PySem.F.slot_str_getitem.lookup (P.getItem_str rfl (by rw [e]; exact hc) h) hs
theorem in_str_b {x y : Str} {t u : Tok} {b : Bool} (e : (!(Builtin.Str.occurrences y x 0 y.length 1).isEmpty) = b) (h : Q (.bool b) s) : wpAny (model prog w) A (compareOp .In (.str x t) (.str y u)) Q E s := in_str (by rw [e]; exact h)
end
local macro_rules | `(tactic| walk_at "no key") => `(tactic| fail)
local macro_rules | `(tactic| walk_at "eval Call") => `(tactic| ((with_reducible show wpAny _ _ (eval (Expr.Call (Expr.Name _ _) _ [] _) _) _ _ _); k_dflt (refine Call_ ?_)))
local macro_rules | `(tactic| walk_at "call ref") => `(tactic| ((k_dflt (show wpAny _ _ (call (Value.ref 106) [Value.str _ _, Value.str _ _, Value.str _ _, Value.int _ _]) _ _ _)); k_dflt (refine' mkTok _ _ _ _ _ _ _ _ ?k1 ?k2 ?k3 ?k4 ?k5 ?kK  ?kd ?ku ?_; (case k1 | k2 | k3 | k4 | k5 => k_asm); (case kK => first | exact rfl | assumption);  (case kd => ktr_room); (case ku => ktr_units); k_whole; intro xk' dk' kj1' kj2' kj3' kj4' h' tk' F' N' l1 l2); (have l1b := l1); (replace l2 := ltN l2); (try simp only [AllLt, and_true] at l1); (try obtain ⟨_, _⟩ := l1); (try dsimp only); (try k_fold)))
local macro_rules | `(tactic| walk_at "subscriptTail") => `(tactic| ((with_reducible show wpAny _ _ (subscriptTail _ _ (Value.str _ _) (Value.int 0 _)) _ _ _); k_dflt (refine' strHead ?c ?_; (case c => assumption))))
local macro_rules | `(tactic| walk_at "compareOp In str str") => `(tactic| ((with_reducible show wpAny _ _ (compareOp CmpOp.In (Value.str _ _) (Value.str _ _)) _ _ _); k_dflt (refine' in_str_b ?c ?_; (case c => assumption))))
local macro_rules | `(tactic| walk_at "call builtin:list.pop") => `(tactic| ((with_reducible show wpAny _ _ (call (Value.builtin _) [Value.ref _]) _ _ _); k_dflt (refine' pop_mine ?F ?N ?U ?z ?_; (case F => k_asm); (case N => k_asm); (case U => k_upd); (case z => (first | omega | (simp only [List.length_append, List.length_cons, List.length_nil]; omega)))); intro h' F' N'))
local macro_rules | `(tactic| walk_at "call builtin:list.append") => `(tactic| ((with_reducible show wpAny _ _ (call (Value.builtin _) [Value.ref _, _]) _ _ _); k_dflt (refine' append_mine ?F ?N ?U ?z ?_; (case F => k_asm); (case N => k_asm); (case U => k_upd); (case z => (first | omega | (simp only [List.length_append, List.length_cons, List.length_nil]; omega)))); intro h' F' N'))
local macro_rules | `(tactic| k_ne) => `(tactic| assumption)
section
variable {w : World} {mean : ExcName → Option Value} {mg mb : Str → Option Value} {dp un : Nat} {gd : Option (List Code)} {cn : Str} {cs : Scope} {a : Addr} {ccd : Value} {cl : List (Str × Addr)} {outer : List Env} {A₀ : Around} {base h₀ : Heap} {L : Addr} {m : Str → Option Value} {news : List (Addr × Obj)} {s : Shared} {Q E : Value → Shared → Prop}
theorem tokTurn {tl pl : Addr} {vt : Value} {toks : List Value} {nt : Nat} {x : Str} {c : Nat} {b : Bool} {ttk tln : Tok} {line : Int} (hc : x.cps[0]? = some c) (hb : (!(Builtin.Str.occurrences (Str.ofString "0123456789") ⟨#[c]⟩ 0 (Str.ofString "0123456789").length 1).isEmpty) = b) (ht : toks.length < 1000) (hap1 : ∀ p ∈ news, p.1 ≠ tl)
    (B : Below A₀ base outer h₀) (F : Fr h₀ L s.heap (fun y => if y = Str.ofString "text" then some (.str x ttk) else if y = Str.ofString "tokens" then some (.ref tl) else if y = Str.ofString "place" then some (.ref pl) else if y = Str.ofString "line" then some (.int line tln) else if y = Str.ofString "tree" then some vt else none)) (X : (KQ w.params).In h₀) (N : News h₀ L s.heap ((tl, listOf toks.toArray nt) :: news)) (T : Top viewQ looseQ mean mg mb h₀) (hd : dp + 20 < recursionLimit) (hu : un + 100 < cLine)
    {QF : Flow → Shared → Prop} (ret : ∀ (tok dtok : Addr) (j1 j2 j3 j4 u1 u2 u3 u4 : Tok) (n' : Nat) (h' : Heap) (tk' : Nat), Fr h₀ L h' (fun y => if y = Str.ofString "text" then some (.str x ttk) else if y = Str.ofString "tokens" then some (.ref tl) else if y = Str.ofString "place" then some (.ref pl) else if y = Str.ofString "line" then some (.int line tln) else if y = Str.ofString "tree" then some vt else none) → News h₀ L h' ((tl, listOf (toks ++ [Value.ref tok]).toArray n') :: (tok, instObj 106 dtok) :: (dtok, tdict w (if b then Str.ofString "number" else Str.ofString "punct") x (Str.ofString "t.h") line j1 j2 j3 j4 u1 u2 u3 u4) :: news) → QF .next { s with heap := h', toks := tk' }) :
    wpAny (MQ w) (ktrTop dp un gd (Str.ofString "_law_right") (pS (Mine.D 42)) L 350 (Value.ref 349) [] outer) (execs (fBody (pB (Mine.D 42))) (envOf (Str.ofString "_law_right") (pS (Mine.D 42)) L 350 (Value.ref 349))) QF E s := by
  k_dflt (show wpAny _ _ (execs (_ :: []) _) _ _ _)
  cases b with
  | true =>
    k_steps
    all_goals (refine ret _ _ _ _ _ _ _ _ _ _ _ _ _ (by assumption) (shuf3 (by assumption)))
  | false =>
    k_steps
    all_goals (refine ret _ _ _ _ _ _ _ _ _ _ _ _ _ (by assumption) (shuf3 (by assumption)))
end
end
end
end
section
open PySem PySem.W PyProof.Rows PySem.Calls PySem.Spec
section
def mR (tl pl : Addr) (vt : Value) (line : Int) (tln : Tok) (tv : Option Value) : Str → Option Value := fun y => if y = Str.ofString "text" then tv else if y = Str.ofString "tokens" then some (.ref tl) else if y = Str.ofString "place" then some (.ref pl) else if y = Str.ofString "line" then some (.int line tln) else if y = Str.ofString "tree" then some vt else none
theorem mR_tok (tl pl : Addr) (vt : Value) (line : Int) (tln : Tok) (tv : Option Value) (v : Value) : (fun y => if y = Str.ofString "text" then some v else mR tl pl vt line tln tv y) = mR tl pl vt line tln (some v) := by
  funext y
  unfold mR
  by_cases h1 : y = Str.ofString "text"
  · subst h1; rfl
  · simp only [if_neg h1]
def Word (p : Str × Str) : Prop := ∃ (c : Nat) (b : Bool), p.2.cps[0]? = some c ∧ (!(Builtin.Str.occurrences (Str.ofString "0123456789") ⟨#[c]⟩ 0 (Str.ofString "0123456789").length 1).isEmpty) = b ∧ p.1 = if b then Str.ofString "number" else Str.ofString "punct"
theorem word_num (k : Num) : Word (Str.ofString "number", k.txt) := by cases k <;> exact ⟨_, true, rfl, by kernel_rfl, rfl⟩
theorem word_uop (o : Uop) : Word (pun o.sign) := by cases o <;> exact ⟨_, false, rfl, by kernel_rfl, rfl⟩
theorem word_bop (o : Bop) : Word (pun o.txt) := by cases o <;> exact ⟨_, false, rfl, by kernel_rfl, rfl⟩
theorem word_open : Word (pun (Str.ofString "(")) := ⟨_, false, rfl, by kernel_rfl, rfl⟩
theorem word_close : Word (pun (Str.ofString ")")) := ⟨_, false, rfl, by kernel_rfl, rfl⟩
theorem word_quest : Word (pun (Str.ofString "?")) := ⟨_, false, rfl, by kernel_rfl, rfl⟩
theorem word_colon : Word (pun (Str.ofString ":")) := ⟨_, false, rfl, by kernel_rfl, rfl⟩
theorem word_brk {l : List (Str × Str)} (h : ∀ p ∈ l, Word p) : ∀ p ∈ brk l, Word p := fun p hp => by
  unfold brk at hp
  rcases List.mem_cons.mp hp with rfl | hp
  · exact word_open
  · rcases List.mem_append.mp hp with hp | hp
    · exact h p hp
    · rw [List.mem_singleton.mp hp]; exact word_close
theorem words_word : ∀ (D : Tr), ∀ p ∈ D.words, Word p
  | .leaf k, p, hp => by
    unfold Tr.words at hp
    rw [List.mem_singleton.mp hp]; exact word_num k
  | .un o t, p, hp => by
    unfold Tr.words at hp
    rcases List.mem_cons.mp hp with rfl | hp
    · exact word_uop o
    · exact word_brk (words_word t) p hp
  | .bin o a b, p, hp => by
    unfold Tr.words at hp
    rcases List.mem_append.mp hp with hp | hp
    · exact word_brk (words_word a) p hp
    · rcases List.mem_cons.mp hp with rfl | hp
      · exact word_bop o
      · exact word_brk (words_word b) p hp
  | .cond a b c, p, hp => by
    unfold Tr.words at hp
    rcases List.mem_append.mp hp with hp | hp
    · exact word_brk (words_word a) p hp
    · rcases List.mem_cons.mp hp with rfl | hp
      · exact word_quest
      · rcases List.mem_append.mp hp with hp | hp
        · exact word_brk (words_word b) p hp
        · rcases List.mem_cons.mp hp with rfl | hp
          · exact word_colon
          · exact word_brk (words_word c) p hp
theorem ne_obj {h₀ h : Heap} {L : Addr} {all : List (Addr × Obj)} {p q : Addr × Obj} (N : News h₀ L h all) (hp : p ∈ all) (hq : q ∈ all) (hc : p.2.cls ≠ q.2.cls) : p.1 ≠ q.1 := fun e => by
  have h1 := (N _ hp).1
  have h2 := (N _ hq).1
  rw [e, h2] at h1
  exact hc (by rw [Option.some.inj h1])
theorem TokensAt.mono {w : World} {k1 k2 : List (Addr × Obj)} {file : Str} {line : Int} : ∀ {vs : List Value} {ps : List (Str × Str)}, TokensAt w k1 file line vs ps → (∀ p ∈ k1, p ∈ k2) → TokensAt w k2 file line vs ps
  | _, _, .nil, _ => .nil
  | _, _, .cons a b, hs => by
    obtain ⟨tok, dtok, j1, j2, j3, j4, u1, u2, u3, u4, e, m1, m2⟩ := a
    exact .cons ⟨tok, dtok, j1, j2, j3, j4, u1, u2, u3, u4, e, hs _ m1, hs _ m2⟩ (b.mono hs)
theorem TokensAt.snoc {w : World} {k : List (Addr × Obj)} {file : Str} {line : Int} {v : Value} {p : Str × Str} (hv : TokAt w k file line v p.1 p.2) : ∀ {vs : List Value} {ps : List (Str × Str)}, TokensAt w k file line vs ps → TokensAt w k file line (vs ++ [v]) (ps ++ [p])
  | _, _, .nil => .cons hv .nil
  | _, _, .cons a b => .cons a (b.snoc hv)
abbrev NoIt (news : List (Addr × Obj)) : Prop := ∀ p ∈ news, p.2.cls ≠ .type "list_iterator"
section
variable {w : World} {mean : ExcName → Option Value} {mg mb : Str → Option Value} {dp un : Nat} {gd : Option (List Code)} {cn : Str} {cs : Scope} {a : Addr} {ccd : Value} {cl : List (Str × Addr)} {outer : List Env} {A₀ : Around} {base h₀ : Heap} {L : Addr} {m : Str → Option Value} {news : List (Addr × Obj)} {s : Shared} {Q E : Value → Shared → Prop}

theorem tokLoop {tl pl wl I : Addr} {wo : Obj} {vt : Value} {tln : Tok} {line : Int} {QF : Flow → Shared → Prop} (B : Below A₀ base outer h₀) (X : (KQ w.params).In h₀) (T : Top viewQ looseQ mean mg mb h₀) (hd : dp + 20 < recursionLimit) (hu : un + 100 < cLine) :
    ∀ (ps : List (Str × Str)) (ws : List Value) (done : List (Str × Str)) (toks : List Value) (nt : Nat) (rest : List (Addr × Obj)) (tv : Option Value), StrsAre ws (ps.map (·.2)) → (∀ p ∈ ps, Word p) → (wl, wo) ∈ rest → (∀ p ∈ rest, p.1 ≠ tl) → NoIt rest → TokensAt w rest (Str.ofString "t.h") line toks done → toks.length + ps.length < 1000 →
      (∀ (toks' : List Value) (nt' : Nat) (rest' : List (Addr × Obj)) (tv' : Option Value), (∀ p ∈ rest, p ∈ rest') → (∀ p ∈ rest', p.1 ≠ tl) → NoIt rest' → TokensAt w rest' (Str.ofString "t.h") line toks' (done ++ ps) → ListRest PySem.Challenge.rw_on0057_01.prog w (ktrTop dp un gd (Str.ofString "_law_right") (pS (Mine.D 42)) L 350 (Value.ref 349) [] outer) E h₀ (envOf (Str.ofString "_law_right") (pS (Mine.D 42)) L 350 (Value.ref 349)) (Str.ofString "text") (fBody (pB (Mine.D 42))) QF s I (wl, wo) [] (mR tl pl vt line tln tv') ((tl, listOf toks'.toArray nt') :: rest')) →
      ListRest PySem.Challenge.rw_on0057_01.prog w (ktrTop dp un gd (Str.ofString "_law_right") (pS (Mine.D 42)) L 350 (Value.ref 349) [] outer) E h₀ (envOf (Str.ofString "_law_right") (pS (Mine.D 42)) L 350 (Value.ref 349)) (Str.ofString "text") (fBody (pB (Mine.D 42))) QF s I (wl, wo) ws (mR tl pl vt line tln tv) ((tl, listOf toks.toArray nt) :: rest)
  | [], ws, done, toks, nt, rest, tv, hw, _, _, hap, hni, ht, _, K => by
    cases hw
    exact K toks nt rest tv (fun p hp => hp) hap hni (by rw [List.append_nil]; exact ht)
  | p :: ps, ws, done, toks, nt, rest, tv, hw, hW, hwl, hap, hni, ht, hz, K => by
    cases hw with
    | @cons _ t vs _ hw' =>
    refine ListRest.succ fun it h tk hit F N => ?_
    rw [mR_tok] at F
    obtain ⟨c, b, hc, hb, hkind⟩ := hW p (.head _)
    have ktl : (Value.type "list") ≠ .type "list_iterator" := fun e => absurd (Value.type.inj e) (by decide)
    have ntl : tl ≠ I := ne_it N (.head _) hit (.tail _ (.head _)) ktl
    have N1 : News h₀ (envOf (Str.ofString "_law_right") (pS (Mine.D 42)) L 350 (Value.ref 349)).locals h ((tl, listOf toks.toArray nt) :: (I, it) :: rest) := fun q hq => N q (by
      simp only [List.mem_cons] at hq ⊢
      rcases hq with h | h | h <;> simp [h])
    refine tokTurn (pl := pl) (vt := vt) (line := line) (tln := tln) hc hb (by have : (p :: ps).length = ps.length + 1 := rfl; omega) (fun q hq => ?_) B F X N1 T hd hu (fun tok dtok j1 j2 j3 j4 u1 u2 u3 u4 n' h' tk' F' N' => ?_)
    · rcases List.mem_cons.mp hq with rfl | hq
      · exact fun e => ntl e.symm
      · exact hap q hq
    · have kt : (instObj 106 dtok).cls ≠ .type "list_iterator" := fun e => by cases e
      have kd : (tdict w (if b then Str.ofString "number" else Str.ofString "punct") p.2 (Str.ofString "t.h") line j1 j2 j3 j4 u1 u2 u3 u4).cls ≠ .type "list_iterator" := fun e => absurd (Value.type.inj e) (by decide)
      have hI' : (I, it) ∈ ((tl, listOf (toks ++ [Value.ref tok]).toArray n') :: (tok, instObj 106 dtok) :: (dtok, tdict w (if b then Str.ofString "number" else Str.ofString "punct") p.2 (Str.ofString "t.h") line j1 j2 j3 j4 u1 u2 u3 u4) :: (I, it) :: rest) := .tail _ (.tail _ (.tail _ (.head _)))
      have off1 : ∀ q ∈ ((tl, listOf (toks ++ [Value.ref tok]).toArray n') :: (tok, instObj 106 dtok) :: (dtok, tdict w (if b then Str.ofString "number" else Str.ofString "punct") p.2 (Str.ofString "t.h") line j1 j2 j3 j4 u1 u2 u3 u4) :: rest), q.1 ≠ I := fun q hq => by
        rcases List.mem_cons.mp hq with rfl | hq
        · exact ntl
        · rcases List.mem_cons.mp hq with rfl | hq
          · exact ne_it N' hI' hit (.tail _ (.head _)) kt
          · rcases List.mem_cons.mp hq with rfl | hq
            · exact ne_it N' hI' hit (.tail _ (.tail _ (.head _))) kd
            · exact ne_it N' hI' hit (.tail _ (.tail _ (.tail _ (.tail _ hq)))) (hni q hq)
      refine UnrEnd.intro F' N' ((tl, listOf (toks ++ [Value.ref tok]).toArray n') :: (tok, instObj 106 dtok) :: (dtok, tdict w (if b then Str.ofString "number" else Str.ofString "punct") p.2 (Str.ofString "t.h") line j1 j2 j3 j4 u1 u2 u3 u4) :: rest) (fun q hq => ?_) off1 ⟨.tail _ (.tail _ (.tail _ hwl)), ?_⟩
      · simp only [List.mem_cons] at hq ⊢
        rcases hq with h | h | h | h | h <;> simp [h]
      · refine tokLoop B X T hd hu ps vs (done ++ [p]) (toks ++ [Value.ref tok]) n' _ _ hw' (fun q hq => hW q (.tail _ hq)) (.tail _ (.tail _ hwl)) (fun q hq => ?_) (fun q hq => ?_) (TokensAt.snoc ⟨tok, dtok, j1, j2, j3, j4, u1, u2, u3, u4, rfl, .head _, by rw [hkind]; exact .tail _ (.head _)⟩ (ht.mono fun q hq => .tail _ (.tail _ hq))) (by rw [List.length_append]; have : (p :: ps).length = ps.length + 1 := rfl; show toks.length + 1 + ps.length < 1000; omega) (fun toks' nt' rest' tv' hs a1 a2 a3 => K toks' nt' rest' tv' (fun q hq => hs q (.tail _ (.tail _ hq))) a1 a2 (by rw [List.append_assoc] at a3; exact a3))
        · rcases List.mem_cons.mp hq with rfl | hq
          · exact ne_obj N' (.tail _ (.head _)) (.head _) (fun e => by cases e)
          · rcases List.mem_cons.mp hq with rfl | hq
            · exact ne_obj N' (.tail _ (.tail _ (.head _))) (.head _) (fun e => absurd (Value.type.inj e) (by decide))
            · exact hap q hq
        · rcases List.mem_cons.mp hq with rfl | hq
          · exact kt
          · rcases List.mem_cons.mp hq with rfl | hq
            · exact kd
            · exact hni q hq
end
end
end
section
open PySem PySem.W PyProof.Rows PySem.Calls PySem.Spec
section
variable {w : World} {A : Around} {E : Value → Shared → Prop} {s : Shared} {h₀ : Heap} {L e d : Addr} {m : Str → Option Value} {news : List (Addr × Obj)} {msg file : Str} {line : Int} {f1 f2 f3 t0 v3 v4 : Tok} {vs : Array Value} {expr : Bool}
theorem fault_inst {h : Heap} (N : News h₀ L h ((d, edict w msg file line f1 f2 f3 t0 v3 v4) :: (e, hotObj 58 d vs) :: news)) : InstAt h e (hotObj 58 d vs) 58 (some (edict w msg file line f1 f2 f3 t0 v3 v4)) := by
  constructor
  all_goals first | exact (N _ (.tail _ (.head _))).1 | rfl | exact (N _ (.head _)).1 | skip
theorem fault_file {Q : Value → Shared → Prop} (X : (KQ w.params).In h₀) (F : Fr h₀ L s.heap m) (N : News h₀ L s.heap ((d, edict w msg file line f1 f2 f3 t0 v3 v4) :: (e, hotObj 58 d vs) :: news)) (h : Q (.str file v3) { s with toks := s.toks + 1 }) :
    wpAny (MQ w) A (getAttr (.ref e) (Str.ofString "file") expr) Q E s :=
  exc_get (C := 58) (X.keeps F.keep) (fault_inst N) (by kernel_rfl) (by kernel_rfl) (by kernel_rfl) (by kernel_rfl) rfl h
theorem fault_line {Q : Value → Shared → Prop} (X : (KQ w.params).In h₀) (F : Fr h₀ L s.heap m) (N : News h₀ L s.heap ((d, edict w msg file line f1 f2 f3 t0 v3 v4) :: (e, hotObj 58 d vs) :: news)) (h : Q (.int line v4) { s with toks := s.toks + 1 }) :
    wpAny (MQ w) A (getAttr (.ref e) (Str.ofString "line") expr) Q E s :=
  exc_get (C := 58) (X.keeps F.keep) (fault_inst N) (by kernel_rfl) (by kernel_rfl) (by kernel_rfl) (by kernel_rfl) rfl h
end
end
section
open PySem PySem.W PyProof.Rows PySem.Calls PySem.Spec
structure Agree (x : V) (l : Option Int × Bool) : Prop where
  u : x.u = l.2
  bad : l.1 = none → x.b = true
  good : ∀ n, l.1 = some n → x.b = false ∧ x.n = n
theorem agree_num (k : Num) : Agree (numV k) (some k.val, k.uns) := ⟨rfl, fun h => (nomatch h), fun n h => by cases h; exact ⟨rfl, in_num k⟩⟩
theorem bit_not (n : Int) : Builtin.bitNot n = -1 - n := by unfold Builtin.bitNot; omega
theorem agree_one {o : Uop} {x : V} {l : Option Int × Bool} (h : Agree x l) : Agree (oneB o x) (lawOne o l) := by
  obtain ⟨l, u⟩ := l
  obtain ⟨hu, hb, hg⟩ := h
  cases l with
  | none =>
    have b := hb rfl
    cases o <;> exact ⟨by first | rfl | exact hu, fun _ => b, fun n q => by cases q⟩
  | some a =>
    obtain ⟨b, e⟩ := hg a rfl
    simp only at hu
    cases o
    · exact ⟨hu, fun q => (nomatch q), fun n q => by cases q; exact ⟨b, by show led32 (-x.n) x.u = led32 (0 - a) u; rw [e, hu, Int.zero_sub]⟩⟩
    · exact ⟨rfl, fun q => (nomatch q), fun n q => by cases q; exact ⟨b, by show (if x.n == 0 then (1 : Int) else 0) = _; rw [e]⟩⟩
    · exact ⟨hu, fun q => (nomatch q), fun n q => by cases q; exact ⟨b, by show led32 (Builtin.bitNot x.n) x.u = led32 (-1 - a) u; rw [e, hu, bit_not]⟩⟩
    · exact ⟨hu, fun q => (nomatch q), fun n q => by cases q; exact ⟨b, e⟩⟩
theorem agree_cond {x y z : V} {l m k : Option Int × Bool} (h1 : Agree x l) (h2 : Agree y m) (h3 : Agree z k) : Agree (chosenB x y z) (lawCond l m k) := by
  obtain ⟨l, u1⟩ := l
  obtain ⟨m, u2⟩ := m
  obtain ⟨k, u3⟩ := k
  obtain ⟨hu1, hb1, hg1⟩ := h1
  obtain ⟨hu2, hb2, hg2⟩ := h2
  obtain ⟨hu3, hb3, hg3⟩ := h3
  simp only at hu1 hu2 hu3 hb1 hb2 hb3 hg1 hg2 hg3
  have hu : (chosenB x y z).u = (u2 || u3) := by show (y.u || z.u) = _; rw [hu2, hu3]
  cases l with
  | none =>
    exact ⟨hu, fun _ => by show (x.b || _) = true; rw [hb1 rfl]; rfl, fun n q => by simp [lawCond] at q⟩
  | some a =>
    obtain ⟨b1, e1⟩ := hg1 a rfl
    by_cases ha : a = 0
    · subst ha
      have hn : (x.n != 0) = false := by rw [e1]; rfl
      cases k with
      | none => exact ⟨hu, fun _ => by show (x.b || (if (x.n != 0) = true then y.b else z.b)) = true; rw [hn, hb3 rfl]; simp, fun n q => by simp [lawCond] at q⟩
      | some c =>
        obtain ⟨b3, e3⟩ := hg3 c rfl
        refine ⟨hu, fun q => by simp [lawCond] at q, fun n q => ?_⟩
        simp [lawCond] at q
        refine ⟨by show (x.b || (if (x.n != 0) = true then y.b else z.b)) = false; rw [hn, b1, b3]; rfl, ?_⟩
        show led32 (if (x.n != 0) = true then y.n else z.n) (y.u || z.u) = n
        rw [hn, hu2, hu3, ← q, if_neg (by decide), e3]
    · have hn : (x.n != 0) = true := by rw [e1]; simpa using ha
      cases m with
      | none => exact ⟨hu, fun _ => by show (x.b || (if (x.n != 0) = true then y.b else z.b)) = true; rw [hn, hb2 rfl]; simp, fun n q => by simp [lawCond, ha] at q⟩
      | some c =>
        obtain ⟨b2, e2⟩ := hg2 c rfl
        refine ⟨hu, fun q => by simp [lawCond, ha] at q, fun n q => ?_⟩
        simp [lawCond, ha] at q
        refine ⟨by show (x.b || (if (x.n != 0) = true then y.b else z.b)) = false; rw [hn, b1, b2]; rfl, ?_⟩
        show led32 (if (x.n != 0) = true then y.n else z.n) (y.u || z.u) = n
        rw [hn, hu2, hu3, ← q, if_pos rfl, e2]
theorem and31_small {k : Num} (h0 : 0 ≤ k.val) (h1 : k.val ≤ 31) : Builtin.bitAnd k.val 31 = k.val := by
  cases k <;> first | rfl | (exfalso; revert h1; decide)
theorem twoB_log (o : Bop) (hg : o.grp = .log) (x y : V) : twoB o x y = ⟨if o.txt == Str.ofString "&&" then (if x.n != 0 && y.n != 0 then 1 else 0) else (if x.n != 0 || y.n != 0 then 1 else 0), false, if o.txt == Str.ofString "&&" then x.b || (x.n != 0 && y.b) else x.b || (x.n == 0 && y.b)⟩ := by
  cases o <;> first | rfl | exact absurd hg (by decide)
theorem twoB_cmp (o : Bop) (hg : o.grp = .cmp) (x y : V) : twoB o x y = ⟨if cmpS o.txt (led32 x.n (x.u || y.u)) (led32 y.n (x.u || y.u)) then 1 else 0, false, x.b || y.b⟩ := by
  cases o <;> first | rfl | exact absurd hg (by decide)
theorem twoB_ari (o : Bop) (hg : o.grp = .ari) (x y : V) : twoB o x y = V.mk' (ariP o (led32 x.n (x.u || y.u)) (led32 y.n (x.u || y.u))) (x.u || y.u) (x.b || y.b) := by
  cases o <;> first | rfl | exact absurd hg (by decide)
theorem twoB_div (o : Bop) (hg : o.grp = .div) (x y : V) : twoB o x y = if led32 y.n (x.u || y.u) == 0 then V.mk' 0 (x.u || y.u) true else V.mk' (if o.txt == Str.ofString "/" then Int.tdiv (led32 x.n (x.u || y.u)) (led32 y.n (x.u || y.u)) else led32 x.n (x.u || y.u) - Int.tdiv (led32 x.n (x.u || y.u)) (led32 y.n (x.u || y.u)) * led32 y.n (x.u || y.u)) (x.u || y.u) (x.b || y.b) := by
  cases o <;> first | rfl | exact absurd hg (by decide)
theorem twoB_shift (o : Bop) (hg : o.grp = .shift) (x y : V) : twoB o x y = V.mk' (if o.txt == Str.ofString "<<" then x.n * 2 ^ (Builtin.bitAnd y.n 31).toNat else x.n.fdiv (2 ^ (Builtin.bitAnd y.n 31).toNat)) x.u (x.b || y.b) := by
  cases o <;> first | rfl | exact absurd hg (by decide)
end
section
open PySem PySem.W PyProof.Rows PySem.Calls PySem.Spec
theorem led_zero (u : Bool) : led32 0 u = 0 := by cases u <;> rfl
theorem agree_log {o : Bop} (hg : o.grp = .log) {x y : V} {l m : Option Int × Bool} (h1 : Agree x l) (h2 : Agree y m) : Agree (twoB o x y) (lawTwo o l.1 l.2 m.1 m.2) := by
  obtain ⟨l, u1⟩ := l
  obtain ⟨m, u2⟩ := m
  obtain ⟨hu1, hb1, hg1⟩ := h1
  obtain ⟨hu2, hb2, hg2⟩ := h2
  simp only at hu1 hu2 hb1 hb2 hg1 hg2
  rw [twoB_log o hg]
  unfold lawTwo
  rw [hg]
  cases l with
  | none =>
    refine ⟨rfl, fun _ => ?_, fun n q => by cases q⟩
    show (if (o.txt == Str.ofString "&&") = true then x.b || (x.n != 0 && y.b) else x.b || (x.n == 0 && y.b)) = true
    rw [hb1 rfl]; simp
  | some a =>
    obtain ⟨b1, e1⟩ := hg1 a rfl
    cases m with
    | none =>
      have b2 := hb2 rfl
      refine ⟨rfl, fun q => ?_, fun n q => ?_⟩
      · show (if (o.txt == Str.ofString "&&") = true then x.b || (x.n != 0 && y.b) else x.b || (x.n == 0 && y.b)) = true
        have q' : logSN o a = none := q
        rw [b1, b2, e1]
        cases o <;> first
          | exact absurd hg (by decide)
          | (have q2 : (if ((a == 0) == false) = true then none else some (0 : Int)) = none := q'
             show (if true = true then false || (a != 0 && true) else _) = true
             cases hz : (a == 0) <;> rw [hz] at q2 <;> simp_all)
          | (have q2 : (if ((a == 0) == true) = true then none else some (1 : Int)) = none := q'
             show (if false = true then _ else false || (a == 0 && true)) = true
             cases hz : (a == 0) <;> rw [hz] at q2 <;> simp_all)
      · have q' : logSN o a = some n := q
        rw [b1, b2, e1]
        cases o <;> first
          | exact absurd hg (by decide)
          | skip
        · have q2 : (if ((a == 0) == false) = true then none else some (0 : Int)) = some n := q'
          have goal : (false || (a != 0 && true)) = false ∧ (if (a != 0 && y.n != 0) = true then (1 : Int) else 0) = n := by
            by_cases hz : a = 0
            · subst hz; simp at q2 ⊢; exact q2
            · simp [hz] at q2
          exact goal
        · have q2 : (if ((a == 0) == true) = true then none else some (1 : Int)) = some n := q'
          have goal : (false || (a == 0 && true)) = false ∧ (if (a != 0 || y.n != 0) = true then (1 : Int) else 0) = n := by
            by_cases hz : a = 0
            · subst hz; simp at q2
            · simp [hz] at q2 ⊢; exact q2
          exact goal
    | some b =>
      obtain ⟨b2, e2⟩ := hg2 b rfl
      refine ⟨rfl, fun q => (nomatch q), fun n q => ?_⟩
      have q' : some (logS o a b) = some n := q
      show (if (o.txt == Str.ofString "&&") = true then x.b || (x.n != 0 && y.b) else x.b || (x.n == 0 && y.b)) = false ∧ (if (o.txt == Str.ofString "&&") = true then (if (x.n != 0 && y.n != 0) = true then (1 : Int) else 0) else (if (x.n != 0 || y.n != 0) = true then 1 else 0)) = n
      rw [b1, b2, e1, e2]
      refine ⟨by simp, ?_⟩
      exact Option.some.inj q'
theorem agree_shift {o : Bop} (hg : o.grp = .shift) {x : V} {l : Option Int × Bool} (h1 : Agree x l) {k : Num} (h0 : 0 ≤ k.val) (h31 : k.val ≤ 31) : Agree (twoB o x (numV k)) (lawTwo o l.1 l.2 (some k.val) k.uns) := by
  obtain ⟨l, u1⟩ := l
  obtain ⟨hu1, hb1, hg1⟩ := h1
  simp only at hu1 hb1 hg1
  have ek : (numV k).n = k.val := in_num k
  rw [twoB_shift o hg, ek, and31_small h0 h31]
  unfold lawTwo
  rw [hg]
  cases l with
  | none => exact ⟨hu1, fun _ => by show (x.b || _) = true; rw [hb1 rfl]; rfl, fun n q => by cases q⟩
  | some a =>
    obtain ⟨b1, e1⟩ := hg1 a rfl
    refine ⟨hu1, fun q => (nomatch q), fun n q => ?_⟩
    have q' : some (shS o a k.val u1) = some n := q
    refine ⟨by show (x.b || false) = false; rw [b1]; rfl, ?_⟩
    show led32 (if (o.txt == Str.ofString "<<") = true then x.n * 2 ^ k.val.toNat else x.n.fdiv (2 ^ k.val.toNat)) x.u = n
    rw [e1, hu1, ← Option.some.inj q']
    unfold shS
    cases (o.txt == Str.ofString "<<") <;> rfl
theorem agree_cmp {o : Bop} (hg : o.grp = .cmp) {x y : V} {l m : Option Int × Bool} (h1 : Agree x l) (h2 : Agree y m) : Agree (twoB o x y) (lawTwo o l.1 l.2 m.1 m.2) := by
  obtain ⟨l, u1⟩ := l
  obtain ⟨m, u2⟩ := m
  obtain ⟨hu1, hb1, hg1⟩ := h1
  obtain ⟨hu2, hb2, hg2⟩ := h2
  simp only at hu1 hu2 hb1 hb2 hg1 hg2
  rw [twoB_cmp o hg]
  unfold lawTwo
  rw [hg]
  cases l with
  | none => exact ⟨rfl, fun _ => by show (x.b || y.b) = true; rw [hb1 rfl]; rfl, fun n q => by cases q⟩
  | some a => cases m with
    | none => exact ⟨rfl, fun _ => by show (x.b || y.b) = true; rw [hb2 rfl]; simp, fun n q => by cases q⟩
    | some b =>
      obtain ⟨b1, e1⟩ := hg1 a rfl
      obtain ⟨b2, e2⟩ := hg2 b rfl
      refine ⟨rfl, fun q => (nomatch q), fun n q => ⟨by show (x.b || y.b) = false; rw [b1, b2]; rfl, ?_⟩⟩
      rw [e1, e2, hu1, hu2]
      exact Option.some.inj q
theorem agree_ari {o : Bop} (hg : o.grp = .ari) {x y : V} {l m : Option Int × Bool} (h1 : Agree x l) (h2 : Agree y m) : Agree (twoB o x y) (lawTwo o l.1 l.2 m.1 m.2) := by
  obtain ⟨l, u1⟩ := l
  obtain ⟨m, u2⟩ := m
  obtain ⟨hu1, hb1, hg1⟩ := h1
  obtain ⟨hu2, hb2, hg2⟩ := h2
  simp only at hu1 hu2 hb1 hb2 hg1 hg2
  have hu : (x.u || y.u) = (u1 || u2) := by rw [hu1, hu2]
  rw [twoB_ari o hg]
  unfold lawTwo
  rw [hg]
  cases l with
  | none => exact ⟨hu, fun _ => by show (x.b || y.b) = true; rw [hb1 rfl]; rfl, fun n q => by cases q⟩
  | some a => cases m with
    | none => exact ⟨hu, fun _ => by show (x.b || y.b) = true; rw [hb2 rfl]; simp, fun n q => by cases q⟩
    | some b =>
      obtain ⟨b1, e1⟩ := hg1 a rfl
      obtain ⟨b2, e2⟩ := hg2 b rfl
      refine ⟨hu, fun q => (nomatch q), fun n q => ⟨by show (x.b || y.b) = false; rw [b1, b2]; rfl, ?_⟩⟩
      rw [e1, e2, hu1, hu2]
      exact Option.some.inj q
theorem agree_div {o : Bop} (hg : o.grp = .div) {x y : V} {l m : Option Int × Bool} (h1 : Agree x l) (h2 : Agree y m) (hin : ∀ b, m.1 = some b → b ≠ 0 → led32 b (l.2 || m.2) ≠ 0) : Agree (twoB o x y) (lawTwo o l.1 l.2 m.1 m.2) := by
  obtain ⟨l, u1⟩ := l
  obtain ⟨m, u2⟩ := m
  obtain ⟨hu1, hb1, hg1⟩ := h1
  obtain ⟨hu2, hb2, hg2⟩ := h2
  simp only at hu1 hu2 hb1 hb2 hg1 hg2 hin
  have hu : (x.u || y.u) = (u1 || u2) := by rw [hu1, hu2]
  have hU : (twoB o x y).u = (u1 || u2) := by rw [twoB_div o hg]; split <;> exact hu
  have hB : (x.b || y.b) = true → (twoB o x y).b = true := fun q => by rw [twoB_div o hg]; split; rfl; exact q
  have lw : ∀ p q, (lawTwo o p u1 q u2).2 = (u1 || u2) := fun p q => by unfold lawTwo; rw [hg]; cases p <;> cases q <;> rfl
  refine ⟨by rw [hU, lw], fun q => ?_, fun n q => ?_⟩
  · unfold lawTwo at q
    rw [hg] at q
    cases l with
    | none => exact hB (by rw [hb1 rfl]; rfl)
    | some a => cases m with
      | none => exact hB (by rw [hb2 rfl]; simp)
      | some b =>
        have q' : divS o a b (u1 || u2) = none := q
        unfold divS at q'
        split at q'
        · obtain ⟨b2, e2⟩ := hg2 b rfl
          rw [twoB_div o hg, e2]
          rename_i hb
          rw [hb, led_zero]
          rfl
        · cases q'
  · unfold lawTwo at q
    rw [hg] at q
    cases l with
    | none => cases q
    | some a => cases m with
      | none => cases q
      | some b =>
        obtain ⟨b1, e1⟩ := hg1 a rfl
        obtain ⟨b2, e2⟩ := hg2 b rfl
        have q' : divS o a b (u1 || u2) = some n := q
        unfold divS at q'
        split at q'
        · cases q'
        · rename_i hb
          have hz : led32 y.n (x.u || y.u) ≠ 0 := by rw [e2, hu]; exact hin b rfl hb
          rw [twoB_div o hg, if_neg (by simpa using hz)]
          refine ⟨by show (x.b || y.b) = false; rw [b1, b2]; rfl, ?_⟩
          rw [e1, e2, hu]
          exact Option.some.inj q'
theorem agree : ∀ D : Tr, D.Good → Agree D.val D.lawW
  | .leaf k, _ => agree_num k
  | .un o t, g => agree_one (agree t g)
  | .cond a b c, g => agree_cond (agree a g.1) (agree b g.2.1) (agree c g.2.2)
  | .bin o a b, g => by
    have ga := agree a g.1
    have gb := agree b g.2.1
    show Agree (twoB o a.val b.val) (lawTwo o a.lawW.1 a.lawW.2 b.lawW.1 b.lawW.2)
    cases hg : o.grp with
    | log => exact agree_log hg ga gb
    | shift =>
      obtain ⟨k, rfl, h0, h1⟩ := g.2.2 hg
      exact agree_shift hg ga h0 h1
    | div => exact agree_div hg ga gb fun n hn hz => in_nz (lawW_in b n hn) hz
    | cmp => exact agree_cmp hg ga gb
    | ari => exact agree_ari hg ga gb
end
section
open PySem PySem.W PyProof.Rows PySem.Calls PySem.Spec
section
def Stop (P : Prop) : Prop := P
theorem stopU {P : Prop} (h : Stop P) : P := h
theorem mR_start (tl pl : Addr) (vt : Value) (line : Int) (tln : Tok) : (fun y => if y = Str.ofString "place" then some (Value.ref pl) else if y = Str.ofString "tokens" then some (.ref tl) else ([(Str.ofString "tree", vt), (Str.ofString "line", Value.int line tln)] : List (Str × Value)).reverse.lookup y) = mR tl pl vt line tln none := by
  funext y
  unfold mR
  by_cases h1 : y = Str.ofString "text"
  · subst h1; rfl
  · rw [if_neg h1]
    by_cases h2 : y = Str.ofString "place"
    · subst h2; rfl
    · rw [if_neg h2]
      by_cases h3 : y = Str.ofString "tokens"
      · rw [if_pos h3, if_pos h3]
      · rw [if_neg h3, if_neg h3, if_neg h2]
        show List.lookup y [(Str.ofString "line", Value.int line tln), (Str.ofString "tree", vt)] = _
        by_cases h4 : y = Str.ofString "line"
        · subst h4; rfl
        · rw [if_neg h4, List.lookup_cons, show (y == Str.ofString "line") = false from beq_eq_false_iff_ne.mpr h4]
          by_cases h5 : y = Str.ofString "tree"
          · subst h5; rfl
          · rw [if_neg h5]
            show List.lookup y [(Str.ofString "tree", vt)] = none
            rw [List.lookup_cons, show (y == Str.ofString "tree") = false from beq_eq_false_iff_ne.mpr h5]
            rfl
theorem worth_none {w : World} {D : Tr} (hx : D.lawW.1 = none) : WorthTo w D none D.lawW.2 := by
  rw [← hx]; exact worth_tell D
theorem worth_some {w : World} {D : Tr} {n : Int} (hx : D.lawW.1 = some n) : WorthTo w D (some n) D.lawW.2 := by
  rw [← hx]; exact worth_tell D
theorem iso_led {h₀ h : Heap} {L : Addr} {p1 p2 p3 p4 : Addr × Obj} {r : List (Addr × Obj)} (N : News h₀ L h (p1 :: p2 :: p3 :: p4 :: r)) : News h₀ L h (p3 :: p4 :: p2 :: p1 :: r) := cb_drop N fun x hx => by
  simp only [List.mem_cons] at hx ⊢
  rcases hx with h | h | h | h | h <;> simp [h]
theorem iso_six {c dc vl sl : Nat} (l2 : dc < c) (l3 : c < vl) (l4 : vl < sl) : Six c dc vl sl := ⟨by omega, by omega, by omega, by omega, by omega, by omega⟩
theorem iso_ap {c dc vl sl : Nat} {rest : List (Addr × Obj)} (l1 : AllLt dc rest) (l2 : dc < c) (l3 : c < vl) (l4 : vl < sl) : Apart rest vl sl :=
  ⟨fun p hp => by have h : @LT.lt Nat _ p.1 dc := ktn_ltOf l1 p hp; exact Nat.ne_of_lt (by omega), fun p hp => by have h : @LT.lt Nat _ p.1 dc := ktn_ltOf l1 p hp; exact Nat.ne_of_lt (by omega)⟩
theorem noIt_cons {d : Addr} {o : Obj} {r : List (Addr × Obj)} (hc : o.cls ≠ .type "list_iterator") (h : NoIt r) : NoIt ((d, o) :: r) := fun p hp => by
  rcases List.mem_cons.mp hp with rfl | hp
  · exact hc
  · exact h p hp
theorem apHead {p0 : Addr × Obj} {tl l : Addr} {o2 : Obj} {r : List (Addr × Obj)} (h : ∀ p ∈ p0 :: (tl, o2) :: r, p.1 ≠ l) : l ≠ tl := fun e => h (tl, o2) (.tail _ (.head _)) e.symm
theorem apAll {tl a b c d : Addr} {oa ob oc od : Obj} {news : List (Addr × Obj)} (ha : a ≠ tl) (hb : @Ne Nat b tl) (hc : @Ne Nat c tl) (hd : @Ne Nat d tl) (hn : AllLt tl news) : ∀ p ∈ (a, oa) :: (b, ob) :: (c, oc) :: (d, od) :: news, p.1 ≠ tl := fun p hp => by
  rcases List.mem_cons.mp hp with rfl | hp
  · exact ha
  · rcases List.mem_cons.mp hp with rfl | hp
    · exact hb
    · rcases List.mem_cons.mp hp with rfl | hp
      · exact hc
      · rcases List.mem_cons.mp hp with rfl | hp
        · exact hd
        · exact Nat.ne_of_lt (ktn_ltOf hn p hp)
theorem texts_snd (D : Tr) : D.texts = D.words.map (·.2) := rfl
end
end
section
open PySem PySem.W PyProof.Rows PySem.Calls PySem.Spec
local macro_rules | `(tactic| k_room) => `(tactic| ktr_room)
local macro_rules | `(tactic| k_units) => `(tactic| ktr_units)
local macro_rules | `(tactic| k_all) => `(tactic| assumption)
local macro_rules | `(tactic| walk_at "execs cons") => `(tactic| (with_reducible refine gen_toks ?_; intro tk))
local macro_rules | `(tactic| walk_at "execs nil") => `(tactic| (with_reducible refine gen_toks ?_; intro tk))
section
open PySem PySem.W PyProof.Rows PySem.Calls PySem.Spec
section
local macro_rules | `(tactic| walk_at "eval Call") => `(tactic| ((with_reducible show wpAny _ _ (eval (Expr.Call (Expr.Name _ _) _ [] _) _) _ _ _); k_dflt (refine Call_ ?_)))
local macro_rules | `(tactic| walk_at "call ref") => `(tactic| ((k_dflt (show wpAny _ _ (call (Value.ref 106) [Value.str _ _, Value.str _ _, Value.str _ _, Value.int _ _]) _ _ _)); k_dflt (refine' mkTok _ _ _ _ _ _ _ _ ?k1 ?k2 ?k3 ?k4 ?k5 ?kK  ?kd ?ku ?_; (case k1 | k2 | k3 | k4 | k5 => k_asm); (case kK => first | exact rfl | assumption);  (case kd => ktr_room); (case ku => ktr_units); k_whole; intro xk' dk' kj1' kj2' kj3' kj4' h' tk' F' N' l1 l2); (have l1b := l1); (replace l2 := ltN l2); (try simp only [AllLt, and_true] at l1); (try obtain ⟨_, _⟩ := l1); (try dsimp only); (try k_fold)))
local macro_rules | `(tactic| walk_at "call ref") => `(tactic| ((k_dflt (show wpAny _ _ (call (Value.ref 324) [_]) _ _ _)); k_dflt (refine' wordsUse (by assumption) ?k1 ?k2 ?k3 ?k4 ?k5 ?kK ?kt ?kw ?kd ?ku ?_; (case k1 | k2 | k3 | k4 | k5 => k_asm); (case kK => first | exact rfl | assumption); (case kt => first | assumption | (exact TreeAt.mono (by assumption) (by intro p hp; simp only [List.mem_cons, hp, or_true, true_or]))); (case kw => assumption); (case kd => ktr_room); (case ku => ktr_units); k_whole; intro l' ws' n' h' tk' F' N' hf' hs'); (try dsimp only); (try k_fold)))
local macro_rules | `(tactic| walk_at "exec For Name Call cons nil") => `(tactic| ((rename Fr _ _ _ _ => lF'); (with_unfolding_all refine' For_invVF lF' ?k1 ?k2 ?_; (case k1 => exact rfl); (case k2 => exact rfl); k_whole)))
local macro_rules | `(tactic| walk_at "pyIter ref") => `(tactic| ((k_dflt (show wpAny _ _ (pyIter (Value.ref _)) _ _ _)); refine stopU ?_))
local macro_rules | `(tactic| walk_at "call ref") => `(tactic| ((k_dflt (show wpAny _ _ (call (Value.ref 343) [_]) _ _ _)); k_dflt (refine' worthUse (by assumption) ?k1 ?k2 ?k3 ?k4 ?k5 ?kK ?kt ?kw ?kd ?ku ?_; (case k1 | k2 | k3 | k4 | k5 => k_asm); (case kK => first | exact rfl | assumption); (case kt => first | assumption | (exact TreeAt.mono (by assumption) (by intro p hp; simp only [List.mem_cons, hp, or_true, true_or])) | (exact TreeAt.mono (by assumption) (fun p hp => .tail _ ((by assumption : ∀ q ∈ news, q ∈ _) p hp)))); (case kw => assumption); (case kd => ktr_room); (case ku => ktr_units); k_whole; intro l' t' x' u' h' tk' hx' hu' F' N' hf'); (subst hx'); (try dsimp only [optV]); (try k_fold)))
local macro_rules | `(tactic| walk_at "call ref") => `(tactic| ((k_dflt (show wpAny _ _ (call (Value.ref 291) [Value.ref _, Value.ref _]) _ _ _)); k_dflt (refine' mkCond _ _ ?k1 ?k2 ?k3 ?k4 ?k5 ?kK ?kd ?ku ?_; (case k1 | k2 | k3 | k4 | k5 => k_asm); (case kK => first | exact rfl | assumption); (case kd => ktr_room); (case ku => ktr_units); k_whole; intro c' dc' vl' sl' kc1' kc2' kc3' kc4' nv' ns' h' tk' F' N' l1 l2 l3 l4); (try dsimp only); (try k_fold)))
local macro_rules | `(tactic| walk_at "call ref") => `(tactic| ((k_dflt (show wpAny _ _ (call (Value.ref 288) [Value.ref _]) _ _ _)); refine stopU ?_))
local macro_rules | `(tactic| walk_at "getAttr ref") => `(tactic| (first | ((with_reducible show wpAny _ _ (getAttr (Value.ref _) (Str.ofString "file") _) _ _ _); k_dflt (refine' fault_file ?X ?F ?N ?_; (case X => k_asm); (case F => k_asm); (case N => k_asm))) | ((with_reducible show wpAny _ _ (getAttr (Value.ref _) (Str.ofString "line") _) _ _ _); k_dflt (refine' fault_line ?X ?F ?N ?_; (case X => k_asm); (case F => k_asm); (case N => k_asm)))))
section
variable {w : World} {mean : ExcName → Option Value} {mg mb : Str → Option Value} {dp un : Nat} {gd : Option (List Code)} {cn : Str} {cs : Scope} {a : Addr} {ccd : Value} {A₀ : Around} {base h₀ : Heap} {L : Addr} {m : Str → Option Value} {news : List (Addr × Obj)} {s : Shared} {Q E : Value → Shared → Prop}
theorem rightN (D : Tr) (line : Int) (v : Value) (tln : Tok) (B : Below A₀ base [] h₀) (F : Fr h₀ L s.heap m) (X : (KQ w.params).In h₀) (N : News h₀ L s.heap news) (T : Top viewQ looseQ mean mg mb h₀) (hk : cs.kind = .function) (XB : (KQ w.params).In base) (TB : Top viewQ looseQ mean mg mb base) (SA : SetsAt w h₀)
    (ht : TreeAt news v D) (hg : D.Good) (hx : D.lawW.1 = none) (hdeep : D.deep ≤ 3) (hni : NoIt news) (hlen : D.texts.length < 900)
    (hd : dp + 200 < recursionLimit) (hu : un + 4000 < cLine)
    (ret : ∀ (h' : Heap) (tk' : Nat), Fr h₀ L h' m → News h₀ L h' news → Q (.bool true) { s with heap := h', toks := tk' }) :
    wpAny (MQ w) (ktrTop dp un gd cn cs L a ccd [] []) (call (.ref 350) [v, .int line tln]) Q E s := by
  have hWo : WordsTell w D := words_tell D
  have hW1 : WorthTo w D none D.lawW.2 := worth_none hx
  have hlen1 : D.texts.length < 1000 := by omega
  refine wpAny_call ?_
  (k_dflt (refine' code_defS0 (binds := [(Str.ofString "tree", v), (Str.ofString "line", .int line tln)]) ?k1 ?k2 ?k3 ?k4 ?k5 ?kA ?k6 ?k7 ?k8 ?k9 ?kB ?_ ?cK ?c2 ?c3 ?c4 ?c5; (case kA => exact rfl); (case k2 => k_asm); (case k1 => k_asm); (case k3 => k_asm); (case k4 => k_asm); (case k5 => k_asm); (case k6 | k7 => k_is); (case k8 => ktr_room); (case k9 => exact BindsTo.of_eq rfl); (case kB => exact locs rfl); (case cK => first | exact rfl | assumption); (case c2 | c3 | c4 => exact rfl); (case c5 => decide); k_whole; intro g' L' h' FG' F' N' B' X' T' D'; (try dsimp only); (try k_lift B'); (try k_fold)))
  k_steps
  all_goals (rename Fr _ _ _ _ => lF; rename News _ _ _ _ => lN; rename Below _ _ _ _ => lB; rename Frag.In _ _ => lX; rename Top _ _ _ _ _ _ => lT; rename StrsAre _ _ => lS)
  all_goals (unfold Stop)
  all_goals (rw [mR_start] at lF)
  all_goals (refine iter_listUnr rfl lF (shuf3 lN) (.tail _ (.head _)) rfl rfl fun I hI => ?_)
  all_goals (k_dflt (refine tokLoop lB lX lT ?_ ?_ D.words _ [] [] _ _ none lS (words_word D) (.head _) ?_ ?_ .nil (by rw [texts_snd, List.length_map] at hlen; show 0 + _ < 1000; omega) (fun toks nt rest tv hsub hap hni2 hto => ?_)))
  · ktr_room
  · ktr_units
  · exact apAll (apHead (by assumption)) (by k_ne) (by k_ne) (by k_ne) (And.right (And.right (by assumption)))
  · exact noIt_cons (by intro q; exact absurd (Value.type.inj q) (by decide)) (noIt_cons (by intro q; exact absurd (Value.type.inj q) (by decide)) (noIt_cons (by intro q; cases q) (noIt_cons (by intro q; exact absurd (Value.type.inj q) (by decide)) hni)))
  · refine ListRest.zero (fun h2 tk2 F2 N2 => ?_)
    unfold mR at F2
    clear lF lN
    have ht2 : TreeAt rest v D := ht.mono (fun p hp => hsub p (.tail _ (.tail _ (.tail _ (.tail _ hp)))))
    dsimp only
    k_steps
    all_goals (rename Fr _ _ _ _ => lF; rename News _ _ _ _ => lN; rename AllLt _ _ => q1; rename @LT.lt _ _ _ _ => q9)
    all_goals (unfold Stop)
    all_goals (dsimp only [optV] at lF)
    all_goals (k_dflt (refine isoC D toks _ _ _ _ _ _ _ _ _ _ _ _ _ lB lF lX (iso_led lN) lT rfl (SA.keeps FG'.keep) (iso_six (by assumption) (by assumption) (by assumption)) (iso_ap q1 (by assumption) (by assumption) (by assumption)) (noIt_cons (by intro q; exact absurd (Value.type.inj q) (by decide)) (noIt_cons (by intro q; exact absurd (Value.type.inj q) (by decide)) hni2)) (.tail _ (.head _)) (hto.mono (fun p hp => .tail _ (.tail _ hp))) (by omega) (.tail _ (.tail _ (hsub _ (.tail _ (.tail _ (.head _)))))) (.tail _ (.tail _ (hsub _ (.tail _ (.tail _ (.tail _ (.head _))))))) (fun hbad g3 h3 e d f1 f2 f3 t0 v3 v4 news3 tk3 F3 R3 U3 hd3 hk3 => ?_) (by ktr_room) (by ktr_units) (fun hb0 => absurd (((agree D hg).bad hx).symm.trans hb0) (by decide))))
    all_goals (k_dflt (refine caughtD R3 F3 lB U3 XB TB D' KtsTurn.refl (x := Str.ofString "DirectiveFault") (by kernel_rfl!) (by kernel_rfl!) (fun h5 g5 vs5 tk5 T5 F5 N5 B5 X5 P5 D5 => ?_)))
    all_goals (clear lF lN lB lX lT F3 R3 U3)
    all_goals (try clear D'); all_goals (try clear F'); all_goals (try clear N'); all_goals (try clear F2); all_goals (try clear N2)
    all_goals (have N6 := News.dup N5 (.tail _ hd3))
    all_goals (clear N5)
    all_goals k_steps
    all_goals (exact ret _ _ (by assumption) (cb_drop (by assumption) (fun p hp => .tail _ (.tail _ (.tail _ (.tail _ (hk3 p (.tail _ (.tail _ (hsub p (.tail _ (.tail _ (.tail _ (.tail _ hp))))))))))))))
end
end
end
section
open PySem PySem.W PyProof.Rows PySem.Calls PySem.Spec
section
local macro_rules | `(tactic| walk_at "eval Call") => `(tactic| ((with_reducible show wpAny _ _ (eval (Expr.Call (Expr.Name _ _) _ [] _) _) _ _ _); k_dflt (refine Call_ ?_)))
local macro_rules | `(tactic| walk_at "call ref") => `(tactic| ((k_dflt (show wpAny _ _ (call (Value.ref 106) [Value.str _ _, Value.str _ _, Value.str _ _, Value.int _ _]) _ _ _)); k_dflt (refine' mkTok _ _ _ _ _ _ _ _ ?k1 ?k2 ?k3 ?k4 ?k5 ?kK  ?kd ?ku ?_; (case k1 | k2 | k3 | k4 | k5 => k_asm); (case kK => first | exact rfl | assumption);  (case kd => ktr_room); (case ku => ktr_units); k_whole; intro xk' dk' kj1' kj2' kj3' kj4' h' tk' F' N' l1 l2); (have l1b := l1); (replace l2 := ltN l2); (try simp only [AllLt, and_true] at l1); (try obtain ⟨_, _⟩ := l1); (try dsimp only); (try k_fold)))
local macro_rules | `(tactic| walk_at "call ref") => `(tactic| ((k_dflt (show wpAny _ _ (call (Value.ref 324) [_]) _ _ _)); k_dflt (refine' wordsUse (by assumption) ?k1 ?k2 ?k3 ?k4 ?k5 ?kK ?kt ?kw ?kd ?ku ?_; (case k1 | k2 | k3 | k4 | k5 => k_asm); (case kK => first | exact rfl | assumption); (case kt => first | assumption | (exact TreeAt.mono (by assumption) (by intro p hp; simp only [List.mem_cons, hp, or_true, true_or]))); (case kw => assumption); (case kd => ktr_room); (case ku => ktr_units); k_whole; intro l' ws' n' h' tk' F' N' hf' hs'); (try dsimp only); (try k_fold)))
local macro_rules | `(tactic| walk_at "exec For Name Call cons nil") => `(tactic| ((rename Fr _ _ _ _ => lF'); (with_unfolding_all refine' For_invVF lF' ?k1 ?k2 ?_; (case k1 => exact rfl); (case k2 => exact rfl); k_whole)))
local macro_rules | `(tactic| walk_at "pyIter ref") => `(tactic| ((k_dflt (show wpAny _ _ (pyIter (Value.ref _)) _ _ _)); refine stopU ?_))
local macro_rules | `(tactic| walk_at "call ref") => `(tactic| ((k_dflt (show wpAny _ _ (call (Value.ref 343) [_]) _ _ _)); k_dflt (refine' worthUse (by assumption) ?k1 ?k2 ?k3 ?k4 ?k5 ?kK ?kt ?kw ?kd ?ku ?_; (case k1 | k2 | k3 | k4 | k5 => k_asm); (case kK => first | exact rfl | assumption); (case kt => first | assumption | (exact TreeAt.mono (by assumption) (by intro p hp; simp only [List.mem_cons, hp, or_true, true_or])) | (exact TreeAt.mono (by assumption) (fun p hp => .tail _ ((by assumption : ∀ q ∈ news, q ∈ _) p hp)))); (case kw => assumption); (case kd => ktr_room); (case ku => ktr_units); k_whole; intro l' t' x' u' h' tk' hx' hu' F' N' hf'); (subst hx'); (try dsimp only [optV]); (try k_fold)))
local macro_rules | `(tactic| walk_at "call ref") => `(tactic| ((k_dflt (show wpAny _ _ (call (Value.ref 291) [Value.ref _, Value.ref _]) _ _ _)); k_dflt (refine' mkCond _ _ ?k1 ?k2 ?k3 ?k4 ?k5 ?kK ?kd ?ku ?_; (case k1 | k2 | k3 | k4 | k5 => k_asm); (case kK => first | exact rfl | assumption); (case kd => ktr_room); (case ku => ktr_units); k_whole; intro c' dc' vl' sl' kc1' kc2' kc3' kc4' nv' ns' h' tk' F' N' l1 l2 l3 l4); (try dsimp only); (try k_fold)))
local macro_rules | `(tactic| walk_at "call ref") => `(tactic| ((k_dflt (show wpAny _ _ (call (Value.ref 288) [Value.ref _]) _ _ _)); refine stopU ?_))
local macro_rules | `(tactic| walk_at "getAttr ref") => `(tactic| (first | ((with_reducible show wpAny _ _ (getAttr (Value.ref _) (Str.ofString "file") _) _ _ _); k_dflt (refine' fault_file ?X ?F ?N ?_; (case X => k_asm); (case F => k_asm); (case N => k_asm))) | ((with_reducible show wpAny _ _ (getAttr (Value.ref _) (Str.ofString "line") _) _ _ _); k_dflt (refine' fault_line ?X ?F ?N ?_; (case X => k_asm); (case F => k_asm); (case N => k_asm)))))
section
variable {w : World} {mean : ExcName → Option Value} {mg mb : Str → Option Value} {dp un : Nat} {gd : Option (List Code)} {cn : Str} {cs : Scope} {a : Addr} {ccd : Value} {A₀ : Around} {base h₀ : Heap} {L : Addr} {m : Str → Option Value} {news : List (Addr × Obj)} {s : Shared} {Q E : Value → Shared → Prop}
theorem rightS (D : Tr) (n : Int) (line : Int) (v : Value) (tln : Tok) (B : Below A₀ base [] h₀) (F : Fr h₀ L s.heap m) (X : (KQ w.params).In h₀) (N : News h₀ L s.heap news) (T : Top viewQ looseQ mean mg mb h₀) (hk : cs.kind = .function) (XB : (KQ w.params).In base) (TB : Top viewQ looseQ mean mg mb base) (SA : SetsAt w h₀)
    (ht : TreeAt news v D) (hg : D.Good) (hx : D.lawW.1 = some n) (hdeep : D.deep ≤ 3) (hni : NoIt news) (hlen : D.texts.length < 900)
    (hd : dp + 200 < recursionLimit) (hu : un + 4000 < cLine)
    (ret : ∀ (h' : Heap) (tk' : Nat), Fr h₀ L h' m → News h₀ L h' news → Q (.bool true) { s with heap := h', toks := tk' }) :
    wpAny (MQ w) (ktrTop dp un gd cn cs L a ccd [] []) (call (.ref 350) [v, .int line tln]) Q E s := by
  have hWo : WordsTell w D := words_tell D
  have hW1 : WorthTo w D (some n) D.lawW.2 := worth_some hx
  have hlen1 : D.texts.length < 1000 := by omega
  refine wpAny_call ?_
  (k_dflt (refine' code_defS0 (binds := [(Str.ofString "tree", v), (Str.ofString "line", .int line tln)]) ?k1 ?k2 ?k3 ?k4 ?k5 ?kA ?k6 ?k7 ?k8 ?k9 ?kB ?_ ?cK ?c2 ?c3 ?c4 ?c5; (case kA => exact rfl); (case k2 => k_asm); (case k1 => k_asm); (case k3 => k_asm); (case k4 => k_asm); (case k5 => k_asm); (case k6 | k7 => k_is); (case k8 => ktr_room); (case k9 => exact BindsTo.of_eq rfl); (case kB => exact locs rfl); (case cK => first | exact rfl | assumption); (case c2 | c3 | c4 => exact rfl); (case c5 => decide); k_whole; intro g' L' h' FG' F' N' B' X' T' D'; (try dsimp only); (try k_lift B'); (try k_fold)))
  k_steps
  all_goals (rename Fr _ _ _ _ => lF; rename News _ _ _ _ => lN; rename Below _ _ _ _ => lB; rename Frag.In _ _ => lX; rename Top _ _ _ _ _ _ => lT; rename StrsAre _ _ => lS)
  all_goals (unfold Stop)
  all_goals (rw [mR_start] at lF)
  all_goals (refine iter_listUnr rfl lF (shuf3 lN) (.tail _ (.head _)) rfl rfl fun I hI => ?_)
  all_goals (k_dflt (refine tokLoop lB lX lT ?_ ?_ D.words _ [] [] _ _ none lS (words_word D) (.head _) ?_ ?_ .nil (by rw [texts_snd, List.length_map] at hlen; show 0 + _ < 1000; omega) (fun toks nt rest tv hsub hap hni2 hto => ?_)))
  · ktr_room
  · ktr_units
  · exact apAll (apHead (by assumption)) (by k_ne) (by k_ne) (by k_ne) (And.right (And.right (by assumption)))
  · exact noIt_cons (by intro q; exact absurd (Value.type.inj q) (by decide)) (noIt_cons (by intro q; exact absurd (Value.type.inj q) (by decide)) (noIt_cons (by intro q; cases q) (noIt_cons (by intro q; exact absurd (Value.type.inj q) (by decide)) hni)))
  · refine ListRest.zero (fun h2 tk2 F2 N2 => ?_)
    unfold mR at F2
    clear lF lN
    have ht2 : TreeAt rest v D := ht.mono (fun p hp => hsub p (.tail _ (.tail _ (.tail _ (.tail _ hp)))))
    dsimp only
    k_steps
    all_goals (rename Fr _ _ _ _ => lF; rename News _ _ _ _ => lN; rename AllLt _ _ => q1; rename @LT.lt _ _ _ _ => q9)
    all_goals (unfold Stop)
    all_goals (dsimp only [optV] at lF)
    all_goals (k_dflt (refine isoC D toks _ _ _ _ _ _ _ _ _ _ _ _ _ lB lF lX (iso_led lN) lT rfl (SA.keeps FG'.keep) (iso_six (by assumption) (by assumption) (by assumption)) (iso_ap q1 (by assumption) (by assumption) (by assumption)) (noIt_cons (by intro q; exact absurd (Value.type.inj q) (by decide)) (noIt_cons (by intro q; exact absurd (Value.type.inj q) (by decide)) hni2)) (.tail _ (.head _)) (hto.mono (fun p hp => .tail _ (.tail _ hp))) (by omega) (.tail _ (.tail _ (hsub _ (.tail _ (.tail _ (.head _)))))) (.tail _ (.tail _ (hsub _ (.tail _ (.tail _ (.tail _ (.head _))))))) (fun hbad => absurd (((agree D hg).good n hx).1.symm.trans hbad) (by decide)) (by ktr_room) (by ktr_units) (fun hb0 h5 tk5 F5 N5 => ?_)))
    all_goals (rw [((agree D hg).good n hx).2])
    all_goals (clear lF lN)
    all_goals (try clear F2); all_goals (try clear N2)
    all_goals (dsimp only)
    all_goals k_steps
    all_goals (rw [show ((n != 0) == (n != 0)) = true from beq_self_eq_true _])
    all_goals (exact ret _ _ (by assumption) (cb_drop (by assumption) (fun p hp => .tail _ (.tail _ (hsub p (.tail _ (.tail _ (.tail _ (.tail _ hp)))))))))
end
end
end
end
section
open PySem PySem.W PyProof.Rows PySem.Calls PySem.Spec
section
theorem len_texts : ∀ (n : Nat) (D : Tr), D.deep ≤ n → D.texts.length + 4 ≤ 5 * 3 ^ n := by
  intro n
  induction n with
  | zero =>
    intro D h
    cases D with
    | leaf k => rw [texts_leaf]; show 1 + 4 ≤ 5 * 3 ^ 0; decide
    | un o t => unfold Tr.deep at h; omega
    | bin o a b => unfold Tr.deep at h; omega
    | cond a b c => unfold Tr.deep at h; omega
  | succ n ih =>
    intro D h
    have e : 3 ^ (n + 1) = 3 ^ n * 3 := Nat.pow_succ 3 n
    have p : 1 ≤ 3 ^ n := Nat.one_le_pow _ _ (by decide)
    cases D with
    | leaf k => rw [texts_leaf]; show 1 + 4 ≤ _; omega
    | un o t =>
      unfold Tr.deep at h
      have := ih t (by omega)
      rw [texts_un]; simp only [List.length_append, List.length_cons, List.length_nil]; omega
    | bin o a b =>
      unfold Tr.deep at h
      have h1 := ih a (by omega)
      have h2 := ih b (by omega)
      rw [texts_bin]; simp only [List.length_append, List.length_cons, List.length_nil]; omega
    | cond a b c =>
      unfold Tr.deep at h
      have h1 := ih a (by omega)
      have h2 := ih b (by omega)
      have h3 := ih c (by omega)
      rw [texts_cond]; simp only [List.length_append, List.length_cons, List.length_nil]; omega
theorem len_900 {D : Tr} (h : D.deep ≤ 3) : D.texts.length < 900 := by
  have := len_texts 3 D h
  omega
theorem cells_of {ys : List Value} {zs : List Int} (h : IntsAre ys (List.map (fun k => k.fmod 2147483647) (List.take 60 zs))) : Cells ys := by
  refine ⟨_, h, fun z hz => ?_, ?_⟩
  · obtain ⟨k, _, rfl⟩ := List.mem_map.mp hz
    exact ⟨fm0 _ (by decide), fm1 _ (by decide)⟩
  · rw [List.length_map, List.length_take]; omega
def Tr.goodB : Tr → Bool
  | .leaf _ => true
  | .un _ t => t.goodB
  | .bin o a b => a.goodB && b.goodB && (match o with | .shl => false | .shr => false | _ => true)
  | .cond a b c => a.goodB && b.goodB && c.goodB
theorem good_of : ∀ {D : Tr}, D.goodB = true → D.Good
  | .leaf _, _ => trivial
  | .un _ t, h => good_of (D := t) h
  | .bin o a b, h => by
    unfold Tr.goodB at h
    simp only [Bool.and_eq_true] at h
    refine ⟨good_of h.1.1, good_of h.1.2, fun q => ?_⟩
    cases o <;> first | exact absurd q (by decide) | (exact absurd h.2 (by decide))
  | .cond a b c, h => by
    unfold Tr.goodB at h
    simp only [Bool.and_eq_true] at h
    exact ⟨good_of h.1.1, good_of h.1.2, good_of h.2⟩
inductive Corner : Value → Prop where
  | z (t : Tok) : Corner (.str (Str.ofString "0") t)
  | o (t : Tok) : Corner (.str (Str.ofString "1") t)
  | t (t : Tok) : Corner (.str (Str.ofString "2") t)
  | l : Corner (.ref 298)
theorem Corner.tree {news : List (Addr × Obj)} {v : Value} (h : Corner v) : ∃ D : Tr, TreeAt news v D ∧ D.Good ∧ D.deep ≤ 1 := by
  cases h with
  | z t => exact ⟨_, TreeAt.leaf .a0 t, trivial, by decide⟩
  | o t => exact ⟨_, TreeAt.leaf .a1 t, trivial, by decide⟩
  | t t => exact ⟨_, TreeAt.leaf .a2 t, trivial, by decide⟩
  | l => exact ⟨_, TreeAt.lack, good_of rfl, by decide⟩
theorem hD_bin {news : List (Addr × Obj)} {D' : Addr} {t : Tok} {v1 v2 : Value} (o : Bop) (ho : o.grp ≠ .shift) (hm : (D', tupL [.str o.txt t, v1, v2]) ∈ news) (c1 : Corner v1) (c2 : Corner v2) : ∃ D : Tr, TreeAt news (.ref D') D ∧ D.Good ∧ D.deep ≤ 3 := by
  obtain ⟨A, a1, a2, a3⟩ := c1.tree (news := news)
  obtain ⟨B, b1, b2, b3⟩ := c2.tree (news := news)
  exact ⟨.bin o A B, .bin hm a1 b1, ⟨a2, b2, fun q => absurd q ho⟩, by unfold Tr.deep; omega⟩
theorem hD_cond {news : List (Addr × Obj)} {D' : Addr} {t : Tok} {v1 v2 v3 : Value} (hm : (D', tupL [.str (Str.ofString "?") t, v1, v2, v3]) ∈ news) (c1 : Corner v1) (c2 : Corner v2) (c3 : Corner v3) : ∃ D : Tr, TreeAt news (.ref D') D ∧ D.Good ∧ D.deep ≤ 3 := by
  obtain ⟨A, a1, a2, a3⟩ := c1.tree (news := news)
  obtain ⟨B, b1, b2, b3⟩ := c2.tree (news := news)
  obtain ⟨C, k1, k2, k3⟩ := c3.tree (news := news)
  exact ⟨.cond A B C, .cond hm a1 b1 k1, ⟨a2, b2, k2⟩, by unfold Tr.deep; omega⟩
section
variable {w : World} {mean : ExcName → Option Value} {mg mb : Str → Option Value} {dp un : Nat} {gd : Option (List Code)} {cn : Str} {cs : Scope} {a : Addr} {ccd : Value} {A₀ : Around} {base h₀ : Heap} {L : Addr} {m : Str → Option Value} {news : List (Addr × Obj)} {s : Shared} {Q E : Value → Shared → Prop}

theorem rightC (line : Int) (v : Value) (tln : Tok) (B : Below A₀ base [] h₀) (F : Fr h₀ L s.heap m) (X : (KQ w.params).In h₀) (N : News h₀ L s.heap news) (T : Top viewQ looseQ mean mg mb h₀) (hk : cs.kind = .function) (XB : (KQ w.params).In base) (TB : Top viewQ looseQ mean mg mb base) (SA : SetsAt w h₀)
    (hD : ∃ D : Tr, TreeAt news v D ∧ D.Good ∧ D.deep ≤ 3) (hni : NoIt news)
    (hd : dp + 200 < recursionLimit) (hu : un + 4000 < cLine)
    (ret : ∀ (h' : Heap) (tk' : Nat), Fr h₀ L h' m → News h₀ L h' news → Q (.bool true) { s with heap := h', toks := tk' }) :
    wpAny (MQ w) (ktrTop dp un gd cn cs L a ccd [] []) (call (.ref 350) [v, .int line tln]) Q E s := by
  obtain ⟨D, ht, hg, hdeep⟩ := hD
  cases hx : D.lawW.1 with
  | none => exact rightN D line v tln B F X N T hk XB TB SA ht hg hx hdeep hni (len_900 hdeep) hd hu ret
  | some n => exact rightS D n line v tln B F X N T hk XB TB SA ht hg hx hdeep hni (len_900 hdeep) hd hu ret
end
end
end
section
open PySem PySem.W PyProof.Rows PySem.Calls PySem.Spec
local macro_rules | `(tactic| k_room) => `(tactic| ktr_room)
local macro_rules | `(tactic| k_units) => `(tactic| ktr_units)
local macro_rules | `(tactic| k_all) => `(tactic| assumption)
local macro_rules | `(tactic| walk_at "execs cons") => `(tactic| (with_reducible refine gen_toks ?_; intro tk))
local macro_rules | `(tactic| walk_at "execs nil") => `(tactic| (with_reducible refine gen_toks ?_; intro tk))
section
open PySem PySem.W PyProof.Rows PySem.Calls PySem.Spec
section
theorem it_no {o : Obj} {n : String} (h : o.cls = .type n) (hn : n ≠ "list_iterator") : o.cls ≠ .type "list_iterator" := fun q => hn (Value.type.inj (h.symm.trans q))
theorem noIt_nil : NoIt [] := fun _ h => nomatch h
theorem apOk_nil {wl : Addr} : ApOk wl [] := fun _ h => nomatch h
local macro_rules | `(tactic| walk_at "eval Call") => `(tactic| ((with_reducible show wpAny _ _ (eval (Expr.Call (Expr.Name _ _) _ [] _) _) _ _ _); k_dflt (refine Call_ ?_)))
local macro_rules | `(tactic| walk_at "call ref") => `(tactic| ((k_dflt (show wpAny _ _ (call (Value.ref 350) [_, Value.int _ _]) _ _ _)); k_dflt (refine' rightC _ _ _ ?k1 ?k2 ?k3 ?k4 ?k5 ?kK ?XB ?TB ?SA ?ht ?hni ?kd ?ku ?_; (case k1 | k2 | k3 | k4 | k5 => k_asm); (case kK => exact rfl); (case XB => assumption); (case TB => assumption); (case SA => assumption); (case ht => first | exact ⟨_, by assumption, by assumption, by assumption⟩ | exact hD_bin .and (by decide) (.head _) (by (first | assumption | exact .z _ | exact .o _ | exact .t _ | exact .l)) (by (first | assumption | exact .z _ | exact .o _ | exact .t _ | exact .l)) | exact hD_bin .or (by decide) (.head _) (by (first | assumption | exact .z _ | exact .o _ | exact .t _ | exact .l)) (by (first | assumption | exact .z _ | exact .o _ | exact .t _ | exact .l)) | exact hD_cond (.head _) (by (first | assumption | exact .z _ | exact .o _ | exact .t _ | exact .l)) (by (first | assumption | exact .z _ | exact .o _ | exact .t _ | exact .l)) (by (first | assumption | exact .z _ | exact .o _ | exact .t _ | exact .l))); (case hni => (repeat' (first | assumption | (refine noIt_cons ?_ ?_) | exact noIt_nil | exact it_no rfl (by decide) | exact it_no (by assumption) (by decide) | assumption))); (case kd => ktr_room); (case ku => ktr_units); k_whole; intro h' tk' F' N'); (try dsimp only); (try k_fold)))
def cBody : List Stmt → List Stmt
  | _ :: _ :: .For _ _ [.For _ _ b _ _] _ _ :: _ => b
  | _ => []
section
variable {w : World} {mean : ExcName → Option Value} {mg mb : Str → Option Value} {dp un : Nat} {gd : Option (List Code)} {cn : Str} {cs : Scope} {a : Addr} {ccd : Value} {A₀ : Around} {base h₀ : Heap} {L : Addr} {m : Str → Option Value} {news : List (Addr × Obj)} {s : Shared} {Q E : Value → Shared → Prop}
theorem cornerBody {v1 v2 : Value} (c1 : Corner v1) (c2 : Corner v2) (B : Below A₀ base [] h₀) (F : Fr h₀ L s.heap (fun y => if y = Str.ofString "other" then some v2 else if y = Str.ofString "one" then some v1 else m y)) (X : (KQ w.params).In h₀) (N : News h₀ L s.heap news) (T : Top viewQ looseQ mean mg mb h₀) (XB : (KQ w.params).In base) (TB : Top viewQ looseQ mean mg mb base) (SA : SetsAt w h₀) (hni : NoIt news)
    (hd : dp + 300 < recursionLimit) (hu : un + 5000 < cLine) {QF : Flow → Shared → Prop}
    (ret : ∀ (h' : Heap) (tk' : Nat), Fr h₀ L h' (fun y => if y = Str.ofString "other" then some v2 else if y = Str.ofString "one" then some v1 else m y) → News h₀ L h' news → QF .next { s with heap := h', toks := tk' }) :
    wpAny (MQ w) (ktrTop dp un gd dL.name dL.scope L a ccd [] []) (execs (cBody dL.body) (envOf dL.name dL.scope L a ccd)) QF E s := by
  k_dflt (show wpAny _ _ (execs (_ :: _ :: []) _) _ _ _)
  k_steps
  all_goals (refine ret _ _ (by assumption) (cb_drop (by assumption) (fun p hp => by simp only [List.mem_cons, hp, or_true])))
theorem mC_eq {m' : Str → Option Value} {v1 v2 : Value} (e2 : m' (Str.ofString "other") = some v2) (e1 : m' (Str.ofString "one") = some v1) : (fun y => if y = Str.ofString "other" then some v2 else if y = Str.ofString "one" then some v1 else m' y) = m' := by
  funext y
  by_cases h : y = Str.ofString "other"
  · subst h; rw [if_pos rfl, e2]
  · rw [if_neg h]
    by_cases h2 : y = Str.ofString "one"
    · subst h2; rw [if_pos rfl, e1]
    · rw [if_neg h2]
theorem cornerTurn {v1 v2 : Value} {m' : Str → Option Value} (e2 : m' (Str.ofString "other") = some v2) (e1 : m' (Str.ofString "one") = some v1) (c1 : Corner v1) (c2 : Corner v2) (B : Below A₀ base [] h₀) (F : Fr h₀ L s.heap m') (X : (KQ w.params).In h₀) (N : News h₀ L s.heap news) (T : Top viewQ looseQ mean mg mb h₀) (XB : (KQ w.params).In base) (TB : Top viewQ looseQ mean mg mb base) (SA : SetsAt w h₀) (hni : NoIt news)
    (hd : dp + 300 < recursionLimit) (hu : un + 5000 < cLine) {QF : Flow → Shared → Prop}
    (ret : ∀ (h' : Heap) (tk' : Nat), Fr h₀ L h' m' → News h₀ L h' news → QF .next { s with heap := h', toks := tk' }) :
    wpAny (MQ w) (ktrTop dp un gd dL.name dL.scope L a ccd [] []) (execs (cBody dL.body) (envOf dL.name dL.scope L a ccd)) QF E s :=
  cornerBody c1 c2 B (m := m') (by rw [mC_eq e2 e1]; exact F) X N T XB TB SA hni hd hu (fun h' tk' F' N' => ret h' tk' (by rw [mC_eq e2 e1] at F'; exact F') N')
end
end
end
section
open PySem PySem.W PyProof.Rows PySem.Calls PySem.Spec
section
theorem noIt_ap {wl : Addr} {r : List (Addr × Obj)} (h : ApOk wl r) : NoIt r := fun p hp => (h p hp).2
local macro_rules | `(tactic| walk_at "eval Call") => `(tactic| ((with_reducible show wpAny _ _ (eval (Expr.Call (Expr.Name _ _) _ [] _) _) _ _ _); k_dflt (refine Call_ ?_)))
local macro_rules | `(tactic| walk_at "call ref") => `(tactic| ((k_dflt (show wpAny _ _ (call (Value.ref 350) [_, Value.int _ _]) _ _ _)); k_dflt (refine' rightC _ _ _ ?k1 ?k2 ?k3 ?k4 ?k5 ?kK ?XB ?TB ?SA ?ht ?hni ?kd ?ku ?_; (case k1 | k2 | k3 | k4 | k5 => k_asm); (case kK => exact rfl); (case XB => assumption); (case TB => assumption); (case SA => assumption); (case ht => first | exact ⟨_, by assumption, by assumption, by assumption⟩ | exact ⟨_, TreeAt.mono (by assumption) (fun p hp => .tail _ hp), by assumption, by assumption⟩ | exact hD_bin .and (by decide) (.head _) (by (first | assumption | exact .z _ | exact .o _ | exact .t _ | exact .l)) (by (first | assumption | exact .z _ | exact .o _ | exact .t _ | exact .l)) | exact hD_bin .or (by decide) (.head _) (by (first | assumption | exact .z _ | exact .o _ | exact .t _ | exact .l)) (by (first | assumption | exact .z _ | exact .o _ | exact .t _ | exact .l)) | exact hD_cond (.head _) (by (first | assumption | exact .z _ | exact .o _ | exact .t _ | exact .l)) (by (first | assumption | exact .z _ | exact .o _ | exact .t _ | exact .l)) (by (first | assumption | exact .z _ | exact .o _ | exact .t _ | exact .l))); (case hni => (repeat' (first | assumption | exact noIt_ap (by assumption) | (refine noIt_cons ?_ ?_) | exact noIt_nil | exact it_no rfl (by decide) | exact it_no (by assumption) (by decide) | assumption))); (case kd => ktr_room); (case ku => ktr_units); k_whole; intro h' tk' F' N'); (try dsimp only); (try k_fold)))
local macro_rules | `(tactic| walk_at "call ref") => `(tactic| ((k_dflt (show wpAny _ _ (call (Value.ref 319) [Value.ref _, Value.int _ _]) _ _ _)); k_dflt (refine' treeUse (by assumption) ?dn ?k1 ?k2 ?k3 ?k4 ?k5 ?kK ?y1 ?y2 ?y3 ?y4 ?y5 ?y6 ?kd ?ku ?_; (case dn => rfl); (case k1 => k_asm); (case k2 => k_asm); (case k3 => k_asm); (case k4 => exact (by first | k_asm | exact swapN (by assumption) | exact swapN2 (by assumption))); (case k5 => k_asm); (case kK => exact rfl); (case y1 => assumption); (case y2 => assumption); (case y3 => assumption); (case y4 => first | assumption | decide); (case y5 => first | assumption | decide); (case y6 => first | assumption | decide); (case kd => ktr_room); (case ku => ktr_units); k_whole; intro v' sp' st' t1' t2' n' h' tk' rest' D' hsub' hap' hcl' ht' hdp' hgd' hsp' hs0' hs1' F' N'); (try dsimp only); (try k_fold)))
theorem unswapN2 {h₀ h : Heap} {L : Addr} {p q k : Addr × Obj} {r : List (Addr × Obj)} (N : News h₀ L h (k :: p :: q :: r)) : News h₀ L h (p :: q :: k :: r) := cb_drop N fun x hx => by
  simp only [List.mem_cons] at hx ⊢
  rcases hx with h | h | h | h <;> simp [h]
def tBody : List Stmt → List Stmt
  | _ :: _ :: _ :: .For _ _ b _ _ :: _ => b
  | _ => []
section
variable {w : World} {mean : ExcName → Option Value} {mg mb : Str → Option Value} {dp un : Nat} {gd : Option (List Code)} {cn : Str} {cs : Scope} {a : Addr} {ccd : Value} {A₀ : Around} {base h₀ : Heap} {L : Addr} {m : Str → Option Value} {news : List (Addr × Obj)} {s : Shared} {Q E : Value → Shared → Prop}
variable {wl cl1 : Addr} {sp st : Int} {t1 t2 : Tok} {nw nc : Nat} {cells : List Value}
theorem treeBody {k : Int} {tk : Tok} (B : Below A₀ base [] h₀) (F : Fr h₀ L s.heap (fun y => if y = Str.ofString "turn" then some (Value.int k tk) else if y = Str.ofString "well" then some (.ref wl) else m y)) (X : (KQ w.params).In h₀) (N : News h₀ L s.heap ((wl, listOf [Value.ref cl1, Value.int sp t1, Value.int st t2].toArray nw) :: news)) (T : Top viewQ looseQ mean mg mb h₀) (XB : (KQ w.params).In base) (TB : Top viewQ looseQ mean mg mb base) (SA : SetsAt w h₀) (hcl : (cl1, listOf cells.toArray nc) ∈ news) (hap : ApOk wl news) (hc : Cells cells) (hsp : 0 ≤ sp) (hs0 : 0 ≤ st) (hs1 : st < 997)
    (hd : dp + 300 < recursionLimit) (hu : un + 5000 < cLine) {QF : Flow → Shared → Prop}
    (ret : ∀ (sp' st' : Int) (t1' t2' : Tok) (n' : Nat) (h' : Heap) (tk' : Nat), 0 ≤ sp' → 0 ≤ st' → st' < 997 → Fr h₀ L h' (fun y => if y = Str.ofString "turn" then some (Value.int k tk) else if y = Str.ofString "well" then some (.ref wl) else m y) → News h₀ L h' ((wl, listOf [Value.ref cl1, Value.int sp' t1', Value.int st' t2'].toArray n') :: news) → QF .next { s with heap := h', toks := tk' }) :
    wpAny (MQ w) (ktrTop dp un gd dL.name dL.scope L a ccd [] []) (execs (tBody dL.body) (envOf dL.name dL.scope L a ccd)) QF E s := by
  have hT3 : TreeTell w 3 := tree_tell 3
  k_dflt (show wpAny _ _ (execs (_ :: []) _) _ _ _)
  k_steps
  all_goals (refine ret _ _ _ _ _ _ _ ?_ ?_ ?_ (by assumption) (vdrop1 (by assumption) (by assumption)) <;> assumption)
theorem mT_eq {m' : Str → Option Value} {k : Int} {tk : Tok} {wl : Addr} (e2 : m' (Str.ofString "turn") = some (Value.int k tk)) (e1 : m' (Str.ofString "well") = some (.ref wl)) : (fun y => if y = Str.ofString "turn" then some (Value.int k tk) else if y = Str.ofString "well" then some (.ref wl) else m' y) = m' := by
  funext y
  by_cases h : y = Str.ofString "turn"
  · subst h; rw [if_pos rfl, e2]
  · rw [if_neg h]
    by_cases h2 : y = Str.ofString "well"
    · subst h2; rw [if_pos rfl, e1]
    · rw [if_neg h2]
theorem treeTurn {k : Int} {tk : Tok} {m' : Str → Option Value} (e2 : m' (Str.ofString "turn") = some (Value.int k tk)) (e1 : m' (Str.ofString "well") = some (.ref wl)) (B : Below A₀ base [] h₀) (F : Fr h₀ L s.heap m') (X : (KQ w.params).In h₀) (N : News h₀ L s.heap ((wl, listOf [Value.ref cl1, Value.int sp t1, Value.int st t2].toArray nw) :: news)) (T : Top viewQ looseQ mean mg mb h₀) (XB : (KQ w.params).In base) (TB : Top viewQ looseQ mean mg mb base) (SA : SetsAt w h₀) (hcl : (cl1, listOf cells.toArray nc) ∈ news) (hap : ApOk wl news) (hc : Cells cells) (hsp : 0 ≤ sp) (hs0 : 0 ≤ st) (hs1 : st < 997)
    (hd : dp + 300 < recursionLimit) (hu : un + 5000 < cLine) {QF : Flow → Shared → Prop}
    (ret : ∀ (sp' st' : Int) (t1' t2' : Tok) (n' : Nat) (h' : Heap) (tk' : Nat), 0 ≤ sp' → 0 ≤ st' → st' < 997 → Fr h₀ L h' m' → News h₀ L h' ((wl, listOf [Value.ref cl1, Value.int sp' t1', Value.int st' t2'].toArray n') :: news) → QF .next { s with heap := h', toks := tk' }) :
    wpAny (MQ w) (ktrTop dp un gd dL.name dL.scope L a ccd [] []) (execs (tBody dL.body) (envOf dL.name dL.scope L a ccd)) QF E s :=
  treeBody (m := m') B (by rw [mT_eq e2 e1]; exact F) X N T XB TB SA hcl hap hc hsp hs0 hs1 hd hu (fun sp' st' t1' t2' n' h' tk' a1 a2 a3 F' N' => ret sp' st' t1' t2' n' h' tk' a1 a2 a3 (by rw [mT_eq e2 e1] at F'; exact F') N')
end
end
end
section
open PySem PySem.W PyProof.Rows PySem.Calls PySem.Spec
section
theorem unrEnd4 {h₀ : Heap} {L I a1 a2 a3 a4 : Addr} {o1 o2 o3 o4 it : Obj} {rest : (Str → Option Value) → List (Addr × Obj) → Prop} {s₁ : Shared} {h' : Heap} {tk : Nat} {m' : Str → Option Value} (F : Fr h₀ L h' m') (N : News h₀ L h' [(I, it), (a1, o1), (a2, o2), (a3, o3), (a4, o4)])
    (n1 : @Ne Nat a1 I) (n2 : @Ne Nat a2 I) (n3 : @Ne Nat a3 I) (n4 : @Ne Nat a4 I) (r : rest m' [(a1, o1), (a2, o2), (a3, o3), (a4, o4)]) : UnrEnd h₀ L s₁ I it rest { s₁ with heap := h', toks := tk } :=
  UnrEnd.intro F N _ (fun p hp => hp) (fun p hp => by
    simp only [List.mem_cons, List.not_mem_nil, or_false] at hp
    rcases hp with rfl | rfl | rfl | rfl
    · exact n1
    · exact n2
    · exact n3
    · exact n4) r
local macro_rules | `(tactic| walk_at "eval Call") => `(tactic| ((with_reducible show wpAny _ _ (eval (Expr.Call (Expr.Name _ _) _ [] _) _) _ _ _); k_dflt (refine Call_ ?_)))
local macro_rules | `(tactic| walk_at "call ref") => `(tactic| ((k_dflt (show wpAny _ _ (call (Value.ref 350) [_, Value.int _ _]) _ _ _)); k_dflt (refine' rightC _ _ _ ?k1 ?k2 ?k3 ?k4 ?k5 ?kK ?XB ?TB ?SA ?ht ?hni ?kd ?ku ?_; (case k1 | k2 | k3 | k4 | k5 => k_asm); (case kK => exact rfl); (case XB => assumption); (case TB => assumption); (case SA => assumption); (case ht => first | exact ⟨_, by assumption, by assumption, by assumption⟩ | exact ⟨_, TreeAt.mono (by assumption) (fun p hp => .tail _ hp), by assumption, by assumption⟩ | exact hD_bin .and (by decide) (.head _) (by (first | assumption | exact .z _ | exact .o _ | exact .t _ | exact .l)) (by (first | assumption | exact .z _ | exact .o _ | exact .t _ | exact .l)) | exact hD_bin .or (by decide) (.head _) (by (first | assumption | exact .z _ | exact .o _ | exact .t _ | exact .l)) (by (first | assumption | exact .z _ | exact .o _ | exact .t _ | exact .l)) | exact hD_cond (.head _) (by (first | assumption | exact .z _ | exact .o _ | exact .t _ | exact .l)) (by (first | assumption | exact .z _ | exact .o _ | exact .t _ | exact .l)) (by (first | assumption | exact .z _ | exact .o _ | exact .t _ | exact .l))); (case hni => (repeat' (first | assumption | exact noIt_ap (by assumption) | (refine noIt_cons ?_ ?_) | exact noIt_nil | exact it_no rfl (by decide) | exact it_no (by assumption) (by decide) | assumption))); (case kd => ktr_room); (case ku => ktr_units); k_whole; intro h' tk' F' N'); (try dsimp only); (try k_fold)))
local macro_rules | `(tactic| walk_at "execs cons") => `(tactic| ((k_dflt (show wpAny _ _ (execs (Stmt.If _ _ _ _ :: Stmt.If _ _ _ _ :: []) _) _ _ _)); k_dflt (refine' cornerTurn ?e2 ?e1 ?c1 ?c2 ?k1 ?k2 ?k3 ?k4 ?k5 ?XB ?TB ?SA ?hni ?kd ?ku ?_; (case k1 => k_asm); (case k2 => k_asm); (case e2 => exact rfl); (case e1 => exact rfl); (case c1 => (first | assumption | exact .z _ | exact .o _ | exact .t _ | exact .l)); (case c2 => (first | assumption | exact .z _ | exact .o _ | exact .t _ | exact .l)); (case k3 => k_asm); (case k4 => k_asm); (case k5 => k_asm); (case XB => assumption); (case TB => assumption); (case SA => assumption); (case hni => (repeat' (first | assumption | exact noIt_ap (by assumption) | (refine noIt_cons ?_ ?_) | exact noIt_nil | exact it_no rfl (by decide) | exact it_no (by assumption) (by decide) | assumption))); (case kd => ktr_room); (case ku => ktr_units); k_whole; intro h' tk' F' N'); (try dsimp only); (try k_fold)))
local macro_rules | `(tactic| walk_at "execs cons") => `(tactic| ((k_dflt (show wpAny _ _ (execs (Stmt.If (Expr.UnaryOp _ _ _) _ _ _ :: []) _) _ _ _)); k_dflt (refine' treeTurn ?e1 ?e2 ?k1 ?k2 ?k3 ?k4 ?k5 ?XB ?TB ?SA ?y1 ?y2 ?y3 ?y4 ?y5 ?y6 ?kd ?ku ?_; (case k1 => k_asm); (case k2 => k_asm); (case k3 => k_asm); (case e1 => exact rfl); (case e2 => exact rfl); (case k4 => exact swapN2 (by k_asm)); (case k5 => k_asm); (case XB => assumption); (case TB => assumption); (case SA => assumption); (case y1 => exact .tail _ (.tail _ (.head _))); (case y2 => (repeat' (first | assumption | (refine apCons ?_ ?_ ?_) | exact apOk_nil | exact it_no rfl (by decide) | exact it_no (by assumption) (by decide) | k_ne | assumption))); (case y3 => first | assumption | exact cells_of (by assumption)); (case y4 => first | assumption | decide); (case y5 => first | assumption | decide); (case y6 => first | assumption | decide); (case kd => ktr_room); (case ku => ktr_units); k_whole; intro sp' st' t1' t2' n' h' tk' hsp' hs0' hs1' F' N'; (replace N' := unswapN2 N')); (try dsimp only); (try k_fold)))
local macro_rules | `(tactic| walk_at "UnrEnd") => `(tactic| (k_dflt (refine' unrEnd4 ?F ?N ?n1 ?n2 ?n3 ?n4 ?_; (case F => k_asm); (case N => k_asm); (case n1 => k_ne); (case n2 => k_ne); (case n3 => k_ne); (case n4 => k_ne); k_whole)))
set_option maxHeartbeats 1600000 in
theorem lawWalk : WalkO viewQ looseQ (XL viewQ []) myHook.says PySem.Challenge.rw_on0057_01.row.toRowW dL [] fun f vs => PySem.call f vs := by
  intro w s₀ s₁ mg mb G Y fa o pm cd doc dV kV ho hd hcd hD hmg hg args vals as hpre hlay hrd hwl hlo
  have KX := kIn_of (as := asQ) (e := as_eq) Y.1
  have SAX : SetsAt w s₁.heap := Y.2
  k_behind G ho hd hcd hD hmg hpre hlay hrd hwl hlo cd
  all_goals try k_fold
  all_goals (rename Top _ _ _ _ _ _ => lT)
  all_goals (have lT2 : Top viewQ looseQ (ExcName.means s₀.heap) mg mb s₁.heap := (show looseW viewQ looseQ = looseQ from by kernel_rfl) ▸ lT)
  all_goals (rename Below _ _ _ _ => lK; have lK2 : Below callerA s₁.heap [] s₁.heap := lK)
  all_goals (clear lK)
  all_goals k_steps
end
end
end
section
open PySem PySem.W PyProof.Rows
theorem promisedQ : PySem.Challenge.rw_on0057_01.row.toRowW.promised := by w_witness2
end

end Mine
open PySem PySem.W PyProof.Rows
set_option maxRecDepth 100000 in
set_option maxHeartbeats 8000000 in
theorem PySem.Challenge.cw_on0057_01_holds : PySem.Challenge.rw_on0057_01.Holds :=
  Mine.top_law Mine.promisedQ Mine.lawWalk
