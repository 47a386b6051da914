import PyProof.Rows.All
import Wide.All
import OpenK.AllK
import Wide.FinOn
import PySem.Challenge.RW_nz0027_01
open PySem PySem.W PyProof.Rows
set_option Elab.async false
set_option maxRecDepth 100000
set_option linter.unusedVariables false
namespace Mine
open PySem PySem.W PySem.Calls PyProof.Rows PySem.Spec
noncomputable abbrev pw : Program := PySem.Challenge.pw_nz0027_01
noncomputable def fnP : Stmt → Arguments | .FunctionDef _ a _ _ _ _ _ _ _ _ => a | _ => default
noncomputable def fnB : Stmt → List Stmt | .FunctionDef _ _ b _ _ _ _ _ _ _ => b | .ClassDef _ _ _ b _ _ _ _ _ _ _ => b | _ => []
noncomputable def fnS : Stmt → Scope | .FunctionDef _ _ _ _ _ _ s _ _ _ => s | _ => default
noncomputable def stA (i : Nat) : Stmt := pw.main.body.getD i (.Pass default)
noncomputable def stM (i j : Nat) : Stmt := (fnB (stA i)).getD j (.Pass default)
noncomputable abbrev fD (name qualname : Str) (st : Stmt) (globals : Addr) (closure : List (Str × Addr)) (defaults kwdefaults doc pyModule : Value) (annotations : Option Addr) (code closureTuple : Value) (builtins : Addr) : FuncData :=
  ⟨name, qualname, fnP st, .stmts (fnB st), fnS st, globals, closure, defaults, kwdefaults, doc, pyModule, annotations, code, closureTuple, builtins⟩
noncomputable abbrev en (P : Params) (k : Str) (t : Tok) (v : Value) : DictEntry := ⟨PyData.keyHash P k, .str k t, v⟩
noncomputable abbrev ob2 (P : Params) : Obj := Obj.mk .none none (.dict #[] 0) #[]
noncomputable abbrev ob3 (P : Params) : Obj := Obj.mk (.type "dict") none (.dict #[(en P "__name__" 165 (.str "law_nz0027_01" 656)), (en P "__doc__" 166 .none), (en P "__package__" 167 .none), (en P "__loader__" 168 (.builtin "__main__.__loader__#opaque")), (en P "__spec__" 169 .none), (en P "__annotations__" 170 (.ref 6)), (en P "__builtins__" 171 (.ref 4)), (en P "__file__" 173 (.str "/claim/cut.py" 172)), (en P "__cached__" 174 .none), (en P "_wall" 193 (.ref 21)), (en P "Propagator" 250 (.ref 59)), (en P "Circuit" 328 (.ref 124)), (en P "Inverse" 393 (.ref 171)), (en P "Element" 491 (.ref 248)), (en P "ElementOf" 570 (.ref 311)), (en P "Table" 645 (.ref 370)), (en P "choice_rule" 655 (.ref 379)), (en P "_law_dip" 666 (.ref 386)), (en P "_law_row" 672 (.ref 391)), (en P "_law_told" 678 (.ref 396)), (en P "_law_is_ring" 688 (.ref 403)), (en P "_law_keeps" 694 (.ref 408)), (en P "_law_values" 700 (.ref 413)), (en P "law" 714 (.ref 420))] 24) #[]
noncomputable abbrev ob15 (P : Params) : Obj := Obj.mk (.type "tuple") none (.seq #[] 0) #[]
noncomputable abbrev ob17 (P : Params) : Obj := Obj.mk (.type "tuple") none (.seq #[(.str "k" 190)] 0) #[]
noncomputable abbrev ob18 (P : Params) : Obj := Obj.mk (.type "tuple") none (.seq #[] 0) #[]
noncomputable abbrev ob20 (P : Params) : Obj := Obj.mk (.type "code") none (.fields #[(.str "_wall" 187), (.str "_wall" 188), (.str "/claim/cut.py" 189), (.int 1 0), (.int 1 0), (.int 0 0), (.int 0 0), (.int 3 0), (.ref 15), (.bool true), (.int 181 0), (.ref 16), .none, (.ref 17), (.ref 18), (.ref 19), (.int 191 0), (.int 1 0), (.str "/claim/cut.py" 192)]) #[]
noncomputable abbrev ob21 (P : Params) : Obj := Obj.mk (.type "function") none (.func (fD "_wall" "_wall" (stA 0) 3 [] .none .none .none (.str "__main__" 164) none (.ref 20) .none 0)) #[]
noncomputable abbrev ob29 (P : Params) : Obj := Obj.mk (.type "tuple") none (.seq #[] 0) #[]
noncomputable abbrev ob31 (P : Params) : Obj := Obj.mk (.type "tuple") none (.seq #[(.str "self" 211), (.str "scope" 212), (.str "strength" 213)] 0) #[]
noncomputable abbrev ob32 (P : Params) : Obj := Obj.mk (.type "tuple") none (.seq #[] 0) #[]
noncomputable abbrev ob34 (P : Params) : Obj := Obj.mk (.type "code") none (.fields #[(.str "__init__" 208), (.str "Propagator.__init__" 209), (.str "/claim/cut.py" 210), (.int 7 0), (.int 3 0), (.int 0 0), (.int 0 0), (.int 3 0), (.ref 29), (.bool true), (.int 181 0), (.ref 30), .none, (.ref 31), (.ref 32), (.ref 33), (.int 214 0), (.int 7 0), (.str "/claim/cut.py" 215)]) #[]
noncomputable abbrev ob35 (P : Params) : Obj := Obj.mk (.type "function") none (.func (fD "__init__" "Propagator.__init__" (stM 2 0) 3 [] .none .none .none (.str "fdsolve.store" 194) none (.ref 34) .none 0)) #[]
noncomputable abbrev ob36 (P : Params) : Obj := Obj.mk (.type "tuple") none (.seq #[] 0) #[]
noncomputable abbrev ob38 (P : Params) : Obj := Obj.mk (.type "tuple") none (.seq #[(.str "self" 220), (.str "store" 221)] 0) #[]
noncomputable abbrev ob39 (P : Params) : Obj := Obj.mk (.type "tuple") none (.seq #[] 0) #[]
noncomputable abbrev ob41 (P : Params) : Obj := Obj.mk (.type "code") none (.fields #[(.str "propagate" 217), (.str "Propagator.propagate" 218), (.str "/claim/cut.py" 219), (.int 12 0), (.int 2 0), (.int 0 0), (.int 0 0), (.int 3 0), (.ref 36), (.bool true), (.int 181 0), (.ref 37), .none, (.ref 38), (.ref 39), (.ref 40), (.int 222 0), (.int 12 0), (.str "/claim/cut.py" 223)]) #[]
noncomputable abbrev ob42 (P : Params) : Obj := Obj.mk (.type "function") none (.func (fD "propagate" "Propagator.propagate" (stM 2 1) 3 [] .none .none .none (.str "fdsolve.store" 194) none (.ref 41) .none 0)) #[]
noncomputable abbrev ob43 (P : Params) : Obj := Obj.mk (.type "tuple") none (.seq #[] 0) #[]
noncomputable abbrev ob45 (P : Params) : Obj := Obj.mk (.type "tuple") none (.seq #[(.str "self" 228), (.str "values" 229)] 0) #[]
noncomputable abbrev ob46 (P : Params) : Obj := Obj.mk (.type "tuple") none (.seq #[] 0) #[]
noncomputable abbrev ob48 (P : Params) : Obj := Obj.mk (.type "code") none (.fields #[(.str "check" 225), (.str "Propagator.check" 226), (.str "/claim/cut.py" 227), (.int 15 0), (.int 2 0), (.int 0 0), (.int 0 0), (.int 3 0), (.ref 43), (.bool true), (.int 181 0), (.ref 44), .none, (.ref 45), (.ref 46), (.ref 47), (.int 230 0), (.int 15 0), (.str "/claim/cut.py" 231)]) #[]
noncomputable abbrev ob49 (P : Params) : Obj := Obj.mk (.type "function") none (.func (fD "check" "Propagator.check" (stM 2 2) 3 [] .none .none .none (.str "fdsolve.store" 194) none (.ref 48) .none 0)) #[]
noncomputable abbrev ob50 (P : Params) : Obj := Obj.mk (.type "tuple") none (.seq #[] 0) #[]
noncomputable abbrev ob52 (P : Params) : Obj := Obj.mk (.type "tuple") none (.seq #[(.str "self" 236)] 0) #[]
noncomputable abbrev ob53 (P : Params) : Obj := Obj.mk (.type "tuple") none (.seq #[] 0) #[]
noncomputable abbrev ob55 (P : Params) : Obj := Obj.mk (.type "code") none (.fields #[(.str "told" 233), (.str "Propagator.told" 234), (.str "/claim/cut.py" 235), (.int 18 0), (.int 1 0), (.int 0 0), (.int 0 0), (.int 3 0), (.ref 50), (.bool true), (.int 181 0), (.ref 51), .none, (.ref 52), (.ref 53), (.ref 54), (.int 237 0), (.int 18 0), (.str "/claim/cut.py" 238)]) #[]
noncomputable abbrev ob56 (P : Params) : Obj := Obj.mk (.type "function") none (.func (fD "told" "Propagator.told" (stM 2 3) 3 [] .none .none .none (.str "fdsolve.store" 194) none (.ref 55) .none 0)) #[]
noncomputable abbrev ob57 (P : Params) : Obj := Obj.mk (.type "tuple") none (.seq #[(.str "number" 240), (.str "scope" 241), (.str "strength" 242)] 0) #[]
noncomputable abbrev ob58 (P : Params) : Obj := Obj.mk (.type "dict") none (.dict #[(en P "__module__" 203 (.str "fdsolve.store" 194)), (en P "__firstlineno__" 207 (.int 5 206)), (en P "__init__" 216 (.ref 35)), (en P "propagate" 224 (.ref 42)), (en P "check" 232 (.ref 49)), (en P "told" 239 (.ref 56)), (en P "__static_attributes__" 243 (.ref 57)), (en P "__dict__" 245 (.ref 60)), (en P "__weakref__" 247 (.ref 61)), (en P "__doc__" 248 .none)] 4) #[]
noncomputable abbrev ob59 (P : Params) : Obj := Obj.mk (.type "type") none (.cls (ClassData.mk "Propagator" [(.type "object")] [(.ref 59), (.type "object")] 58 "Propagator" true [] [(.ref 124), (.ref 171), (.ref 248), (.ref 311), (.ref 370)] false none false)) #[none, none, (some (.str "Propagator" 196)), (some (.str "Propagator" 204)), (some (.builtin "object.__new__")), (some (.bool true))]
noncomputable abbrev ob60 (P : Params) : Obj := Obj.mk (.type "getset_descriptor") none (.fields #[(.str "__dict__" 244), (.ref 59), (.builtin "function.__dict__"), (.builtin "function.__dict__#set")]) #[]
noncomputable abbrev ob61 (P : Params) : Obj := Obj.mk (.type "getset_descriptor") none (.fields #[(.str "__weakref__" 246), (.ref 59), (.builtin "ExceptionGroup.__weakref__"), .none]) #[]
noncomputable abbrev ob64 (P : Params) : Obj := Obj.mk (.type "tuple") none (.seq #[(.ref 59)] 0) #[]
noncomputable abbrev ob67 (P : Params) : Obj := Obj.mk (.type "cell") none (.cell (some (.ref 124))) #[]
noncomputable abbrev ob72 (P : Params) : Obj := Obj.mk (.type "tuple") none (.seq #[(.ref 67)] 0) #[]
noncomputable abbrev ob73 (P : Params) : Obj := Obj.mk (.type "tuple") none (.seq #[(.str "__class__" 268)] 0) #[]
noncomputable abbrev ob75 (P : Params) : Obj := Obj.mk (.type "tuple") none (.seq #[(.str "self" 269), (.str "places" 270)] 0) #[]
noncomputable abbrev ob76 (P : Params) : Obj := Obj.mk (.type "tuple") none (.seq #[] 0) #[]
noncomputable abbrev ob78 (P : Params) : Obj := Obj.mk (.type "code") none (.fields #[(.str "__init__" 265), (.str "Circuit.__init__" 266), (.str "/claim/cut.py" 267), (.int 23 0), (.int 2 0), (.int 0 0), (.int 0 0), (.int 3 0), (.ref 73), (.bool true), (.int 181 0), (.ref 74), .none, (.ref 75), (.ref 76), (.ref 77), (.int 271 0), (.int 23 0), (.str "/claim/cut.py" 272)]) #[]
noncomputable abbrev ob79 (P : Params) : Obj := Obj.mk (.type "function") none (.func (fD "__init__" "Circuit.__init__" (stM 4 0) 3 [("__class__", 67)] .none .none .none (.str "fdsolve.order" 251) none (.ref 78) (.ref 72) 0)) #[]
noncomputable abbrev ob80 (P : Params) : Obj := Obj.mk (.type "tuple") none (.seq #[] 0) #[]
noncomputable abbrev ob82 (P : Params) : Obj := Obj.mk (.type "tuple") none (.seq #[(.str "self" 277), (.str "store" 278)] 0) #[]
noncomputable abbrev ob83 (P : Params) : Obj := Obj.mk (.type "tuple") none (.seq #[] 0) #[]
noncomputable abbrev ob85 (P : Params) : Obj := Obj.mk (.type "code") none (.fields #[(.str "propagate" 274), (.str "Circuit.propagate" 275), (.str "/claim/cut.py" 276), (.int 26 0), (.int 2 0), (.int 0 0), (.int 0 0), (.int 3 0), (.ref 80), (.bool true), (.int 181 0), (.ref 81), .none, (.ref 82), (.ref 83), (.ref 84), (.int 279 0), (.int 26 0), (.str "/claim/cut.py" 280)]) #[]
noncomputable abbrev ob86 (P : Params) : Obj := Obj.mk (.type "function") none (.func (fD "propagate" "Circuit.propagate" (stM 4 1) 3 [] .none .none .none (.str "fdsolve.order" 251) none (.ref 85) .none 0)) #[]
noncomputable abbrev ob87 (P : Params) : Obj := Obj.mk (.type "tuple") none (.seq #[] 0) #[]
noncomputable abbrev ob89 (P : Params) : Obj := Obj.mk (.type "tuple") none (.seq #[(.str "self" 285), (.str "store" 286)] 0) #[]
noncomputable abbrev ob90 (P : Params) : Obj := Obj.mk (.type "tuple") none (.seq #[] 0) #[]
noncomputable abbrev ob92 (P : Params) : Obj := Obj.mk (.type "code") none (.fields #[(.str "part" 282), (.str "Circuit.part" 283), (.str "/claim/cut.py" 284), (.int 29 0), (.int 2 0), (.int 0 0), (.int 0 0), (.int 3 0), (.ref 87), (.bool true), (.int 181 0), (.ref 88), .none, (.ref 89), (.ref 90), (.ref 91), (.int 287 0), (.int 29 0), (.str "/claim/cut.py" 288)]) #[]
noncomputable abbrev ob93 (P : Params) : Obj := Obj.mk (.type "function") none (.func (fD "part" "Circuit.part" (stM 4 2) 3 [] .none .none .none (.str "fdsolve.order" 251) none (.ref 92) .none 0)) #[]
noncomputable abbrev ob94 (P : Params) : Obj := Obj.mk (.type "tuple") none (.seq #[] 0) #[]
noncomputable abbrev ob96 (P : Params) : Obj := Obj.mk (.type "tuple") none (.seq #[(.str "self" 293), (.str "store" 294)] 0) #[]
noncomputable abbrev ob97 (P : Params) : Obj := Obj.mk (.type "tuple") none (.seq #[] 0) #[]
noncomputable abbrev ob99 (P : Params) : Obj := Obj.mk (.type "code") none (.fields #[(.str "open_rings" 290), (.str "Circuit.open_rings" 291), (.str "/claim/cut.py" 292), (.int 32 0), (.int 2 0), (.int 0 0), (.int 0 0), (.int 3 0), (.ref 94), (.bool true), (.int 181 0), (.ref 95), .none, (.ref 96), (.ref 97), (.ref 98), (.int 295 0), (.int 32 0), (.str "/claim/cut.py" 296)]) #[]
noncomputable abbrev ob100 (P : Params) : Obj := Obj.mk (.type "function") none (.func (fD "open_rings" "Circuit.open_rings" (stM 4 3) 3 [] .none .none .none (.str "fdsolve.order" 251) none (.ref 99) .none 0)) #[]
noncomputable abbrev ob101 (P : Params) : Obj := Obj.mk (.type "tuple") none (.seq #[] 0) #[]
noncomputable abbrev ob103 (P : Params) : Obj := Obj.mk (.type "tuple") none (.seq #[(.str "self" 301), (.str "store" 302)] 0) #[]
noncomputable abbrev ob104 (P : Params) : Obj := Obj.mk (.type "tuple") none (.seq #[] 0) #[]
noncomputable abbrev ob106 (P : Params) : Obj := Obj.mk (.type "code") none (.fields #[(.str "reach" 298), (.str "Circuit.reach" 299), (.str "/claim/cut.py" 300), (.int 35 0), (.int 2 0), (.int 0 0), (.int 0 0), (.int 3 0), (.ref 101), (.bool true), (.int 181 0), (.ref 102), .none, (.ref 103), (.ref 104), (.ref 105), (.int 303 0), (.int 35 0), (.str "/claim/cut.py" 304)]) #[]
noncomputable abbrev ob107 (P : Params) : Obj := Obj.mk (.type "function") none (.func (fD "reach" "Circuit.reach" (stM 4 4) 3 [] .none .none .none (.str "fdsolve.order" 251) none (.ref 106) .none 0)) #[]
noncomputable abbrev ob108 (P : Params) : Obj := Obj.mk (.type "tuple") none (.seq #[] 0) #[]
noncomputable abbrev ob110 (P : Params) : Obj := Obj.mk (.type "tuple") none (.seq #[(.str "self" 309), (.str "values" 310), (.str "here" 311), (.str "met" 312), (.str "lap" 313)] 0) #[]
noncomputable abbrev ob111 (P : Params) : Obj := Obj.mk (.type "tuple") none (.seq #[] 0) #[]
noncomputable abbrev ob113 (P : Params) : Obj := Obj.mk (.type "code") none (.fields #[(.str "check" 306), (.str "Circuit.check" 307), (.str "/claim/cut.py" 308), (.int 38 0), (.int 2 0), (.int 0 0), (.int 0 0), (.int 3 0), (.ref 108), (.bool true), (.int 181 0), (.ref 109), .none, (.ref 110), (.ref 111), (.ref 112), (.int 314 0), (.int 38 0), (.str "/claim/cut.py" 315)]) #[]
noncomputable abbrev ob114 (P : Params) : Obj := Obj.mk (.type "function") none (.func (fD "check" "Circuit.check" (stM 4 5) 3 [] .none .none .none (.str "fdsolve.order" 251) none (.ref 113) .none 0)) #[]
noncomputable abbrev ob115 (P : Params) : Obj := Obj.mk (.type "tuple") none (.seq #[] 0) #[]
noncomputable abbrev ob117 (P : Params) : Obj := Obj.mk (.type "tuple") none (.seq #[(.str "self" 320)] 0) #[]
noncomputable abbrev ob118 (P : Params) : Obj := Obj.mk (.type "tuple") none (.seq #[] 0) #[]
noncomputable abbrev ob120 (P : Params) : Obj := Obj.mk (.type "code") none (.fields #[(.str "told" 317), (.str "Circuit.told" 318), (.str "/claim/cut.py" 319), (.int 47 0), (.int 1 0), (.int 0 0), (.int 0 0), (.int 3 0), (.ref 115), (.bool true), (.int 181 0), (.ref 116), .none, (.ref 117), (.ref 118), (.ref 119), (.int 321 0), (.int 47 0), (.str "/claim/cut.py" 322)]) #[]
noncomputable abbrev ob121 (P : Params) : Obj := Obj.mk (.type "function") none (.func (fD "told" "Circuit.told" (stM 4 6) 3 [] .none .none .none (.str "fdsolve.order" 251) none (.ref 120) .none 0)) #[]
noncomputable abbrev ob122 (P : Params) : Obj := Obj.mk (.type "tuple") none (.seq #[] 0) #[]
noncomputable abbrev ob123 (P : Params) : Obj := Obj.mk (.type "dict") none (.dict #[(en P "__module__" 260 (.str "fdsolve.order" 251)), (en P "__firstlineno__" 264 (.int 21 263)), (en P "__init__" 273 (.ref 79)), (en P "propagate" 281 (.ref 86)), (en P "part" 289 (.ref 93)), (en P "open_rings" 297 (.ref 100)), (en P "reach" 305 (.ref 107)), (en P "check" 316 (.ref 114)), (en P "told" 323 (.ref 121)), (en P "__static_attributes__" 324 (.ref 122)), (en P "__doc__" 326 .none)] 3) #[]
noncomputable abbrev ob124 (P : Params) : Obj := Obj.mk (.type "type") none (.cls (ClassData.mk "Circuit" [(.ref 59)] [(.ref 124), (.ref 59), (.type "object")] 123 "Circuit" true [] [] false none false)) #[(some (.ref 64)), none, (some (.str "Circuit" 253)), (some (.str "Circuit" 261)), (some (.builtin "object.__new__")), (some (.bool true))]
noncomputable abbrev ob127 (P : Params) : Obj := Obj.mk (.type "tuple") none (.seq #[(.ref 59)] 0) #[]
noncomputable abbrev ob130 (P : Params) : Obj := Obj.mk (.type "cell") none (.cell (some (.ref 171))) #[]
noncomputable abbrev ob135 (P : Params) : Obj := Obj.mk (.type "tuple") none (.seq #[(.ref 130)] 0) #[]
noncomputable abbrev ob136 (P : Params) : Obj := Obj.mk (.type "tuple") none (.seq #[(.str "__class__" 344)] 0) #[]
noncomputable abbrev ob138 (P : Params) : Obj := Obj.mk (.type "tuple") none (.seq #[(.str "self" 345), (.str "fs" 346), (.str "gs" 347)] 0) #[]
noncomputable abbrev ob139 (P : Params) : Obj := Obj.mk (.type "tuple") none (.seq #[] 0) #[]
noncomputable abbrev ob141 (P : Params) : Obj := Obj.mk (.type "code") none (.fields #[(.str "__init__" 341), (.str "Inverse.__init__" 342), (.str "/claim/cut.py" 343), (.int 51 0), (.int 3 0), (.int 0 0), (.int 0 0), (.int 3 0), (.ref 136), (.bool true), (.int 181 0), (.ref 137), .none, (.ref 138), (.ref 139), (.ref 140), (.int 348 0), (.int 51 0), (.str "/claim/cut.py" 349)]) #[]
noncomputable abbrev ob142 (P : Params) : Obj := Obj.mk (.type "function") none (.func (fD "__init__" "Inverse.__init__" (stM 5 0) 3 [("__class__", 130)] .none .none .none (.str "fdsolve.order" 251) none (.ref 141) (.ref 135) 0)) #[]
noncomputable abbrev ob143 (P : Params) : Obj := Obj.mk (.type "tuple") none (.seq #[] 0) #[]
noncomputable abbrev ob145 (P : Params) : Obj := Obj.mk (.type "tuple") none (.seq #[(.str "self" 354), (.str "store" 355)] 0) #[]
noncomputable abbrev ob146 (P : Params) : Obj := Obj.mk (.type "tuple") none (.seq #[] 0) #[]
noncomputable abbrev ob148 (P : Params) : Obj := Obj.mk (.type "code") none (.fields #[(.str "propagate" 351), (.str "Inverse.propagate" 352), (.str "/claim/cut.py" 353), (.int 56 0), (.int 2 0), (.int 0 0), (.int 0 0), (.int 3 0), (.ref 143), (.bool true), (.int 181 0), (.ref 144), .none, (.ref 145), (.ref 146), (.ref 147), (.int 356 0), (.int 56 0), (.str "/claim/cut.py" 357)]) #[]
noncomputable abbrev ob149 (P : Params) : Obj := Obj.mk (.type "function") none (.func (fD "propagate" "Inverse.propagate" (stM 5 1) 3 [] .none .none .none (.str "fdsolve.order" 251) none (.ref 148) .none 0)) #[]
noncomputable abbrev ob150 (P : Params) : Obj := Obj.mk (.type "tuple") none (.seq #[] 0) #[]
noncomputable abbrev ob152 (P : Params) : Obj := Obj.mk (.type "tuple") none (.seq #[(.str "self" 362), (.str "store" 363), (.str "row" 364), (.str "back" 365), (.str "i" 366), (.str "x" 367), (.str "j" 368), (.str "y" 369), (.str "v" 370)] 0) #[]
noncomputable abbrev ob153 (P : Params) : Obj := Obj.mk (.type "tuple") none (.seq #[] 0) #[]
noncomputable abbrev ob155 (P : Params) : Obj := Obj.mk (.type "code") none (.fields #[(.str "turn" 359), (.str "Inverse.turn" 360), (.str "/claim/cut.py" 361), (.int 59 0), (.int 4 0), (.int 0 0), (.int 0 0), (.int 3 0), (.ref 150), (.bool true), (.int 181 0), (.ref 151), .none, (.ref 152), (.ref 153), (.ref 154), (.int 371 0), (.int 59 0), (.str "/claim/cut.py" 372)]) #[]
noncomputable abbrev ob156 (P : Params) : Obj := Obj.mk (.type "function") none (.func (fD "turn" "Inverse.turn" (stM 5 2) 3 [] .none .none .none (.str "fdsolve.order" 251) none (.ref 155) .none 0)) #[]
noncomputable abbrev ob157 (P : Params) : Obj := Obj.mk (.type "tuple") none (.seq #[] 0) #[]
noncomputable abbrev ob160 (P : Params) : Obj := Obj.mk (.type "code") none (.fields #[(.str "check" 374), (.str "Inverse.check" 375), (.str "/claim/cut.py" 376), (.int 71 0), (.int 2 0), (.int 0 0), (.int 0 0), (.int 3 0), (.ref 157), (.bool true), (.int 181 0), (.ref 158), .none, .none, .none, (.ref 159), (.int 377 0), (.int 71 0), (.str "/claim/cut.py" 378)]) #[]
noncomputable abbrev ob161 (P : Params) : Obj := Obj.mk (.type "function") none (.func (fD "check" "Inverse.check" (stM 5 3) 3 [] .none .none .none (.str "fdsolve.order" 251) none (.ref 160) .none 0)) #[]
noncomputable abbrev ob162 (P : Params) : Obj := Obj.mk (.type "tuple") none (.seq #[] 0) #[]
noncomputable abbrev ob164 (P : Params) : Obj := Obj.mk (.type "tuple") none (.seq #[(.str "self" 383)] 0) #[]
noncomputable abbrev ob165 (P : Params) : Obj := Obj.mk (.type "tuple") none (.seq #[] 0) #[]
noncomputable abbrev ob167 (P : Params) : Obj := Obj.mk (.type "code") none (.fields #[(.str "told" 380), (.str "Inverse.told" 381), (.str "/claim/cut.py" 382), (.int 77 0), (.int 1 0), (.int 0 0), (.int 0 0), (.int 3 0), (.ref 162), (.bool true), (.int 181 0), (.ref 163), .none, (.ref 164), (.ref 165), (.ref 166), (.int 384 0), (.int 77 0), (.str "/claim/cut.py" 385)]) #[]
noncomputable abbrev ob168 (P : Params) : Obj := Obj.mk (.type "function") none (.func (fD "told" "Inverse.told" (stM 5 4) 3 [] .none .none .none (.str "fdsolve.order" 251) none (.ref 167) .none 0)) #[]
noncomputable abbrev ob169 (P : Params) : Obj := Obj.mk (.type "tuple") none (.seq #[(.str "fs" 387), (.str "gs" 388)] 0) #[]
noncomputable abbrev ob170 (P : Params) : Obj := Obj.mk (.type "dict") none (.dict #[(en P "__module__" 336 (.str "fdsolve.order" 251)), (en P "__firstlineno__" 340 (.int 49 339)), (en P "__init__" 350 (.ref 142)), (en P "propagate" 358 (.ref 149)), (en P "turn" 373 (.ref 156)), (en P "check" 379 (.ref 161)), (en P "told" 386 (.ref 168)), (en P "__static_attributes__" 389 (.ref 169)), (en P "__doc__" 391 .none)] 3) #[]
noncomputable abbrev ob171 (P : Params) : Obj := Obj.mk (.type "type") none (.cls (ClassData.mk "Inverse" [(.ref 59)] [(.ref 171), (.ref 59), (.type "object")] 170 "Inverse" true [] [] false none false)) #[(some (.ref 127)), none, (some (.str "Inverse" 329)), (some (.str "Inverse" 337)), (some (.builtin "object.__new__")), (some (.bool true))]
noncomputable abbrev ob174 (P : Params) : Obj := Obj.mk (.type "tuple") none (.seq #[(.ref 59)] 0) #[]
noncomputable abbrev ob177 (P : Params) : Obj := Obj.mk (.type "cell") none (.cell (some (.ref 248))) #[]
noncomputable abbrev ob182 (P : Params) : Obj := Obj.mk (.type "tuple") none (.seq #[(.ref 177)] 0) #[]
noncomputable abbrev ob183 (P : Params) : Obj := Obj.mk (.type "tuple") none (.seq #[(.str "__class__" 411)] 0) #[]
noncomputable abbrev ob185 (P : Params) : Obj := Obj.mk (.type "tuple") none (.seq #[(.str "self" 412), (.str "index" 413), (.str "cells" 414), (.str "z" 415)] 0) #[]
noncomputable abbrev ob186 (P : Params) : Obj := Obj.mk (.type "tuple") none (.seq #[] 0) #[]
noncomputable abbrev ob188 (P : Params) : Obj := Obj.mk (.type "code") none (.fields #[(.str "__init__" 408), (.str "Element.__init__" 409), (.str "/claim/cut.py" 410), (.int 82 0), (.int 4 0), (.int 0 0), (.int 0 0), (.int 3 0), (.ref 183), (.bool true), (.int 181 0), (.ref 184), .none, (.ref 185), (.ref 186), (.ref 187), (.int 416 0), (.int 82 0), (.str "/claim/cut.py" 417)]) #[]
noncomputable abbrev ob189 (P : Params) : Obj := Obj.mk (.type "function") none (.func (fD "__init__" "Element.__init__" (stM 7 0) 3 [("__class__", 177)] .none .none .none (.str "fdsolve.tables" 394) none (.ref 188) (.ref 182) 0)) #[]
noncomputable abbrev ob190 (P : Params) : Obj := Obj.mk (.type "tuple") none (.seq #[] 0) #[]
noncomputable abbrev ob192 (P : Params) : Obj := Obj.mk (.type "tuple") none (.seq #[(.str "self" 422)] 0) #[]
noncomputable abbrev ob193 (P : Params) : Obj := Obj.mk (.type "tuple") none (.seq #[] 0) #[]
noncomputable abbrev ob195 (P : Params) : Obj := Obj.mk (.type "code") none (.fields #[(.str "told" 419), (.str "Element.told" 420), (.str "/claim/cut.py" 421), (.int 88 0), (.int 1 0), (.int 0 0), (.int 0 0), (.int 3 0), (.ref 190), (.bool true), (.int 181 0), (.ref 191), .none, (.ref 192), (.ref 193), (.ref 194), (.int 423 0), (.int 88 0), (.str "/claim/cut.py" 424)]) #[]
noncomputable abbrev ob196 (P : Params) : Obj := Obj.mk (.type "function") none (.func (fD "told" "Element.told" (stM 7 1) 3 [] .none .none .none (.str "fdsolve.tables" 394) none (.ref 195) .none 0)) #[]
noncomputable abbrev ob197 (P : Params) : Obj := Obj.mk (.type "tuple") none (.seq #[] 0) #[]
noncomputable abbrev ob199 (P : Params) : Obj := Obj.mk (.type "tuple") none (.seq #[(.str "self" 429), (.str "some" 430)] 0) #[]
noncomputable abbrev ob200 (P : Params) : Obj := Obj.mk (.type "tuple") none (.seq #[] 0) #[]
noncomputable abbrev ob202 (P : Params) : Obj := Obj.mk (.type "code") none (.fields #[(.str "check" 426), (.str "Element.check" 427), (.str "/claim/cut.py" 428), (.int 91 0), (.int 2 0), (.int 0 0), (.int 0 0), (.int 3 0), (.ref 197), (.bool true), (.int 181 0), (.ref 198), .none, (.ref 199), (.ref 200), (.ref 201), (.int 431 0), (.int 91 0), (.str "/claim/cut.py" 432)]) #[]
noncomputable abbrev ob203 (P : Params) : Obj := Obj.mk (.type "function") none (.func (fD "check" "Element.check" (stM 7 2) 3 [] .none .none .none (.str "fdsolve.tables" 394) none (.ref 202) .none 0)) #[]
noncomputable abbrev ob204 (P : Params) : Obj := Obj.mk (.type "tuple") none (.seq #[] 0) #[]
noncomputable abbrev ob206 (P : Params) : Obj := Obj.mk (.type "tuple") none (.seq #[(.str "self" 437), (.str "store" 438)] 0) #[]
noncomputable abbrev ob207 (P : Params) : Obj := Obj.mk (.type "tuple") none (.seq #[] 0) #[]
noncomputable abbrev ob209 (P : Params) : Obj := Obj.mk (.type "code") none (.fields #[(.str "propagate" 434), (.str "Element.propagate" 435), (.str "/claim/cut.py" 436), (.int 94 0), (.int 2 0), (.int 0 0), (.int 0 0), (.int 3 0), (.ref 204), (.bool true), (.int 181 0), (.ref 205), .none, (.ref 206), (.ref 207), (.ref 208), (.int 439 0), (.int 94 0), (.str "/claim/cut.py" 440)]) #[]
noncomputable abbrev ob210 (P : Params) : Obj := Obj.mk (.type "function") none (.func (fD "propagate" "Element.propagate" (stM 7 3) 3 [] .none .none .none (.str "fdsolve.tables" 394) none (.ref 209) .none 0)) #[]
noncomputable abbrev ob211 (P : Params) : Obj := Obj.mk (.type "tuple") none (.seq #[] 0) #[]
noncomputable abbrev ob213 (P : Params) : Obj := Obj.mk (.type "tuple") none (.seq #[(.str "self" 445), (.str "store" 446)] 0) #[]
noncomputable abbrev ob214 (P : Params) : Obj := Obj.mk (.type "tuple") none (.seq #[] 0) #[]
noncomputable abbrev ob216 (P : Params) : Obj := Obj.mk (.type "code") none (.fields #[(.str "strike_places" 442), (.str "Element.strike_places" 443), (.str "/claim/cut.py" 444), (.int 97 0), (.int 2 0), (.int 0 0), (.int 0 0), (.int 3 0), (.ref 211), (.bool true), (.int 181 0), (.ref 212), .none, (.ref 213), (.ref 214), (.ref 215), (.int 447 0), (.int 97 0), (.str "/claim/cut.py" 448)]) #[]
noncomputable abbrev ob217 (P : Params) : Obj := Obj.mk (.type "function") none (.func (fD "strike_places" "Element.strike_places" (stM 7 4) 3 [] .none .none .none (.str "fdsolve.tables" 394) none (.ref 216) .none 0)) #[]
noncomputable abbrev ob218 (P : Params) : Obj := Obj.mk (.type "tuple") none (.seq #[] 0) #[]
noncomputable abbrev ob220 (P : Params) : Obj := Obj.mk (.type "tuple") none (.seq #[(.str "self" 453), (.str "store" 454), (.str "x" 455)] 0) #[]
noncomputable abbrev ob221 (P : Params) : Obj := Obj.mk (.type "tuple") none (.seq #[] 0) #[]
noncomputable abbrev ob223 (P : Params) : Obj := Obj.mk (.type "code") none (.fields #[(.str "why_unlike" 450), (.str "Element.why_unlike" 451), (.str "/claim/cut.py" 452), (.int 100 0), (.int 3 0), (.int 0 0), (.int 0 0), (.int 3 0), (.ref 218), (.bool true), (.int 181 0), (.ref 219), .none, (.ref 220), (.ref 221), (.ref 222), (.int 456 0), (.int 100 0), (.str "/claim/cut.py" 457)]) #[]
noncomputable abbrev ob224 (P : Params) : Obj := Obj.mk (.type "function") none (.func (fD "why_unlike" "Element.why_unlike" (stM 7 5) 3 [] .none .none .none (.str "fdsolve.tables" 394) none (.ref 223) .none 0)) #[]
noncomputable abbrev ob225 (P : Params) : Obj := Obj.mk (.type "tuple") none (.seq #[] 0) #[]
noncomputable abbrev ob227 (P : Params) : Obj := Obj.mk (.type "tuple") none (.seq #[(.str "self" 462), (.str "store" 463)] 0) #[]
noncomputable abbrev ob228 (P : Params) : Obj := Obj.mk (.type "tuple") none (.seq #[] 0) #[]
noncomputable abbrev ob230 (P : Params) : Obj := Obj.mk (.type "code") none (.fields #[(.str "strike_values" 459), (.str "Element.strike_values" 460), (.str "/claim/cut.py" 461), (.int 103 0), (.int 2 0), (.int 0 0), (.int 0 0), (.int 3 0), (.ref 225), (.bool true), (.int 181 0), (.ref 226), .none, (.ref 227), (.ref 228), (.ref 229), (.int 464 0), (.int 103 0), (.str "/claim/cut.py" 465)]) #[]
noncomputable abbrev ob231 (P : Params) : Obj := Obj.mk (.type "function") none (.func (fD "strike_values" "Element.strike_values" (stM 7 6) 3 [] .none .none .none (.str "fdsolve.tables" 394) none (.ref 230) .none 0)) #[]
noncomputable abbrev ob232 (P : Params) : Obj := Obj.mk (.type "tuple") none (.seq #[] 0) #[]
noncomputable abbrev ob234 (P : Params) : Obj := Obj.mk (.type "tuple") none (.seq #[(.str "self" 470), (.str "store" 471), (.str "v" 472)] 0) #[]
noncomputable abbrev ob235 (P : Params) : Obj := Obj.mk (.type "tuple") none (.seq #[] 0) #[]
noncomputable abbrev ob237 (P : Params) : Obj := Obj.mk (.type "code") none (.fields #[(.str "why_nowhere" 467), (.str "Element.why_nowhere" 468), (.str "/claim/cut.py" 469), (.int 106 0), (.int 3 0), (.int 0 0), (.int 0 0), (.int 3 0), (.ref 232), (.bool true), (.int 181 0), (.ref 233), .none, (.ref 234), (.ref 235), (.ref 236), (.int 473 0), (.int 106 0), (.str "/claim/cut.py" 474)]) #[]
noncomputable abbrev ob238 (P : Params) : Obj := Obj.mk (.type "function") none (.func (fD "why_nowhere" "Element.why_nowhere" (stM 7 7) 3 [] .none .none .none (.str "fdsolve.tables" 394) none (.ref 237) .none 0)) #[]
noncomputable abbrev ob239 (P : Params) : Obj := Obj.mk (.type "tuple") none (.seq #[] 0) #[]
noncomputable abbrev ob241 (P : Params) : Obj := Obj.mk (.type "tuple") none (.seq #[(.str "self" 479), (.str "store" 480)] 0) #[]
noncomputable abbrev ob242 (P : Params) : Obj := Obj.mk (.type "tuple") none (.seq #[] 0) #[]
noncomputable abbrev ob244 (P : Params) : Obj := Obj.mk (.type "code") none (.fields #[(.str "strike_cell" 476), (.str "Element.strike_cell" 477), (.str "/claim/cut.py" 478), (.int 109 0), (.int 2 0), (.int 0 0), (.int 0 0), (.int 3 0), (.ref 239), (.bool true), (.int 181 0), (.ref 240), .none, (.ref 241), (.ref 242), (.ref 243), (.int 481 0), (.int 109 0), (.str "/claim/cut.py" 482)]) #[]
noncomputable abbrev ob245 (P : Params) : Obj := Obj.mk (.type "function") none (.func (fD "strike_cell" "Element.strike_cell" (stM 7 8) 3 [] .none .none .none (.str "fdsolve.tables" 394) none (.ref 244) .none 0)) #[]
noncomputable abbrev ob246 (P : Params) : Obj := Obj.mk (.type "tuple") none (.seq #[(.str "cells" 484), (.str "index" 485), (.str "z" 486)] 0) #[]
noncomputable abbrev ob247 (P : Params) : Obj := Obj.mk (.type "dict") none (.dict #[(en P "__module__" 403 (.str "fdsolve.tables" 394)), (en P "__firstlineno__" 407 (.int 80 406)), (en P "__init__" 418 (.ref 189)), (en P "told" 425 (.ref 196)), (en P "check" 433 (.ref 203)), (en P "propagate" 441 (.ref 210)), (en P "strike_places" 449 (.ref 217)), (en P "why_unlike" 458 (.ref 224)), (en P "strike_values" 466 (.ref 231)), (en P "why_nowhere" 475 (.ref 238)), (en P "strike_cell" 483 (.ref 245)), (en P "__static_attributes__" 487 (.ref 246)), (en P "__doc__" 489 .none)] 3) #[]
noncomputable abbrev ob248 (P : Params) : Obj := Obj.mk (.type "type") none (.cls (ClassData.mk "Element" [(.ref 59)] [(.ref 248), (.ref 59), (.type "object")] 247 "Element" true [] [] false none false)) #[(some (.ref 174)), none, (some (.str "Element" 396)), (some (.str "Element" 404)), (some (.builtin "object.__new__")), (some (.bool true))]
noncomputable abbrev ob251 (P : Params) : Obj := Obj.mk (.type "tuple") none (.seq #[(.ref 59)] 0) #[]
noncomputable abbrev ob254 (P : Params) : Obj := Obj.mk (.type "cell") none (.cell (some (.ref 311))) #[]
noncomputable abbrev ob259 (P : Params) : Obj := Obj.mk (.type "tuple") none (.seq #[(.ref 254)] 0) #[]
noncomputable abbrev ob260 (P : Params) : Obj := Obj.mk (.type "tuple") none (.seq #[(.str "__class__" 507)] 0) #[]
noncomputable abbrev ob262 (P : Params) : Obj := Obj.mk (.type "tuple") none (.seq #[(.str "self" 508), (.str "index" 509), (.str "numbers" 510), (.str "z" 511)] 0) #[]
noncomputable abbrev ob263 (P : Params) : Obj := Obj.mk (.type "tuple") none (.seq #[] 0) #[]
noncomputable abbrev ob265 (P : Params) : Obj := Obj.mk (.type "code") none (.fields #[(.str "__init__" 504), (.str "ElementOf.__init__" 505), (.str "/claim/cut.py" 506), (.int 113 0), (.int 4 0), (.int 0 0), (.int 0 0), (.int 3 0), (.ref 260), (.bool true), (.int 181 0), (.ref 261), .none, (.ref 262), (.ref 263), (.ref 264), (.int 512 0), (.int 113 0), (.str "/claim/cut.py" 513)]) #[]
noncomputable abbrev ob266 (P : Params) : Obj := Obj.mk (.type "function") none (.func (fD "__init__" "ElementOf.__init__" (stM 8 0) 3 [("__class__", 254)] .none .none .none (.str "fdsolve.tables" 394) none (.ref 265) (.ref 259) 0)) #[]
noncomputable abbrev ob267 (P : Params) : Obj := Obj.mk (.type "tuple") none (.seq #[] 0) #[]
noncomputable abbrev ob269 (P : Params) : Obj := Obj.mk (.type "tuple") none (.seq #[(.str "self" 518)] 0) #[]
noncomputable abbrev ob270 (P : Params) : Obj := Obj.mk (.type "tuple") none (.seq #[] 0) #[]
noncomputable abbrev ob272 (P : Params) : Obj := Obj.mk (.type "code") none (.fields #[(.str "told" 515), (.str "ElementOf.told" 516), (.str "/claim/cut.py" 517), (.int 119 0), (.int 1 0), (.int 0 0), (.int 0 0), (.int 3 0), (.ref 267), (.bool true), (.int 181 0), (.ref 268), .none, (.ref 269), (.ref 270), (.ref 271), (.int 519 0), (.int 119 0), (.str "/claim/cut.py" 520)]) #[]
noncomputable abbrev ob273 (P : Params) : Obj := Obj.mk (.type "function") none (.func (fD "told" "ElementOf.told" (stM 8 1) 3 [] .none .none .none (.str "fdsolve.tables" 394) none (.ref 272) .none 0)) #[]
noncomputable abbrev ob274 (P : Params) : Obj := Obj.mk (.type "tuple") none (.seq #[] 0) #[]
noncomputable abbrev ob276 (P : Params) : Obj := Obj.mk (.type "tuple") none (.seq #[(.str "self" 525), (.str "some" 526)] 0) #[]
noncomputable abbrev ob277 (P : Params) : Obj := Obj.mk (.type "tuple") none (.seq #[] 0) #[]
noncomputable abbrev ob279 (P : Params) : Obj := Obj.mk (.type "code") none (.fields #[(.str "check" 522), (.str "ElementOf.check" 523), (.str "/claim/cut.py" 524), (.int 122 0), (.int 2 0), (.int 0 0), (.int 0 0), (.int 3 0), (.ref 274), (.bool true), (.int 181 0), (.ref 275), .none, (.ref 276), (.ref 277), (.ref 278), (.int 527 0), (.int 122 0), (.str "/claim/cut.py" 528)]) #[]
noncomputable abbrev ob280 (P : Params) : Obj := Obj.mk (.type "function") none (.func (fD "check" "ElementOf.check" (stM 8 2) 3 [] .none .none .none (.str "fdsolve.tables" 394) none (.ref 279) .none 0)) #[]
noncomputable abbrev ob281 (P : Params) : Obj := Obj.mk (.type "tuple") none (.seq #[] 0) #[]
noncomputable abbrev ob283 (P : Params) : Obj := Obj.mk (.type "tuple") none (.seq #[(.str "self" 533), (.str "store" 534)] 0) #[]
noncomputable abbrev ob284 (P : Params) : Obj := Obj.mk (.type "tuple") none (.seq #[] 0) #[]
noncomputable abbrev ob286 (P : Params) : Obj := Obj.mk (.type "code") none (.fields #[(.str "propagate" 530), (.str "ElementOf.propagate" 531), (.str "/claim/cut.py" 532), (.int 125 0), (.int 2 0), (.int 0 0), (.int 0 0), (.int 3 0), (.ref 281), (.bool true), (.int 181 0), (.ref 282), .none, (.ref 283), (.ref 284), (.ref 285), (.int 535 0), (.int 125 0), (.str "/claim/cut.py" 536)]) #[]
noncomputable abbrev ob287 (P : Params) : Obj := Obj.mk (.type "function") none (.func (fD "propagate" "ElementOf.propagate" (stM 8 3) 3 [] .none .none .none (.str "fdsolve.tables" 394) none (.ref 286) .none 0)) #[]
noncomputable abbrev ob288 (P : Params) : Obj := Obj.mk (.type "tuple") none (.seq #[] 0) #[]
noncomputable abbrev ob290 (P : Params) : Obj := Obj.mk (.type "tuple") none (.seq #[(.str "self" 541), (.str "store" 542)] 0) #[]
noncomputable abbrev ob291 (P : Params) : Obj := Obj.mk (.type "tuple") none (.seq #[] 0) #[]
noncomputable abbrev ob293 (P : Params) : Obj := Obj.mk (.type "code") none (.fields #[(.str "strike_places" 538), (.str "ElementOf.strike_places" 539), (.str "/claim/cut.py" 540), (.int 128 0), (.int 2 0), (.int 0 0), (.int 0 0), (.int 3 0), (.ref 288), (.bool true), (.int 181 0), (.ref 289), .none, (.ref 290), (.ref 291), (.ref 292), (.int 543 0), (.int 128 0), (.str "/claim/cut.py" 544)]) #[]
noncomputable abbrev ob294 (P : Params) : Obj := Obj.mk (.type "function") none (.func (fD "strike_places" "ElementOf.strike_places" (stM 8 4) 3 [] .none .none .none (.str "fdsolve.tables" 394) none (.ref 293) .none 0)) #[]
noncomputable abbrev ob295 (P : Params) : Obj := Obj.mk (.type "tuple") none (.seq #[] 0) #[]
noncomputable abbrev ob297 (P : Params) : Obj := Obj.mk (.type "tuple") none (.seq #[(.str "self" 549), (.str "store" 550)] 0) #[]
noncomputable abbrev ob298 (P : Params) : Obj := Obj.mk (.type "tuple") none (.seq #[] 0) #[]
noncomputable abbrev ob300 (P : Params) : Obj := Obj.mk (.type "code") none (.fields #[(.str "strike_values" 546), (.str "ElementOf.strike_values" 547), (.str "/claim/cut.py" 548), (.int 131 0), (.int 2 0), (.int 0 0), (.int 0 0), (.int 3 0), (.ref 295), (.bool true), (.int 181 0), (.ref 296), .none, (.ref 297), (.ref 298), (.ref 299), (.int 551 0), (.int 131 0), (.str "/claim/cut.py" 552)]) #[]
noncomputable abbrev ob301 (P : Params) : Obj := Obj.mk (.type "function") none (.func (fD "strike_values" "ElementOf.strike_values" (stM 8 5) 3 [] .none .none .none (.str "fdsolve.tables" 394) none (.ref 300) .none 0)) #[]
noncomputable abbrev ob302 (P : Params) : Obj := Obj.mk (.type "tuple") none (.seq #[] 0) #[]
noncomputable abbrev ob304 (P : Params) : Obj := Obj.mk (.type "tuple") none (.seq #[(.str "self" 557), (.str "store" 558), (.str "v" 559)] 0) #[]
noncomputable abbrev ob305 (P : Params) : Obj := Obj.mk (.type "tuple") none (.seq #[] 0) #[]
noncomputable abbrev ob307 (P : Params) : Obj := Obj.mk (.type "code") none (.fields #[(.str "why_nowhere" 554), (.str "ElementOf.why_nowhere" 555), (.str "/claim/cut.py" 556), (.int 134 0), (.int 3 0), (.int 0 0), (.int 0 0), (.int 3 0), (.ref 302), (.bool true), (.int 181 0), (.ref 303), .none, (.ref 304), (.ref 305), (.ref 306), (.int 560 0), (.int 134 0), (.str "/claim/cut.py" 561)]) #[]
noncomputable abbrev ob308 (P : Params) : Obj := Obj.mk (.type "function") none (.func (fD "why_nowhere" "ElementOf.why_nowhere" (stM 8 6) 3 [] .none .none .none (.str "fdsolve.tables" 394) none (.ref 307) .none 0)) #[]
noncomputable abbrev ob309 (P : Params) : Obj := Obj.mk (.type "tuple") none (.seq #[(.str "index" 563), (.str "numbers" 564), (.str "z" 565)] 0) #[]
noncomputable abbrev ob310 (P : Params) : Obj := Obj.mk (.type "dict") none (.dict #[(en P "__module__" 499 (.str "fdsolve.tables" 394)), (en P "__firstlineno__" 503 (.int 111 502)), (en P "__init__" 514 (.ref 266)), (en P "told" 521 (.ref 273)), (en P "check" 529 (.ref 280)), (en P "propagate" 537 (.ref 287)), (en P "strike_places" 545 (.ref 294)), (en P "strike_values" 553 (.ref 301)), (en P "why_nowhere" 562 (.ref 308)), (en P "__static_attributes__" 566 (.ref 309)), (en P "__doc__" 568 .none)] 3) #[]
noncomputable abbrev ob311 (P : Params) : Obj := Obj.mk (.type "type") none (.cls (ClassData.mk "ElementOf" [(.ref 59)] [(.ref 311), (.ref 59), (.type "object")] 310 "ElementOf" true [] [] false none false)) #[(some (.ref 251)), none, (some (.str "ElementOf" 492)), (some (.str "ElementOf" 500)), (some (.builtin "object.__new__")), (some (.bool true))]
noncomputable abbrev ob314 (P : Params) : Obj := Obj.mk (.type "tuple") none (.seq #[(.ref 59)] 0) #[]
noncomputable abbrev ob317 (P : Params) : Obj := Obj.mk (.type "cell") none (.cell (some (.ref 370))) #[]
noncomputable abbrev ob322 (P : Params) : Obj := Obj.mk (.type "tuple") none (.seq #[(.ref 317)] 0) #[]
noncomputable abbrev ob323 (P : Params) : Obj := Obj.mk (.type "tuple") none (.seq #[(.str "__class__" 586)] 0) #[]
noncomputable abbrev ob326 (P : Params) : Obj := Obj.mk (.type "code") none (.fields #[(.str "__init__" 583), (.str "Table.__init__" 584), (.str "/claim/cut.py" 585), (.int 138 0), (.int 3 0), (.int 0 0), (.int 0 0), (.int 3 0), (.ref 323), (.bool true), (.int 181 0), (.ref 324), .none, .none, .none, (.ref 325), (.int 587 0), (.int 138 0), (.str "/claim/cut.py" 588)]) #[]
noncomputable abbrev ob327 (P : Params) : Obj := Obj.mk (.type "function") none (.func (fD "__init__" "Table.__init__" (stM 9 0) 3 [("__class__", 317)] .none .none .none (.str "fdsolve.tables" 394) none (.ref 326) (.ref 322) 0)) #[]
noncomputable abbrev ob328 (P : Params) : Obj := Obj.mk (.type "tuple") none (.seq #[] 0) #[]
noncomputable abbrev ob331 (P : Params) : Obj := Obj.mk (.type "code") none (.fields #[(.str "is_one" 590), (.str "Table.is_one" 591), (.str "/claim/cut.py" 592), (.int 144 0), (.int 2 0), (.int 0 0), (.int 0 0), (.int 3 0), (.ref 328), (.bool true), (.int 181 0), (.ref 329), .none, .none, .none, (.ref 330), (.int 593 0), (.int 144 0), (.str "/claim/cut.py" 594)]) #[]
noncomputable abbrev ob332 (P : Params) : Obj := Obj.mk (.type "function") none (.func (fD "is_one" "Table.is_one" (stM 9 1) 3 [] .none .none .none (.str "fdsolve.tables" 394) none (.ref 331) .none 0)) #[]
noncomputable abbrev ob333 (P : Params) : Obj := Obj.mk (.type "tuple") none (.seq #[] 0) #[]
noncomputable abbrev ob335 (P : Params) : Obj := Obj.mk (.type "tuple") none (.seq #[(.str "self" 599)] 0) #[]
noncomputable abbrev ob336 (P : Params) : Obj := Obj.mk (.type "tuple") none (.seq #[] 0) #[]
noncomputable abbrev ob338 (P : Params) : Obj := Obj.mk (.type "code") none (.fields #[(.str "told" 596), (.str "Table.told" 597), (.str "/claim/cut.py" 598), (.int 148 0), (.int 1 0), (.int 0 0), (.int 0 0), (.int 3 0), (.ref 333), (.bool true), (.int 181 0), (.ref 334), .none, (.ref 335), (.ref 336), (.ref 337), (.int 600 0), (.int 148 0), (.str "/claim/cut.py" 601)]) #[]
noncomputable abbrev ob339 (P : Params) : Obj := Obj.mk (.type "function") none (.func (fD "told" "Table.told" (stM 9 2) 3 [] .none .none .none (.str "fdsolve.tables" 394) none (.ref 338) .none 0)) #[]
noncomputable abbrev ob340 (P : Params) : Obj := Obj.mk (.type "tuple") none (.seq #[] 0) #[]
noncomputable abbrev ob342 (P : Params) : Obj := Obj.mk (.type "tuple") none (.seq #[(.str "self" 606), (.str "some" 607)] 0) #[]
noncomputable abbrev ob343 (P : Params) : Obj := Obj.mk (.type "tuple") none (.seq #[] 0) #[]
noncomputable abbrev ob345 (P : Params) : Obj := Obj.mk (.type "code") none (.fields #[(.str "check" 603), (.str "Table.check" 604), (.str "/claim/cut.py" 605), (.int 151 0), (.int 2 0), (.int 0 0), (.int 0 0), (.int 3 0), (.ref 340), (.bool true), (.int 181 0), (.ref 341), .none, (.ref 342), (.ref 343), (.ref 344), (.int 608 0), (.int 151 0), (.str "/claim/cut.py" 609)]) #[]
noncomputable abbrev ob346 (P : Params) : Obj := Obj.mk (.type "function") none (.func (fD "check" "Table.check" (stM 9 3) 3 [] .none .none .none (.str "fdsolve.tables" 394) none (.ref 345) .none 0)) #[]
noncomputable abbrev ob347 (P : Params) : Obj := Obj.mk (.type "tuple") none (.seq #[] 0) #[]
noncomputable abbrev ob349 (P : Params) : Obj := Obj.mk (.type "tuple") none (.seq #[(.str "self" 614), (.str "store" 615)] 0) #[]
noncomputable abbrev ob350 (P : Params) : Obj := Obj.mk (.type "tuple") none (.seq #[] 0) #[]
noncomputable abbrev ob352 (P : Params) : Obj := Obj.mk (.type "code") none (.fields #[(.str "propagate" 611), (.str "Table.propagate" 612), (.str "/claim/cut.py" 613), (.int 154 0), (.int 2 0), (.int 0 0), (.int 0 0), (.int 3 0), (.ref 347), (.bool true), (.int 181 0), (.ref 348), .none, (.ref 349), (.ref 350), (.ref 351), (.int 616 0), (.int 154 0), (.str "/claim/cut.py" 617)]) #[]
noncomputable abbrev ob353 (P : Params) : Obj := Obj.mk (.type "function") none (.func (fD "propagate" "Table.propagate" (stM 9 4) 3 [] .none .none .none (.str "fdsolve.tables" 394) none (.ref 352) .none 0)) #[]
noncomputable abbrev ob354 (P : Params) : Obj := Obj.mk (.type "tuple") none (.seq #[] 0) #[]
noncomputable abbrev ob356 (P : Params) : Obj := Obj.mk (.type "tuple") none (.seq #[(.str "self" 622), (.str "store" 623), (.str "row" 624)] 0) #[]
noncomputable abbrev ob357 (P : Params) : Obj := Obj.mk (.type "tuple") none (.seq #[] 0) #[]
noncomputable abbrev ob359 (P : Params) : Obj := Obj.mk (.type "code") none (.fields #[(.str "is_left" 619), (.str "Table.is_left" 620), (.str "/claim/cut.py" 621), (.int 157 0), (.int 3 0), (.int 0 0), (.int 0 0), (.int 3 0), (.ref 354), (.bool true), (.int 181 0), (.ref 355), .none, (.ref 356), (.ref 357), (.ref 358), (.int 625 0), (.int 157 0), (.str "/claim/cut.py" 626)]) #[]
noncomputable abbrev ob360 (P : Params) : Obj := Obj.mk (.type "function") none (.func (fD "is_left" "Table.is_left" (stM 9 5) 3 [] .none .none .none (.str "fdsolve.tables" 394) none (.ref 359) .none 0)) #[]
noncomputable abbrev ob361 (P : Params) : Obj := Obj.mk (.type "tuple") none (.seq #[] 0) #[]
noncomputable abbrev ob363 (P : Params) : Obj := Obj.mk (.type "tuple") none (.seq #[(.str "self" 631), (.str "store" 632), (.str "place" 633), (.str "v" 634)] 0) #[]
noncomputable abbrev ob364 (P : Params) : Obj := Obj.mk (.type "tuple") none (.seq #[] 0) #[]
noncomputable abbrev ob366 (P : Params) : Obj := Obj.mk (.type "code") none (.fields #[(.str "why_none" 628), (.str "Table.why_none" 629), (.str "/claim/cut.py" 630), (.int 160 0), (.int 4 0), (.int 0 0), (.int 0 0), (.int 3 0), (.ref 361), (.bool true), (.int 181 0), (.ref 362), .none, (.ref 363), (.ref 364), (.ref 365), (.int 635 0), (.int 160 0), (.str "/claim/cut.py" 636)]) #[]
noncomputable abbrev ob367 (P : Params) : Obj := Obj.mk (.type "function") none (.func (fD "why_none" "Table.why_none" (stM 9 6) 3 [] .none .none .none (.str "fdsolve.tables" 394) none (.ref 366) .none 0)) #[]
noncomputable abbrev ob368 (P : Params) : Obj := Obj.mk (.type "tuple") none (.seq #[(.str "able" 638), (.str "columns" 639), (.str "rows" 640)] 0) #[]
noncomputable abbrev ob369 (P : Params) : Obj := Obj.mk (.type "dict") none (.dict #[(en P "__module__" 578 (.str "fdsolve.tables" 394)), (en P "__firstlineno__" 582 (.int 136 581)), (en P "__init__" 589 (.ref 327)), (en P "is_one" 595 (.ref 332)), (en P "told" 602 (.ref 339)), (en P "check" 610 (.ref 346)), (en P "propagate" 618 (.ref 353)), (en P "is_left" 627 (.ref 360)), (en P "why_none" 637 (.ref 367)), (en P "__static_attributes__" 641 (.ref 368)), (en P "__doc__" 643 .none)] 3) #[]
noncomputable abbrev ob370 (P : Params) : Obj := Obj.mk (.type "type") none (.cls (ClassData.mk "Table" [(.ref 59)] [(.ref 370), (.ref 59), (.type "object")] 369 "Table" true [] [] false none false)) #[(some (.ref 314)), none, (some (.str "Table" 571)), (some (.str "Table" 579)), (some (.builtin "object.__new__")), (some (.bool true))]
noncomputable abbrev ob373 (P : Params) : Obj := Obj.mk (.type "tuple") none (.seq #[] 0) #[]
noncomputable abbrev ob375 (P : Params) : Obj := Obj.mk (.type "tuple") none (.seq #[(.str "told" 651), (.str "name" 652)] 0) #[]
noncomputable abbrev ob376 (P : Params) : Obj := Obj.mk (.type "tuple") none (.seq #[] 0) #[]
noncomputable abbrev ob378 (P : Params) : Obj := Obj.mk (.type "code") none (.fields #[(.str "choice_rule" 648), (.str "choice_rule" 649), (.str "/claim/cut.py" 650), (.int 163 0), (.int 1 0), (.int 0 0), (.int 0 0), (.int 3 0), (.ref 373), (.bool true), (.int 181 0), (.ref 374), .none, (.ref 375), (.ref 376), (.ref 377), (.int 653 0), (.int 163 0), (.str "/claim/cut.py" 654)]) #[]
noncomputable abbrev ob379 (P : Params) : Obj := Obj.mk (.type "function") none (.func (fD "choice_rule" "choice_rule" (stA 11) 3 [] .none .none .none (.str "fdsolve.solver" 646) none (.ref 378) .none 0)) #[]
noncomputable abbrev ob380 (P : Params) : Obj := Obj.mk (.type "tuple") none (.seq #[] 0) #[]
noncomputable abbrev ob382 (P : Params) : Obj := Obj.mk (.type "tuple") none (.seq #[(.str "feed" 661), (.str "many" 662), (.str "spot" 663)] 0) #[]
noncomputable abbrev ob383 (P : Params) : Obj := Obj.mk (.type "tuple") none (.seq #[] 0) #[]
noncomputable abbrev ob385 (P : Params) : Obj := Obj.mk (.type "code") none (.fields #[(.str "_law_dip" 658), (.str "_law_dip" 659), (.str "/claim/cut.py" 660), (.int 173 0), (.int 2 0), (.int 0 0), (.int 0 0), (.int 3 0), (.ref 380), (.bool true), (.int 181 0), (.ref 381), .none, (.ref 382), (.ref 383), (.ref 384), (.int 664 0), (.int 173 0), (.str "/claim/cut.py" 665)]) #[]
noncomputable abbrev ob386 (P : Params) : Obj := Obj.mk (.type "function") none (.func (fD "_law_dip" "_law_dip" (stA 13) 3 [] .none .none .none (.str "law_nz0027_01" 656) none (.ref 385) .none 0)) #[]
noncomputable abbrev ob387 (P : Params) : Obj := Obj.mk (.type "tuple") none (.seq #[] 0) #[]
noncomputable abbrev ob390 (P : Params) : Obj := Obj.mk (.type "code") none (.fields #[(.str "_law_row" 667), (.str "_law_row" 668), (.str "/claim/cut.py" 669), (.int 179 0), (.int 4 0), (.int 0 0), (.int 0 0), (.int 3 0), (.ref 387), (.bool true), (.int 181 0), (.ref 388), .none, .none, .none, (.ref 389), (.int 670 0), (.int 179 0), (.str "/claim/cut.py" 671)]) #[]
noncomputable abbrev ob391 (P : Params) : Obj := Obj.mk (.type "function") none (.func (fD "_law_row" "_law_row" (stA 14) 3 [] .none .none .none (.str "law_nz0027_01" 656) none (.ref 390) .none 0)) #[]
noncomputable abbrev ob392 (P : Params) : Obj := Obj.mk (.type "tuple") none (.seq #[] 0) #[]
noncomputable abbrev ob395 (P : Params) : Obj := Obj.mk (.type "code") none (.fields #[(.str "_law_told" 673), (.str "_law_told" 674), (.str "/claim/cut.py" 675), (.int 181 0), (.int 1 0), (.int 0 0), (.int 0 0), (.int 3 0), (.ref 392), (.bool true), (.int 181 0), (.ref 393), .none, .none, .none, (.ref 394), (.int 676 0), (.int 181 0), (.str "/claim/cut.py" 677)]) #[]
noncomputable abbrev ob396 (P : Params) : Obj := Obj.mk (.type "function") none (.func (fD "_law_told" "_law_told" (stA 15) 3 [] .none .none .none (.str "law_nz0027_01" 656) none (.ref 395) .none 0)) #[]
noncomputable abbrev ob397 (P : Params) : Obj := Obj.mk (.type "tuple") none (.seq #[] 0) #[]
noncomputable abbrev ob399 (P : Params) : Obj := Obj.mk (.type "tuple") none (.seq #[(.str "v" 682), (.str "here" 683), (.str "seen" 684), (.str "lap" 685)] 0) #[]
noncomputable abbrev ob400 (P : Params) : Obj := Obj.mk (.type "tuple") none (.seq #[] 0) #[]
noncomputable abbrev ob402 (P : Params) : Obj := Obj.mk (.type "code") none (.fields #[(.str "_law_is_ring" 679), (.str "_law_is_ring" 680), (.str "/claim/cut.py" 681), (.int 196 0), (.int 1 0), (.int 0 0), (.int 0 0), (.int 3 0), (.ref 397), (.bool true), (.int 181 0), (.ref 398), .none, (.ref 399), (.ref 400), (.ref 401), (.int 686 0), (.int 196 0), (.str "/claim/cut.py" 687)]) #[]
noncomputable abbrev ob403 (P : Params) : Obj := Obj.mk (.type "function") none (.func (fD "_law_is_ring" "_law_is_ring" (stA 16) 3 [] .none .none .none (.str "law_nz0027_01" 656) none (.ref 402) .none 0)) #[]
noncomputable abbrev ob404 (P : Params) : Obj := Obj.mk (.type "tuple") none (.seq #[] 0) #[]
noncomputable abbrev ob407 (P : Params) : Obj := Obj.mk (.type "code") none (.fields #[(.str "_law_keeps" 689), (.str "_law_keeps" 690), (.str "/claim/cut.py" 691), (.int 204 0), (.int 2 0), (.int 0 0), (.int 0 0), (.int 3 0), (.ref 404), (.bool true), (.int 181 0), (.ref 405), .none, .none, .none, (.ref 406), (.int 692 0), (.int 204 0), (.str "/claim/cut.py" 693)]) #[]
noncomputable abbrev ob408 (P : Params) : Obj := Obj.mk (.type "function") none (.func (fD "_law_keeps" "_law_keeps" (stA 17) 3 [] .none .none .none (.str "law_nz0027_01" 656) none (.ref 407) .none 0)) #[]
noncomputable abbrev ob409 (P : Params) : Obj := Obj.mk (.type "tuple") none (.seq #[] 0) #[]
noncomputable abbrev ob412 (P : Params) : Obj := Obj.mk (.type "code") none (.fields #[(.str "_law_values" 695), (.str "_law_values" 696), (.str "/claim/cut.py" 697), (.int 220 0), (.int 4 0), (.int 0 0), (.int 0 0), (.int 3 0), (.ref 409), (.bool true), (.int 181 0), (.ref 410), .none, .none, .none, (.ref 411), (.int 698 0), (.int 220 0), (.str "/claim/cut.py" 699)]) #[]
noncomputable abbrev ob413 (P : Params) : Obj := Obj.mk (.type "function") none (.func (fD "_law_values" "_law_values" (stA 18) 3 [] .none .none .none (.str "law_nz0027_01" 656) none (.ref 412) .none 0)) #[]
noncomputable abbrev ob414 (P : Params) : Obj := Obj.mk (.type "tuple") none (.seq #[] 0) #[]
noncomputable abbrev ob416 (P : Params) : Obj := Obj.mk (.type "tuple") none (.seq #[(.str "script" 704), (.str "feed" 705), (.str "turn" 706), (.str "told" 707), (.str "scope" 708), (.str "made" 709), (.str "lap" 710), (.str "v" 711)] 0) #[]
noncomputable abbrev ob417 (P : Params) : Obj := Obj.mk (.type "tuple") none (.seq #[] 0) #[]
noncomputable abbrev ob419 (P : Params) : Obj := Obj.mk (.type "code") none (.fields #[(.str "law" 701), (.str "law" 702), (.str "/claim/cut.py" 703), (.int 234 0), (.int 1 0), (.int 0 0), (.int 0 0), (.int 3 0), (.ref 414), (.bool true), (.int 181 0), (.ref 415), .none, (.ref 416), (.ref 417), (.ref 418), (.int 712 0), (.int 234 0), (.str "/claim/cut.py" 713)]) #[]
noncomputable abbrev ob420 (P : Params) : Obj := Obj.mk (.type "function") none (.func (fD "law" "law" (stA 19) 3 [] .none .none .none (.str "law_nz0027_01" 656) none (.ref 419) .none 0)) #[]
noncomputable def kheap (P : Params) : Frag := (nat_lit 2, ob2 P) :: (nat_lit 3, ob3 P) :: (nat_lit 15, ob15 P) :: (nat_lit 17, ob17 P) :: (nat_lit 18, ob18 P) :: (nat_lit 20, ob20 P) :: (nat_lit 21, ob21 P) :: (nat_lit 29, ob29 P) :: (nat_lit 31, ob31 P) :: (nat_lit 32, ob32 P) :: (nat_lit 34, ob34 P) :: (nat_lit 35, ob35 P) :: (nat_lit 36, ob36 P) :: (nat_lit 38, ob38 P) :: (nat_lit 39, ob39 P) :: (nat_lit 41, ob41 P) :: (nat_lit 42, ob42 P) :: (nat_lit 43, ob43 P) :: (nat_lit 45, ob45 P) :: (nat_lit 46, ob46 P) :: (nat_lit 48, ob48 P) :: (nat_lit 49, ob49 P) :: (nat_lit 50, ob50 P) :: (nat_lit 52, ob52 P) :: (nat_lit 53, ob53 P) :: (nat_lit 55, ob55 P) :: (nat_lit 56, ob56 P) :: (nat_lit 57, ob57 P) :: (nat_lit 58, ob58 P) :: (nat_lit 59, ob59 P) :: (nat_lit 60, ob60 P) :: (nat_lit 61, ob61 P) :: (nat_lit 64, ob64 P) :: (nat_lit 67, ob67 P) :: (nat_lit 72, ob72 P) :: (nat_lit 73, ob73 P) :: (nat_lit 75, ob75 P) :: (nat_lit 76, ob76 P) :: (nat_lit 78, ob78 P) :: (nat_lit 79, ob79 P) :: (nat_lit 80, ob80 P) :: (nat_lit 82, ob82 P) :: (nat_lit 83, ob83 P) :: (nat_lit 85, ob85 P) :: (nat_lit 86, ob86 P) :: (nat_lit 87, ob87 P) :: (nat_lit 89, ob89 P) :: (nat_lit 90, ob90 P) :: (nat_lit 92, ob92 P) :: (nat_lit 93, ob93 P) :: (nat_lit 94, ob94 P) :: (nat_lit 96, ob96 P) :: (nat_lit 97, ob97 P) :: (nat_lit 99, ob99 P) :: (nat_lit 100, ob100 P) :: (nat_lit 101, ob101 P) :: (nat_lit 103, ob103 P) :: (nat_lit 104, ob104 P) :: (nat_lit 106, ob106 P) :: (nat_lit 107, ob107 P) :: (nat_lit 108, ob108 P) :: (nat_lit 110, ob110 P) :: (nat_lit 111, ob111 P) :: (nat_lit 113, ob113 P) :: (nat_lit 114, ob114 P) :: (nat_lit 115, ob115 P) :: (nat_lit 117, ob117 P) :: (nat_lit 118, ob118 P) :: (nat_lit 120, ob120 P) :: (nat_lit 121, ob121 P) :: (nat_lit 122, ob122 P) :: (nat_lit 123, ob123 P) :: (nat_lit 124, ob124 P) :: (nat_lit 127, ob127 P) :: (nat_lit 130, ob130 P) :: (nat_lit 135, ob135 P) :: (nat_lit 136, ob136 P) :: (nat_lit 138, ob138 P) :: (nat_lit 139, ob139 P) :: (nat_lit 141, ob141 P) :: (nat_lit 142, ob142 P) :: (nat_lit 143, ob143 P) :: (nat_lit 145, ob145 P) :: (nat_lit 146, ob146 P) :: (nat_lit 148, ob148 P) :: (nat_lit 149, ob149 P) :: (nat_lit 150, ob150 P) :: (nat_lit 152, ob152 P) :: (nat_lit 153, ob153 P) :: (nat_lit 155, ob155 P) :: (nat_lit 156, ob156 P) :: (nat_lit 157, ob157 P) :: (nat_lit 160, ob160 P) :: (nat_lit 161, ob161 P) :: (nat_lit 162, ob162 P) :: (nat_lit 164, ob164 P) :: (nat_lit 165, ob165 P) :: (nat_lit 167, ob167 P) :: (nat_lit 168, ob168 P) :: (nat_lit 169, ob169 P) :: (nat_lit 170, ob170 P) :: (nat_lit 171, ob171 P) :: (nat_lit 174, ob174 P) :: (nat_lit 177, ob177 P) :: (nat_lit 182, ob182 P) :: (nat_lit 183, ob183 P) :: (nat_lit 185, ob185 P) :: (nat_lit 186, ob186 P) :: (nat_lit 188, ob188 P) :: (nat_lit 189, ob189 P) :: (nat_lit 190, ob190 P) :: (nat_lit 192, ob192 P) :: (nat_lit 193, ob193 P) :: (nat_lit 195, ob195 P) :: (nat_lit 196, ob196 P) :: (nat_lit 197, ob197 P) :: (nat_lit 199, ob199 P) :: (nat_lit 200, ob200 P) :: (nat_lit 202, ob202 P) :: (nat_lit 203, ob203 P) :: (nat_lit 204, ob204 P) :: (nat_lit 206, ob206 P) :: (nat_lit 207, ob207 P) :: (nat_lit 209, ob209 P) :: (nat_lit 210, ob210 P) :: (nat_lit 211, ob211 P) :: (nat_lit 213, ob213 P) :: (nat_lit 214, ob214 P) :: (nat_lit 216, ob216 P) :: (nat_lit 217, ob217 P) :: (nat_lit 218, ob218 P) :: (nat_lit 220, ob220 P) :: (nat_lit 221, ob221 P) :: (nat_lit 223, ob223 P) :: (nat_lit 224, ob224 P) :: (nat_lit 225, ob225 P) :: (nat_lit 227, ob227 P) :: (nat_lit 228, ob228 P) :: (nat_lit 230, ob230 P) :: (nat_lit 231, ob231 P) :: (nat_lit 232, ob232 P) :: (nat_lit 234, ob234 P) :: (nat_lit 235, ob235 P) :: (nat_lit 237, ob237 P) :: (nat_lit 238, ob238 P) :: (nat_lit 239, ob239 P) :: (nat_lit 241, ob241 P) :: (nat_lit 242, ob242 P) :: (nat_lit 244, ob244 P) :: (nat_lit 245, ob245 P) :: (nat_lit 246, ob246 P) :: (nat_lit 247, ob247 P) :: (nat_lit 248, ob248 P) :: (nat_lit 251, ob251 P) :: (nat_lit 254, ob254 P) :: (nat_lit 259, ob259 P) :: (nat_lit 260, ob260 P) :: (nat_lit 262, ob262 P) :: (nat_lit 263, ob263 P) :: (nat_lit 265, ob265 P) :: (nat_lit 266, ob266 P) :: (nat_lit 267, ob267 P) :: (nat_lit 269, ob269 P) :: (nat_lit 270, ob270 P) :: (nat_lit 272, ob272 P) :: (nat_lit 273, ob273 P) :: (nat_lit 274, ob274 P) :: (nat_lit 276, ob276 P) :: (nat_lit 277, ob277 P) :: (nat_lit 279, ob279 P) :: (nat_lit 280, ob280 P) :: (nat_lit 281, ob281 P) :: (nat_lit 283, ob283 P) :: (nat_lit 284, ob284 P) :: (nat_lit 286, ob286 P) :: (nat_lit 287, ob287 P) :: (nat_lit 288, ob288 P) :: (nat_lit 290, ob290 P) :: (nat_lit 291, ob291 P) :: (nat_lit 293, ob293 P) :: (nat_lit 294, ob294 P) :: (nat_lit 295, ob295 P) :: (nat_lit 297, ob297 P) :: (nat_lit 298, ob298 P) :: (nat_lit 300, ob300 P) :: (nat_lit 301, ob301 P) :: (nat_lit 302, ob302 P) :: (nat_lit 304, ob304 P) :: (nat_lit 305, ob305 P) :: (nat_lit 307, ob307 P) :: (nat_lit 308, ob308 P) :: (nat_lit 309, ob309 P) :: (nat_lit 310, ob310 P) :: (nat_lit 311, ob311 P) :: (nat_lit 314, ob314 P) :: (nat_lit 317, ob317 P) :: (nat_lit 322, ob322 P) :: (nat_lit 323, ob323 P) :: (nat_lit 326, ob326 P) :: (nat_lit 327, ob327 P) :: (nat_lit 328, ob328 P) :: (nat_lit 331, ob331 P) :: (nat_lit 332, ob332 P) :: (nat_lit 333, ob333 P) :: (nat_lit 335, ob335 P) :: (nat_lit 336, ob336 P) :: (nat_lit 338, ob338 P) :: (nat_lit 339, ob339 P) :: (nat_lit 340, ob340 P) :: (nat_lit 342, ob342 P) :: (nat_lit 343, ob343 P) :: (nat_lit 345, ob345 P) :: (nat_lit 346, ob346 P) :: (nat_lit 347, ob347 P) :: (nat_lit 349, ob349 P) :: (nat_lit 350, ob350 P) :: (nat_lit 352, ob352 P) :: (nat_lit 353, ob353 P) :: (nat_lit 354, ob354 P) :: (nat_lit 356, ob356 P) :: (nat_lit 357, ob357 P) :: (nat_lit 359, ob359 P) :: (nat_lit 360, ob360 P) :: (nat_lit 361, ob361 P) :: (nat_lit 363, ob363 P) :: (nat_lit 364, ob364 P) :: (nat_lit 366, ob366 P) :: (nat_lit 367, ob367 P) :: (nat_lit 368, ob368 P) :: (nat_lit 369, ob369 P) :: (nat_lit 370, ob370 P) :: (nat_lit 373, ob373 P) :: (nat_lit 375, ob375 P) :: (nat_lit 376, ob376 P) :: (nat_lit 378, ob378 P) :: (nat_lit 379, ob379 P) :: (nat_lit 380, ob380 P) :: (nat_lit 382, ob382 P) :: (nat_lit 383, ob383 P) :: (nat_lit 385, ob385 P) :: (nat_lit 386, ob386 P) :: (nat_lit 387, ob387 P) :: (nat_lit 390, ob390 P) :: (nat_lit 391, ob391 P) :: (nat_lit 392, ob392 P) :: (nat_lit 395, ob395 P) :: (nat_lit 396, ob396 P) :: (nat_lit 397, ob397 P) :: (nat_lit 399, ob399 P) :: (nat_lit 400, ob400 P) :: (nat_lit 402, ob402 P) :: (nat_lit 403, ob403 P) :: (nat_lit 404, ob404 P) :: (nat_lit 407, ob407 P) :: (nat_lit 408, ob408 P) :: (nat_lit 409, ob409 P) :: (nat_lit 412, ob412 P) :: (nat_lit 413, ob413 P) :: (nat_lit 414, ob414 P) :: (nat_lit 416, ob416 P) :: (nat_lit 417, ob417 P) :: (nat_lit 419, ob419 P) :: (nat_lit 420, ob420 P) :: []
noncomputable def kaddrs : List Addr := nat_lit 2 :: nat_lit 3 :: nat_lit 15 :: nat_lit 17 :: nat_lit 18 :: nat_lit 20 :: nat_lit 21 :: nat_lit 29 :: nat_lit 31 :: nat_lit 32 :: nat_lit 34 :: nat_lit 35 :: nat_lit 36 :: nat_lit 38 :: nat_lit 39 :: nat_lit 41 :: nat_lit 42 :: nat_lit 43 :: nat_lit 45 :: nat_lit 46 :: nat_lit 48 :: nat_lit 49 :: nat_lit 50 :: nat_lit 52 :: nat_lit 53 :: nat_lit 55 :: nat_lit 56 :: nat_lit 57 :: nat_lit 58 :: nat_lit 59 :: nat_lit 60 :: nat_lit 61 :: nat_lit 64 :: nat_lit 67 :: nat_lit 72 :: nat_lit 73 :: nat_lit 75 :: nat_lit 76 :: nat_lit 78 :: nat_lit 79 :: nat_lit 80 :: nat_lit 82 :: nat_lit 83 :: nat_lit 85 :: nat_lit 86 :: nat_lit 87 :: nat_lit 89 :: nat_lit 90 :: nat_lit 92 :: nat_lit 93 :: nat_lit 94 :: nat_lit 96 :: nat_lit 97 :: nat_lit 99 :: nat_lit 100 :: nat_lit 101 :: nat_lit 103 :: nat_lit 104 :: nat_lit 106 :: nat_lit 107 :: nat_lit 108 :: nat_lit 110 :: nat_lit 111 :: nat_lit 113 :: nat_lit 114 :: nat_lit 115 :: nat_lit 117 :: nat_lit 118 :: nat_lit 120 :: nat_lit 121 :: nat_lit 122 :: nat_lit 123 :: nat_lit 124 :: nat_lit 127 :: nat_lit 130 :: nat_lit 135 :: nat_lit 136 :: nat_lit 138 :: nat_lit 139 :: nat_lit 141 :: nat_lit 142 :: nat_lit 143 :: nat_lit 145 :: nat_lit 146 :: nat_lit 148 :: nat_lit 149 :: nat_lit 150 :: nat_lit 152 :: nat_lit 153 :: nat_lit 155 :: nat_lit 156 :: nat_lit 157 :: nat_lit 160 :: nat_lit 161 :: nat_lit 162 :: nat_lit 164 :: nat_lit 165 :: nat_lit 167 :: nat_lit 168 :: nat_lit 169 :: nat_lit 170 :: nat_lit 171 :: nat_lit 174 :: nat_lit 177 :: nat_lit 182 :: nat_lit 183 :: nat_lit 185 :: nat_lit 186 :: nat_lit 188 :: nat_lit 189 :: nat_lit 190 :: nat_lit 192 :: nat_lit 193 :: nat_lit 195 :: nat_lit 196 :: nat_lit 197 :: nat_lit 199 :: nat_lit 200 :: nat_lit 202 :: nat_lit 203 :: nat_lit 204 :: nat_lit 206 :: nat_lit 207 :: nat_lit 209 :: nat_lit 210 :: nat_lit 211 :: nat_lit 213 :: nat_lit 214 :: nat_lit 216 :: nat_lit 217 :: nat_lit 218 :: nat_lit 220 :: nat_lit 221 :: nat_lit 223 :: nat_lit 224 :: nat_lit 225 :: nat_lit 227 :: nat_lit 228 :: nat_lit 230 :: nat_lit 231 :: nat_lit 232 :: nat_lit 234 :: nat_lit 235 :: nat_lit 237 :: nat_lit 238 :: nat_lit 239 :: nat_lit 241 :: nat_lit 242 :: nat_lit 244 :: nat_lit 245 :: nat_lit 246 :: nat_lit 247 :: nat_lit 248 :: nat_lit 251 :: nat_lit 254 :: nat_lit 259 :: nat_lit 260 :: nat_lit 262 :: nat_lit 263 :: nat_lit 265 :: nat_lit 266 :: nat_lit 267 :: nat_lit 269 :: nat_lit 270 :: nat_lit 272 :: nat_lit 273 :: nat_lit 274 :: nat_lit 276 :: nat_lit 277 :: nat_lit 279 :: nat_lit 280 :: nat_lit 281 :: nat_lit 283 :: nat_lit 284 :: nat_lit 286 :: nat_lit 287 :: nat_lit 288 :: nat_lit 290 :: nat_lit 291 :: nat_lit 293 :: nat_lit 294 :: nat_lit 295 :: nat_lit 297 :: nat_lit 298 :: nat_lit 300 :: nat_lit 301 :: nat_lit 302 :: nat_lit 304 :: nat_lit 305 :: nat_lit 307 :: nat_lit 308 :: nat_lit 309 :: nat_lit 310 :: nat_lit 311 :: nat_lit 314 :: nat_lit 317 :: nat_lit 322 :: nat_lit 323 :: nat_lit 326 :: nat_lit 327 :: nat_lit 328 :: nat_lit 331 :: nat_lit 332 :: nat_lit 333 :: nat_lit 335 :: nat_lit 336 :: nat_lit 338 :: nat_lit 339 :: nat_lit 340 :: nat_lit 342 :: nat_lit 343 :: nat_lit 345 :: nat_lit 346 :: nat_lit 347 :: nat_lit 349 :: nat_lit 350 :: nat_lit 352 :: nat_lit 353 :: nat_lit 354 :: nat_lit 356 :: nat_lit 357 :: nat_lit 359 :: nat_lit 360 :: nat_lit 361 :: nat_lit 363 :: nat_lit 364 :: nat_lit 366 :: nat_lit 367 :: nat_lit 368 :: nat_lit 369 :: nat_lit 370 :: nat_lit 373 :: nat_lit 375 :: nat_lit 376 :: nat_lit 378 :: nat_lit 379 :: nat_lit 380 :: nat_lit 382 :: nat_lit 383 :: nat_lit 385 :: nat_lit 386 :: nat_lit 387 :: nat_lit 390 :: nat_lit 391 :: nat_lit 392 :: nat_lit 395 :: nat_lit 396 :: nat_lit 397 :: nat_lit 399 :: nat_lit 400 :: nat_lit 402 :: nat_lit 403 :: nat_lit 404 :: nat_lit 407 :: nat_lit 408 :: nat_lit 409 :: nat_lit 412 :: nat_lit 413 :: nat_lit 414 :: nat_lit 416 :: nat_lit 417 :: nat_lit 419 :: nat_lit 420 :: []
noncomputable def kview : Program := PySem.W.view pw [0, 2, 4, 5, 7, 8, 9, 11, 13, 14, 15, 16, 17, 18, 19]
/-- the top's run over the tree of objects -/
noncomputable def topRunT (tb : String → Option Builtin) (p : Program) (w : World) (n₀ : Nat) (ann : Option Value) : Nat → SharedT → Thread → Option SharedT
  | 0, _, _ => none
  | n + 1, s, t => match through t with
    | true => some s
    | false => match stepOk n₀ ann t with
      | false => none
      | true => match stepT (denote tb) p w s t with
        | some (s', t') => topRunT tb p w n₀ ann n s' t'
        | none => none
theorem topRun_of {tb : String → Option Builtin} {p : Program} {w : World} {n₀ : Nat} {ann : Option Value} : ∀ {n : Nat} {s s' : SharedT} {t : Thread}, topRunT tb p w n₀ ann n s t = some s' → topRun tb p w n₀ ann n s.abs t = some s'.abs
  | 0, s, s', t, h => by simp [topRunT] at h
  | n + 1, s, s', t, h => by
    unfold topRunT at h
    unfold topRun
    cases ht : through t with
    | true => rw [ht] at h; obtain rfl : s = s' := Option.some.inj h; rfl
    | false =>
      rw [ht] at h
      cases hk : stepOk n₀ ann t with
      | false => rw [hk] at h; cases h
      | true =>
        rw [hk] at h
        cases hs : stepT (denote tb) p w s t with
        | none => rw [hs] at h; cases h
        | some q =>
          obtain ⟨s₂, t₂⟩ := q
          rw [hs] at h
          rw [stepT_spec hs]
          exact topRun_of h
noncomputable def treeOf : List Obj → Nat → BT → BT
  | [], _, t => t
  | o :: r, n, t => treeOf r (n + 1) (t.ins n o)
noncomputable def bootTree (P : Params) : BT := treeOf (boot_heap P).objs.toList 0 .nil
noncomputable def start0 (w : World) (os : OsState) : SharedT := ⟨bootTree w.params, (boot_heap w.params).objs.size, (boot_heap w.params).life, #[], boot_drawn, boot_toks, os⟩
noncomputable def runAll (w : World) (os : OsState) : Option SharedT := topRunT treeTable pw w (boot_heap w.params).objs.size ((boot_heap w.params).nsMap mainGlobals "__annotations__") 5930 (start0 w os) (topStub pw)
noncomputable abbrev xt0 : Shared → Bool := fun s => xlAt kview [] s && recOk (RowW.records PySem.Challenge.rw_nz0027_01.row.toRowW) s
noncomputable def looksAt (w : World) (s : Shared) := ((staticsOk (importedModules pw.main.body) (boot_heap w.params) s.heap && namesBound pw s.heap && gensDone s && laidKept (boot_heap w.params) s.heap), openSeen kview [] (importedModules pw.main.body) xt0 true s)
/-- a look at the tree of objects -/
noncomputable def tget (s : SharedT) (a : Addr) : Option Obj := match Nat.blt a s.n with
  | true => (match s.tree.get a with | some o => alive o | none => none)
  | false => none
theorem tget_abs {s : SharedT} {a : Addr} {o : Obj} (h : tget s a = some o) : s.abs.heap.get? a = some o := by
  unfold tget at h
  cases hb : Nat.blt a s.n with
  | false => rw [hb] at h; cases h
  | true =>
    rw [hb] at h
    cases g : s.tree.get a with
    | none => rw [g] at h; cases h
    | some q => rw [g] at h; exact (abs_get (Nat.blt_eq.mp hb) g).trans h
theorem tgets_abs {s : SharedT} {β : Type} {f : β → Obj} : ∀ {l : List Addr} {r : List β}, l.map (tget s) = r.map (fun p => some (f p)) → l.map s.abs.heap.get? = r.map fun p => some (f p)
  | [], [], _ => rfl
  | [], _ :: _, h => nomatch h
  | _ :: _, [], h => nomatch h
  | _ :: _, _ :: _, h => by
    obtain ⟨h1, h2⟩ := List.cons.inj h
    rw [List.map_cons, List.map_cons, tget_abs h1, tgets_abs h2]
noncomputable def topF (w : World) (os : OsState) := (runAll w os).map (fun s => (looksAt w s.abs, kaddrs.map (tget s)))
noncomputable def topG := (true, openGood kview [])
theorem twinF : Option.isSome (some topF) = true := by k_qdec
theorem twinG : Option.isSome (some topG) = true := by k_qdec
theorem quickRun (w : World) : (fun os => PySem.W.Fast.tw1816280747141386889 w os) = fun _ => some (PySem.W.Fast.tw8126220355847517536, (kheap w.params).map fun p => some p.2) := by kernel_rfl
theorem top_run (w : World) (os : OsState) : topF w os = some (topG, (kheap w.params).map fun p => some p.2) := by
  rw [PySem.W.Fast.te1816280747141386889, PySem.W.Fast.te8126220355847517536]
  exact congrFun (quickRun w) os
theorem start_abs (w : World) (os : OsState) : (start0 w os).abs = ⟨boot_heap w.params, #[], boot_drawn, boot_toks, os⟩ := by kernel_rfl
theorem opens_plain : opening pw = plainProg pw.main.scope.names := by kernel_rfl
theorem fence_pw (s : Shared) : fenceModules? pw s = some s := by kernel_rfl
theorem boot_fine (P : Params) (g : Nat) : ((boot_heap P).isNs mainGlobals && (#[] : Array GenState).size == 0) = true := by kernel_rfl
theorem addrs_ok (P : Params) : kaddrs = (kheap P).map (·.1) := by kernel_rfl
theorem topFrom_of {p : Program} {w : World} {N : Nat} {s₀ s₁ : Shared} (h1 : (s₀.heap.isNs mainGlobals && s₀.gens.size == 0) = true)
    (h2 : topRun treeTable p w s₀.heap.objs.size (s₀.heap.nsMap mainGlobals "__annotations__") N s₀ (topStub p) = some s₁)
    (h3 : (staticsOk (importedModules p.main.body) s₀.heap s₁.heap && namesBound p s₁.heap && gensDone s₁ && laidKept s₀.heap s₁.heap) = true) : topFrom treeTable p w N s₀ = some s₁ := by
  unfold topFrom
  rw [h1]
  dsimp only
  rw [h2]
  show (match staticsOk (importedModules p.main.body) s₀.heap s₁.heap && namesBound p s₁.heap && gensDone s₁ && laidKept s₀.heap s₁.heap with | true => some s₁ | false => none) = some s₁
  rw [h3]
theorem leftO_of {p q : Program} {loose : List Str} {Xt : Shared → Bool} {α : Type} {Yf : Shared → α} {Ya : World → α} {N : Nat} {w : World} {s₀ s₁ : Shared} (h1 : fencedOpening treeTable p w N = some s₀) (h2 : topFrom treeTable p w N s₀ = some s₁)
    (h3 : openSeen q loose (importedModules p.main.body) Xt true s₁ = openGood q loose) (h4 : Yf s₁ = Ya w) :
    (openEnds treeTable p w N).map (fun s => (openSeen q loose (importedModules p.main.body) Xt true s, Yf s)) = some (openGood q loose, Ya w) := by
  unfold openEnds
  rw [h1]
  show Option.map _ (topFrom treeTable p w N s₀) = _
  rw [h2]
  show some (_, _) = some (_, _)
  rw [h3, h4]
theorem boot_at {p : Program} {N : Nat} {w : World} (e : (fencedOpening treeTable p w N).map (fun s => (s.heap, s.gens, s.drawn, s.toks)) = some (boot_heap w.params, Array.mk [], boot_drawn, boot_toks)) :
    ∃ os, fencedOpening treeTable p w N = some ⟨boot_heap w.params, #[], boot_drawn, boot_toks, os⟩ := by
  obtain ⟨⟨h, gs, d, k, os⟩, e, e'⟩ := Option.map_eq_some_iff.mp e
  simp only [Prod.mk.injEq] at e'
  obtain ⟨rfl, rfl, rfl, rfl⟩ := e'
  exact ⟨os, e⟩
theorem looks_split {w : World} {s : Shared} (h : looksAt w s = topG) : (staticsOk (importedModules pw.main.body) (boot_heap w.params) s.heap && namesBound pw s.heap && gensDone s && laidKept (boot_heap w.params) s.heap) = true ∧ openSeen kview [] (importedModules pw.main.body) xt0 true s = openGood kview [] := Prod.mk.inj h
theorem left_at : LeftO pw kview [] xt0 (fun s => kaddrs.map s.heap.get?) (fun w => (kheap w.params).map fun p => some p.2) 5930 := fun w => by
  obtain ⟨os, e⟩ := boot_at (boot_open (p := pw) (N := 5930) opens_plain (by decide) fence_pw w)
  obtain ⟨sf, r, q2⟩ := Option.map_eq_some_iff.mp (show (runAll w os).map (fun s => (looksAt w s.abs, kaddrs.map (tget s))) = _ from top_run w os)
  have r' := topRun_of (show topRunT treeTable pw w (boot_heap w.params).objs.size ((boot_heap w.params).nsMap mainGlobals "__annotations__") 5930 (start0 w os) (topStub pw) = some sf from r)
  rw [start_abs] at r'
  obtain ⟨l1, l3⟩ := Prod.mk.inj q2
  obtain ⟨l1, l2⟩ := looks_split l1
  exact leftO_of (Yf := fun s => kaddrs.map s.heap.get?) (Ya := fun w => (kheap w.params).map fun p => some p.2) e (topFrom_of (boot_fine w.params 0) r' l1) l2 (tgets_abs (r := kheap w.params) (f := fun p => p.2) l3)
end Mine
open Mine in
example : PySem.Challenge.rw_nz0027_01.row.name = PySem.Challenge.rw_nz0027_01.row.name ∧ kheap = kheap := by k_fill; exact ⟨rfl, rfl⟩
local macro_rules | `(tactic| k_room) => `(tactic| ktr_room)
local macro_rules | `(tactic| walk_at $s:str) => do `(tactic| k_extra $(Lean.Syntax.mkStrLit (s.getString ++ "!")))
namespace Mine
open PySem PySem.W PySem.Calls PyProof.Rows PySem.Spec

abbrev Led := List (Addr × Obj)
abbrev prg : Program := PySem.Challenge.rw_nz0027_01.row.prog

/-- the ledger without a frame -/
def Held (g h : Heap) (news : Led) : Prop := ∀ p ∈ news, h.get? p.1 = some p.2 ∧ g.get? p.1 = none

def Con (w : World) (mean : ExcName → Option Value) (mg mb : Str → Option Value) (k : Nat) (f : Addr) (args : List Value) (news : Led) (Post : Led → Value → Prop) : Prop :=
  ∀ (A : Around) (base g : Heap) (outer : List Env) (s : Shared) (R : Result → Shared → Prop),
    A.handled = none → Below A base outer g → g.StaysIn s.heap → g.objs.size ≤ s.heap.objs.size → (kheap w.params).In g →
    Top kview (looseW kview []) mean mg mb g → Held g s.heap news → A.depth + k < recursionLimit → A.units + 8 * k < cLine →
    (∀ news' r h' tk', g.StaysIn h' → Held g h' news' → Post news' r → R (.ok (.ret r)) { s with heap := h', toks := tk' }) →
    codeAny (model PySem.Challenge.rw_nz0027_01.row.prog w) A (.call (.ref f) ⟨args, []⟩) R s

section
variable {w : World} {mean : ExcName → Option Value} {mg mb : Str → Option Value} {k : Nat} {f : Addr} {args : List Value} {news : Led} {Post : Led → Value → Prop}

theorem con_enter {A : Around} {base g : Heap} {outer : List Env} {s : Shared} {R : Result → Shared → Prop} {K : Frag} {p : Program} {loose : List Str}
    {name qual : Str} {params : Arguments} {body : List Stmt} {scope : Scope} {dV kV doc pm cdv ct oc : Value} {an od : Option Addr} {osl : Array (Option Value)} {binds : List (Str × Value)}
    (_B : Below A base outer g) (st : g.StaysIn s.heap) (sz : g.objs.size ≤ s.heap.objs.size) (X : K.In g) (T : Top p loose mean mg mb g) (N : Held g s.heap news)
    (ho : K.lookup f = some ⟨oc, od, .func (fnOf name qual params body scope dV kV doc pm an cdv ct), osl⟩) (hcd : codeIn K cdv qual = true) (hroom : A.depth < recursionLimit)
    (hbind : BindsTo s (fnOf name qual params body scope dV kV doc pm an cdv ct) ⟨args, []⟩ binds) (hloc : ∀ y ∈ binds, scope.names.lookup y.1 = some .local)
    (hret : ∀ news' r h' tk', g.StaysIn h' → Held g h' news' → Post news' r → R (.ok (.ret r)) { s with heap := h', toks := tk' })
    (h : ∀ L' h₁ (Q' : Flow → Shared → Prop), Fr g L' h₁ (fun y => binds.reverse.lookup y) → News g L' h₁ news → (∀ p ∈ news, p.1 < L') →
      (∀ m' news' r h' tk', Fr g L' h' m' → News g L' h' news' → Post news' r → Q' (.ret r) { s with heap := h', toks := tk' }) →
      wpAny (model PySem.Challenge.rw_nz0027_01.row.prog w) (A.deeper (envOf qual scope L' f cdv)) (execs body (envOf qual scope L' f cdv))
        Q' (fun _ _ => False)
        { s with heap := h₁, toks := s.toks + binds.length })
    (hco : scope.isCoroutine = false) (hgen : scope.isGenerator = false) (hk : scope.kind = .function)
    (hcell : ∀ x ∈ scope.names, x.2 ≠ .cell) : codeAny (model PySem.Challenge.rw_nz0027_01.row.prog w) A (.call (.ref f) ⟨args, []⟩) R s := by
  refine codeAny_call_def (fd := fnOf name qual params body scope dV kV doc pm an cdv ct) (body := body) (binds := binds) hroom ((X.keeps st) _ _ ho) rfl (T.nolimit.keeps st) (codeRec_of (X.keeps st) hcd) rfl hbind hcell hloc (fun h₁ hns hk₁ => ?_) hco hgen hk
  refine wpAny_mono (h s.heap.objs.size h₁ _ ⟨hns, fun b o e => hk₁ b o (st b o e), sz⟩ (fun p hp => ⟨hk₁ _ _ (N p hp).1, Nat.ne_of_lt (Heap.lt_size (N p hp).1), (N p hp).2⟩) (fun p hp => Heap.lt_size (N p hp).1) ?_) (fun _ _ q => q) (fun _ _ q => q.elim)
  exact fun m' news' r h' tk' F' N' P => hret news' r h' tk' F'.keep (fun p hp => ⟨(N' p hp).1, (N' p hp).2.2⟩) P

theorem con_enterC {A : Around} {base g : Heap} {outer : List Env} {s : Shared} {R : Result → Shared → Prop} {K : Frag} {p : Program} {loose : List Str}
    {name qual : Str} {params : Arguments} {body : List Stmt} {scope : Scope} {dV kV doc pm cdv ct oc : Value} {an od : Option Addr} {osl : Array (Option Value)} {binds : List (Str × Value)}
    (_B : Below A base outer g) (st : g.StaysIn s.heap) (sz : g.objs.size ≤ s.heap.objs.size) (X : K.In g) (T : Top p loose mean mg mb g) (N : Held g s.heap news)
    (ho : K.lookup f = some ⟨oc, od, .func (fnOf name qual params body scope dV kV doc pm an cdv ct), osl⟩) (hcd : codeIn K cdv qual = true) (hroom : A.depth < recursionLimit)
    (hbind : BindsTo s (fnOf name qual params body scope dV kV doc pm an cdv ct) ⟨args, []⟩ binds) (hkind : (binds.all fun y => scope.names.lookup y.1 == some .local || scope.names.lookup y.1 == some .cell) = true)
    (hnd : ((cellsFrom 0 scope.names []).map (·.1)).Nodup)
    (hret : ∀ news' r h' tk', g.StaysIn h' → Held g h' news' → Post news' r → R (.ok (.ret r)) { s with heap := h', toks := tk' })
    (h : ∀ L' h₁ tk cells (Q' : Flow → Shared → Prop), Fr g L' h₁ (bindL (envOfC qual scope L' f cdv).kindOf binds fun _ => none) → News g L' h₁ (cells ++ news) →
      CellsAre (bindC (envOfC qual scope L' f cdv).kindOf binds fun _ => none) (cellsFrom (L' + 1) scope.names []) cells → (∀ p ∈ news, p.1 < L') →
      (∀ m' news' r h' tk', Fr g L' h' m' → News g L' h' news' → Post news' r → Q' (.ret r) { s with heap := h', toks := tk' }) →
      wpAny (model PySem.Challenge.rw_nz0027_01.row.prog w) (A.deeper (envOfC qual scope L' f cdv)) (execs body (envOfC qual scope L' f cdv))
        Q' (fun _ _ => False)
        { s with heap := h₁, toks := tk })
    (hco : scope.isCoroutine = false) (hgen : scope.isGenerator = false) (hk : scope.kind = .function) :
    codeAny (model PySem.Challenge.rw_nz0027_01.row.prog w) A (.call (.ref f) ⟨args, []⟩) R s := by
  refine codeAny_call_function hroom ((X.keeps st) _ _ ho) rfl hco hgen rfl (codeRec_of (X.keeps st) hcd) (hbind _ _ _ _ ?_)
  refine wpAny_newFunctionEnv_cells hk (kindsX hkind _) fun env' he s' x => ?_
  subst he
  refine ⟨(T.nolimit.keeps st).keeps x.toInCall.keep, codeAny_func ?_⟩
  obtain ⟨h₁, tk, rfl, _⟩ := x.done
  have hk₁ := x.toInCall.keep
  obtain ⟨cells, NC, Y⟩ := Cl.news (h₀ := s.heap) (Nat.le_refl _) fun n c hm => ⟨x.cell n c (lookup_of_mem_nodup (cellsFrom_names scope.names 0 (s.heap.objs.size + 1) [] [] rfl ▸ hnd) hm), x.above n c hm⟩
  refine wpAny_mono (h s.heap.objs.size h₁ tk cells _ ⟨x.toInCall.ns, fun b o e => hk₁ b o (st b o e), sz⟩ (fun p hp => ?_) Y (fun p hp => Heap.lt_size (N p hp).1) ?_) (fun _ _ q => q) (fun _ _ q => q.elim)
  · rcases List.mem_append.mp hp with hp | hp
    · refine ⟨(NC p hp).1, (NC p hp).2.1, ?_⟩
      cases q : g.get? p.1 with
      | none => rfl
      | some o => have := st _ _ q; rw [(NC p hp).2.2] at this; cases this
    · exact ⟨hk₁ _ _ (N p hp).1, Nat.ne_of_lt (Heap.lt_size (N p hp).1), (N p hp).2⟩
  · exact fun m' news' r h' tk' F' N' P => hret news' r h' tk' F'.keep (fun p hp => ⟨(N' p hp).1, (N' p hp).2.2⟩) P

/-- a contract's proof begins here: the facts in the form that the walk wants -/
theorem con_of {name qual : Str} {params : Arguments} {body : List Stmt} {scope : Scope} {dV kV doc pm cdv ct oc : Value} {an od : Option Addr} {osl : Array (Option Value)} {binds : List (Str × Value)}
    (ho : (kheap w.params).lookup f = some ⟨oc, od, .func (fnOf name qual params body scope dV kV doc pm an cdv ct), osl⟩) (hcd : codeIn (kheap w.params) cdv qual = true)
    (hbind : ∀ s, BindsTo s (fnOf name qual params body scope dV kV doc pm an cdv ct) ⟨args, []⟩ binds) (hloc : ∀ y ∈ binds, scope.names.lookup y.1 = some .local)
    (h : ∀ dp gd un outer base g (s : Shared), Below ⟨none, dp, some outer, gd, un⟩ base outer g → g.StaysIn s.heap → g.objs.size ≤ s.heap.objs.size → (kheap w.params).In g → Top kview (looseW kview []) mean mg mb g → dp + k < recursionLimit → un + 8 * k < cLine →
      ∀ L' h₁ (Q' : Flow → Shared → Prop), Fr g L' h₁ (fun y => binds.reverse.lookup y) → News g L' h₁ news → (∀ p ∈ news, p.1 < L') →
      (∀ m' news' r h' tk', Fr g L' h' m' → News g L' h' news' → Post news' r → Q' (.ret r) { s with heap := h', toks := tk' }) →
      wpAny (model PySem.Challenge.rw_nz0027_01.row.prog w) (Around.deeper ⟨none, dp, some outer, gd, un⟩ (envOf qual scope L' f cdv)) (execs body (envOf qual scope L' f cdv)) Q' (fun _ _ => False)
        { s with heap := h₁, toks := s.toks + binds.length })
    (hco : scope.isCoroutine = false) (hgen : scope.isGenerator = false) (hk : scope.kind = .function)
    (hcell : ∀ x ∈ scope.names, x.2 ≠ .cell) : Con w mean mg mb k f args news Post := by
  rintro ⟨handled, dp, frames, gd, un⟩ base g outer s R hh B st sz X T N hroom hu hret
  cases hh
  have hfr := B.stack
  dsimp only at hfr
  subst hfr
  dsimp only at hroom hu
  exact con_enter B st sz X T N ho hcd (Nat.lt_of_le_of_lt (Nat.le_add_right _ _) hroom) (hbind s) hloc hret (h dp gd un outer base g s B st sz X T hroom hu) hco hgen hk hcell
theorem con_ofC {name qual : Str} {params : Arguments} {body : List Stmt} {scope : Scope} {dV kV doc pm cdv ct oc : Value} {an od : Option Addr} {osl : Array (Option Value)} {binds : List (Str × Value)}
    (ho : (kheap w.params).lookup f = some ⟨oc, od, .func (fnOf name qual params body scope dV kV doc pm an cdv ct), osl⟩) (hcd : codeIn (kheap w.params) cdv qual = true)
    (hbind : ∀ s, BindsTo s (fnOf name qual params body scope dV kV doc pm an cdv ct) ⟨args, []⟩ binds) (hkind : (binds.all fun y => scope.names.lookup y.1 == some .local || scope.names.lookup y.1 == some .cell) = true)
    (hnd : ((cellsFrom 0 scope.names []).map (·.1)).Nodup)
    (h : ∀ dp gd un outer base g (s : Shared), Below ⟨none, dp, some outer, gd, un⟩ base outer g → g.StaysIn s.heap → g.objs.size ≤ s.heap.objs.size → (kheap w.params).In g → Top kview (looseW kview []) mean mg mb g → dp + k < recursionLimit → un + 8 * k < cLine →
      ∀ L' h₁ tk cells (Q' : Flow → Shared → Prop), Fr g L' h₁ (bindL (envOfC qual scope L' f cdv).kindOf binds fun _ => none) → News g L' h₁ (cells ++ news) →
      CellsAre (bindC (envOfC qual scope L' f cdv).kindOf binds fun _ => none) (cellsFrom (L' + 1) scope.names []) cells → (∀ p ∈ news, p.1 < L') →
      (∀ m' news' r h' tk', Fr g L' h' m' → News g L' h' news' → Post news' r → Q' (.ret r) { s with heap := h', toks := tk' }) →
      wpAny (model PySem.Challenge.rw_nz0027_01.row.prog w) (Around.deeper ⟨none, dp, some outer, gd, un⟩ (envOfC qual scope L' f cdv)) (execs body (envOfC qual scope L' f cdv)) Q' (fun _ _ => False)
        { s with heap := h₁, toks := tk })
    (hco : scope.isCoroutine = false) (hgen : scope.isGenerator = false) (hk : scope.kind = .function) : Con w mean mg mb k f args news Post := by
  rintro ⟨handled, dp, frames, gd, un⟩ base g outer s R hh B st sz X T N hroom hu hret
  cases hh
  have hfr := B.stack
  dsimp only at hfr
  subst hfr
  dsimp only at hroom hu
  exact con_enterC B st sz X T N ho hcd (Nat.lt_of_le_of_lt (Nat.le_add_right _ _) hroom) (hbind s) hkind hnd hret (h dp gd un outer base g s B st sz X T hroom hu) hco hgen hk

/-- what is not asked for stays -/
theorem Con.frame (C : Con w mean mg mb k f args news Post) (rest : Led) (hd : ∀ p ∈ rest, p.1 ∉ news.map (·.1)) :
    Con w mean mg mb k f args (news ++ rest) (fun n r => ∃ n', n = n' ++ rest ∧ Post n' r ∧ ∀ p ∈ n', ∀ q ∈ rest, p.1 ≠ q.1) := by
  intro A base g outer s R hh B st sz X T N hroom hu hret
  -- show all of `rest` to the callee as old objects
  let g' := hideAll s.heap (news.map (·.1))
  have nm : ∀ b o, g.get? b = some o → b ∉ news.map (·.1) := fun b o e q => by
    obtain ⟨p, hp, rfl⟩ := List.mem_map.mp q
    rw [(N p (List.mem_append_left _ hp)).2] at e; cases e
  have st' : g.StaysIn g' := fun b o e => hideAll_get _ (st b o e) (nm b o e)
  have B' : Below A base outer g' := ⟨B.stack, fun b o e => st' b o (B.stays b o e), B.frames.of_keeps fun b o e _ => ⟨o, st' b o e, rfl⟩⟩
  refine C A base g' outer s R hh B' (fun b o e => of_hideAll _ e) (Nat.le_of_eq (hideAll_size _ _)) (X.keeps st') (T.keeps st')
    (fun p hp => ⟨(N p (List.mem_append_left _ hp)).1, hideAll_none _ (List.mem_map_of_mem hp)⟩) hroom hu ?_
  intro news' r h' tk' K' N' P
  have R1 : ∀ q ∈ rest, g'.get? q.1 = some q.2 := fun q hq => hideAll_get _ (N q (List.mem_append_right _ hq)).1 (hd q hq)
  refine hret (news' ++ rest) r h' tk' (fun b o e => K' b o (st' b o e)) (fun p hp => ?_) ⟨news', rfl, P, fun p hp q hq e => ?_⟩
  · rcases List.mem_append.mp hp with hp | hp
    · refine ⟨(N' p hp).1, ?_⟩
      cases q : g.get? p.1 with
      | none => rfl
      | some o => have := (N' p hp).2; rw [st' _ _ q] at this; cases this
    · exact ⟨K' _ _ (R1 p hp), (N p (List.mem_append_right _ hp)).2⟩
  · have := (N' p hp).2
    rw [e, R1 q hq] at this
    cases this

theorem Con.mono {Post' : Led → Value → Prop} (C : Con w mean mg mb k f args news Post) (h : ∀ n r, Post n r → Post' n r) : Con w mean mg mb k f args news Post' :=
  fun A base g outer s R hh B st sz X T N hroom hu hret => C A base g outer s R hh B st sz X T N hroom hu fun n r h' tk' a b P => hret n r h' tk' a b (h n r P)
theorem Con.sub {news₂ : Led} (C : Con w mean mg mb k f args news Post) (h : ∀ p ∈ news, p ∈ news₂) : Con w mean mg mb k f args news₂ Post :=
  fun A base g outer s R hh B st sz X T N hroom hu hret => C A base g outer s R hh B st sz X T (fun p hp => N p (h p hp)) hroom hu hret

/-- at a call inside a walk: all of the ledger is handed -/
theorem con_code {A A₀ : Around} {base h₀ : Heap} {outer : List Env} {env : Env} {L : Addr} {m : Str → Option Value} {s : Shared} {R : Result → Shared → Prop}
    (C : Con w mean mg mb k f args news Post) (hh : A.handled = none) (B : Below A₀ base outer h₀) (F : Fr h₀ L s.heap m) (X : (kheap w.params).In h₀) (N : News h₀ L s.heap news)
    (T : Top kview (looseW kview []) mean mg mb h₀) (hA : A.frames = some (env :: outer)) (hf : env.frame = some L) (hke : env.scope.kind = .function)
    (hroom : A.depth + k < recursionLimit) (hu : A.units + 8 * k < cLine)
    (ret : ∀ news' r h' tk', Fr h₀ L h' m → News h₀ L h' news' → Post news' r → R (.ok (.ret r)) { s with heap := h', toks := tk' }) :
    codeAny (model PySem.Challenge.rw_nz0027_01.row.prog w) A (.call (.ref f) ⟨args, []⟩) R s := by
  obtain ⟨FG, BG, st, lv⟩ := groundX (R := R) B F N hA hf hke
  refine C A base (hideAll s.heap (List.map (fun x : Addr × Obj => x.1) news)) (env :: outer) s R hh BG (fun b o e => of_hideAll _ e) (Nat.le_of_eq (hideAll_size _ _)) (X.keeps st) (T.keeps st)
    (fun p hp => ⟨(N p hp).1, hideAll_none _ (List.mem_map_of_mem hp)⟩) hroom hu ?_
  intro news' r h' tk' K' N' P
  obtain ⟨oL, es, ep, hL, hLd, hLk, hLf⟩ := FG.ns
  refine ret news' r h' tk' ⟨⟨oL, es, ep, K' L oL hL, hLd, hLk, hLf⟩, fun b o e => K' b o (st b o e), F.above⟩ (fun p hp => ⟨(N' p hp).1, fun q => ?_, ?_⟩) P
  · have := (N' p hp).2; rw [q, hL] at this; cases this
  · cases q : h₀.get? p.1 with
    | none => rfl
    | some o => have := (N' p hp).2; rw [st _ _ q] at this; cases this

def AllNe (a : Addr) : Led → Prop
  | [] => True
  | p :: r => @Ne Nat a p.1 ∧ AllNe a r
theorem allNe_of {a : Addr} : ∀ {l : Led}, (∀ q ∈ l, a ≠ q.1) → AllNe a l
  | [], _ => trivial
  | p :: _, h => ⟨h p (.head _), allNe_of fun q hq => h q (.tail _ hq)⟩
theorem AllNe.ne {a b : Addr} {o : Obj} : ∀ {l : Led}, AllNe a l → (b, o) ∈ l → a ≠ b
  | [], _, hm => nomatch hm
  | _ :: _, h, hm => by
    rcases List.mem_cons.mp hm with e | hm
    · subst e; exact h.1
    · exact AllNe.ne h.2 hm
theorem AllNe.ne' {a b : Addr} {o : Obj} {l : Led} (h : AllNe a l) (hm : (b, o) ∈ l) : b ≠ a := Ne.symm (h.ne hm)
def OwnNe (own all : Led) : Prop := ∀ p ∈ own, ∀ q ∈ all, p.1 ≠ q.1
theorem OwnNe.one {a : Addr} {o : Obj} {all : Led} (h : OwnNe [(a, o)] all) : AllNe a all := allNe_of fun q hq => h (a, o) (.head _) q hq
theorem OwnNe.tail {p : Addr × Obj} {own all : Led} (h : OwnNe (p :: own) all) : OwnNe own all := fun q hq => h q (.tail _ hq)
theorem OwnNe.head {a : Addr} {o : Obj} {own all : Led} (h : OwnNe ((a, o) :: own) all) : AllNe a all := allNe_of fun q hq => h (a, o) (.head _) q hq
theorem OwnNe.nil {all : Led} : OwnNe [] all := fun _ h => nomatch h

/-- a function that changes the object at fa alone -/
theorem con_upd {A A₀ : Around} {base h₀ : Heap} {outer : List Env} {env : Env} {L fa : Addr} {m : Str → Option Value} {s : Shared} {R : Result → Shared → Prop} {o : Obj} {all : Led} {u : Obj → Led} {P : Obj → Led → Value → Prop} {need : Led}
    (C : Con w mean mg mb k f args ((fa, o) :: need) (fun n r => ∃ o' own, n = (fa, o') :: (own ++ need) ∧ P o' own r ∧ OwnNe own ((fa, o) :: need))) (hh : A.handled = none) (B : Below A₀ base outer h₀) (F : Fr h₀ L s.heap m) (X : (kheap w.params).In h₀) (N : News h₀ L s.heap all)
    (T : Top kview (looseW kview []) mean mg mb h₀) (U : UpdF fa o all u) (hneed : ∀ p ∈ need, p ∈ all) (hA : A.frames = some (env :: outer)) (hf : env.frame = some L) (hke : env.scope.kind = .function)
    (hroom : A.depth + k < recursionLimit) (hu : A.units + 8 * k < cLine)
    (ret : ∀ o' own r h' tk', Fr h₀ L h' m → News h₀ L h' (own ++ u o') → OwnNe own all → P o' own r → R (.ok (.ret r)) { s with heap := h', toks := tk' }) :
    codeAny (model PySem.Challenge.rw_nz0027_01.row.prog w) A (.call (.ref f) ⟨args, []⟩) R s := by
  obtain ⟨pre, post, e1, e2, h1, h2⟩ := U.split
  have hsub : ∀ p ∈ (fa, o) :: need, p ∈ all := fun p hp => by
    rcases List.mem_cons.mp hp with rfl | hp
    · rw [e1]; simp
    · exact hneed p hp
  let rest : Led := all.filter fun q => decide (q.1 ∉ ((fa, o) :: need).map (·.1))
  have hrest : ∀ q ∈ rest, q ∈ all ∧ q.1 ∉ ((fa, o) :: need).map (·.1) := fun q hq => ⟨(List.mem_filter.mp hq).1, of_decide_eq_true (List.mem_filter.mp hq).2⟩
  have hone : ∀ q ∈ all, q ∈ (fa, o) :: need ∨ q ∈ rest := fun q hq => by
    by_cases hm : q.1 ∈ ((fa, o) :: need).map (·.1)
    · obtain ⟨p, hp, e⟩ := List.mem_map.mp hm
      have a := (N q hq).1
      have b := (N p (hsub p hp)).1
      rw [e, a] at b
      refine .inl ?_
      obtain ⟨q1, q2⟩ := q
      obtain ⟨p1, p2⟩ := p
      cases b
      cases e
      exact hp
    · exact .inr (List.mem_filter.mpr ⟨hq, decide_eq_true hm⟩)
  refine con_code (C.frame rest fun q hq => (hrest q hq).2) hh B F X (fun p hp => N p ((List.mem_append.mp hp).elim (hsub p) fun h => (hrest p h).1)) T hA hf hke hroom hu ?_
  rintro news' r h' tk' F' N' ⟨n', rfl, ⟨o', own, rfl, hP, hO⟩, hoff⟩
  refine ret o' own r h' tk' F' (fun p hp => N' p ?_) (fun p hp q hq => ?_) hP
  · rcases List.mem_append.mp hp with hp | hp
    · simp [hp]
    · rw [e2] at hp
      have key : p ∈ all → p.1 ≠ fa → p ∈ (fa, o') :: (own ++ need) ++ rest := fun hq hn => by
        rcases hone p hq with h | h
        · rcases List.mem_cons.mp h with rfl | h
          · exact absurd rfl hn
          · simp [h]
        · simp [h]
      rcases List.mem_append.mp hp with hp | hp
      · exact key (by rw [e1]; simp [hp]) (h1 p hp)
      · rcases List.mem_cons.mp hp with rfl | hp
        · simp
        · exact key (by rw [e1]; simp [hp]) (h2 p hp)
  · rcases hone q hq with h | h
    · exact hO p hp q h
    · exact hoff p (by simp [hp]) q h

theorem ownNe_cons {p : Addr × Obj} {own all : Led} (h : ∀ q ∈ all, q.1 ≠ p.1) (r : OwnNe own all) : OwnNe (p :: own) all := fun x hx q hq => by
  rcases List.mem_cons.mp hx with e | hx
  · subst e; exact Ne.symm (h q hq)
  · exact r x hx q hq
structure Apart3 (I C D : Addr) : Prop where
  ic : I ≠ C
  id : I ≠ D
  cd : C ≠ D
theorem Apart3.of {I C D : Addr} (h : (@Ne Nat I C) ∧ (@Ne Nat I D) ∧ (@Ne Nat C D)) : Apart3 I C D := ⟨h.1, h.2.1, h.2.2⟩
theorem off_I {I C D a : Addr} {o : Obj} {l : Led} (h : LCg.Off3 I C D l) (hm : (a, o) ∈ l) : a ≠ I := (h.mem _ hm).1
theorem off_C {I C D a : Addr} {o : Obj} {l : Led} (h : LCg.Off3 I C D l) (hm : (a, o) ∈ l) : a ≠ C := (h.mem _ hm).2.1
theorem off_D {I C D a : Addr} {o : Obj} {l : Led} (h : LCg.Off3 I C D l) (hm : (a, o) ∈ l) : a ≠ D := (h.mem _ hm).2.2
theorem off_1 {D a : Addr} {o : Obj} : ∀ {l : Led}, LCg.Off1 D l → (a, o) ∈ l → a ≠ D
  | [], _, hm => nomatch hm
  | _ :: _, h, hm => by
    rcases List.mem_cons.mp hm with e | hm
    · subst e; exact h.1
    · exact off_1 h.2 hm

/-- a function that changes nothing that stands -/
theorem con_new {A A₀ : Around} {base h₀ : Heap} {outer : List Env} {env : Env} {L : Addr} {m : Str → Option Value} {s : Shared} {R : Result → Shared → Prop} {all : Led} {P : Led → Value → Prop} {need : Led}
    (C : Con w mean mg mb k f args need (fun n r => ∃ own, n = own ++ need ∧ P own r ∧ OwnNe own need)) (hh : A.handled = none) (B : Below A₀ base outer h₀) (F : Fr h₀ L s.heap m) (X : (kheap w.params).In h₀) (N : News h₀ L s.heap all)
    (T : Top kview (looseW kview []) mean mg mb h₀) (hneed : ∀ p ∈ need, p ∈ all) (hA : A.frames = some (env :: outer)) (hf : env.frame = some L) (hke : env.scope.kind = .function)
    (hroom : A.depth + k < recursionLimit) (hu : A.units + 8 * k < cLine)
    (ret : ∀ own r h' tk', Fr h₀ L h' m → News h₀ L h' (own ++ all) → OwnNe own all → P own r → R (.ok (.ret r)) { s with heap := h', toks := tk' }) :
    codeAny (model PySem.Challenge.rw_nz0027_01.row.prog w) A (.call (.ref f) ⟨args, []⟩) R s := by
  let rest : Led := all.filter fun q => decide (q.1 ∉ need.map (·.1))
  have hrest : ∀ q ∈ rest, q ∈ all ∧ q.1 ∉ need.map (·.1) := fun q hq => ⟨(List.mem_filter.mp hq).1, of_decide_eq_true (List.mem_filter.mp hq).2⟩
  have hone : ∀ q ∈ all, q ∈ need ∨ q ∈ rest := fun q hq => by
    by_cases hm : q.1 ∈ need.map (·.1)
    · obtain ⟨p, hp, e⟩ := List.mem_map.mp hm
      have a := (N q hq).1
      have b := (N p (hneed p hp)).1
      rw [e, a] at b
      refine .inl ?_
      obtain ⟨q1, q2⟩ := q
      obtain ⟨p1, p2⟩ := p
      cases b
      cases e
      exact hp
    · exact .inr (List.mem_filter.mpr ⟨hq, decide_eq_true hm⟩)
  refine con_code (C.frame rest fun q hq => (hrest q hq).2) hh B F X (fun p hp => N p ((List.mem_append.mp hp).elim (hneed p) fun h => (hrest p h).1)) T hA hf hke hroom hu ?_
  rintro news' r h' tk' F' N' ⟨n', rfl, ⟨own, rfl, hP, hO⟩, hoff⟩
  refine ret own r h' tk' F' (fun p hp => N' p ?_) (fun p hp q hq => ?_) hP
  · rcases List.mem_append.mp hp with hp | hp
    · simp [hp]
    · rcases hone p hp with h | h
      · simp [h]
      · simp [h]
  · rcases hone q hq with h | h
    · exact hO p hp q h
    · exact hoff p (by simp [hp]) q h
end
end Mine
local macro_rules | `(tactic| k_ne) => `(tactic| (
  (try dsimp only)
  (with_reducible show _ ≠ _)
  first
  | exact Mine.AllNe.ne (by with_reducible assumption) (by k_mem)
  | exact Mine.AllNe.ne' (by with_reducible assumption) (by k_mem)
  | exact Mine.off_I (by with_reducible assumption) (by k_mem)
  | exact Mine.off_C (by with_reducible assumption) (by k_mem)
  | exact Mine.off_D (by with_reducible assumption) (by k_mem)
  | exact Ne.symm (Mine.off_I (by with_reducible assumption) (by k_mem))
  | exact Ne.symm (Mine.off_C (by with_reducible assumption) (by k_mem))
  | exact Ne.symm (Mine.off_D (by with_reducible assumption) (by k_mem))
  | exact Mine.off_1 (by with_reducible assumption) (by k_mem)
  | exact Ne.symm (Mine.off_1 (by with_reducible assumption) (by k_mem))
  | exact Mine.Apart3.ic (by with_reducible assumption)
  | exact Mine.Apart3.id (by with_reducible assumption)
  | exact Mine.Apart3.cd (by with_reducible assumption)
  | exact Ne.symm (Mine.Apart3.ic (by with_reducible assumption))
  | exact Ne.symm (Mine.Apart3.id (by with_reducible assumption))
  | exact Ne.symm (Mine.Apart3.cd (by with_reducible assumption))
  | omega))
namespace Mine
open PySem PySem.W PySem.Calls PyProof.Rows PySem.Spec

abbrev feedO (l : Addr) (n : Int) (tk : Tok) (e : Nat) : Obj := listOf #[.ref l, .int n tk] e
def FeedPost (l : Addr) (lo hi : Int) (o : Obj) : Prop := ∃ n tk e, o = feedO l n tk e ∧ lo ≤ n ∧ n ≤ hi

set_option maxHeartbeats 4000000 in
theorem dip_con (w : World) (mean : ExcName → Option Value) (mg mb : Str → Option Value) {fa l : Addr} {vs : List Value} {ns : List Int} {n many : Int} {tk tm : Tok} {e ne : Nat}
    (hi : IntsAre vs ns) (hlen : ns.length ≤ 63) (hne : @Ne Nat fa l) (h0 : 0 ≤ n) (hn : n < 10000) (hm : 1 ≤ many) (hm2 : many ≤ 100) :
    Con w mean mg mb 1 386 [.ref fa, .int many tm] [(fa, feedO l n tk e), (l, listOf vs.toArray ne)]
      (fun nn r => ∃ o' own, nn = (fa, o') :: (own ++ [(l, listOf vs.toArray ne)]) ∧ (FeedPost l (n+1) (n+1) o' ∧ own = [] ∧ ∃ i t, r = .int i t ∧ 0 ≤ i ∧ i < many) ∧ OwnNe own [(fa, feedO l n tk e), (l, listOf vs.toArray ne)]) := by
  k_dflt (
  refine' con_of ?k7 ?k8 ?kA ?kB ?_ ?c2 ?c3 ?c4 ?c5;
  (case k7 => k_is); (case k8 => k_is);
  (case kA => exact fun _ => BindsTo.of_eq rfl); (case kB => exact locs rfl); (case c2 => exact rfl); (case c3 => exact rfl); (case c4 => exact rfl); (case c5 => decide))
  intro dp gd un outer base g s B st sz X T hroom hu L' h₁ Q' F N hlt hret
  (try k_lt hlt); (try dsimp only at *); (try k_lift B); (try k_fold)
  (repeat' (first | (k_unfold; (try dsimp only)) | walk1 | (dsimp only; walk1) | (leave1; (try dsimp only))))
  all_goals (exact hret _ _ _ _ _ (by k_asm) (by k_asm) ⟨_, [], rfl, ⟨⟨_, _, _, rfl, by omega, by omega⟩, rfl, _, _, rfl, Int.fmod_nonneg_of_pos _ (by omega), Int.fmod_lt_of_pos _ (by omega)⟩, OwnNe.nil⟩)

/-- the feed stands at most c on from n0 -/
def Fd (n0 : Int) (c : Nat) (n : Int) : Prop := n0 ≤ n ∧ n ≤ n0 + c
theorem Fd.start {n : Int} : Fd n 0 n := ⟨Int.le_refl _, by omega⟩
theorem Fd.post {l : Addr} {n0 n : Int} {c k : Nat} {tk : Tok} {e : Nat} (h : Fd n0 c n) (hk : c ≤ k) : FeedPost l n0 (n0 + k) (feedO l n tk e) := ⟨_, _, _, rfl, h.1, by have := h.2; omega⟩
theorem Fd.post8 {l : Addr} {n0 n : Int} {c : Nat} {tk : Tok} {e : Nat} (h : Fd n0 c n) (hk : c ≤ 8) : FeedPost l n0 (n0 + 8) (feedO l n tk e) := ⟨_, _, _, rfl, h.1, by have := h.2; omega⟩
structure FeedIn (vs : List Value) (ns : List Int) (n0 : Int) : Prop where
  are : IntsAre vs ns
  len : ns.length ≤ 63
  lo : 0 ≤ n0
  hi : n0 < 9000
section
variable {w : World} {mean : ExcName → Option Value} {mg mb : Str → Option Value}
theorem dip_use {A A₀ : Around} {base h₀ : Heap} {outer : List Env} {env : Env} {L fa l : Addr} {m : Str → Option Value} {s : Shared} {R : Result → Shared → Prop} {all : Led} {u : Obj → Led}
    {vs : List Value} {ns : List Int} {n0 n many : Int} {c : Nat} {tk tm : Tok} {e ne : Nat}
    (N : News h₀ L s.heap all) (F : Fr h₀ L s.heap m) (hh : A.handled = none) (B : Below A₀ base outer h₀) (X : (kheap w.params).In h₀) (T : Top kview (looseW kview []) mean mg mb h₀)
    (U : UpdF fa (feedO l n tk e) all u) (hl : (l, listOf vs.toArray ne) ∈ all) (hc : Fd n0 c n) (I : FeedIn vs ns n0) (hne : @Ne Nat fa l) (hc2 : c ≤ 900) (hm : 1 ≤ many) (hm2 : many ≤ 100)
    (hA : A.frames = some (env :: outer)) (hf : env.frame = some L) (hke : env.scope.kind = .function) (hroom : A.depth + 1 < recursionLimit) (hu : A.units + 8 * 1 < cLine)
    (ret : ∀ i t n' tk' e' h' tk2, Fr h₀ L h' m → News h₀ L h' (u (feedO l n' tk' e')) → Fd n0 (c + 1) n' → 0 ≤ i → i < many → R (.ok (.ret (.int i t))) { s with heap := h', toks := tk2 }) :
    codeAny (model PySem.Challenge.rw_nz0027_01.row.prog w) A (.call (.ref 386) ⟨[.ref fa, .int many tm], []⟩) R s := by
  refine con_upd (dip_con w mean mg mb I.are I.len hne (Int.le_trans I.lo hc.1) (by have := hc.2; have := I.hi; omega) hm hm2) hh B F X N T U (List.forall_mem_singleton.mpr hl) hA hf hke hroom hu ?_
  rintro o' own r h' tk' F' N' _ ⟨⟨n', tk1, e', rfl, h1, h2⟩, rfl, i, t, rfl, h3, h4⟩
  exact ret i t n' tk1 e' h' tk' F' N' ⟨Int.le_trans hc.1 (by omega), by have := hc.2; omega⟩ h3 h4
end
end Mine
namespace Mine
open PySem PySem.W PySem.Calls PyProof.Rows PySem.Spec

abbrev tupO (vs : List Value) (n : Nat) : Obj := { cls := .type "tuple", data := .seq vs.toArray n }
section
variable {prog : Program} {w : World} {A : Around} {E : Value → Shared → Prop} {s : Shared} {h₀ : Heap} {L : Addr} {m : Str → Option Value} {env : Env}
  {elt : PySem.Expr} {x : Str} {scope : Scope} {cl : List (Str × Addr)}

/-- the turns of a comprehension by what holds between them -/
theorem compRest_inv {S : Led → Prop} {P : Nat → Value → Prop} {Fin : List Value → Led → Prop} {n : Nat} (J : Nat → List Value → Led → Prop)
    (turn : ∀ i ys news v I oI C oC D m₂ h tk (E' : Value → Shared → Prop), i < n → J i ys news → P i v → LCg.NsObj oC m₂ → m₂ x = some v → Fr h₀ L h m → News h₀ L h ((I, oI) :: (C, oC) :: (D, LCg.lst ys) :: news) → LCg.Off3 I C D news → ((@Ne Nat I C) ∧ (@Ne Nat I D) ∧ (@Ne Nat C D)) →
      wpAny (model prog w) A (eval elt (compEnvC scope cl C env)) (LCg.CompEnd h₀ L m { s with heap := h, toks := tk } I oI C oC D (LCg.lst ys) S (fun y news' => J (i + 1) (ys ++ [y]) news')) E' { s with heap := h, toks := tk })
    (done : ∀ ys news, J n ys news → Fin ys news) :
    ∀ k i ys news, i + k = n → J i ys news → LCg.CompRest prog w A h₀ L m env elt x scope cl s S P Fin k i ys news := by
  intro k
  induction k with
  | zero => intro i ys news e hj; obtain rfl : i = n := by omega
            exact done ys news hj
  | succ k ih =>
    intro i ys news e hj
    refine LCg.CompRest.succ fun v I oI C oC D m₂ h tk E' hP hC hx F N off ne => ?_
    refine wpAny_mono (turn i ys news v I oI C oC D m₂ h tk E' (by omega) hj hP hC hx F N off ne) (fun y s₂ hy => ?_) fun _ _ e => e
    obtain ⟨h', tk', news', rfl, F', N', off', hS, hr⟩ := hy
    exact ⟨h', tk', news', rfl, F', N', off', hS, ih (i + 1) _ _ (by omega) hr⟩

def TurnF (c : Nat) (l : Addr) (n' : Int) (g : Obj → Led) (Pr : List Value → Prop) (ys : List Value) (news' : Led) : Prop := Pr ys ∧ ∃ n'' tk'' e'', n' ≤ n'' ∧ n'' ≤ n' + c ∧ news' = g (feedO l n'' tk'' e'')

/-- over a range; a turn may turn the feed, by at most c -/
theorem src_feed_range {Fin : Shared → List Value → Led → Prop} {r fa l : Addr} {a b n : Int} {t u v tk : Tok} {e : Nat} {k : Nat} {news : Led} {g : Obj → Led} (c : Nat) (Pr : List Value → Prop)
    (hh : A.handled = none) (F : Fr h₀ L s.heap m) (N : News h₀ L s.heap news) (U : UpdF fa (feedO l n tk e) news g) (hr : IsRange s.heap r a b 1 t u v) (hsm : Builtin.Range.small a b 1 = true)
    (hn : Builtin.Range.rangeSize a b 1 = ((k : Nat) : Int)) (hsz : k ≤ sizeLine) (h0 : Pr [])
    (turn : ∀ (_g : Heap) i ys n' tk' e' t' I oI C oC D m₂ h tk₂ (E' : Value → Shared → Prop), i < k → Pr ys → ys.length = i → n ≤ n' → n' ≤ n + c * i → LCg.NsObj oC m₂ → m₂ x = some (.int (a + (i : Int)) t') → Fr h₀ L h m → News h₀ L h ((I, oI) :: (C, oC) :: (D, LCg.lst ys) :: g (feedO l n' tk' e')) →
      LCg.Off3 I C D (g (feedO l n' tk' e')) → ((@Ne Nat I C) ∧ (@Ne Nat I D) ∧ (@Ne Nat C D)) →
      wpAny (model prog w) A (eval elt (compEnvC scope cl C env)) (LCg.CompEnd h₀ L m { s with heap := h, toks := tk₂ } I oI C oC D (LCg.lst ys) (fun _ => True)
        (fun y news' => TurnF c l n' g Pr (ys ++ [y]) news')) E' { s with heap := h, toks := tk₂ })
    (done : ∀ (g' : Heap) ys n' tk' e', Pr ys → ys.length = k → n ≤ n' → n' ≤ n + c * k → Fin { s with heap := g' } ys (g (feedO l n' tk' e'))) :
    LCg.CompSrc prog w A h₀ L m env elt x scope cl Fin (.ref r) s := by
  have hg : news = g (feedO l n tk e) := by
    obtain ⟨pre, post, e1, e2, _⟩ := U.split
    rw [e1, e2]
  refine LCg.CompSrc.range hh F N hr hsm hn hsz fun g' => ?_
  refine compRest_inv (s := { s with heap := g' }) (n := k) (fun i ys nw => Pr ys ∧ ys.length = i ∧ ∃ n' tk' e', n ≤ n' ∧ n' ≤ n + c * i ∧ nw = g (feedO l n' tk' e')) ?_ ?_ k 0 [] news (by omega) ⟨h0, rfl, n, tk, e, Int.le_refl _, by simp, hg⟩
  · rintro i ys nw v I oI C oC D m₂ h tk₂ E' hi ⟨hP, hl, n', tk', e', h1, h2, rfl⟩ ⟨t', rfl⟩ hC hx F' N' off ne
    refine wpAny_mono (turn g' i ys n' tk' e' t' I oI C oC D m₂ h tk₂ E' hi hP hl h1 h2 hC hx F' N' off ne) (fun y s₂ hy => ?_) fun _ _ e => e
    obtain ⟨h', tk₃, news', rfl, F₃, N₃, off₃, hS, hPr, n'', tk'', e'', q1, q2, rfl⟩ := hy
    refine ⟨h', tk₃, _, rfl, F₃, N₃, off₃, hS, hPr, by simp [hl], n'', tk'', e'', by omega, ?_, rfl⟩
    have : (c : Int) * ((i + 1 : Nat) : Int) = c * i + c := by rw [Int.natCast_add, Int.mul_add]; simp
    omega
  · rintro ys nw ⟨hP, hl, n', tk', e', h1, h2, rfl⟩
    exact done g' ys n' tk' e' hP hl h1 h2
/-- over range(b), b below 4: each number by itself -/
theorem src_range4 {Fin : Shared → List Value → Led → Prop} {r : Addr} {b : Int} {t u v : Tok} {news : Led}
    (hh : A.handled = none) (F : Fr h₀ L s.heap m) (N : News h₀ L s.heap news) (hr : IsRange s.heap r 0 b 1 t u v) (h0 : 0 ≤ b) (h4 : b < 4)
    (H0 : b = 0 → ∀ g, LCg.CompRest prog w A h₀ L m env elt x scope cl { s with heap := g } (fun _ => True) (fun i v => ∃ t, v = .int (0 + (i : Int)) t) (Fin { s with heap := g }) 0 0 [] news)
    (H1 : b = 1 → ∀ g, LCg.CompRest prog w A h₀ L m env elt x scope cl { s with heap := g } (fun _ => True) (fun i v => ∃ t, v = .int (0 + (i : Int)) t) (Fin { s with heap := g }) 1 0 [] news)
    (H2 : b = 2 → ∀ g, LCg.CompRest prog w A h₀ L m env elt x scope cl { s with heap := g } (fun _ => True) (fun i v => ∃ t, v = .int (0 + (i : Int)) t) (Fin { s with heap := g }) 2 0 [] news)
    (H3 : b = 3 → ∀ g, LCg.CompRest prog w A h₀ L m env elt x scope cl { s with heap := g } (fun _ => True) (fun i v => ∃ t, v = .int (0 + (i : Int)) t) (Fin { s with heap := g }) 3 0 [] news) :
    LCg.CompSrc prog w A h₀ L m env elt x scope cl Fin (.ref r) s := by
  rcases (show b = 0 ∨ b = 1 ∨ b = 2 ∨ b = 3 by omega) with h | h | h | h
  · subst h; exact LCg.CompSrc.range hh F N hr (by decide) (n := 0) rfl (by decide) (H0 rfl)
  · subst h; exact LCg.CompSrc.range hh F N hr (by decide) (n := 1) rfl (by decide) (H1 rfl)
  · subst h; exact LCg.CompSrc.range hh F N hr (by decide) (n := 2) rfl (by decide) (H2 rfl)
  · subst h; exact LCg.CompSrc.range hh F N hr (by decide) (n := 3) rfl (by decide) (H3 rfl)
theorem held_ne {h₀ h : Heap} {L a b : Addr} {o o' : Obj} {news : Led} (N : News h₀ L h news) (h1 : (a, o) ∈ news) (h2 : (b, o') ∈ news) (hc : o.cls ≠ o'.cls) : a ≠ b := fun e => by
  have q1 := (N _ h1).1
  have q2 := (N _ h2).1
  subst e
  rw [q1] at q2
  exact hc (congrArg Obj.cls (Option.some.inj q2))
theorem ownNe_one {a : Addr} {o : Obj} {all : Led} (h : ∀ q ∈ all, a ≠ q.1) : OwnNe [(a, o)] all := fun p hp q hq => by
  rw [List.mem_singleton.mp hp]; exact h q hq
theorem isTupN {news : Led} {v : Addr} {us : List Value} {e : Nat} (N : News h₀ L s.heap news) (hm : (v, tupO us e) ∈ news) : IsTup s.heap v us.toArray := ⟨_, (N _ hm).1, rfl, _, rfl⟩
theorem len_tupN {news : Led} {v : Addr} {us : List Value} {e : Nat} {xs : List Int} {Q : Value → Shared → Prop} (N : News h₀ L s.heap news) (hm : (v, tupO us e) ∈ news) (hi : IntsAre us xs) (hf : xs.length ≤ 1000)
    (h : Q (.int xs.length (s.toks + 1)) { s with toks := s.toks + 1 + 1 }) : wpAny (model prog w) A (call (.builtin "len") [.ref v]) Q E s := by
  have e : us.toArray.size = xs.length := by simp [hi.length]
  exact len_tuple (isTupN N hm) (by rw [e]; exact Int.lt_of_le_of_lt (b := 1000) (by omega) (by decide)) (by rw [e]; exact h)
theorem item_tupN {news : Led} {value slice : PySem.Expr} {v : Addr} {us : List Value} {e : Nat} {xs : List Int} {k : Int} {u : Tok} {Q : Value → Shared → Prop} (N : News h₀ L s.heap news) (hm : (v, tupO us e) ∈ news) (hi : IntsAre us xs)
    (h0 : 0 ≤ k) (h1 : k < xs.length) (hf : xs.length ≤ 1000) (h : ∀ t, Q (.int (xs.getD k.toNat 0) t) s)
    (hs : subscripted slice false (.ref v) (.int k u) = operate [.ref v, .int k u] (getItem (.ref v) (.int k u)) := by with_unfolding_all rfl) :
    wpAny (model prog w) A (subscriptTail value slice (.ref v) (.int k u)) Q E s := by
  have hl : us.length = xs.length := hi.length
  obtain ⟨t, hx⟩ := hi.get k.toNat _ (ints_getD h0 h1)
  refine item_tupleT (j := k.toNat) (isTupN N hm) (Int.le_trans (by decide) h0) (Int.lt_of_lt_of_le h1 (Int.le_trans (b := 1000) (by omega) (by decide))) ?_ hx (h t) hs
  exact seqIndex_of h0 (by rw [hl]; exact h1)
theorem item_tup_last {news : Led} {value slice : PySem.Expr} {v : Addr} {us : List Value} {e : Nat} {xs : List Int} {u : Tok} {Q : Value → Shared → Prop} (N : News h₀ L s.heap news) (hm : (v, tupO us e) ∈ news) (hi : IntsAre us xs)
    (h1 : 0 < xs.length) (h : ∀ t, Q (.int (xs.getD (xs.length - 1) 0) t) s)
    (hs : subscripted slice false (.ref v) (.int (-1) u) = operate [.ref v, .int (-1) u] (getItem (.ref v) (.int (-1) u)) := by with_unfolding_all rfl) :
    wpAny (model prog w) A (subscriptTail value slice (.ref v) (.int (-1) u)) Q E s := by
  have hl : us.length = xs.length := hi.length
  obtain ⟨t, hx⟩ := hi.get (xs.length - 1) (xs.getD (xs.length - 1) 0) (by rw [List.getD_eq_getElem?_getD, List.getElem?_eq_getElem (by omega)]; rfl)
  refine item_tupleT (j := xs.length - 1) (isTupN N hm) (by decide) (by decide) ?_ hx (h t) hs
  unfold seqIndex?
  rw [hl]
  have e1 : (if (-1 : Int) < 0 then (-1 : Int) + (xs.length : Int) else -1) = ((xs.length - 1 : Nat) : Int) := by rw [if_pos (by decide)]; omega
  dsimp only
  rw [e1, if_pos (by simp; omega)]
  rfl
theorem tup_sameN {news : Led} {v : Addr} {us : List Value} {e : Nat} {Q : Value → Shared → Prop} (N : News h₀ L s.heap news) (hm : (v, tupO us e) ∈ news) (h : Q (.ref v) s) :
    wpAny (model prog w) A (call (.type "tuple") [.ref v]) Q E s := call_tuple_tup (isTupN N hm) h
theorem add_tupN {news : Led} {a b : Addr} {us vs : List Value} {e1 e2 : Nat} {Q : Value → Shared → Prop} (F : Fr h₀ L s.heap m) (N : News h₀ L s.heap news) (h1 : (a, tupO us e1) ∈ news) (h2 : (b, tupO vs e2) ∈ news)
    (hv : 0 < us.length) (hw : 0 < vs.length) (hz : us.length + vs.length ≤ 16384)
    (h : ∀ D h', Fr h₀ L h' m → News h₀ L h' ((D, tupO (us ++ vs) 0) :: news) → (∀ p ∈ news, p.1 < D) → Q (.ref D) { s with heap := h' }) : wpAny (model prog w) A (binaryOp .Add (.ref a) (.ref b)) Q E s :=
  kde_addT F N (isTupN N h1) (isTupN N h2) (by simpa using List.ne_nil_of_length_pos hv) (by simpa using List.ne_nil_of_length_pos hw) (by simpa using hz) (by simp) h
theorem tup_ne_list : Value.type "tuple" ≠ Value.type "list" := fun h => by injection h with h; exact absurd h (by decide)
end

section
variable {prog : Program} {w : World} {A : Around} {E : Value → Shared → Prop} {s : Shared} {env : Env} {h₀ : Heap} {x : Str} {body : List Stmt} {Q : Flow → Shared → Prop}
/-- a for over a tuple of the ledger, by what holds between the turns -/
theorem iter_tup {ax : Addr} {vs : List Value} {e : Nat} {m₀ : Str → Option Value} {news : Led} (J : Nat → (Str → Option Value) → Led → Prop) (hh : A.handled = none) (F : Fr h₀ env.locals s.heap m₀) (N : News h₀ env.locals s.heap news)
    (hm : (ax, tupO vs e) ∈ news) (hj : J 0 m₀ news) (hmem : ∀ i m n, J i m n → (ax, tupO vs e) ∈ n)
    (turn : ∀ i v m₁ news₁ it h tk, vs[i]? = some v → it.cls = .type "tuple_iterator" → J i m₁ news₁ → Fr h₀ env.locals h (fun y => if y = x then some v else m₁ y) → News h₀ env.locals h ((s.heap.objs.size, it) :: news₁) →
      wpAny (model prog w) A (execs body env) (UnrPost h₀ env.locals { s with heap := h, toks := tk } s.heap.objs.size it (J (i + 1)) Q) E { s with heap := h, toks := tk })
    (done : ∀ m₁ news₁ h tk, J vs.length m₁ news₁ → Fr h₀ env.locals h m₁ → News h₀ env.locals h news₁ → Q .next { s with heap := h, toks := tk }) :
    wpAny (model prog w) A (pyIter (.ref ax)) (fun it s₂ => LoopAtV prog w A h₀ env x body Q E it s₂) E s := by
  have hax := N _ hm
  have ht : s.heap.IsTuple ax vs.toArray := ⟨_, hax.1, rfl, _, rfl⟩
  have hlt : ax < s.heap.objs.size := Heap.lt_size hax.1
  have hnew := next_is_new F
  have up : ∀ b o, s.heap.get? b = some o → (s.heap.push { cls := .type "tuple_iterator", data := .fields #[.ref ax, .int 0 0] }).get? b = some o := fun b o q => Heap.get?_push_of_some _ q
  have W := Walks.tuple (prog := prog) (w := w) hh s.heap.objs.size ax (Nat.ne_of_lt hlt) vs.toArray
  rw [List.size_toArray] at W
  refine wpAny_pyIter_tuple ht ⟨_, _, _, vs.length, _, _, m₀, news, J, rfl, W, fun q => ?_, fun b hb => ?_, fun p hp q => ?_, ⟨⟨_, Heap.get?_push_size _ rfl, rfl, rfl⟩, ht.at fun o q => up _ o q⟩, F.push _, N.grown up, hj, ?_, fun h' tk m' n' F' N' _ hJ => done m' n' h' tk hJ F' N'⟩
  · rcases List.mem_cons.mp q with q | q
    · exact absurd F.ns.lt (q ▸ Nat.lt_irrefl _)
    · exact hax.2.1 (List.mem_singleton.mp q).symm
  · rw [List.mem_singleton.mp hb]; exact hnew
  · exact absurd (Heap.lt_size (N p hp).1) ((List.mem_singleton.mp q) ▸ Nat.lt_irrefl _)
  · rintro i v m₁ n₁ s₁ own ⟨h, tk, rfl⟩ hi hP hJ hoff hown hget hall hst F₁ N₁
    obtain ⟨it, hit, hic, _⟩ := hst.1
    have hI := hall s.heap.objs.size (List.mem_cons_self ..) hnew _ hit
    have hv : vs[i]? = some v := by simpa using hP
    refine wpAny_mono (turn i v m₁ n₁ it h tk hv hic hJ F₁ fun p hp => N₁ p ?_) (fun f s₂ p => ?_) fun _ _ q => q
    · rcases List.mem_cons.mp hp with rfl | hp
      · exact List.mem_append_left _ hI
      · exact List.mem_append_right _ hp
    · have fin : UnrEnd h₀ env.locals { s with heap := h, toks := tk } s.heap.objs.size it (J (i + 1)) s₂ → LoopStepU h₀ env.locals [s.heap.objs.size] own (J (i + 1)) { s with heap := h, toks := tk } .next s₂ := by
        rintro ⟨h', tk', m', n', q, F', N', ho, r⟩
        refine ⟨rfl, h', tk', m', n', q, F', fun p hp => ?_, fun p hp z => ho p hp (List.mem_singleton.mp z), r⟩
        rcases List.mem_append.mp hp with hp | hp
        · rcases List.mem_cons.mp (hown p hp) with h1 | h1
          · have h2 := hget p hp
            rw [h1, hit] at h2
            rw [show p = (s.heap.objs.size, it) from Prod.ext h1 (Option.some.inj h2).symm]
            exact N' _ (List.mem_cons_self ..)
          · have h1 := List.mem_singleton.mp h1
            have h2 := hget p hp
            rw [h1, (N₁ _ (List.mem_append_right _ (hmem _ _ _ hJ))).1] at h2
            rw [show p = (ax, tupO vs e) from Prod.ext h1 (Option.some.inj h2).symm]
            exact N' _ (List.mem_cons_of_mem _ (hmem _ _ _ r))
        · exact N' _ (List.mem_cons_of_mem _ hp)
      cases f with
      | ret v => exact .ret p
      | brk => exact .brk p
      | next => exact .next (fin p)
      | cont => exact .cont (fin p)

def TupRest (prog : Program) (w : World) (A : Around) (E : Value → Shared → Prop) (h₀ : Heap) (env : Env) (x : Str) (body : List Stmt) (Q : Flow → Shared → Prop) (s : Shared) (I : Addr) (lp : Addr × Obj) : List Value → (Str → Option Value) → Led → Prop
  | [], m, news => ∀ h tk, Fr h₀ env.locals h m → News h₀ env.locals h news → Q .next { s with heap := h, toks := tk }
  | v :: r, m, news => ∀ (it : Obj) h tk, it.cls = .type "tuple_iterator" → Fr h₀ env.locals h (fun y => if y = x then some v else m y) → News h₀ env.locals h ((I, it) :: news) →
      wpAny (model prog w) A (execs body env) (UnrPost h₀ env.locals { s with heap := h, toks := tk } I it (fun m' n' => lp ∈ n' ∧ TupRest prog w A E h₀ env x body Q s I lp r m' n') Q) E { s with heap := h, toks := tk }
theorem TupRest.zero {I : Addr} {lp : Addr × Obj} {m : Str → Option Value} {news : Led} (h : ∀ h tk, Fr h₀ env.locals h m → News h₀ env.locals h news → Q .next { s with heap := h, toks := tk }) : TupRest prog w A E h₀ env x body Q s I lp [] m news := h
theorem TupRest.succ {I : Addr} {lp : Addr × Obj} {v : Value} {r : List Value} {m : Str → Option Value} {news : Led}
    (h : ∀ (it : Obj) h tk, it.cls = .type "tuple_iterator" → Fr h₀ env.locals h (fun y => if y = x then some v else m y) → News h₀ env.locals h ((I, it) :: news) →
      wpAny (model prog w) A (execs body env) (UnrPost h₀ env.locals { s with heap := h, toks := tk } I it (fun m' n' => lp ∈ n' ∧ TupRest prog w A E h₀ env x body Q s I lp r m' n') Q) E { s with heap := h, toks := tk }) :
    TupRest prog w A E h₀ env x body Q s I lp (v :: r) m news := h
theorem iter_tupUnr {ax : Addr} {vs : List Value} {e : Nat} {m₀ : Str → Option Value} {news : Led} (hh : A.handled = none) (F : Fr h₀ env.locals s.heap m₀) (N : News h₀ env.locals s.heap news) (hm : (ax, tupO vs e) ∈ news)
    (rest : ∀ I : Addr, (∀ p ∈ news, p.1 < I) → TupRest prog w A E h₀ env x body Q s I (ax, tupO vs e) vs m₀ news) :
    wpAny (model prog w) A (pyIter (.ref ax)) (fun it s₂ => LoopAtV prog w A h₀ env x body Q E it s₂) E s := by
  refine iter_tup (vs := vs) (fun i m n => (ax, tupO vs e) ∈ n ∧ TupRest prog w A E h₀ env x body Q s s.heap.objs.size (ax, tupO vs e) (vs.drop i) m n) hh F N hm ⟨hm, by rw [List.drop_zero]; exact rest _ fun p hp => Heap.lt_size (N p hp).1⟩ (fun _ _ _ q => q.1) ?_ ?_
  · rintro i v m₁ n₁ it h tk hv hic ⟨_, hJ⟩ F₁ N₁
    have hlt : i < vs.length := by
      rcases Nat.lt_or_ge i vs.length with q | q
      · exact q
      · rw [List.getElem?_eq_none q] at hv; cases hv
    have hd : vs.drop i = v :: vs.drop (i + 1) := by
      rw [List.drop_eq_getElem_cons hlt]
      rw [List.getElem?_eq_getElem hlt] at hv
      rw [Option.some.inj hv]
    rw [hd] at hJ
    exact hJ it h tk hic F₁ N₁
  · rintro m₁ n₁ h tk ⟨_, hJ⟩ F' N'
    rw [List.drop_length] at hJ
    exact hJ h tk F' N'
end
theorem sub_c {l l' : Led} {p : Addr × Obj} (h : ∀ q ∈ l, q ∈ l') : ∀ q ∈ l, q ∈ p :: l' := fun q hq => List.mem_cons_of_mem _ (h q hq)
theorem sub_rfl {l : Led} : ∀ q ∈ l, q ∈ l := fun _ h => h
theorem sub_nil {l : Led} : ∀ q ∈ ([] : Led), q ∈ l := fun _ h => nomatch h
theorem sub_v {l l' : Led} {p : Addr × Obj} (hp : p ∈ l') (h : ∀ q ∈ l, q ∈ l') : ∀ q ∈ p :: l, q ∈ l' := fun q hq => by
  rcases List.mem_cons.mp hq with rfl | hq
  · exact hp
  · exact h q hq
theorem news_front {h₀ h : Heap} {L : Addr} {l rl : Led} {p : Addr × Obj} (N : News h₀ L h l) (hR : ∀ q ∈ rl, q ∈ l) (hm : p ∈ rl) : News h₀ L h (p :: l) := fun q hq => by
  rcases List.mem_cons.mp hq with rfl | hq
  · exact N _ (hR _ hm)
  · exact N _ hq
theorem allNe_lt {a : Addr} {l : Led} (h : ∀ p ∈ l, p.1 < a) : AllNe a l := allNe_of fun q hq => Ne.symm (Nat.ne_of_lt (h q hq))
theorem allLt_all {I : Addr} : ∀ {l : Led}, AllLt I l → ∀ p ∈ l, p.1 < I
  | [], _, _, h => nomatch h
  | _ :: _, h, q, hq => by
    rcases List.mem_cons.mp hq with e | hq
    · rw [e]; exact h.1
    · exact allLt_all h.2 q hq
end Mine
namespace Mine
open PySem PySem.W PySem.Calls PyProof.Rows PySem.Spec

def IntsIn (lo hi : Int) (vs : List Value) (xs : List Int) : Prop := IntsAre vs xs ∧ ∀ x ∈ xs, lo ≤ x ∧ x < hi
theorem IntsIn.snoc {lo hi : Int} {vs : List Value} {xs : List Int} (h : IntsIn lo hi vs xs) {x : Int} {t : Tok} (h1 : lo ≤ x) (h2 : x < hi) : IntsIn lo hi (vs ++ [.int x t]) (xs ++ [x]) :=
  ⟨h.1.append (.cons x t .nil), fun y hy => by
    rcases List.mem_append.mp hy with hy | hy
    · exact h.2 y hy
    · rw [List.mem_singleton.mp hy]; exact ⟨h1, h2⟩⟩

theorem many_lo {i : Int} (h : 0 ≤ i) : 0 ≤ 1 + i := by omega
theorem many_hi {i : Int} (h : i < 3) : 1 + i ≤ 8 := by omega
theorem len_lo {i : Int} {k : Nat} (e : (k : Int) = 1 + i) (h : 0 ≤ i) : 1 ≤ k := by omega
theorem len_hi {i : Int} {k : Nat} (e : (k : Int) = 1 + i) (h : i < 3) : k ≤ 3 := by omega
theorem len_nat {m k q : Nat} (e : (k : Int) = (m : Int)) (f : m = q) : k = q := by omega
theorem many_nat {m q : Nat} (e : m = q) (f : q ≤ 8) : (m : Int) ≤ 8 := by omega
theorem len_eq {m : Int} {k q : Nat} (e : (k : Int) = m) (f : (q : Int) = m) : k = q := by omega
/-- a turn of a row: one int more, the feed at most one on -/
def RowTurn (l : Addr) (lo hi n' : Int) (g : Obj → Led) (y : Value) (news' : Led) : Prop := (∃ x t, y = .int x t ∧ lo ≤ x ∧ x < hi) ∧ ∃ n'' tk'' e'', Fd n' 1 n'' ∧ news' = g (feedO l n'' tk'' e'')
section
variable {prog : Program} {w : World} {A : Around} {E : Value → Shared → Prop} {s : Shared} {h₀ : Heap} {L : Addr} {m : Str → Option Value} {env : Env}
  {elt : PySem.Expr} {x : Str} {scope : Scope} {cl : List (Str × Addr)}
theorem src_feed_row {Fin : Shared → List Value → Led → Prop} {r fa l : Addr} {n many lo hi : Int} {t u v tk : Tok} {e : Nat} {news : Led} {g : Obj → Led} {vs : List Value} {ns : List Int}
    (hh : A.handled = none) (F : Fr h₀ L s.heap m) (N : News h₀ L s.heap news) (U : UpdF fa (feedO l n tk e) news g) (hr : IsRange s.heap r 0 many 1 t u v) (I : FeedIn vs ns n) (hn : n < 8950) (h0 : 0 ≤ many) (h8 : many ≤ 8)
    (turn : ∀ (_g : Heap) (i : Nat) ys n' tk' e' t' I oI C oC D m₂ h tk₂ (E' : Value → Shared → Prop), FeedIn vs ns n' → LCg.NsObj oC m₂ → m₂ x = some (.int (0 + (i : Int)) t') → Fr h₀ L h m → News h₀ L h ((I, oI) :: (C, oC) :: (D, LCg.lst ys) :: g (feedO l n' tk' e')) →
      LCg.Off3 I C D (g (feedO l n' tk' e')) → Apart3 I C D →
      wpAny (model prog w) A (eval elt (compEnvC scope cl C env)) (LCg.CompEnd h₀ L m { s with heap := h, toks := tk₂ } I oI C oC D (LCg.lst ys) (fun _ => True) (RowTurn l lo hi n' g)) E' { s with heap := h, toks := tk₂ })
    (done : ∀ (g' : Heap) ys xs n' tk' e', IntsIn lo hi ys xs → (ys.length : Int) = many → Fd n 8 n' → Fin { s with heap := g' } ys (g (feedO l n' tk' e'))) :
    LCg.CompSrc prog w A h₀ L m env elt x scope cl Fin (.ref r) s := by
  obtain ⟨k, rfl⟩ := Int.eq_ofNat_of_zero_le h0
  have hk : k ≤ 8 := by omega
  have hz : Builtin.Range.rangeSize 0 (k : Int) 1 = ((k : Nat) : Int) := by
    rw [rangeSize_nat]; omega
  refine src_feed_range (fa := fa) 1 (fun ys => ∃ xs, IntsIn lo hi ys xs) hh F N U hr (small_one (by omega) (by omega) (by omega) (by omega)) hz (Nat.le_trans (show _ ≤ 100 by omega) (by decide)) ⟨[], .nil, fun _ h => nomatch h⟩ ?_ ?_
  · rintro g' i ys n' tk' e' t' I' oI C oC D m₂ h tk₂ E' hik ⟨xs, hx⟩ hyl hn1 hn2 hC hv F' N' off ne
    refine wpAny_mono (turn g' i ys n' tk' e' t' I' oI C oC D m₂ h tk₂ E' ⟨I.are, I.len, by have := I.lo; omega, by omega⟩ hC hv F' N' off (Apart3.of ne)) (fun y s₂ hy => ?_) fun _ _ e => e
    obtain ⟨h', tk₃, news', rfl, F₃, N₃, off₃, hS, ⟨z, tz, rfl, z1, z2⟩, n'', tk'', e'', q, rfl⟩ := hy
    exact ⟨h', tk₃, _, rfl, F₃, N₃, off₃, hS, ⟨_, hx.snoc z1 z2⟩, n'', tk'', e'', q.1, q.2, rfl⟩
  · rintro g' ys n' tk' e' ⟨xs, hx⟩ hl h1 h2
    exact done g' ys xs n' tk' e' hx (by omega) ⟨h1, by omega⟩
end

theorem row_ne {h₀ h : Heap} {L D fa l : Addr} {us vs : List Value} {n n' : Int} {tk tk' : Tok} {e e' ne z : Nat} {news : Led} (N : News h₀ L h news) (h1 : (D, tupO us z) ∈ news) (h2 : (fa, feedO l n' tk' e') ∈ news) (h3 : (l, listOf vs.toArray ne) ∈ news) :
    OwnNe [(D, tupO us z)] [(fa, feedO l n tk e), (l, listOf vs.toArray ne)] :=
  ownNe_one (List.forall_mem_cons.mpr ⟨held_ne N h1 h2 tup_ne_list, List.forall_mem_cons.mpr ⟨held_ne N h1 h3 tup_ne_list, List.forall_mem_nil _⟩⟩)

set_option maxHeartbeats 4000000 in
theorem row_con (w : World) (mean : ExcName → Option Value) (mg mb : Str → Option Value) {fa l : Addr} {vs : List Value} {ns : List Int} {n many below begin_ : Int} {tk tm tm2 tm3 : Tok} {e ne : Nat}
    (I : FeedIn vs ns n) (hne : @Ne Nat fa l) (hn : n < 8950) (hmany : 0 ≤ many) (hmany2 : many ≤ 8) (hm : 1 ≤ below) (hm2 : below ≤ 100) (hb : -10 ≤ begin_) (hb2 : begin_ ≤ 10) :
    Con w mean mg mb 2 391 [.ref fa, .int many tm, .int below tm2, .int begin_ tm3] [(fa, feedO l n tk e), (l, listOf vs.toArray ne)]
      (fun nn r => ∃ o' own, nn = (fa, o') :: (own ++ [(l, listOf vs.toArray ne)]) ∧ (FeedPost l n (n + (8 : Nat)) o' ∧ ∃ a us xs, own = [(a, tupO us 0)] ∧ (us.length : Int) = many ∧ IntsIn begin_ (begin_ + below) us xs ∧ r = .ref a) ∧ OwnNe own [(fa, feedO l n tk e), (l, listOf vs.toArray ne)]) := by
  k_dflt (
  refine' con_ofC ?k7 ?k8 ?kA ?kB ?kD ?_ ?c2 ?c3 ?c4;
  (case k7 => k_is); (case k8 => k_is);
  (case kA => exact fun _ => BindsTo.of_eq rfl); (case kB => exact rfl); (case kD => decide +kernel); (case c2 => exact rfl); (case c3 => exact rfl); (case c4 => exact rfl))
  intro dp gd un outer base g s B st sz X T hroom hu L' h₁ tk' cells' Q' F N' Y' hlt hret
  (try k_lt hlt)
  k_cells Y'
  (try simp only [List.cons_append, List.nil_append] at N')
  (try dsimp only at *); (try k_lift B); (try k_fold)
  k_with_none
  k_with "CompSrc!" => (k_extra "CompSrc")
  k_with "CompEnd!" => (k_extra "CompEnd")
  k_with "CompRest!" => ((with_unfolding_all first
  | (refine LCg.CompRest.succ ?_; intro v' I' oI' C' oC' D' m' h' tk' E' hv' hC' hx' F' N' off' ne'; (first | lcg_open hv' | (obtain ⟨t9', hv9'⟩ := hv'; subst hv9')); replace ne' := Apart3.of ne')
  | refine LCg.CompRest.zero ?_))
  k_with "FinE!" => (((unfold LCg.FinE); intro D' h' tk' F' N' o1'; (try simp only [List.nil_append, List.cons_append] at N'); (try dsimp only)))
  k_with "FinA!" => (((unfold LCg.FinA); intro D' h' tk' F' N' o1'; (try simp only [List.nil_append, List.cons_append] at N'); (try dsimp only)))
  k_with "call ref!" => ((
  k_here
  (with_reducible show wpAny _ _ (PySem.call (Value.ref 386) _ _) _ _ _)
  k_dflt (
    refine wpAny_call ?_
    refine' dip_use ?c5 ?c3 ?c1 ?c2 ?c4 ?c6 ?c7 ?c8 ?hc ?hI ?hne ?hcl ?hm ?hm2 ?c9 ?c10 ?c11 ?c12 ?c13 ?_
    (case c1 => exact rfl); (case c3 => k_asm); (case c2 => k_asm); (case c4 => k_asm); (case c5 => k_asm); (case c6 => k_asm); (case c7 => k_updF); (case c8 => k_mem)
    (case hc => with_reducible assumption); (case hI => with_reducible assumption); (case hne => first | exact AllNe.ne (by with_reducible assumption) (by k_mem) | with_reducible assumption | omega); (case hcl => exact Nat.le_of_ble_eq_true rfl); (case hm => first | with_reducible assumption | decide); (case hm2 => first | with_reducible assumption | decide)
    (case c9 => exact rfl); (case c10 => exact rfl); (case c11 => first | exact rfl | assumption); (case c12 => ktr_room); (case c13 => ktr_units)
    k_whole
    intro i9' t9' n9' tk9' e9' h9' u9' F9' N9' c9' l9' m9'
    (try dsimp only at N9')
    (try dsimp only)
    (try k_fold))))
  k_with "CompSrc" => (
    k_dflt (refine' src_feed_row (fa := fa) (lo := begin_) (hi := begin_ + below) ?c1 ?c2 ?c3 ?c4 ?c5 I hn hmany hmany2 ?_ ?_
            (case c1 => exact rfl); (case c2 => k_asm); (case c3 => k_asm); (case c4 => k_updF); (case c5 => assumption))
    intro g' i' ys n' tk' e' t' I' oI' C' oC' D' m' h' tk' E' hfi hC' hx' F' N' off' ne'
    (have hfd := @Fd.start n')
    (try dsimp only at N' off'); (try dsimp only); (try k_fold)
    rotate_left
    intro g' ys xs n' tk' e' hx' hyl hfd
    (try dsimp only)
    rotate_left)
  (repeat' (first | (k_unfold; (try dsimp only)) | walk1 | (dsimp only; walk1) | (leave1; (try dsimp only))))
  · exact ⟨⟨_, _, rfl, Int.le_add_of_nonneg_right (by with_reducible assumption), Int.add_lt_add_left (by with_reducible assumption) _⟩, _, _, _, by with_reducible assumption, rfl⟩
  · refine' hret _ _ _ _ _ (by k_asm) (cb_drop (by assumption) ?sub) ⟨_, [(_, tupO _ _)], rfl, ⟨Fd.post hfd (Nat.le_refl _), _, _, _, rfl, hyl, hx', rfl⟩, ?ne⟩
    (case sub => lcg_sub)
    (case ne => exact row_ne (by assumption) (by k_mem) (by k_mem) (by k_mem))
section
variable {w : World} {mean : ExcName → Option Value} {mg mb : Str → Option Value}
theorem row_use {A A₀ : Around} {base h₀ : Heap} {outer : List Env} {env : Env} {L fa l : Addr} {m : Str → Option Value} {s : Shared} {R : Result → Shared → Prop} {all : Led} {u : Obj → Led}
    {vs : List Value} {ns : List Int} {n0 n many below begin_ : Int} {c : Nat} {tk tm tm2 tm3 : Tok} {e ne : Nat}
    (N : News h₀ L s.heap all) (F : Fr h₀ L s.heap m) (hh : A.handled = none) (B : Below A₀ base outer h₀) (X : (kheap w.params).In h₀) (T : Top kview (looseW kview []) mean mg mb h₀)
    (U : UpdF fa (feedO l n tk e) all u) (hl : (l, listOf vs.toArray ne) ∈ all) (hc : Fd n0 c n) (I : FeedIn vs ns n0) (hne : @Ne Nat fa l) (hn0 : n0 < 8000) (hc2 : c ≤ 900) (hm0 : 0 ≤ many) (hm8 : many ≤ 8) (hm : 1 ≤ below) (hm2 : below ≤ 100) (hb : -10 ≤ begin_) (hb2 : begin_ ≤ 10)
    (hA : A.frames = some (env :: outer)) (hf : env.frame = some L) (hke : env.scope.kind = .function) (hroom : A.depth + 2 < recursionLimit) (hu : A.units + 8 * 2 < cLine)
    (ret : ∀ a us xs n' tk' e' h' tk2, Fr h₀ L h' m → News h₀ L h' ((a, tupO us 0) :: u (feedO l n' tk' e')) → Fd n0 (c + 8) n' → AllNe a all → (us.length : Int) = many → (xs.length : Int) = many → IntsIn begin_ (begin_ + below) us xs → R (.ok (.ret (.ref a))) { s with heap := h', toks := tk2 }) :
    codeAny (model PySem.Challenge.rw_nz0027_01.row.prog w) A (.call (.ref 391) ⟨[.ref fa, .int many tm, .int below tm2, .int begin_ tm3], []⟩) R s := by
  refine con_upd (row_con w mean mg mb ⟨I.are, I.len, Int.le_trans I.lo hc.1, by have := hc.2; omega⟩ hne (by have := hc.2; omega) hm0 hm8 hm hm2 hb hb2) hh B F X N T U (List.forall_mem_singleton.mpr hl) hA hf hke hroom hu ?_
  rintro o' own r h' tk' F' N' hO ⟨⟨n', tk1, e', rfl, h1, h2⟩, a, us, xs, rfl, hl', hx, rfl⟩
  exact ret a us xs n' tk1 e' h' tk' F' N' ⟨Int.le_trans hc.1 h1, by have := hc.2; omega⟩ (OwnNe.one hO) hl' (by rw [← hl', hx.1.length]) hx
end
end Mine
namespace Mine
open PySem PySem.W PySem.Calls PyProof.Rows PySem.Spec


def elemF (xs : List Int) : Bool := decide (0 < xs.getD 0 0 ∧ xs.getD 0 0 < (xs.length : Int) - 1 ∧ xs.getD (xs.getD 0 0).toNat 0 = xs.getD (xs.length - 1) 0)
/-- a bool is handed back; nothing is kept -/
def BoolPost (b : Bool) (need nn : Led) (r : Value) : Prop := ∃ own, nn = own ++ need ∧ (own = [] ∧ r = .bool b) ∧ OwnNe own need

theorem BoolPost.mk {b b' : Bool} {need : Led} (h : b' = b) : BoolPost b need need (.bool b') := ⟨[], rfl, ⟨rfl, by rw [h]⟩, OwnNe.nil⟩


theorem IntsIn.are {lo hi : Int} {vs : List Value} {xs : List Int} (h : IntsIn lo hi vs xs) : IntsAre vs xs := h.1
theorem IntsIn.weak {lo hi lo' hi' : Int} {vs : List Value} {xs : List Int} (h : IntsIn lo hi vs xs) (h1 : lo' ≤ lo) (h2 : hi ≤ hi') : IntsIn lo' hi' vs xs :=
  ⟨h.1, fun x hx => by have := h.2 x hx; omega⟩
/-- what _law_told hands back: the pair, what is told, the scope -/
inductive ToldP : Led → Value → Prop
  | elem {p t o sc : Addr} {i z : Int} {ti tz ts : Tok} {os : List Value} {ys : List Int} : IntsIn 0 6 os ys → 1 ≤ ys.length → ys.length ≤ 3 →
      ToldP [(p, tupO [.ref t, .ref sc] 0), (t, tupO [.str (Str.ofString "element") ts, .int i ti, .ref o, .int z tz] 0), (sc, tupO (.int i ti :: (os ++ [.int z tz])) 0), (o, tupO os 0)] (.ref p)
  | elof {p t o sc : Addr} {i z : Int} {ti tz ts : Tok} {os : List Value} {ys : List Int} : IntsIn (-1) 3 os ys → 1 ≤ ys.length → ys.length ≤ 3 →
      ToldP [(p, tupO [.ref t, .ref sc] 0), (t, tupO [.str (Str.ofString "element_of") ts, .int i ti, .ref o, .int z tz] 0), (sc, tupO [.int i ti, .int z tz] 0), (o, tupO os 0)] (.ref p)
  | tab0 {p t o rt : Addr} {ts : Tok} {os : List Value} {ys : List Int} : IntsIn 0 6 os ys → 1 ≤ ys.length → ys.length ≤ 3 →
      ToldP [(p, tupO [.ref t, .ref o] 0), (t, tupO [.str (Str.ofString "table") ts, .ref o, .ref rt] 0), (rt, tupO [] 0), (o, tupO os 0)] (.ref p)
  | tab1 {p t o rt a : Addr} {ts : Tok} {os as : List Value} {ys xa : List Int} : IntsIn 0 6 os ys → 1 ≤ ys.length → ys.length ≤ 3 → IntsIn 0 3 as xa → xa.length = ys.length →
      ToldP [(p, tupO [.ref t, .ref o] 0), (t, tupO [.str (Str.ofString "table") ts, .ref o, .ref rt] 0), (rt, tupO [.ref a] 0), (o, tupO os 0), (a, tupO as 0)] (.ref p)
  | tab2 {p t o rt a b : Addr} {ts : Tok} {os as bs : List Value} {ys xa xb : List Int} : IntsIn 0 6 os ys → 1 ≤ ys.length → ys.length ≤ 3 → IntsIn 0 3 as xa → xa.length = ys.length → IntsIn 0 3 bs xb → xb.length = ys.length →
      ToldP [(p, tupO [.ref t, .ref o] 0), (t, tupO [.str (Str.ofString "table") ts, .ref o, .ref rt] 0), (rt, tupO [.ref a, .ref b] 0), (o, tupO os 0), (a, tupO as 0), (b, tupO bs 0)] (.ref p)
  | tab3 {p t o rt a b c : Addr} {ts : Tok} {os as bs cs : List Value} {ys xa xb xc : List Int} : IntsIn 0 6 os ys → 1 ≤ ys.length → ys.length ≤ 3 → IntsIn 0 3 as xa → xa.length = ys.length → IntsIn 0 3 bs xb → xb.length = ys.length → IntsIn 0 3 cs xc → xc.length = ys.length →
      ToldP [(p, tupO [.ref t, .ref o] 0), (t, tupO [.str (Str.ofString "table") ts, .ref o, .ref rt] 0), (rt, tupO [.ref a, .ref b, .ref c] 0), (o, tupO os 0), (a, tupO as 0), (b, tupO bs 0), (c, tupO cs 0)] (.ref p)
  | inv {p t o q sc : Addr} {ts : Tok} {os qs : List Value} {ys zs : List Int} : IntsIn 0 6 os ys → 1 ≤ ys.length → ys.length ≤ 3 → IntsIn 0 6 qs zs → zs.length = ys.length →
      ToldP [(p, tupO [.ref t, .ref sc] 0), (t, tupO [.str (Str.ofString "inverse") ts, .ref o, .ref q] 0), (sc, tupO (os ++ qs) 0), (o, tupO os 0), (q, tupO qs 0)] (.ref p)
  | circ {p t o : Addr} {ts : Tok} {os : List Value} {ys : List Int} : IntsIn 0 6 os ys → 1 ≤ ys.length → ys.length ≤ 3 →
      ToldP [(p, tupO [.ref t, .ref o] 0), (t, tupO [.str (Str.ofString "circuit") ts, .ref o] 0), (o, tupO os 0)] (.ref p)

theorem ownNe_feed {h₀ h : Heap} {L fa : Addr} {o o' : Obj} {own need : Led} (N : News h₀ L h ((fa, o') :: (own ++ need))) (ho : o'.cls = .type "list") (hneed : ∀ q ∈ need, q.2.cls = .type "list") (hown : ∀ p ∈ own, p.2.cls = .type "tuple") : OwnNe own ((fa, o) :: need) := fun p hp q hq => by
  rcases List.mem_cons.mp hq with rfl | hq
  · exact held_ne N (a := p.1) (o := p.2) (o' := o') (by simp [hp]) (by simp) (by rw [hown p hp, ho]; exact tup_ne_list)
  · exact held_ne N (a := p.1) (o := p.2) (b := q.1) (o' := q.2) (by simp [hp]) (by simp [hq]) (by rw [hown p hp, hneed q hq]; exact tup_ne_list)
theorem feed_ret {g h' : Heap} {L' fa l : Addr} {s : Shared} {tk' : Nat} {R' : Flow → Shared → Prop} {m' : Str → Option Value} {o o' : Obj} {own need : Led} {r : Value} {n hi : Int} {P : Led → Value → Prop}
    (hret : ∀ (m' : Str → Option Value) (news' : Led) (r : Value) (h' : Heap) (tk' : Nat), Fr g L' h' m' → News g L' h' news' → (∃ o' own, news' = (fa, o') :: (own ++ need) ∧ (FeedPost l n hi o' ∧ P own r) ∧ OwnNe own ((fa, o) :: need)) → R' (.ret r) { s with heap := h', toks := tk' })
    (F : Fr g L' h' m') (N : News g L' h' ((fa, o') :: (own ++ need))) (hP : P own r) (hf : FeedPost l n hi o') (hneed : ∀ q ∈ need, q.2.cls = .type "list") (hown : ∀ p ∈ own, p.2.cls = .type "tuple") : R' (.ret r) { s with heap := h', toks := tk' } := by
  refine hret m' _ r h' tk' F N ⟨o', own, rfl, ⟨hf, hP⟩, ownNe_feed N ?_ hneed hown⟩
  obtain ⟨_, _, _, e, _⟩ := hf
  rw [e]

abbrev ent (w : World) (x : String) (t : Tok) (v : Value) : DictEntry := ⟨PyData.keyHash w.params (Str.ofString x), .str (Str.ofString x) t, v⟩
inductive ChElem (w : World) (i z : Int) (ti tz : Tok) (o : Addr) (os : List Value) : Led → Value → Prop
  | mk {x d sc : Addr} {t1 t2 t3 t4 t5 t6 t7 t8 : Tok} : ChElem w i z ti tz o os
      [(x, instObj 248 d), (d, dictOf [ent w "number" t1 (.int (-1) t2), ent w "scope" t3 (.ref sc), ent w "strength" t4 (.str (Str.ofString "values") t5), ent w "index" t6 (.int i ti), ent w "cells" t7 (.ref o), ent w "z" t8 (.int z tz)] 6),
       (sc, tupO (.int i ti :: (os ++ [.int z tz])) 0)] (.ref x)
inductive ChElof (w : World) (i z : Int) (ti tz : Tok) (o : Addr) : Led → Value → Prop
  | mk {x d sc : Addr} {t1 t2 t3 t4 t5 t6 t7 t8 : Tok} : ChElof w i z ti tz o
      [(x, instObj 311 d), (d, dictOf [ent w "number" t1 (.int (-1) t2), ent w "scope" t3 (.ref sc), ent w "strength" t4 (.str (Str.ofString "values") t5), ent w "index" t6 (.int i ti), ent w "numbers" t7 (.ref o), ent w "z" t8 (.int z tz)] 6),
       (sc, tupO [.int i ti, .int z tz] 0)] (.ref x)
inductive ChInv (w : World) (o q : Addr) (os qs : List Value) : Led → Value → Prop
  | mk {x d sc : Addr} {t1 t2 t3 t4 t5 t6 t7 : Tok} : ChInv w o q os qs
      [(x, instObj 171 d), (d, dictOf [ent w "number" t1 (.int (-1) t2), ent w "scope" t3 (.ref sc), ent w "strength" t4 (.str (Str.ofString "weak") t5), ent w "fs" t6 (.ref o), ent w "gs" t7 (.ref q)] 5),
       (sc, tupO (os ++ qs) 0)] (.ref x)
inductive ChCirc (w : World) (o : Addr) : Led → Value → Prop
  | mk {x d : Addr} {t1 t2 t3 t4 t5 : Tok} : ChCirc w o
      [(x, instObj 124 d), (d, dictOf [ent w "number" t1 (.int (-1) t2), ent w "scope" t3 (.ref o), ent w "strength" t4 (.str (Str.ofString "weak") t5)] 3)] (.ref x)
/-- a function that makes things and changes nothing -/
def NewPost (P : Led → Value → Prop) (need nn : Led) (r : Value) : Prop := ∃ own, nn = own ++ need ∧ P own r ∧ OwnNe own need
theorem NewPost.mk {P : Led → Value → Prop} {own need : Led} {r : Value} (h : P own r) (hn : OwnNe own need) : NewPost P need (own ++ need) r := ⟨own, rfl, h, hn⟩
theorem ownNe2 {x d : Addr} {o1 o2 : Obj} {need : Led} (hx : AllNe x need) (hd : AllNe d need) : OwnNe [(x, o1), (d, o2)] need := fun p hp q hq => by
  rcases List.mem_cons.mp hp with rfl | hp
  · exact hx.ne (b := q.1) (o := q.2) hq
  · rw [List.mem_singleton.mp hp]; exact hd.ne (b := q.1) (o := q.2) hq
theorem ownNe3 {x d c : Addr} {o1 o2 o3 : Obj} {need : Led} (hx : AllNe x need) (hd : AllNe d need) (hc : AllNe c need) : OwnNe [(x, o1), (d, o2), (c, o3)] need := fun p hp q hq => by
  rcases List.mem_cons.mp hp with rfl | hp
  · exact hx.ne (b := q.1) (o := q.2) hq
  · exact ownNe2 hd hc p hp q hq
def elofF (ys xs : List Int) : Bool := decide (1 ≤ xs.getD 0 0 ∧ xs.getD 0 0 ≤ (ys.length : Int) ∧ ys.getD (xs.getD 0 0 - 1).toNat 0 = xs.getD 1 0)
abbrev elofI (w : World) (x d sc o : Addr) (i z : Int) (ti tz t1 t2 t3 t4 t5 t6 t7 t8 : Tok) : Led :=
  [(x, instObj 311 d), (d, dictOf [ent w "number" t1 (.int (-1) t2), ent w "scope" t3 (.ref sc), ent w "strength" t4 (.str (Str.ofString "values") t5), ent w "index" t6 (.int i ti), ent w "numbers" t7 (.ref o), ent w "z" t8 (.int z tz)] 6)]
def ringGo (xs : List Int) : Nat → Int → List Int → Bool
  | 0, here, _ => decide (here = 1)
  | k + 1, here, met => if here ∈ met ∨ ¬ (1 ≤ here ∧ here ≤ (xs.length : Int)) then false else ringGo xs k (xs.getD (here - 1).toNat 0) (met ++ [here])
def ringF (xs : List Int) : Bool := ringGo xs xs.length 1 []
theorem ints0 {us : List Value} (h : IntsAre us []) : us = [] := by cases h; rfl
theorem ints1 {us : List Value} {x : Int} {xs : List Int} (h : IntsAre us (x :: xs)) : ∃ t us', us = .int x t :: us' ∧ IntsAre us' xs := by cases h with | cons _ t h => exact ⟨t, _, rfl, h⟩
theorem ints_cases {us : List Value} {xs : List Int} (h : IntsAre us xs) (h1 : 1 ≤ xs.length) (h3 : xs.length ≤ 3) :
    (∃ a ta, us = [.int a ta] ∧ xs = [a]) ∨ (∃ a b ta tb, us = [.int a ta, .int b tb] ∧ xs = [a, b]) ∨ (∃ a b c ta tb tc, us = [.int a ta, .int b tb, .int c tc] ∧ xs = [a, b, c]) := by
  match xs, h, h1, h3 with
  | [a], q, _, _ => obtain ⟨ta, _, rfl, q1⟩ := ints1 q; obtain rfl := ints0 q1; exact .inl ⟨a, ta, rfl, rfl⟩
  | [a, b], q, _, _ => obtain ⟨ta, _, rfl, q1⟩ := ints1 q; obtain ⟨tb, _, rfl, q2⟩ := ints1 q1; obtain rfl := ints0 q2; exact .inr (.inl ⟨a, b, ta, tb, rfl, rfl⟩)
  | [a, b, c], q, _, _ => obtain ⟨ta, _, rfl, q1⟩ := ints1 q; obtain ⟨tb, _, rfl, q2⟩ := ints1 q1; obtain ⟨tc, _, rfl, q3⟩ := ints1 q2; obtain rfl := ints0 q3; exact .inr (.inr ⟨a, b, c, ta, tb, tc, rfl, rfl⟩)
section
variable {prog : Program} {w : World} {A : Around} {E : Value → Shared → Prop} {s : Shared}
theorem in_rangeK {r : Addr} {a b x : Int} {t u v tx : Tok} {Q : Value → Shared → Prop} (hr : IsRange s.heap r a b 1 t u v) (h : Q (.bool (decide (a ≤ x ∧ x < b))) s) :
    wpAny (model prog w) A (compareOp .In (.int x tx) (.ref r)) Q E s := by
  have hT : s.TypeIs (.ref r) "range" := ⟨_, hr, rfl⟩
  show wpAny _ A (do return .bool (← contains (.ref r) (.int x tx))) Q E s
  refine wpAny_bind (wpAny_contains_slot hT F.slot_range_contains ?_)
  refine wpAny_call_entry F.slot_range_contains hT F.entry_range_contains ?_ (F.args_range_contains_2 _ _)
  have e : (Builtin.Range.rangePlace? a b 1 x).isSome = decide (a ≤ x ∧ x < b) := by
    unfold Builtin.Range.rangePlace?
    simp only [show (1 : Int) > 0 from by decide, if_true, Int.emod_one, beq_self_eq_true, Bool.and_true]
    by_cases h1 : a ≤ x <;> by_cases h2 : x < b <;> simp [h1, h2]
  obtain ⟨hp, g, d, tk, os⟩ := s
  wp_walk using AutoSeq1.wpAny_loadPart' hr
  exact ⟨_, rfl, wpAny_truthy_bool (wpAny_pure (by rw [e]; exact h))⟩
end
section
variable {w : World} {mean : ExcName → Option Value} {mg mb : Str → Option Value} {k : Nat} {f : Addr} {args : List Value}
theorem bool_use {A A₀ : Around} {base h₀ : Heap} {outer : List Env} {env : Env} {L : Addr} {m : Str → Option Value} {s : Shared} {R : Result → Shared → Prop} {all : Led} {b : Bool} {need : Led}
    (C : Con w mean mg mb k f args need (BoolPost b need)) (N : News h₀ L s.heap all) (F : Fr h₀ L s.heap m) (hh : A.handled = none) (B : Below A₀ base outer h₀) (X : (kheap w.params).In h₀)
    (T : Top kview (looseW kview []) mean mg mb h₀) (hneed : ∀ p ∈ need, p ∈ all) (hA : A.frames = some (env :: outer)) (hf : env.frame = some L) (hke : env.scope.kind = .function)
    (hroom : A.depth + k < recursionLimit) (hu : A.units + 8 * k < cLine) (ret : ∀ h' tk', Fr h₀ L h' m → News h₀ L h' all → R (.ok (.ret (.bool b))) { s with heap := h', toks := tk' }) :
    codeAny (model PySem.Challenge.rw_nz0027_01.row.prog w) A (.call (.ref f) ⟨args, []⟩) R s := by
  refine con_new C hh B F X N T hneed hA hf hke hroom hu ?_
  rintro own r h' tk' F' N' _ ⟨rfl, rfl⟩
  exact ret h' tk' F' N'
theorem some_use {A A₀ : Around} {base h₀ : Heap} {outer : List Env} {env : Env} {L : Addr} {m : Str → Option Value} {s : Shared} {R : Result → Shared → Prop} {all : Led} {need : Led}
    (C : Con w mean mg mb k f args need (fun nn r => ∃ own, nn = own ++ need ∧ (own = [] ∧ ∃ b, r = .bool b) ∧ OwnNe own need)) (N : News h₀ L s.heap all) (F : Fr h₀ L s.heap m) (hh : A.handled = none) (B : Below A₀ base outer h₀) (X : (kheap w.params).In h₀)
    (T : Top kview (looseW kview []) mean mg mb h₀) (hneed : ∀ p ∈ need, p ∈ all) (hA : A.frames = some (env :: outer)) (hf : env.frame = some L) (hke : env.scope.kind = .function)
    (hroom : A.depth + k < recursionLimit) (hu : A.units + 8 * k < cLine) (ret : ∀ b h' tk', Fr h₀ L h' m → News h₀ L h' all → R (.ok (.ret (.bool b))) { s with heap := h', toks := tk' }) :
    codeAny (model PySem.Challenge.rw_nz0027_01.row.prog w) A (.call (.ref f) ⟨args, []⟩) R s := by
  refine con_new C hh B F X N T hneed hA hf hke hroom hu ?_
  rintro own r h' tk' F' N' _ ⟨rfl, b, rfl⟩
  exact ret b h' tk' F' N'
end
/-- the values of a lap: a tuple of so many ints, made anew -/
def ValP (n : Nat) (own : Led) (r : Value) : Prop := ∃ a us xs, own = [(a, tupO us 0)] ∧ r = .ref a ∧ IntsAre us xs ∧ xs.length = n
end Mine
namespace Mine
open PySem PySem.W PySem.Calls PyProof.Rows PySem.Spec

def LoIs (v : Value) (a : Nat) : Prop := (v = .none ∧ a = 0) ∨ ∃ k u, v = .int k u ∧ k = (a : Int)
def HiIs (v : Value) (b n : Nat) : Prop := (v = .none ∧ b = n) ∨ ∃ k u, v = .int k u ∧ k = (b : Int)

section
variable {prog : Program} {w : World} {A : Around} {E : Value → Shared → Prop} {s : Shared} {h₀ : Heap} {L : Addr} {m : Str → Option Value} {news : Led}

theorem adjustK {lo hi : Option Int} {a b n : Nat} (hl : lo = none ∧ a = 0 ∨ lo = some (a : Int)) (hh : hi = none ∧ b = n ∨ hi = some (b : Int)) (hab : a ≤ b) (hbn : b ≤ n) : Builtin.Slice.sliceAdjust lo hi 1 (n : Int) = ((a : Int), (b : Int)) := by
  unfold Builtin.Slice.sliceAdjust
  have h1 : ¬ ((1 : Int) < 0) := by decide
  have h2 : ¬ ((a : Int) < 0) := by omega
  have h3 : ¬ ((b : Int) < 0) := by omega
  simp only [h1, if_false]
  refine Prod.ext ?_ ?_
  · rcases hl with ⟨rfl, rfl⟩ | rfl
    · rfl
    · simp only [h2, if_false]; omega
  · rcases hh with ⟨rfl, rfl⟩ | rfl
    · rfl
    · simp only [h3, if_false]; omega
theorem placesK {a b : Nat} (hab : a ≤ b) : Builtin.Slice.slicePlaces (a : Int) (b : Int) 1 = b - a := by
  unfold Builtin.Slice.slicePlaces
  have h1 : (1 : Int) > 0 := by decide
  simp only [h1, if_true, Int.ediv_one]
  split <;> omega

set_option maxHeartbeats 2000000 in
theorem appliedK {sl : Addr} {vlo vhi : Value} {a b n : Nat} {Q : Int × Int × Nat → Shared → Prop} (hs : s.heap.IsSliceOf sl vlo vhi .none) (hlo : LoIs vlo a) (hhi : HiIs vhi b n) (hab : a ≤ b) (hbn : b ≤ n) (h : Q ((a : Int), 1, b - a) s) :
    wpAny (model prog w) A (Builtin.Slice.sliceApplied (.ref sl) (pure (n : Int))) Q E s := by
  obtain ⟨os, hos, hcs, hds⟩ := id hs
  unfold Builtin.Slice.sliceApplied Builtin.Slice.sliceFields
  refine wpAny_bind (wpAny_bind (wpAny_field hos hds (x := vlo) rfl (wpAny_bind (wpAny_field hos hds (x := vhi) rfl (wpAny_bind (wpAny_field hos hds (x := .none) rfl (wpAny_pure ?_)))))))
  refine wpAny_bind (slicePart_none ?_)
  show wpAny _ _ (if ((1 : Int) == 0) = true then _ else _) _ _ s
  rw [if_neg (by decide)]
  have fin : ∀ lo hi : Option Int, (lo = none ∧ a = 0 ∨ lo = some (a : Int)) → (hi = none ∧ b = n ∨ hi = some (b : Int)) →
      wpAny (model prog w) A (do let l ← pure (n : Int); match Builtin.Slice.sliceAdjust lo hi 1 l with | (lo, hi) => pure (lo, (1 : Int), Builtin.Slice.slicePlaces lo hi 1)) Q E s := fun lo hi q1 q2 => by
    refine wpAny_bind (wpAny_pure ?_)
    rw [adjustK q1 q2 hab hbn]
    show wpAny _ _ (pure ((a : Int), (1 : Int), Builtin.Slice.slicePlaces (a : Int) (b : Int) 1)) _ _ s
    rw [placesK hab]
    exact wpAny_pure h
  rcases hlo with ⟨rfl, e1⟩ | ⟨k1, u1, rfl, e1⟩ <;> rcases hhi with ⟨rfl, e2⟩ | ⟨k2, u2, rfl, e2⟩
  · exact wpAny_bind (slicePart_none (wpAny_bind (slicePart_none (fin none none (.inl ⟨rfl, e1⟩) (.inl ⟨rfl, e2⟩)))))
  · exact wpAny_bind (slicePart_none (wpAny_bind (slicePart_int (fin none (some k2) (.inl ⟨rfl, e1⟩) (.inr (congrArg some e2))))))
  · exact wpAny_bind (slicePart_int (wpAny_bind (slicePart_none (fin (some k1) none (.inr (congrArg some e1)) (.inl ⟨rfl, e2⟩)))))
  · exact wpAny_bind (slicePart_int (wpAny_bind (slicePart_int (fin (some k1) (some k2) (.inr (congrArg some e1)) (.inr (congrArg some e2))))))

theorem pickK (xs : List Value) {a b : Nat} (_hab : a ≤ b) (_hbn : b ≤ xs.length) : ((List.range (b - a)).filterMap fun (k : Nat) => xs.toArray[((a : Int) + (k : Int) * 1).toNat]?).toArray = ((xs.drop a).take (b - a)).toArray := by
  have e : (fun (k : Nat) => xs.toArray[((a : Int) + (k : Int) * 1).toNat]?) = fun k => xs.toArray[a + k]? := by
    funext k
    have : ((a : Int) + (k : Int) * 1).toNat = a + k := by omega
    rw [this]
  rw [e]
  have := pick_run xs.toArray a (b - a)
  rw [List.filterMap_map] at this
  have e2 : ((fun x => xs.toArray[x]?) ∘ fun x => a + x) = fun k => xs.toArray[a + k]? := rfl
  rw [e2] at this
  rw [this]

set_option maxHeartbeats 2000000 in
theorem getItem_tupK {t sl : Addr} {us : List Value} {vlo vhi : Value} {a b : Nat} {Q : Value → Shared → Prop} (ht : IsTup s.heap t us.toArray) (hs : s.heap.IsSliceOf sl vlo vhi .none) (hlo : LoIs vlo a) (hhi : HiIs vhi b us.length) (hab : a ≤ b) (hbn : b ≤ us.length)
    (hsz : us.length ≤ 1000) (hfull : (a = 0 ∧ b = us.length) → Q (.ref t) s)
    (h : ¬ (a = 0 ∧ b = us.length) → Q (.ref s.heap.objs.size) { s with heap := s.heap.push { cls := .type "tuple", data := .seq ((us.drop a).take (b - a)).toArray } }) :
    wpAny (model prog w) A (getItem (.ref t) (.ref sl)) Q E s := by
  have hdrop : sizeOk (.seq ((us.drop a).take (b - a)).toArray) := by
    show ((us.drop a).take (b - a)).toArray.size ≤ sizeLine
    rw [List.size_toArray, List.length_take, List.length_drop]
    exact Nat.le_trans (show _ ≤ 1000 by omega) (by decide)
  obtain ⟨os, hos, hcs, hds⟩ := id hs
  have hTs : s.TypeIs (.ref sl) "slice" := ⟨os, hos, hcs⟩
  unfold getItem
  try with_reducible refine wpAny_holding ?_
  first | refine wpAny_bind (wpAny_pure ?_) | skip
  refine wpAny_bind (wpAny_sequenceKey ht.typeIs (by decide) ?_)
  refine wpAny_bind (wpAny_callSpecial?_slot (name := Str.ofString "__getitem__") ht.typeIs slot_tuple_getitem
    (wpAny_call_entry slot_tuple_getitem ht.typeIs entry_tuple_getitem ?_ (args_tuple_getitem _ _)))
  show wpAny _ _ (Builtin.Tuple.tupleItemsOf (.ref t) >>= _) _ _ s
  refine wpAny_bind (tupleItemsOf_ ht ?_)
  refine wpAny_bind (wpAny_typeOf hTs ?_)
  rw [if_pos (by decide)]
  have hsize : us.toArray.size = us.length := List.size_toArray ..
  rw [hsize]
  refine wpAny_bind (appliedK hs hlo hhi hab hbn ?_)
  by_cases hf : a = 0 ∧ b = us.length
  · have hyes : (((a : Int) == 0 && (1 : Int) == 1 && (b - a) == us.length) = true) := by
      obtain ⟨rfl, rfl⟩ := hf
      simp
    have q := hfull hf
    show wpAny _ _ (if ((a : Int) == 0 && (1 : Int) == 1 && (b - a) == us.length) = true then _ else _) _ _ s
    rw [if_pos hyes]
    have hex : wpAny (model prog w) A.in1 (Builtin.Tuple.tupleIsExact (.ref t)) (fun b s' => b = true ∧ s' = s) E s := by
      unfold Builtin.Tuple.tupleIsExact
      exact wpAny_bind (wpAny_typeOf ht.typeIs (wpAny_pure ⟨by decide, rfl⟩))
    refine wpAny_bind (wpAny_mono hex (fun b s' hb => ?_) fun _ _ e => e)
    obtain ⟨rfl, rfl⟩ := hb
    rw [if_pos rfl]
    exact wpAny_bind (wpAny_rule (wpAny_pure ⟨_, rfl, wpAny_pure q⟩))
  · have hno : ¬ (((a : Int) == 0 && (1 : Int) == 1 && (b - a) == us.length) = true) := by
      simp only [Bool.and_eq_true, beq_iff_eq, not_and]
      intro h1 h2
      omega
    show wpAny _ _ (if ((a : Int) == 0 && (1 : Int) == 1 && (b - a) == us.length) = true then _ else _) _ _ s
    rw [if_neg hno, pickK us hab hbn]
    have q := h hf
    first
      | exact wpAny_bind (m := Builtin.Tuple.tupleExact _) (wpAny_newObj_type (wpAny_pure ⟨_, rfl, wpAny_pure q⟩) hdrop)
      | exact wpAny_bind (m := Builtin.Tuple.tupleExact _) (wpAny_newObj_type (wpAny_bind (wpAny_pure (wpAny_pure ⟨_, rfl, wpAny_pure q⟩))) hdrop)
      | exact wpAny_bind (wpAny_bind (m := Builtin.Tuple.tupleExact _) (wpAny_newObj_type (wpAny_pure (wpAny_pure ⟨_, rfl, wpAny_pure q⟩)) hdrop))
end

section
variable {prog : Program} {w : World} {A : Around} {E : Value → Shared → Prop} {h₀ h : Heap} {gn : Array GenState} {dr : Drawn} {tk : Nat} {osx : OsState} {L : Addr} {m : Str → Option Value} {news : Led}
/-- a cut of a tuple of the ledger -/
theorem slice_tupN {value slice : PySem.Expr} {t : Addr} {us : List Value} {e : Nat} {vlo vhi : Value} {Q : Value → Shared → Prop} (a b : Nat) (F : Fr h₀ L h m) (N : News h₀ L h news) (hm : (t, tupO us e) ∈ news) (hlo : LoIs vlo a) (hhi : HiIs vhi b us.length) (hab : a ≤ b) (hbn : b ≤ us.length) (hsz : us.length ≤ 1000)
    (hnf : ¬ (a = 0 ∧ b = us.length)) (hs : subscripted slice false (.ref t) (.ref h.objs.size) = operate [.ref h.objs.size, .ref t] (getItem (.ref t) (.ref h.objs.size)))
    (hQ : ∀ D h', Fr h₀ L h' m → News h₀ L h' ((D, tupO ((us.drop a).take (b - a)) 0) :: news) → (∀ p ∈ news, p.1 < D) → Q (.ref D) { heap := h', gens := gn, drawn := dr, toks := tk, os := osx }) :
    wpAny (model prog w) A (subscriptTail value slice (.ref t) (.ref h.objs.size)) Q E { heap := h.push { cls := .type "slice", data := .fields #[vlo, vhi, .none] }, gens := gn, drawn := dr, toks := tk, os := osx } := by
  have ht' : IsTup (h.push { cls := .type "slice", data := .fields #[vlo, vhi, .none] }) t us.toArray := ⟨_, Heap.get?_push_of_some _ (N _ hm).1, rfl, _, rfl⟩
  have F1 := F.push { cls := .type "slice", data := .fields #[vlo, vhi, .none] }
  have N1 : News h₀ L (h.push { cls := .type "slice", data := .fields #[vlo, vhi, .none] }) news := N.grown fun _ _ e => Heap.get?_push_of_some _ e
  refine tail_any (s := { heap := h.push { cls := .type "slice", data := .fields #[vlo, vhi, .none] }, gens := gn, drawn := dr, toks := tk, os := osx }) ht'.typeIs slot_tuple_getitem.lookup (getItem_tupK ht' (Heap.IsSliceOf.new ..) hlo hhi hab hbn hsz (fun q => absurd q hnf) fun _ => ?_) hs
  exact hQ _ _ (F1.push _) (N1.push F1 _) fun p hp => Heap.lt_size (N1 p hp).1
theorem slice_tupAll {value slice : PySem.Expr} {t : Addr} {us : List Value} {e : Nat} {vlo vhi : Value} {Q : Value → Shared → Prop} (a b : Nat) (F : Fr h₀ L h m) (N : News h₀ L h news) (hm : (t, tupO us e) ∈ news) (hlo : LoIs vlo a) (hhi : HiIs vhi b us.length) (ha : a = 0) (hb : b = us.length) (hsz : us.length ≤ 1000)
    (hs : subscripted slice false (.ref t) (.ref h.objs.size) = operate [.ref h.objs.size, .ref t] (getItem (.ref t) (.ref h.objs.size)))
    (hQ : ∀ h', Fr h₀ L h' m → News h₀ L h' news → Q (.ref t) { heap := h', gens := gn, drawn := dr, toks := tk, os := osx }) :
    wpAny (model prog w) A (subscriptTail value slice (.ref t) (.ref h.objs.size)) Q E { heap := h.push { cls := .type "slice", data := .fields #[vlo, vhi, .none] }, gens := gn, drawn := dr, toks := tk, os := osx } := by
  have ht' : IsTup (h.push { cls := .type "slice", data := .fields #[vlo, vhi, .none] }) t us.toArray := ⟨_, Heap.get?_push_of_some _ (N _ hm).1, rfl, _, rfl⟩
  refine tail_any (s := { heap := h.push { cls := .type "slice", data := .fields #[vlo, vhi, .none] }, gens := gn, drawn := dr, toks := tk, os := osx }) ht'.typeIs slot_tuple_getitem.lookup (getItem_tupK ht' (Heap.IsSliceOf.new ..) hlo hhi (by omega) (by omega) hsz (fun _ => ?_) fun q => absurd ⟨ha, hb⟩ q) hs
  exact hQ _ (F.push _) (N.grown fun _ _ e => Heap.get?_push_of_some _ e)
end

section
variable {prog : Program} {w : World} {A : Around} {E : Value → Shared → Prop} {s : Shared} {h₀ : Heap} {L : Addr} {m : Str → Option Value} {news : Led}
theorem list_tupN {t : Addr} {us : List Value} {e : Nat} {Q : Value → Shared → Prop} (F : Fr h₀ L s.heap m) (N : News h₀ L s.heap news) (hm : (t, tupO us e) ∈ news)
    (h : ∀ D c h', Fr h₀ L h' m → News h₀ L h' ((D, listOf us.toArray c) :: news) → (∀ p ∈ news, p.1 < D) → Q (.ref D) { s with heap := h' }) (hz : us.length ≤ 1000) : wpAny (model prog w) A (call (.type "list") [.ref t]) Q E s :=
  kup_listOfT F N hm (by simp) h (by simpa using Nat.le_trans hz (by decide))
theorem eq_intsN {a b : Addr} {us vs : List Value} {e1 e2 : Nat} {ns ms : List Int} {Q : Value → Shared → Prop} (N : News h₀ L s.heap news) (h1 : (a, listOf us.toArray e1) ∈ news) (h2 : (b, listOf vs.toArray e2) ∈ news) (hi : IntsAre us ns) (hj : IntsAre vs ms) (hu : A.units + 64 < cLine)
    (h : Q (.bool (decide (ns = ms))) s) : wpAny (model prog w) A (compareOp .Eq (.ref a) (.ref b)) Q E s :=
  ke_eq_ints ⟨_, (N _ h1).1, rfl, _, rfl⟩ ⟨_, (N _ h2).1, rfl, _, rfl⟩ hi hj hu h
theorem ints_take : ∀ {vs : List Value} {ns : List Int} (k : Nat), IntsAre vs ns → IntsAre (vs.take k) (ns.take k)
  | _, _, 0, _ => .nil
  | _, _, _ + 1, .nil => .nil
  | _, _, k + 1, .cons n t h => .cons n t (ints_take k h)
theorem ints_drop : ∀ {vs : List Value} {ns : List Int} (k : Nat), IntsAre vs ns → IntsAre (vs.drop k) (ns.drop k)
  | _, _, 0, h => h
  | _, _, _ + 1, .nil => .nil
  | _, _, k + 1, .cons _ _ h => ints_drop k h
end
theorem one_list {ys : List Int} {x : Int} (h : ys.length = 1) : ([x] = ys) ↔ ys.getD 0 0 = x := by
  match ys, h with
  | [y], _ => simp [eq_comm]
theorem cut_list {ys : List Int} {x : Int} {a b : Nat} (h : a < ys.length) (hb : b = a + 1) : ([x] = (ys.drop a).take (b - a)) ↔ ys.getD a 0 = x := by
  subst hb
  have e : ys.getD a 0 = ys[a] := by simp [List.getD_eq_getElem?_getD, List.getElem?_eq_getElem h]
  rw [List.drop_eq_getElem_cons h, show a + 1 - a = 1 by omega, e, List.take_succ_cons, List.take_zero, List.cons.injEq]
  exact ⟨fun q => q.1.symm, fun q => ⟨q.symm, rfl⟩⟩
theorem elof_one {ys xs : List Int} (h : ys.length = 1) (h1 : 1 ≤ xs.getD 0 0) (h2 : xs.getD 0 0 < (ys.length : Int) + 1) : decide ([xs.getD 1 0] = ys) = elofF ys xs := by
  have e : (xs.getD 0 0 - 1).toNat = 0 := by omega
  rw [Bool.eq_iff_iff, elofF, decide_eq_true_eq, decide_eq_true_eq, one_list h, e]
  constructor
  · exact fun q => ⟨h1, by omega, q⟩
  · exact fun q => q.2.2
theorem elof_cut {ys xs : List Int} (h1 : 1 ≤ xs.getD 0 0) (h2 : xs.getD 0 0 < (ys.length : Int) + 1) : decide ([xs.getD 1 0] = (ys.drop (xs.getD 0 0 - 1).toNat).take ((xs.getD 0 0).toNat - (xs.getD 0 0 - 1).toNat)) = elofF ys xs := by
  rw [Bool.eq_iff_iff, elofF, decide_eq_true_eq, decide_eq_true_eq, cut_list (by omega) (by omega)]
  constructor
  · exact fun q => ⟨h1, by omega, q⟩
  · exact fun q => q.2.2
theorem elof_out {ys xs : List Int} (h : ¬ (1 ≤ xs.getD 0 0 ∧ xs.getD 0 0 < (ys.length : Int) + 1)) : false = elofF ys xs := by
  rw [elofF, eq_comm, decide_eq_false_iff_not]
  exact fun q => h ⟨q.1, by omega⟩
section
variable {prog : Program} {w : World} {A : Around} {E : Value → Shared → Prop} {s : Shared} {h₀ : Heap} {L : Addr} {m : Str → Option Value} {news : Led}
theorem tup_ofN {l : Addr} {us : List Value} {e : Nat} {Q : Value → Shared → Prop} (F : Fr h₀ L s.heap m) (N : News h₀ L s.heap news) (hm : (l, listOf us.toArray e) ∈ news) (hz : us.length ≤ 1000)
    (h : ∀ D h', Fr h₀ L h' m → News h₀ L h' ((D, tupO us 0) :: news) → (∀ p ∈ news, p.1 < D) → Q (.ref D) { s with heap := h' }) : wpAny (model prog w) A (call (.type "tuple") [.ref l]) Q E s :=
  kde_tupleOf F N ⟨_, (N _ hm).1, rfl, _, rfl⟩ (by rw [List.size_toArray]; omega) (by simp) h
end
section
variable {prog : Program} {w : World} {A : Around} {E : Value → Shared → Prop} {s : Shared} {h₀ : Heap} {L : Addr} {m : Str → Option Value} {news : Led}
theorem item_head {value slice : PySem.Expr} {v : Addr} {x : Value} {us : List Value} {e : Nat} {u : Tok} {Q : Value → Shared → Prop} (N : News h₀ L s.heap news) (hm : (v, tupO (x :: us) e) ∈ news) (h : Q x s)
    (hs : subscripted slice false (.ref v) (.int 0 u) = operate [.ref v, .int 0 u] (getItem (.ref v) (.int 0 u)) := by with_unfolding_all rfl) :
    wpAny (model prog w) A (subscriptTail value slice (.ref v) (.int 0 u)) Q E s :=
  item_tupleT (l := x :: us) (j := 0) (isTupN N hm) (by decide) (by decide) (seqIndex_of (by decide) (by simp only [List.length_cons]; omega)) rfl h hs
end
def reps (k : Nat) (us : List Value) : List Value := (List.replicate k us).flatten
theorem reps_ints {us : List Value} {xs : List Int} (h : IntsAre us xs) : ∀ k, IntsAre (reps k us) (List.replicate k xs).flatten
  | 0 => .nil
  | k + 1 => by
    have e1 : reps (k + 1) us = us ++ reps k us := by simp [reps, List.replicate_succ]
    have e2 : (List.replicate (k + 1) xs).flatten = xs ++ (List.replicate k xs).flatten := by simp [List.replicate_succ]
    rw [e1, e2]
    exact h.append (reps_ints h k)
theorem reps_len (xs : List Int) : ∀ k, (List.replicate k xs).flatten.length = k * xs.length
  | 0 => by simp
  | k + 1 => by simp [List.replicate_succ, reps_len xs k, Nat.succ_mul, Nat.add_comm]
theorem reps_foldl (us : List Value) : ∀ (k : Nat) (acc : List Value), List.foldl (fun (x1 x2 : Array Value) => x1 ++ x2) acc.toArray (List.replicate k us.toArray) = (acc ++ reps k us).toArray
  | 0, acc => by simp [reps]
  | k + 1, acc => by
    rw [List.replicate_succ, List.foldl_cons, List.append_toArray, reps_foldl us k]
    simp [reps, List.replicate_succ]
section
variable {prog : Program} {w : World} {A : Around} {E : Value → Shared → Prop} {s : Shared} {h₀ : Heap} {L : Addr} {m : Str → Option Value} {news : Led}
theorem mul_listN {l : Addr} {us : List Value} {xs : List Int} {e : Nat} {x : Int} {u : Tok} {Q : Value → Shared → Prop} (F : Fr h₀ L s.heap m) (N : News h₀ L s.heap news) (hm : (l, listOf us.toArray e) ∈ news) (hi : IntsAre us xs) (h1 : 1 ≤ xs.length) (h2 : xs.length ≤ 100) (hx : x ≤ 100)
    (h : ∀ D h', Fr h₀ L h' m → News h₀ L h' ((D, listOf (reps x.toNat us).toArray 0) :: news) → (∀ p ∈ news, p.1 < D) → IntsAre (reps x.toNat us) (List.replicate x.toNat xs).flatten → (List.replicate x.toNat xs).flatten.length = x.toNat * xs.length → Q (.ref D) { s with heap := h' }) (hlo : -100 ≤ x) :
    wpAny (model prog w) A (binaryOp .Mult (.ref l) (.int x u)) Q E s := by
  have hl : us.length = xs.length := hi.length
  have hne : us.toArray.isEmpty = false := by
    cases us with
    | nil => simp at hl; omega
    | cons _ _ => rfl
  have hsz : us.toArray.size * x.toNat ≤ 2 ^ 24 := by
    rw [List.size_toArray, hl]
    exact Nat.le_trans (Nat.mul_le_mul h2 (show x.toNat ≤ 100 by omega)) (by decide)
  refine mul_list F N (N _ hm).1 (Int.le_trans (by decide) hlo) (Int.lt_of_le_of_lt hx (by decide)) hsz fun h' F' N' => ?_
  rw [hne] at N'
  simp only [Bool.false_eq_true, if_false] at N'
  have q := reps_foldl us x.toNat []
  rw [List.nil_append] at q
  have q' : List.foldl (fun (x1 x2 : Array Value) => x1 ++ x2) #[] (List.replicate x.toNat us.toArray) = (reps x.toNat us).toArray := q
  rw [q'] at N'
  exact h _ h' F' N' (fun p hp => Heap.lt_size (N p hp).1) (reps_ints hi _) (reps_len xs _)
end
end Mine
namespace Mine
open PySem PySem.W PySem.Calls PyProof.Rows PySem.Spec

/-- two values that read as the same plain data -/
def Same (h : Heap) (k : Nat) (u v : Value) : Prop := ∃ d as bs, Reads h u d as ∧ Reads h v d bs ∧ d.canLay0 = true ∧ d.depth ≤ k ∧ PyData.eqv d d = true
def SameAll (h : Heap) (k : Nat) (us vs : List Value) : Prop := ∃ ds as bs, ReadsAll h us ds as ∧ ReadsAll h vs ds bs ∧ PyData.canLayAll0 ds = true ∧ PyData.depthAll ds ≤ k ∧ PyData.eqvAll ds ds = true
section
variable {prog : Program} {w : World} {A : Around} {E : Value → Shared → Prop} {s : Shared} {h₀ : Heap} {L : Addr} {news : Led} {h : Heap} {k : Nat}
theorem Same.int {i : Int} {t u : Tok} : Same h k (.int i t) (.int i u) := ⟨.int i, _, _, .int i t, .int i u, by simp [PyData.canLay0], by simp [PyData.depth], by simp [PyData.eqv]⟩
theorem Same.str {x : Str} {t u : Tok} (hx : PyData.strOk x = true) : Same h k (.str x t) (.str x u) := ⟨.str x, _, _, .str x t, .str x u, by simp [PyData.canLay0, hx], by simp [PyData.depth], by simp [PyData.eqv]⟩
theorem SameAll.nil : SameAll h k [] [] := ⟨[], _, _, .nil, .nil, by simp [PyData.canLayAll0], by simp [PyData.depthAll], by simp [PyData.eqvAll]⟩
theorem SameAll.cons {u v : Value} {us vs : List Value} (a : Same h k u v) (b : SameAll h k us vs) : SameAll h k (u :: us) (v :: vs) := by
  obtain ⟨d, as, bs, r1, r2, c, e, q⟩ := a
  obtain ⟨ds, as', bs', r1', r2', c', e', q'⟩ := b
  refine ⟨d :: ds, _, _, .cons r1 r1', .cons r2 r2', ?_, ?_, ?_⟩
  · simp [PyData.canLayAll0, c, c']
  · simp only [PyData.depthAll]; omega
  · simp [PyData.eqvAll, q, q']
theorem SameAll.ints : ∀ {us vs : List Value} {xs : List Int}, IntsAre us xs → IntsAre vs xs → SameAll h k us vs
  | _, _, _, .nil, .nil => .nil
  | _, _, _, .cons _ _ a, .cons _ _ b => .cons .int (SameAll.ints a b)
theorem SameAll.app : ∀ {us vs us' vs' : List Value}, SameAll h k us vs → us.length = vs.length → SameAll h k us' vs' → SameAll h k (us ++ us') (vs ++ vs')
  | [], [], _, _, _, _, b => b
  | u :: us, v :: vs, _, _, a, e, b => by
    obtain ⟨ds, as, bs, r1, r2, c, dd, q⟩ := a
    cases r1 with
    | cons r1 r1' =>
      cases r2 with
      | cons r2 r2' =>
        simp only [PyData.canLayAll0, Bool.and_eq_true] at c
        simp only [PyData.depthAll] at dd
        simp only [PyData.eqvAll, Bool.and_eq_true] at q
        exact .cons ⟨_, _, _, r1, r2, c.1, by omega, q.1⟩ (SameAll.app ⟨_, _, _, r1', r2', c.2, by omega, q.2⟩ (by simpa using e) b)
theorem SameAll.appI {us us' vs' : List Value} {xs : List Int} (a : IntsAre us xs) (b : SameAll h k us' vs') : SameAll h k (us ++ us') (us ++ vs') := SameAll.app (.ints a a) rfl b
theorem Same.tup {a b : Addr} {us vs : List Value} {e1 e2 : Nat} (N : News h₀ L h news) (h1 : (a, tupO us e1) ∈ news) (h2 : (b, tupO vs e2) ∈ news) (r : SameAll h k us vs) : Same h (k + 1) (.ref a) (.ref b) := by
  obtain ⟨ds, as, bs, r1, r2, c, e, q⟩ := r
  refine ⟨.tuple ds, as, bs, .tuple (N _ h1).1 rfl rfl (by simpa using r1), .tuple (N _ h2).1 rfl rfl (by simpa using r2), by simpa [PyData.canLay0] using c, by simp only [PyData.depth]; omega, by simpa [PyData.eqv] using q⟩
theorem ne_same {a b : Value} {Q : Value → Shared → Prop} (r : Same s.heap 9 a b) (hu : A.units + 64 < cLine) (h : Q (.bool false) s) : wpAny (model prog w) A (compareOp .NotEq a b) Q E s := by
  obtain ⟨d, as, bs, r1, r2, c, e, q⟩ := r
  have hs : SeqAt.shaped d = true := by simp only [SeqAt.shaped, c, Bool.true_and, decide_eq_true_eq]; omega
  exact ne_dataH r1 r2 hs hs hu (by rw [q]; exact h)
theorem ne_nonempty {a b : Addr} {u : Value} {us : List Value} {e1 e2 : Nat} {Q : Value → Shared → Prop} (N : News h₀ L s.heap news) (h1 : (a, tupO (u :: us) e1) ∈ news) (h2 : (b, tupO [] e2) ∈ news) (r : SameAll s.heap 9 (u :: us) (u :: us))
    (hu : A.units + 64 < cLine) (h : Q (.bool true) s) : wpAny (model prog w) A (compareOp .NotEq (.ref a) (.ref b)) Q E s := by
  obtain ⟨ds, as, bs, r1, r2, c, e, q⟩ := r
  have hs : SeqAt.shaped (.tuple ds) = true := by
    have e2 : PyData.depth (.tuple ds) = PyData.depthAll ds + 1 := by simp only [PyData.depth]
    have e3 : PyData.canLay0 (.tuple ds) = true := by simpa [PyData.canLay0] using c
    have e4 : PyData.depthAll ds + 1 ≤ 64 := by omega
    simp [SeqAt.shaped, e2, e3, e4]
  refine ne_dataH (da := .tuple ds) (db := .tuple []) (.tuple (N _ h1).1 rfl rfl (by simpa using r1)) (.tuple (N _ h2).1 rfl rfl .nil) hs (by rfl) hu ?_
  cases r1 with
  | cons r1 r1' =>
    simp only [PyData.eqv, PyData.eqvAll, Bool.not_false]
    exact h
end
end Mine
namespace Mine
open PySem PySem.W PySem.Calls PyProof.Rows PySem.Spec

theorem Fr.know {h₀ h : Heap} {L : Addr} {m : Str → Option Value} {x : Str} {v : Value} (F : Fr h₀ L h m) (e : m x = some v) : Fr h₀ L h (fun y => if y = x then some v else m y) := by
  have : (fun y => if y = x then some v else m y) = m := by
    funext y
    by_cases q : y = x
    · subst q; rw [if_pos rfl, e]
    · rw [if_neg q]
  rw [this]; exact F
section
variable {prog : Program} {w : World} {A : Around} {E : Value → Shared → Prop} {s : Shared} {env : Env} {h₀ : Heap} {x : Str} {body : List Stmt} {Q : Flow → Shared → Prop}
theorem UnrPost.mono {L : Addr} {s₁ : Shared} {I : Addr} {it : Obj} {rest rest' : (Str → Option Value) → Led → Prop} {f : Flow} {s₂ : Shared} (h : UnrPost h₀ L s₁ I it rest Q f s₂) (hr : ∀ m n, rest m n → rest' m n) : UnrPost h₀ L s₁ I it rest' Q f s₂ := by
  cases f with
  | ret v => exact h
  | brk => exact h
  | next => obtain ⟨h', tk, m', n', a, b, c, d, e⟩ := h; exact ⟨h', tk, m', n', a, b, c, d, hr _ _ e⟩
  | cont => obtain ⟨h', tk, m', n', a, b, c, d, e⟩ := h; exact ⟨h', tk, m', n', a, b, c, d, hr _ _ e⟩
theorem range_inv {I : Addr} {a : Int} {n : Nat} (J : Nat → (Str → Option Value) → Led → Prop)
    (turn : ∀ i m news t h tk, i < n → J i m news → Fr h₀ env.locals h (fun y => if y = x then some (.int (a + (i : Int)) t) else m y) → News h₀ env.locals h ((I, itR (a + ((i + 1 : Nat) : Int)) ((n : Int) - ((i + 1 : Nat) : Int))) :: news) →
      wpAny (model prog w) A (execs body env) (UnrPost h₀ env.locals { s with heap := h, toks := tk } I (itR (a + ((i + 1 : Nat) : Int)) ((n : Int) - ((i + 1 : Nat) : Int))) (J (i + 1)) Q) E { s with heap := h, toks := tk })
    (done : ∀ m news h tk, J n m news → Fr h₀ env.locals h m → News h₀ env.locals h news → Q .next { s with heap := h, toks := tk }) :
    ∀ k i m news, i + k = n → J i m news → RangeRest prog w A E h₀ env x body Q s I a n k i m news
  | 0, i, m, news, e, hj => by
    obtain rfl : i = n := by omega
    exact RangeRest.zero fun h tk F N => done m news h tk hj F N
  | k + 1, i, m, news, e, hj => RangeRest.succ fun t h tk F N => wpAny_mono (turn i m news t h tk (by omega) hj F N) (fun _ _ q => UnrPost.mono q fun m' n' j => range_inv J turn done k (i + 1) m' n' (by omega) j) fun _ _ q => q
theorem range_sub {I : Addr} {a : Int} {n k i : Nat} {m : Str → Option Value} {news nx : Led} (hs : ∀ p ∈ nx, p ∈ news) (r : RangeRest prog w A E h₀ env x body Q s I a n k i m nx) : RangeRest prog w A E h₀ env x body Q s I a n k i m news := by
  cases k with
  | zero => exact RangeRest.zero fun h tk F N => r h tk F fun p hp => N p (hs p hp)
  | succ k => exact RangeRest.succ fun t h tk F N => r t h tk F fun p hp => N p (by
      rcases List.mem_cons.mp hp with rfl | hp
      · exact .head _
      · exact .tail _ (hs p hp))
end
section
variable {prog : Program} {w : World} {A : Around} {E : Value → Shared → Prop} {s : Shared}
theorem ne_bool_same {b : Bool} {Q : Value → Shared → Prop} (h : Q (.bool false) s) : wpAny (model prog w) A (compareOp .NotEq (.bool b) (.bool b)) Q E s := ne_bool (by simpa using h)
end
theorem ty_ne {a b : String} (h : a ≠ b) : Value.type a ≠ Value.type b := fun q => by injection q with q; exact absurd q h
theorem ty_ref {a : String} {b : Addr} : Value.type a ≠ Value.ref b := fun q => by cases q
theorem list_ne_tup : Value.type "list" ≠ Value.type "tuple" := fun h => by injection h with h; exact absurd h (by decide)
theorem list_ne_dict : Value.type "list" ≠ Value.type "dict" := fun h => by injection h with h; exact absurd h (by decide)
theorem list_ne_rit : Value.type "list" ≠ Value.type "range_iterator" := fun h => by injection h with h; exact absurd h (by decide)
theorem list_ne_ref {a : Addr} : Value.type "list" ≠ Value.ref a := fun h => by cases h
theorem ints_len1 {us : List Value} {xs : List Int} (h : IntsAre us xs) (e : xs.length = 1) : ∃ a1 t1, us = [.int a1 t1] ∧ xs = [a1] := by
  match xs, h, e with
  | [a], q, _ => obtain ⟨ta, _, rfl, q1⟩ := ints1 q; obtain rfl := ints0 q1; exact ⟨a, ta, rfl, rfl⟩
theorem ints_len2 {us : List Value} {xs : List Int} (h : IntsAre us xs) (e : xs.length = 2) : ∃ a1 t1 a2 t2, us = [.int a1 t1, .int a2 t2] ∧ xs = [a1, a2] := by
  match xs, h, e with
  | b :: r, q, e => obtain ⟨tb, us', rfl, q1⟩ := ints1 q; obtain ⟨a1, t1, e1, e2⟩ := ints_len1 q1 (by simpa using e); exact ⟨b, tb, a1, t1, by rw [e1], by rw [e2]⟩
theorem ints_len3 {us : List Value} {xs : List Int} (h : IntsAre us xs) (e : xs.length = 3) : ∃ a1 t1 a2 t2 a3 t3, us = [.int a1 t1, .int a2 t2, .int a3 t3] ∧ xs = [a1, a2, a3] := by
  match xs, h, e with
  | b :: r, q, e => obtain ⟨tb, us', rfl, q1⟩ := ints1 q; obtain ⟨a1, t1, a2, t2, e1, e2⟩ := ints_len2 q1 (by simpa using e); exact ⟨b, tb, a1, t1, a2, t2, by rw [e1], by rw [e2]⟩
theorem ints_len4 {us : List Value} {xs : List Int} (h : IntsAre us xs) (e : xs.length = 4) : ∃ a1 t1 a2 t2 a3 t3 a4 t4, us = [.int a1 t1, .int a2 t2, .int a3 t3, .int a4 t4] ∧ xs = [a1, a2, a3, a4] := by
  match xs, h, e with
  | b :: r, q, e => obtain ⟨tb, us', rfl, q1⟩ := ints1 q; obtain ⟨a1, t1, a2, t2, a3, t3, e1, e2⟩ := ints_len3 q1 (by simpa using e); exact ⟨b, tb, a1, t1, a2, t2, a3, t3, by rw [e1], by rw [e2]⟩
theorem ints_len5 {us : List Value} {xs : List Int} (h : IntsAre us xs) (e : xs.length = 5) : ∃ a1 t1 a2 t2 a3 t3 a4 t4 a5 t5, us = [.int a1 t1, .int a2 t2, .int a3 t3, .int a4 t4, .int a5 t5] ∧ xs = [a1, a2, a3, a4, a5] := by
  match xs, h, e with
  | b :: r, q, e => obtain ⟨tb, us', rfl, q1⟩ := ints1 q; obtain ⟨a1, t1, a2, t2, a3, t3, a4, t4, e1, e2⟩ := ints_len4 q1 (by simpa using e); exact ⟨b, tb, a1, t1, a2, t2, a3, t3, a4, t4, by rw [e1], by rw [e2]⟩
theorem ints_len6 {us : List Value} {xs : List Int} (h : IntsAre us xs) (e : xs.length = 6) : ∃ a1 t1 a2 t2 a3 t3 a4 t4 a5 t5 a6 t6, us = [.int a1 t1, .int a2 t2, .int a3 t3, .int a4 t4, .int a5 t5, .int a6 t6] ∧ xs = [a1, a2, a3, a4, a5, a6] := by
  match xs, h, e with
  | b :: r, q, e => obtain ⟨tb, us', rfl, q1⟩ := ints1 q; obtain ⟨a1, t1, a2, t2, a3, t3, a4, t4, a5, t5, e1, e2⟩ := ints_len5 q1 (by simpa using e); exact ⟨b, tb, a1, t1, a2, t2, a3, t3, a4, t4, a5, t5, by rw [e1], by rw [e2]⟩
def Stop (P : Prop) : Prop := P
theorem Stop.of {P : Prop} (h : Stop P) : P := h
theorem Stop.out {P : Prop} (h : P) : Stop P := h
end Mine
namespace Mine
open PySem PySem.W PySem.Calls PyProof.Rows PySem.Spec


set_option maxHeartbeats 8000000 in
theorem told_con (w : World) (mean : ExcName → Option Value) (mg mb : Str → Option Value) {fa l : Addr} {vs : List Value} {ns : List Int} {n : Int} {tk : Tok} {e ne : Nat}
    (hI : FeedIn vs ns n) (hn : n < 8000) (hne : @Ne Nat fa l) :
    Con w mean mg mb 4 396 [.ref fa] [(fa, feedO l n tk e), (l, listOf vs.toArray ne)] (fun nn r => ∃ o' own, nn = (fa, o') :: (own ++ [(l, listOf vs.toArray ne)]) ∧ (FeedPost l n (n + (40 : Nat)) o' ∧ ToldP own r) ∧ OwnNe own ((fa, feedO l n tk e) :: [(l, listOf vs.toArray ne)])) := by
  k_dflt (
  refine' con_ofC ?k7 ?k8 ?kA ?kB ?kD ?_ ?c2 ?c3 ?c4;
  (case k7 => k_is); (case k8 => k_is);
  (case kA => exact fun _ => BindsTo.of_eq rfl); (case kB => exact rfl); (case kD => decide +kernel); (case c2 => exact rfl); (case c3 => exact rfl); (case c4 => exact rfl))
  intro dp gd un outer base g s B st sz X T hroom hu L' h₁ tk' cells' Q' F N' Y' hlt hret
  (try k_lt hlt)
  k_cells Y'
  (try simp only [List.cons_append, List.nil_append] at N')
  (try dsimp only at *); (try k_lift B); (try k_fold)
  k_with_none
  k_with "call builtin:len!" => ((
  k_here
  (with_reducible show wpAny _ _ (PySem.call (Value.builtin _) [Value.ref _]) _ _ _)
  k_dflt (refine' len_tupN ?N ?m ?i ?f ?_; (case N => k_asm); (case m => k_mem); (case i => with_reducible assumption); (case f => omega))
  k_whole))
  k_with "subscriptTail!" => ((
  k_here
  (with_reducible show wpAny _ _ (subscriptTail _ _ (Value.ref _) (Value.int _ _)) _ _ _)
  k_dflt (first
    | (refine' item_tupN ?N ?m ?i ?h0 ?h1 ?f ?_ ?k6; (case N => k_asm); (case m => k_mem); (case i => with_reducible assumption); (case h0 => omega); (case h1 => omega); (case f => omega); (case k6 => with_unfolding_all rfl))
    | ((with_reducible show wpAny _ _ (subscriptTail _ _ (Value.ref _) (Value.int (-1) _)) _ _ _); refine' item_tup_last ?N ?m ?i ?h1 ?_ ?k6; (case N => k_asm); (case m => k_mem); (case i => with_reducible assumption); (case h1 => omega); (case k6 => with_unfolding_all rfl)))
  k_whole
  intro t'))
  k_with "call type:tuple!" => ((
  k_here
  (with_reducible show wpAny _ _ (PySem.call (Value.type _) [Value.ref _]) _ _ _)
  k_dflt (refine' tup_sameN ?N ?m ?_; (case N => k_asm); (case m => k_mem))
  k_whole))
  k_with "pyIter ref!" => ((
  k_here
  (with_reducible show wpAny _ _ (pyIter (Value.ref _)) (fun it s₂ => LoopAtV _ _ _ _ _ _ _ _ _ it s₂) _ _)
  k_dflt (refine' iter_tupUnr ?hh ?F ?N ?m ?_; (case hh => exact rfl); (case F => k_asm); (case N => k_asm); (case m => k_mem))
  k_whole
  intro i' l1
  (try k_lt l1)))
  k_with "TupRest!" => ((with_unfolding_all first | (refine TupRest.succ (fun it' h' tk' hit' F' N' => ?_)) | (refine TupRest.zero (fun h' tk' F' N' => ?_))))
  k_with "compareOp In int ref!" => ((
  k_here
  (with_reducible show wpAny _ _ (compareOp CmpOp.In (Value.int _ _) (Value.ref _)) _ _ _)
  k_dflt (refine in_rangeK (by with_reducible assumption) ?_)
  k_whole))
  k_with "binaryOp Add ref ref!" => ((
  k_here
  k_dflt (refine' add_tupN ?F ?N ?m1 ?m2 ?v ?w ?z ?_; (case F => k_asm); (case N => k_asm); (case m1 => k_mem); (case m2 => k_mem); (case v => ((try simp only [List.length_append, List.length_cons, List.length_nil]); omega)); (case w => ((try simp only [List.length_append, List.length_cons, List.length_nil]); omega)); (case z => ((try simp only [List.length_append, List.length_cons, List.length_nil]); omega)))
  k_whole
  intro D' h' F' N' l1
  (try simp only [List.cons_append, List.nil_append, List.append_assoc] at N'); (try k_lt l1); (try dsimp only); (try k_fold)))
  k_with "CompRest!" => ((with_unfolding_all first
  | (refine LCg.CompRest.succ ?_; intro v' I' oI' C' oC' D' m' h' tk' E' hv' hC' hx' F' N' off' ne'; (first | lcg_open hv' | (obtain ⟨t9', hv9'⟩ := hv'; subst hv9')); replace ne' := Apart3.of ne')
  | refine LCg.CompRest.zero ?_))
  k_with "FinE!" => (((unfold LCg.FinE); intro D' h' tk' F' N' o1'; (try simp only [List.nil_append, List.cons_append] at N'); (try dsimp only)))
  k_with "FinA!" => (((unfold LCg.FinA); intro D' h' tk' F' N' o1'; (try simp only [List.nil_append, List.cons_append] at N'); (try dsimp only)))
  k_with "call ref!" => ((
  k_here
  (with_reducible show wpAny _ _ (PySem.call (Value.ref 386) _ _) _ _ _)
  k_dflt (
    refine wpAny_call ?_
    refine' dip_use ?c5 ?c3 ?c1 ?c2 ?c4 ?c6 ?c7 ?c8 ?hc ?hI ?hne ?hcl ?hm ?hm2 ?c9 ?c10 ?c11 ?c12 ?c13 ?_
    (case c1 => exact rfl); (case c3 => k_asm); (case c2 => k_asm); (case c4 => k_asm); (case c5 => k_asm); (case c6 => k_asm); (case c7 => k_updF); (case c8 => k_mem)
    (case hc => with_reducible assumption); (case hI => with_reducible assumption); (case hne => first | exact AllNe.ne (by with_reducible assumption) (by k_mem) | with_reducible assumption | omega); (case hcl => exact Nat.le_of_ble_eq_true rfl); (case hm => first | with_reducible assumption | decide); (case hm2 => first | with_reducible assumption | decide)
    (case c9 => exact rfl); (case c10 => exact rfl); (case c11 => first | exact rfl | assumption); (case c12 => ktr_room); (case c13 => ktr_units)
    k_whole
    intro i9' t9' n9' tk9' e9' h9' u9' F9' N9' c9' l9' m9'
    (try dsimp only at N9')
    (try dsimp only)
    (try k_fold))))
  k_with "call ref!" => ((
  k_here
  (with_reducible show wpAny _ _ (PySem.call (Value.ref 391) _ _) _ _ _)
  k_dflt (
    refine wpAny_call ?_
    refine' row_use ?c5 ?c3 ?c1 ?c2 ?c4 ?c6 ?c7 ?c8 ?hc ?hI ?hne ?hn0 ?hcl ?hm0 ?hm1 ?hm ?hm2 ?hm3 ?hm4 ?c9 ?c10 ?c11 ?c12 ?c13 ?_
    (case c1 => exact rfl); (case c3 => k_asm); (case c2 => k_asm); (case c4 => k_asm); (case c5 => k_asm); (case c6 => k_asm); (case c7 => k_updF); (case c8 => k_mem)
    (case hc => with_reducible assumption); (case hI => with_reducible assumption); (case hne => first | exact AllNe.ne (by with_reducible assumption) (by k_mem) | with_reducible assumption | omega); (case hn0 => with_reducible assumption); (case hcl => exact Nat.le_of_ble_eq_true rfl)
    (case hm0 => first | with_reducible assumption | exact Int.natCast_nonneg _ | exact many_lo (by with_reducible assumption) | omega); (case hm1 => first | with_reducible assumption | exact many_hi (by with_reducible assumption) | exact many_nat (by with_reducible assumption) (by with_reducible assumption) | omega)
    (case hm => decide); (case hm2 => decide); (case hm3 => decide); (case hm4 => decide)
    (case c9 => exact rfl); (case c10 => exact rfl); (case c11 => first | exact rfl | assumption); (case c12 => ktr_room); (case c13 => ktr_units)
    k_whole
    intro a9' us9' xs9' n9' tk9' e9' h9' u9' F9' N9' c9' o9' q9' l9' i9'
    (try dsimp only at N9')
    (try dsimp only)
    (try k_fold))))
  k_with "CompSrc!" => ((
  k_here
  k_dflt (refine' src_range4 ?c1 ?c2 ?c3 ?c4 ?c5 ?c6 ?_ ?_ ?_ ?_; (case c1 => exact rfl); (case c2 => k_asm); (case c3 => k_asm); (case c4 => assumption); (case c5 => omega); (case c6 => omega)) <;> intro hb' g'))
  have hfd := @Fd.start n
  (repeat' (first | (k_unfold; (try dsimp only)) | walk1 | (dsimp only; walk1) | (leave1; (try dsimp only))))
  all_goals (try dsimp only)
  · refine' feed_ret hret (by k_asm) (cb_drop (by assumption) ?subelem) (ToldP.elem ?h0elem ?h1elem ?h2elem) (Fd.post (k := 40) (by with_reducible assumption) (Nat.le_of_ble_eq_true rfl)) ?nelem ?oelem
    (case subelem => lcg_sub)
    (case nelem => exact List.forall_mem_cons.mpr ⟨rfl, List.forall_mem_nil _⟩)
    (case oelem => repeat' (first | exact List.forall_mem_nil _ | refine List.forall_mem_cons.mpr ⟨rfl, ?_⟩))
    all_goals (try (with_reducible exact IntsIn.weak (by assumption) (by decide) (by decide)))
    all_goals with_reducible (first | exact len_lo (by assumption) (by assumption) | exact len_hi (by assumption) (by assumption) | exact len_eq (by assumption) (by assumption))
  · refine' feed_ret hret (by k_asm) (cb_drop (by assumption) ?subelof) (ToldP.elof ?h0elof ?h1elof ?h2elof) (Fd.post (k := 40) (by with_reducible assumption) (Nat.le_of_ble_eq_true rfl)) ?nelof ?oelof
    (case subelof => lcg_sub)
    (case nelof => exact List.forall_mem_cons.mpr ⟨rfl, List.forall_mem_nil _⟩)
    (case oelof => repeat' (first | exact List.forall_mem_nil _ | refine List.forall_mem_cons.mpr ⟨rfl, ?_⟩))
    all_goals (try (with_reducible exact IntsIn.weak (by assumption) (by decide) (by decide)))
    all_goals with_reducible (first | exact len_lo (by assumption) (by assumption) | exact len_hi (by assumption) (by assumption) | exact len_eq (by assumption) (by assumption))
  · refine' feed_ret hret (by k_asm) (cb_drop (by assumption) ?subtab0) (ToldP.tab0 ?h0tab0 ?h1tab0 ?h2tab0) (Fd.post (k := 40) (by with_reducible assumption) (Nat.le_of_ble_eq_true rfl)) ?ntab0 ?otab0
    (case subtab0 => lcg_sub)
    (case ntab0 => exact List.forall_mem_cons.mpr ⟨rfl, List.forall_mem_nil _⟩)
    (case otab0 => repeat' (first | exact List.forall_mem_nil _ | refine List.forall_mem_cons.mpr ⟨rfl, ?_⟩))
    all_goals (try (with_reducible exact IntsIn.weak (by assumption) (by decide) (by decide)))
    all_goals with_reducible (first | exact len_lo (by assumption) (by assumption) | exact len_hi (by assumption) (by assumption) | exact len_eq (by assumption) (by assumption))
  · refine' feed_ret hret (by k_asm) (cb_drop (by assumption) ?subtab1) (ToldP.tab1 ?h0tab1 ?h1tab1 ?h2tab1 ?h3tab1 ?h4tab1) (Fd.post (k := 40) (by with_reducible assumption) (Nat.le_of_ble_eq_true rfl)) ?ntab1 ?otab1
    (case subtab1 => lcg_sub)
    (case ntab1 => exact List.forall_mem_cons.mpr ⟨rfl, List.forall_mem_nil _⟩)
    (case otab1 => repeat' (first | exact List.forall_mem_nil _ | refine List.forall_mem_cons.mpr ⟨rfl, ?_⟩))
    all_goals (try (with_reducible exact IntsIn.weak (by assumption) (by decide) (by decide)))
    all_goals with_reducible (first | exact len_lo (by assumption) (by assumption) | exact len_hi (by assumption) (by assumption) | exact len_eq (by assumption) (by assumption))
  · refine' feed_ret hret (by k_asm) (cb_drop (by assumption) ?subtab2) (ToldP.tab2 ?h0tab2 ?h1tab2 ?h2tab2 ?h3tab2 ?h4tab2 ?h5tab2 ?h6tab2) (Fd.post (k := 40) (by with_reducible assumption) (Nat.le_of_ble_eq_true rfl)) ?ntab2 ?otab2
    (case subtab2 => lcg_sub)
    (case ntab2 => exact List.forall_mem_cons.mpr ⟨rfl, List.forall_mem_nil _⟩)
    (case otab2 => repeat' (first | exact List.forall_mem_nil _ | refine List.forall_mem_cons.mpr ⟨rfl, ?_⟩))
    all_goals (try (with_reducible exact IntsIn.weak (by assumption) (by decide) (by decide)))
    all_goals with_reducible (first | exact len_lo (by assumption) (by assumption) | exact len_hi (by assumption) (by assumption) | exact len_eq (by assumption) (by assumption))
  · refine' feed_ret hret (by k_asm) (cb_drop (by assumption) ?subtab3) (ToldP.tab3 ?h0tab3 ?h1tab3 ?h2tab3 ?h3tab3 ?h4tab3 ?h5tab3 ?h6tab3 ?h7tab3 ?h8tab3) (Fd.post (k := 40) (by with_reducible assumption) (Nat.le_of_ble_eq_true rfl)) ?ntab3 ?otab3
    (case subtab3 => lcg_sub)
    (case ntab3 => exact List.forall_mem_cons.mpr ⟨rfl, List.forall_mem_nil _⟩)
    (case otab3 => repeat' (first | exact List.forall_mem_nil _ | refine List.forall_mem_cons.mpr ⟨rfl, ?_⟩))
    all_goals (try (with_reducible exact IntsIn.weak (by assumption) (by decide) (by decide)))
    all_goals with_reducible (first | exact len_lo (by assumption) (by assumption) | exact len_hi (by assumption) (by assumption) | exact len_eq (by assumption) (by assumption))
  · refine' feed_ret hret (by k_asm) (cb_drop (by assumption) ?subinv) (ToldP.inv ?h0inv ?h1inv ?h2inv ?h3inv ?h4inv) (Fd.post (k := 40) (by with_reducible assumption) (Nat.le_of_ble_eq_true rfl)) ?ninv ?oinv
    (case subinv => lcg_sub)
    (case ninv => exact List.forall_mem_cons.mpr ⟨rfl, List.forall_mem_nil _⟩)
    (case oinv => repeat' (first | exact List.forall_mem_nil _ | refine List.forall_mem_cons.mpr ⟨rfl, ?_⟩))
    all_goals (try (with_reducible exact IntsIn.weak (by assumption) (by decide) (by decide)))
    all_goals with_reducible (first | exact len_lo (by assumption) (by assumption) | exact len_hi (by assumption) (by assumption) | exact len_eq (by assumption) (by assumption))
  · refine' feed_ret hret (by k_asm) (cb_drop (by assumption) ?subcirc) (ToldP.circ ?h0circ ?h1circ ?h2circ) (Fd.post (k := 40) (by with_reducible assumption) (Nat.le_of_ble_eq_true rfl)) ?ncirc ?ocirc
    (case subcirc => lcg_sub)
    (case ncirc => exact List.forall_mem_cons.mpr ⟨rfl, List.forall_mem_nil _⟩)
    (case ocirc => repeat' (first | exact List.forall_mem_nil _ | refine List.forall_mem_cons.mpr ⟨rfl, ?_⟩))
    all_goals (try (with_reducible exact IntsIn.weak (by assumption) (by decide) (by decide)))
    all_goals with_reducible (first | exact len_lo (by assumption) (by assumption) | exact len_hi (by assumption) (by assumption) | exact len_eq (by assumption) (by assumption))
end Mine
namespace Mine
open PySem PySem.W PySem.Calls PyProof.Rows PySem.Spec

set_option maxHeartbeats 8000000 in
theorem values_any (w : World) (mean : ExcName → Option Value) (mg mb : Str → Option Value) {fa l t sc : Addr} {vs ss rest : List Value} {ns zs : List Int} {nm : Str} {ts : Tok} {n lap : Int} {tk tl : Tok} {e ne : Nat} {q : Nat}
    (hi : IntsAre vs ns) (hlen : ns.length ≤ 63) (hne : AllNe fa [(l, listOf vs.toArray ne), (t, tupO (.str nm ts :: rest) 0), (sc, tupO ss 0)]) (h0 : 0 ≤ n) (hn : n < 8000) (hs : IntsAre ss zs) (hsl : zs.length = q) (h1 : 1 ≤ q) (h3 : q ≤ 8) (hl : lap ≠ 0) :
    Con w mean mg mb 4 413 [.ref fa, .ref t, .ref sc, .int lap tl] ((fa, feedO l n tk e) :: [(l, listOf vs.toArray ne), (t, tupO (.str nm ts :: rest) 0), (sc, tupO ss 0)])
      (fun nn r => ∃ o' own, nn = (fa, o') :: (own ++ [(l, listOf vs.toArray ne), (t, tupO (.str nm ts :: rest) 0), (sc, tupO ss 0)]) ∧ (FeedPost l n (n + 8) o' ∧ ValP q own r) ∧ OwnNe own ((fa, feedO l n tk e) :: [(l, listOf vs.toArray ne), (t, tupO (.str nm ts :: rest) 0), (sc, tupO ss 0)])) := by
  k_dflt (
  refine' con_ofC ?k7 ?k8 ?kA ?kB ?kD ?_ ?c2 ?c3 ?c4;
  (case k7 => k_is); (case k8 => k_is);
  (case kA => exact fun _ => BindsTo.of_eq rfl); (case kB => exact rfl); (case kD => decide +kernel); (case c2 => exact rfl); (case c3 => exact rfl); (case c4 => exact rfl))
  intro dp gd un outer base g s B st sz X T hroom hu L' h₁ tk' cells' Q' F N' Y' hlt hret
  (try k_lt hlt)
  k_cells Y'
  (try simp only [List.cons_append, List.nil_append] at N')
  (try dsimp only at *); (try k_lift B); (try k_fold)
  k_with_none
  k_with "call builtin:len!" => ((
  k_here
  (with_reducible show wpAny _ _ (PySem.call (Value.builtin _) [Value.ref _]) _ _ _)
  k_dflt (refine' len_tupN ?N ?m ?i ?f ?_; (case N => k_asm); (case m => k_mem); (case i => with_reducible assumption); (case f => omega))
  k_whole))
  k_with "subscriptTail!" => ((
  k_here
  (with_reducible show wpAny _ _ (subscriptTail _ _ (Value.ref _) (Value.int _ _)) _ _ _)
  k_dflt (first
    | (refine' item_tupN ?N ?m ?i ?h0 ?h1 ?f ?_ ?k6; (case N => k_asm); (case m => k_mem); (case i => with_reducible assumption); (case h0 => omega); (case h1 => omega); (case f => omega); (case k6 => with_unfolding_all rfl))
    | ((with_reducible show wpAny _ _ (subscriptTail _ _ (Value.ref _) (Value.int (-1) _)) _ _ _); refine' item_tup_last ?N ?m ?i ?h1 ?_ ?k6; (case N => k_asm); (case m => k_mem); (case i => with_reducible assumption); (case h1 => omega); (case k6 => with_unfolding_all rfl)))
  k_whole
  intro t'))
  k_with "call type:tuple!" => ((
  k_here
  (with_reducible show wpAny _ _ (PySem.call (Value.type _) [Value.ref _]) _ _ _)
  k_dflt (refine' tup_sameN ?N ?m ?_; (case N => k_asm); (case m => k_mem))
  k_whole))
  k_with "pyIter ref!" => ((
  k_here
  (with_reducible show wpAny _ _ (pyIter (Value.ref _)) (fun it s₂ => LoopAtV _ _ _ _ _ _ _ _ _ it s₂) _ _)
  k_dflt (refine' iter_tupUnr ?hh ?F ?N ?m ?_; (case hh => exact rfl); (case F => k_asm); (case N => k_asm); (case m => k_mem))
  k_whole
  intro i' l1
  (try k_lt l1)))
  k_with "TupRest!" => ((with_unfolding_all first | (refine TupRest.succ (fun it' h' tk' hit' F' N' => ?_)) | (refine TupRest.zero (fun h' tk' F' N' => ?_))))
  k_with "compareOp In int ref!" => ((
  k_here
  (with_reducible show wpAny _ _ (compareOp CmpOp.In (Value.int _ _) (Value.ref _)) _ _ _)
  k_dflt (refine in_rangeK (by with_reducible assumption) ?_)
  k_whole))
  k_with "binaryOp Add ref ref!" => ((
  k_here
  k_dflt (refine' add_tupN ?F ?N ?m1 ?m2 ?v ?w ?z ?_; (case F => k_asm); (case N => k_asm); (case m1 => k_mem); (case m2 => k_mem); (case v => ((try simp only [List.length_append, List.length_cons, List.length_nil]); omega)); (case w => ((try simp only [List.length_append, List.length_cons, List.length_nil]); omega)); (case z => ((try simp only [List.length_append, List.length_cons, List.length_nil]); omega)))
  k_whole
  intro D' h' F' N' l1
  (try simp only [List.cons_append, List.nil_append, List.append_assoc] at N'); (try k_lt l1); (try dsimp only); (try k_fold)))
  k_with "CompRest!" => ((with_unfolding_all first
  | (refine LCg.CompRest.succ ?_; intro v' I' oI' C' oC' D' m' h' tk' E' hv' hC' hx' F' N' off' ne'; (first | lcg_open hv' | (obtain ⟨t9', hv9'⟩ := hv'; subst hv9')); replace ne' := Apart3.of ne')
  | refine LCg.CompRest.zero ?_))
  k_with "FinE!" => (((unfold LCg.FinE); intro D' h' tk' F' N' o1'; (try simp only [List.nil_append, List.cons_append] at N'); (try dsimp only)))
  k_with "FinA!" => (((unfold LCg.FinA); intro D' h' tk' F' N' o1'; (try simp only [List.nil_append, List.cons_append] at N'); (try dsimp only)))
  k_with "call ref!" => ((
  k_here
  (with_reducible show wpAny _ _ (PySem.call (Value.ref 391) _ _) _ _ _)
  k_dflt (
    refine wpAny_call ?_
    refine' row_use ?c5 ?c3 ?c1 ?c2 ?c4 ?c6 ?c7 ?c8 ?hc ?hI ?hne ?hn0 ?hcl ?hm0 ?hm1 ?hm ?hm2 ?hm3 ?hm4 ?c9 ?c10 ?c11 ?c12 ?c13 ?_
    (case c1 => exact rfl); (case c3 => k_asm); (case c2 => k_asm); (case c4 => k_asm); (case c5 => k_asm); (case c6 => k_asm); (case c7 => k_updF); (case c8 => k_mem)
    (case hc => with_reducible assumption); (case hI => with_reducible assumption); (case hne => first | exact AllNe.ne (by with_reducible assumption) (by k_mem) | with_reducible assumption | omega); (case hn0 => with_reducible assumption); (case hcl => exact Nat.le_of_ble_eq_true rfl)
    (case hm0 => first | with_reducible assumption | exact Int.natCast_nonneg _ | exact many_lo (by with_reducible assumption) | omega); (case hm1 => first | with_reducible assumption | exact many_hi (by with_reducible assumption) | exact many_nat (by with_reducible assumption) (by with_reducible assumption) | omega)
    (case hm => decide); (case hm2 => decide); (case hm3 => decide); (case hm4 => decide)
    (case c9 => exact rfl); (case c10 => exact rfl); (case c11 => first | exact rfl | assumption); (case c12 => ktr_room); (case c13 => ktr_units)
    k_whole
    intro a9' us9' xs9' n9' tk9' e9' h9' u9' F9' N9' c9' o9' q9' l9' i9'
    (try dsimp only at N9')
    (try dsimp only)
    (try k_fold))))
  k_with "subscriptTail!" => ((
  k_here
  (with_reducible show wpAny _ _ (subscriptTail _ _ (Value.ref _) (Value.int 0 _)) _ _ _)
  k_dflt (refine' item_head ?N ?m ?_ ?k6; (case N => k_asm); (case m => k_mem); (case k6 => with_unfolding_all rfl))
  k_whole))
  have hI : FeedIn vs ns n := ⟨hi, hlen, h0, Int.lt_trans hn (by decide)⟩
  have hfd := @Fd.start n
  clear hi hlen h0
  have hlb : (lap == 0) = false := by simpa using hl
  clear hl
  iterate 170 (try (first | (k_unfold; (try dsimp only)) | walk1 | (dsimp only; walk1)))
  refine' hret _ _ _ _ _ (by k_asm) (cb_drop (by assumption) ?sub) ⟨_, _, rfl, ⟨Fd.post8 (by with_reducible assumption) (Nat.le_refl _), _, _, _, rfl, rfl, IntsIn.are (by with_reducible assumption), len_nat (by with_reducible assumption) (by with_reducible assumption)⟩, ?ne⟩
  (case sub => lcg_sub)
  (case ne => exact ownNe_one (List.forall_mem_cons.mpr ⟨AllNe.ne (by with_reducible assumption) (by k_mem), List.forall_mem_cons.mpr ⟨AllNe.ne (by with_reducible assumption) (by k_mem), List.forall_mem_cons.mpr ⟨AllNe.ne (by with_reducible assumption) (by k_mem), List.forall_mem_cons.mpr ⟨AllNe.ne (by with_reducible assumption) (by k_mem), List.forall_mem_nil _⟩⟩⟩⟩))
end Mine
namespace Mine
open PySem PySem.W PySem.Calls PyProof.Rows PySem.Spec

set_option maxHeartbeats 4000000 in
theorem choice_elem (w : World) (mean : ExcName → Option Value) (mg mb : Str → Option Value) {t o : Addr} {os : List Value} {ys : List Int} {i z : Int} {ti tz ts : Tok}
    (hj : IntsAre os ys) (h3 : 1 ≤ ys.length) (h8 : ys.length ≤ 3) :
    Con w mean mg mb 6 379 [.ref t] [(t, tupO [.str (Str.ofString "element") ts, .int i ti, .ref o, .int z tz] 0), (o, tupO os 0)] (NewPost (ChElem w i z ti tz o os) [(t, tupO [.str (Str.ofString "element") ts, .int i ti, .ref o, .int z tz] 0), (o, tupO os 0)]) := by
  k_dflt (
  refine' con_of ?k7 ?k8 ?kA ?kB ?_ ?c2 ?c3 ?c4 ?c5;
  (case k7 => k_is); (case k8 => k_is);
  (case kA => exact fun _ => BindsTo.of_eq rfl); (case kB => exact locs rfl); (case c2 => exact rfl); (case c3 => exact rfl); (case c4 => exact rfl); (case c5 => decide))
  intro dp gd un outer base g s B st sz X T hroom hu L' h₁ Q' F N hlt hret
  (try k_lt hlt); (try dsimp only at *); (try k_lift B); (try k_fold)
  k_with_none
  k_with "call builtin:len!" => ((
  k_here
  (with_reducible show wpAny _ _ (PySem.call (Value.builtin _) [Value.ref _]) _ _ _)
  k_dflt (refine' len_tupN ?N ?m ?i ?f ?_; (case N => k_asm); (case m => k_mem); (case i => with_reducible assumption); (case f => omega))
  k_whole))
  k_with "subscriptTail!" => ((
  k_here
  (with_reducible show wpAny _ _ (subscriptTail _ _ (Value.ref _) (Value.int _ _)) _ _ _)
  k_dflt (first
    | (refine' item_tupN ?N ?m ?i ?h0 ?h1 ?f ?_ ?k6; (case N => k_asm); (case m => k_mem); (case i => with_reducible assumption); (case h0 => omega); (case h1 => omega); (case f => omega); (case k6 => with_unfolding_all rfl))
    | ((with_reducible show wpAny _ _ (subscriptTail _ _ (Value.ref _) (Value.int (-1) _)) _ _ _); refine' item_tup_last ?N ?m ?i ?h1 ?_ ?k6; (case N => k_asm); (case m => k_mem); (case i => with_reducible assumption); (case h1 => omega); (case k6 => with_unfolding_all rfl)))
  k_whole
  intro t'))
  k_with "call type:tuple!" => ((
  k_here
  (with_reducible show wpAny _ _ (PySem.call (Value.type _) [Value.ref _]) _ _ _)
  k_dflt (refine' tup_sameN ?N ?m ?_; (case N => k_asm); (case m => k_mem))
  k_whole))
  k_with "pyIter ref!" => ((
  k_here
  (with_reducible show wpAny _ _ (pyIter (Value.ref _)) (fun it s₂ => LoopAtV _ _ _ _ _ _ _ _ _ it s₂) _ _)
  k_dflt (refine' iter_tupUnr ?hh ?F ?N ?m ?_; (case hh => exact rfl); (case F => k_asm); (case N => k_asm); (case m => k_mem))
  k_whole
  intro i' l1
  (try k_lt l1)))
  k_with "TupRest!" => ((with_unfolding_all first | (refine TupRest.succ (fun it' h' tk' hit' F' N' => ?_)) | (refine TupRest.zero (fun h' tk' F' N' => ?_))))
  k_with "compareOp In int ref!" => ((
  k_here
  (with_reducible show wpAny _ _ (compareOp CmpOp.In (Value.int _ _) (Value.ref _)) _ _ _)
  k_dflt (refine in_rangeK (by with_reducible assumption) ?_)
  k_whole))
  k_with "binaryOp Add ref ref!" => ((
  k_here
  k_dflt (refine' add_tupN ?F ?N ?m1 ?m2 ?v ?w ?z ?_; (case F => k_asm); (case N => k_asm); (case m1 => k_mem); (case m2 => k_mem); (case v => ((try simp only [List.length_append, List.length_cons, List.length_nil]); omega)); (case w => ((try simp only [List.length_append, List.length_cons, List.length_nil]); omega)); (case z => ((try simp only [List.length_append, List.length_cons, List.length_nil]); omega)))
  k_whole
  intro D' h' F' N' l1
  (try simp only [List.cons_append, List.nil_append, List.append_assoc] at N'); (try k_lt l1); (try dsimp only); (try k_fold)))
  k_with "wpAt!" => (k_dflt (ks_step "execs cons"; refine ks_wpAt_execs_cons ?_))
  k_with "wpAt!" => (k_dflt (ks_step "exec Expr"; refine ks_wpAt_Expr_any ?_))
  k_with "wpAt!" => (k_dflt (ks_step "eval Call"; refine ks_wpAt_MethodCall ?_))
  have hjl := hj.length
  (repeat' (first | (k_unfold; (try dsimp only)) | walk1 | (dsimp only; walk1) | (leave1; (try dsimp only))))
  all_goals (try dsimp only)
  refine' hret _ _ _ _ _ (by k_asm) (cb_drop (by assumption) ?sub) (NewPost.mk ChElem.mk ?own)
  (case sub => lcg_sub)
  (case own => exact ownNe3 (by simp only [AllNe, and_true]; (repeat' refine And.intro ?_ ?_) <;> omega) (by simp only [AllNe, and_true]; (repeat' refine And.intro ?_ ?_) <;> omega) (by simp only [AllNe, and_true]; (repeat' refine And.intro ?_ ?_) <;> omega))
end Mine
namespace Mine
open PySem PySem.W PySem.Calls PyProof.Rows PySem.Spec

set_option maxHeartbeats 4000000 in
theorem elem_check (w : World) (mean : ExcName → Option Value) (mg mb : Str → Option Value) {self : Value} {v : Addr} {us : List Value} {xs : List Int}
    (hi : IntsAre us xs) (h2 : 3 ≤ xs.length) (h8 : xs.length ≤ 8) :
    Con w mean mg mb 1 203 [self, .ref v] [(v, tupO us 0)] (BoolPost (elemF xs) [(v, tupO us 0)]) := by
  k_dflt (
  refine' con_of ?k7 ?k8 ?kA ?kB ?_ ?c2 ?c3 ?c4 ?c5;
  (case k7 => k_is); (case k8 => k_is);
  (case kA => exact fun _ => BindsTo.of_eq rfl); (case kB => exact locs rfl); (case c2 => exact rfl); (case c3 => exact rfl); (case c4 => exact rfl); (case c5 => decide))
  intro dp gd un outer base g s B st sz X T hroom hu L' h₁ Q' F N hlt hret
  (try k_lt hlt); (try dsimp only at *); (try k_lift B); (try k_fold)
  k_with_none
  k_with "call builtin:len!" => ((
  k_here
  (with_reducible show wpAny _ _ (PySem.call (Value.builtin _) [Value.ref _]) _ _ _)
  k_dflt (refine' len_tupN ?N ?m ?i ?f ?_; (case N => k_asm); (case m => k_mem); (case i => with_reducible assumption); (case f => omega))
  k_whole))
  k_with "subscriptTail!" => ((
  k_here
  (with_reducible show wpAny _ _ (subscriptTail _ _ (Value.ref _) (Value.int _ _)) _ _ _)
  k_dflt (first
    | (refine' item_tupN ?N ?m ?i ?h0 ?h1 ?f ?_ ?k6; (case N => k_asm); (case m => k_mem); (case i => with_reducible assumption); (case h0 => omega); (case h1 => omega); (case f => omega); (case k6 => with_unfolding_all rfl))
    | ((with_reducible show wpAny _ _ (subscriptTail _ _ (Value.ref _) (Value.int (-1) _)) _ _ _); refine' item_tup_last ?N ?m ?i ?h1 ?_ ?k6; (case N => k_asm); (case m => k_mem); (case i => with_reducible assumption); (case h1 => omega); (case k6 => with_unfolding_all rfl)))
  k_whole
  intro t'))
  k_with "call type:tuple!" => ((
  k_here
  (with_reducible show wpAny _ _ (PySem.call (Value.type _) [Value.ref _]) _ _ _)
  k_dflt (refine' tup_sameN ?N ?m ?_; (case N => k_asm); (case m => k_mem))
  k_whole))
  k_with "pyIter ref!" => ((
  k_here
  (with_reducible show wpAny _ _ (pyIter (Value.ref _)) (fun it s₂ => LoopAtV _ _ _ _ _ _ _ _ _ it s₂) _ _)
  k_dflt (refine' iter_tupUnr ?hh ?F ?N ?m ?_; (case hh => exact rfl); (case F => k_asm); (case N => k_asm); (case m => k_mem))
  k_whole
  intro i' l1
  (try k_lt l1)))
  k_with "TupRest!" => ((with_unfolding_all first | (refine TupRest.succ (fun it' h' tk' hit' F' N' => ?_)) | (refine TupRest.zero (fun h' tk' F' N' => ?_))))
  k_with "compareOp In int ref!" => ((
  k_here
  (with_reducible show wpAny _ _ (compareOp CmpOp.In (Value.int _ _) (Value.ref _)) _ _ _)
  k_dflt (refine in_rangeK (by with_reducible assumption) ?_)
  k_whole))
  k_with "binaryOp Add ref ref!" => ((
  k_here
  k_dflt (refine' add_tupN ?F ?N ?m1 ?m2 ?v ?w ?z ?_; (case F => k_asm); (case N => k_asm); (case m1 => k_mem); (case m2 => k_mem); (case v => ((try simp only [List.length_append, List.length_cons, List.length_nil]); omega)); (case w => ((try simp only [List.length_append, List.length_cons, List.length_nil]); omega)); (case z => ((try simp only [List.length_append, List.length_cons, List.length_nil]); omega)))
  k_whole
  intro D' h' F' N' l1
  (try simp only [List.cons_append, List.nil_append, List.append_assoc] at N'); (try k_lt l1); (try dsimp only); (try k_fold)))
  (repeat' (first | (k_unfold; (try dsimp only)) | walk1 | (dsimp only; walk1) | (leave1; (try dsimp only))))
  all_goals (try dsimp only)
  all_goals (refine hret _ _ _ _ _ (by k_asm) (cb_drop (by assumption) (by lcg_sub)) (BoolPost.mk ?_))
  all_goals ((try simp only [show Int.toNat 0 = 0 from rfl] at *); rw [Bool.eq_iff_iff]; simp only [elemF, decide_eq_true_eq, beq_iff_eq]; omega)
end Mine
namespace Mine
open PySem PySem.W PySem.Calls PyProof.Rows PySem.Spec

set_option maxHeartbeats 4000000 in
theorem elem_keeps (w : World) (mean : ExcName → Option Value) (mg mb : Str → Option Value) {t o v : Addr} {os us : List Value} {ys xs : List Int} {i z : Int} {ti tz ts : Tok}
    (hi : IntsAre us xs) (hj : IntsAre os ys) (h2 : xs.length = ys.length + 2) (h3 : 1 ≤ ys.length) (h8 : ys.length ≤ 3) :
    Con w mean mg mb 2 408 [.ref t, .ref v] [(t, tupO [.str (Str.ofString "element") ts, .int i ti, .ref o, .int z tz] 0), (o, tupO os 0), (v, tupO us 0)] (BoolPost (elemF xs) [(t, tupO [.str (Str.ofString "element") ts, .int i ti, .ref o, .int z tz] 0), (o, tupO os 0), (v, tupO us 0)]) := by
  k_dflt (
  refine' con_ofC ?k7 ?k8 ?kA ?kB ?kD ?_ ?c2 ?c3 ?c4;
  (case k7 => k_is); (case k8 => k_is);
  (case kA => exact fun _ => BindsTo.of_eq rfl); (case kB => exact rfl); (case kD => decide +kernel); (case c2 => exact rfl); (case c3 => exact rfl); (case c4 => exact rfl))
  intro dp gd un outer base g s B st sz X T hroom hu L' h₁ tk' cells' Q' F N' Y' hlt hret
  (try k_lt hlt)
  k_cells Y'
  (try simp only [List.cons_append, List.nil_append] at N')
  (try dsimp only at *); (try k_lift B); (try k_fold)
  k_with_none
  k_with "call builtin:len!" => ((
  k_here
  (with_reducible show wpAny _ _ (PySem.call (Value.builtin _) [Value.ref _]) _ _ _)
  k_dflt (refine' len_tupN ?N ?m ?i ?f ?_; (case N => k_asm); (case m => k_mem); (case i => with_reducible assumption); (case f => omega))
  k_whole))
  k_with "subscriptTail!" => ((
  k_here
  (with_reducible show wpAny _ _ (subscriptTail _ _ (Value.ref _) (Value.int _ _)) _ _ _)
  k_dflt (first
    | (refine' item_tupN ?N ?m ?i ?h0 ?h1 ?f ?_ ?k6; (case N => k_asm); (case m => k_mem); (case i => with_reducible assumption); (case h0 => omega); (case h1 => omega); (case f => omega); (case k6 => with_unfolding_all rfl))
    | ((with_reducible show wpAny _ _ (subscriptTail _ _ (Value.ref _) (Value.int (-1) _)) _ _ _); refine' item_tup_last ?N ?m ?i ?h1 ?_ ?k6; (case N => k_asm); (case m => k_mem); (case i => with_reducible assumption); (case h1 => omega); (case k6 => with_unfolding_all rfl)))
  k_whole
  intro t'))
  k_with "call type:tuple!" => ((
  k_here
  (with_reducible show wpAny _ _ (PySem.call (Value.type _) [Value.ref _]) _ _ _)
  k_dflt (refine' tup_sameN ?N ?m ?_; (case N => k_asm); (case m => k_mem))
  k_whole))
  k_with "pyIter ref!" => ((
  k_here
  (with_reducible show wpAny _ _ (pyIter (Value.ref _)) (fun it s₂ => LoopAtV _ _ _ _ _ _ _ _ _ it s₂) _ _)
  k_dflt (refine' iter_tupUnr ?hh ?F ?N ?m ?_; (case hh => exact rfl); (case F => k_asm); (case N => k_asm); (case m => k_mem))
  k_whole
  intro i' l1
  (try k_lt l1)))
  k_with "TupRest!" => ((with_unfolding_all first | (refine TupRest.succ (fun it' h' tk' hit' F' N' => ?_)) | (refine TupRest.zero (fun h' tk' F' N' => ?_))))
  k_with "compareOp In int ref!" => ((
  k_here
  (with_reducible show wpAny _ _ (compareOp CmpOp.In (Value.int _ _) (Value.ref _)) _ _ _)
  k_dflt (refine in_rangeK (by with_reducible assumption) ?_)
  k_whole))
  k_with "binaryOp Add ref ref!" => ((
  k_here
  k_dflt (refine' add_tupN ?F ?N ?m1 ?m2 ?v ?w ?z ?_; (case F => k_asm); (case N => k_asm); (case m1 => k_mem); (case m2 => k_mem); (case v => ((try simp only [List.length_append, List.length_cons, List.length_nil]); omega)); (case w => ((try simp only [List.length_append, List.length_cons, List.length_nil]); omega)); (case z => ((try simp only [List.length_append, List.length_cons, List.length_nil]); omega)))
  k_whole
  intro D' h' F' N' l1
  (try simp only [List.cons_append, List.nil_append, List.append_assoc] at N'); (try k_lt l1); (try dsimp only); (try k_fold)))
  (repeat' (first | (k_unfold; (try dsimp only)) | walk1 | (dsimp only; walk1) | (leave1; (try dsimp only))))
  all_goals (try dsimp only)
  all_goals (refine hret _ _ _ _ _ (by k_asm) (cb_drop (by assumption) (by lcg_sub)) (BoolPost.mk ?_))
  all_goals ((try simp only [show Int.toNat 0 = 0 from rfl] at *); rw [Bool.eq_iff_iff]; simp only [elemF, decide_eq_true_eq, beq_iff_eq]; omega)
end Mine
namespace Mine
open PySem PySem.W PySem.Calls PyProof.Rows PySem.Spec

set_option maxHeartbeats 8000000 in
theorem values0_elem (w : World) (mean : ExcName → Option Value) (mg mb : Str → Option Value) {fa t sc : Addr} {ss : List Value} {zs : List Int} {tl : Tok} {o : Addr} {i z : Int} {ti tz ts : Tok} {q : Nat}
    (hs : IntsAre ss zs) (h1 : 1 ≤ q) (h3 : q ≤ 3) (hsl : zs.length = q + 2) :
    Con w mean mg mb 12 413 [.ref fa, .ref t, .ref sc, .int 0 tl] [(t, tupO [.str (Str.ofString "element") ts, .int i ti, .ref o, .int z tz] 0), (sc, tupO ss 0)] (NewPost (ValP (q + 2)) [(t, tupO [.str (Str.ofString "element") ts, .int i ti, .ref o, .int z tz] 0), (sc, tupO ss 0)]) := by
  k_dflt (
  refine' con_ofC ?k7 ?k8 ?kA ?kB ?kD ?_ ?c2 ?c3 ?c4;
  (case k7 => k_is); (case k8 => k_is);
  (case kA => exact fun _ => BindsTo.of_eq rfl); (case kB => exact rfl); (case kD => decide +kernel); (case c2 => exact rfl); (case c3 => exact rfl); (case c4 => exact rfl))
  intro dp gd un outer base g s B st sz X T hroom hu L' h₁ tk' cells' Q' F N' Y' hlt hret
  (try k_lt hlt)
  k_cells Y'
  (try simp only [List.cons_append, List.nil_append] at N')
  (try dsimp only at *); (try k_lift B); (try k_fold)
  k_with_none
  k_with "call builtin:len!" => ((
  k_here
  (with_reducible show wpAny _ _ (PySem.call (Value.builtin _) [Value.ref _]) _ _ _)
  k_dflt (refine' len_tupN ?N ?m ?i ?f ?_; (case N => k_asm); (case m => k_mem); (case i => with_reducible assumption); (case f => omega))
  k_whole))
  k_with "subscriptTail!" => ((
  k_here
  (with_reducible show wpAny _ _ (subscriptTail _ _ (Value.ref _) (Value.int _ _)) _ _ _)
  k_dflt (first
    | (refine' item_tupN ?N ?m ?i ?h0 ?h1 ?f ?_ ?k6; (case N => k_asm); (case m => k_mem); (case i => with_reducible assumption); (case h0 => omega); (case h1 => omega); (case f => omega); (case k6 => with_unfolding_all rfl))
    | ((with_reducible show wpAny _ _ (subscriptTail _ _ (Value.ref _) (Value.int (-1) _)) _ _ _); refine' item_tup_last ?N ?m ?i ?h1 ?_ ?k6; (case N => k_asm); (case m => k_mem); (case i => with_reducible assumption); (case h1 => omega); (case k6 => with_unfolding_all rfl)))
  k_whole
  intro t'))
  k_with "call type:tuple!" => ((
  k_here
  (with_reducible show wpAny _ _ (PySem.call (Value.type _) [Value.ref _]) _ _ _)
  k_dflt (refine' tup_sameN ?N ?m ?_; (case N => k_asm); (case m => k_mem))
  k_whole))
  k_with "pyIter ref!" => ((
  k_here
  (with_reducible show wpAny _ _ (pyIter (Value.ref _)) (fun it s₂ => LoopAtV _ _ _ _ _ _ _ _ _ it s₂) _ _)
  k_dflt (refine' iter_tupUnr ?hh ?F ?N ?m ?_; (case hh => exact rfl); (case F => k_asm); (case N => k_asm); (case m => k_mem))
  k_whole
  intro i' l1
  (try k_lt l1)))
  k_with "TupRest!" => ((with_unfolding_all first | (refine TupRest.succ (fun it' h' tk' hit' F' N' => ?_)) | (refine TupRest.zero (fun h' tk' F' N' => ?_))))
  k_with "compareOp In int ref!" => ((
  k_here
  (with_reducible show wpAny _ _ (compareOp CmpOp.In (Value.int _ _) (Value.ref _)) _ _ _)
  k_dflt (refine in_rangeK (by with_reducible assumption) ?_)
  k_whole))
  k_with "binaryOp Add ref ref!" => ((
  k_here
  k_dflt (refine' add_tupN ?F ?N ?m1 ?m2 ?v ?w ?z ?_; (case F => k_asm); (case N => k_asm); (case m1 => k_mem); (case m2 => k_mem); (case v => ((try simp only [List.length_append, List.length_cons, List.length_nil]); omega)); (case w => ((try simp only [List.length_append, List.length_cons, List.length_nil]); omega)); (case z => ((try simp only [List.length_append, List.length_cons, List.length_nil]); omega)))
  k_whole
  intro D' h' F' N' l1
  (try simp only [List.cons_append, List.nil_append, List.append_assoc] at N'); (try k_lt l1); (try dsimp only); (try k_fold)))
  k_with "CompRest!" => ((with_unfolding_all first
  | (refine LCg.CompRest.succ ?_; intro v' I' oI' C' oC' D' m' h' tk' E' hv' hC' hx' F' N' off' ne'; (first | lcg_open hv' | (obtain ⟨t9', hv9'⟩ := hv'; subst hv9')); replace ne' := Apart3.of ne')
  | refine LCg.CompRest.zero ?_))
  k_with "FinE!" => (((unfold LCg.FinE); intro D' h' tk' F' N' o1'; (try simp only [List.nil_append, List.cons_append] at N'); (try dsimp only)))
  k_with "FinA!" => (((unfold LCg.FinA); intro D' h' tk' F' N' o1'; (try simp only [List.nil_append, List.cons_append] at N'); (try dsimp only)))
  k_with "call ref!" => ((
  k_here
  (with_reducible show wpAny _ _ (PySem.call (Value.ref 391) _ _) _ _ _)
  k_dflt (
    refine wpAny_call ?_
    refine' row_use ?c5 ?c3 ?c1 ?c2 ?c4 ?c6 ?c7 ?c8 ?hc ?hI ?hne ?hn0 ?hcl ?hm0 ?hm1 ?hm ?hm2 ?hm3 ?hm4 ?c9 ?c10 ?c11 ?c12 ?c13 ?_
    (case c1 => exact rfl); (case c3 => k_asm); (case c2 => k_asm); (case c4 => k_asm); (case c5 => k_asm); (case c6 => k_asm); (case c7 => k_updF); (case c8 => k_mem)
    (case hc => with_reducible assumption); (case hI => with_reducible assumption); (case hne => first | exact AllNe.ne (by with_reducible assumption) (by k_mem) | with_reducible assumption | omega); (case hn0 => with_reducible assumption); (case hcl => exact Nat.le_of_ble_eq_true rfl)
    (case hm0 => first | with_reducible assumption | exact Int.natCast_nonneg _ | exact many_lo (by with_reducible assumption) | omega); (case hm1 => first | with_reducible assumption | exact many_hi (by with_reducible assumption) | exact many_nat (by with_reducible assumption) (by with_reducible assumption) | omega)
    (case hm => decide); (case hm2 => decide); (case hm3 => decide); (case hm4 => decide)
    (case c9 => exact rfl); (case c10 => exact rfl); (case c11 => first | exact rfl | assumption); (case c12 => ktr_room); (case c13 => ktr_units)
    k_whole
    intro a9' us9' xs9' n9' tk9' e9' h9' u9' F9' N9' c9' o9' q9' l9' i9'
    (try dsimp only at N9')
    (try dsimp only)
    (try k_fold))))
  k_with "call type:tuple!" => ((
  k_here
  (with_reducible show wpAny _ _ (PySem.call (Value.type "tuple") [Value.ref _]) _ _ _)
  k_dflt (refine' tup_ofN ?F ?N ?m ?z ?_; (case F => k_asm); (case N => k_asm); (case m => k_mem); (case z => first | ((try simp only [List.length_append, List.length_cons, List.length_nil]); omega) | (rw [IntsAre.length (by with_reducible assumption)]; simp only [List.length_append, List.length_map, rangeKs_length, List.length_cons, List.length_nil]; omega)))
  k_whole
  intro D' h' F' N' l1
  (try k_lt l1); (try dsimp only); (try k_fold)))
  k_with "binaryOp Mult ref int!" => ((
  k_here
  (with_reducible show wpAny _ _ (binaryOp Operator.Mult (Value.ref _) (Value.int _ _)) _ _ _)
  k_dflt (refine' mul_listN ?F ?N ?m ?i ?h1 ?h2 ?hx ?_ ?hlo; (case F => k_asm); (case N => k_asm); (case m => k_mem); (case i => first | (with_reducible assumption) | exact .cons _ _ .nil)
          (case h1 => (try simp only [List.length_map, rangeKs_length, List.length_cons, List.length_nil]); omega); (case h2 => (try simp only [List.length_map, rangeKs_length, List.length_cons, List.length_nil]); omega); (case hx => omega); (case hlo => omega))
  k_whole
  intro D' h' F' N' l1 hmul hmlen
  (have hml2 := hmul.length); (try simp only [Int.reduceToNat] at hmul hml2 hmlen N'); (try simp only [List.length_map, rangeKs_length, List.length_cons, List.length_nil] at hmlen)
  (try k_lt l1); (try dsimp only); (try k_fold)))
  iterate 140 (try (first | (k_unfold; (try dsimp only)) | walk1 | (dsimp only; walk1)))
  refine' hret _ _ _ _ _ (by k_asm) (cb_drop (by assumption) ?sub) (NewPost.mk (own := [(_, tupO _ 0)]) ⟨_, _, _, rfl, rfl, ?are, ?len⟩ ?own)
  (case sub => lcg_sub)
  (case are => exact .cons _ _ (by with_reducible assumption))
  (case len => (simp only [List.length_cons]; omega))
  (case own => exact ownNe_one (List.forall_mem_cons.mpr ⟨by k_ne, List.forall_mem_cons.mpr ⟨by k_ne, List.forall_mem_nil _⟩⟩))
end Mine
namespace Mine
open PySem PySem.W PySem.Calls PyProof.Rows PySem.Spec

set_option maxHeartbeats 4000000 in
theorem choice_elof (w : World) (mean : ExcName → Option Value) (mg mb : Str → Option Value) {t o : Addr} {os : List Value} {ys : List Int} {i z : Int} {ti tz ts : Tok}
    (hj : IntsAre os ys) (h3 : 1 ≤ ys.length) (h8 : ys.length ≤ 3) :
    Con w mean mg mb 6 379 [.ref t] [(t, tupO [.str (Str.ofString "element_of") ts, .int i ti, .ref o, .int z tz] 0), (o, tupO os 0)] (NewPost (ChElof w i z ti tz o) [(t, tupO [.str (Str.ofString "element_of") ts, .int i ti, .ref o, .int z tz] 0), (o, tupO os 0)]) := by
  k_dflt (
  refine' con_of ?k7 ?k8 ?kA ?kB ?_ ?c2 ?c3 ?c4 ?c5;
  (case k7 => k_is); (case k8 => k_is);
  (case kA => exact fun _ => BindsTo.of_eq rfl); (case kB => exact locs rfl); (case c2 => exact rfl); (case c3 => exact rfl); (case c4 => exact rfl); (case c5 => decide))
  intro dp gd un outer base g s B st sz X T hroom hu L' h₁ Q' F N hlt hret
  (try k_lt hlt); (try dsimp only at *); (try k_lift B); (try k_fold)
  k_with_none
  k_with "call builtin:len!" => ((
  k_here
  (with_reducible show wpAny _ _ (PySem.call (Value.builtin _) [Value.ref _]) _ _ _)
  k_dflt (refine' len_tupN ?N ?m ?i ?f ?_; (case N => k_asm); (case m => k_mem); (case i => with_reducible assumption); (case f => omega))
  k_whole))
  k_with "subscriptTail!" => ((
  k_here
  (with_reducible show wpAny _ _ (subscriptTail _ _ (Value.ref _) (Value.int _ _)) _ _ _)
  k_dflt (first
    | (refine' item_tupN ?N ?m ?i ?h0 ?h1 ?f ?_ ?k6; (case N => k_asm); (case m => k_mem); (case i => with_reducible assumption); (case h0 => omega); (case h1 => omega); (case f => omega); (case k6 => with_unfolding_all rfl))
    | ((with_reducible show wpAny _ _ (subscriptTail _ _ (Value.ref _) (Value.int (-1) _)) _ _ _); refine' item_tup_last ?N ?m ?i ?h1 ?_ ?k6; (case N => k_asm); (case m => k_mem); (case i => with_reducible assumption); (case h1 => omega); (case k6 => with_unfolding_all rfl)))
  k_whole
  intro t'))
  k_with "call type:tuple!" => ((
  k_here
  (with_reducible show wpAny _ _ (PySem.call (Value.type _) [Value.ref _]) _ _ _)
  k_dflt (refine' tup_sameN ?N ?m ?_; (case N => k_asm); (case m => k_mem))
  k_whole))
  k_with "pyIter ref!" => ((
  k_here
  (with_reducible show wpAny _ _ (pyIter (Value.ref _)) (fun it s₂ => LoopAtV _ _ _ _ _ _ _ _ _ it s₂) _ _)
  k_dflt (refine' iter_tupUnr ?hh ?F ?N ?m ?_; (case hh => exact rfl); (case F => k_asm); (case N => k_asm); (case m => k_mem))
  k_whole
  intro i' l1
  (try k_lt l1)))
  k_with "TupRest!" => ((with_unfolding_all first | (refine TupRest.succ (fun it' h' tk' hit' F' N' => ?_)) | (refine TupRest.zero (fun h' tk' F' N' => ?_))))
  k_with "compareOp In int ref!" => ((
  k_here
  (with_reducible show wpAny _ _ (compareOp CmpOp.In (Value.int _ _) (Value.ref _)) _ _ _)
  k_dflt (refine in_rangeK (by with_reducible assumption) ?_)
  k_whole))
  k_with "binaryOp Add ref ref!" => ((
  k_here
  k_dflt (refine' add_tupN ?F ?N ?m1 ?m2 ?v ?w ?z ?_; (case F => k_asm); (case N => k_asm); (case m1 => k_mem); (case m2 => k_mem); (case v => ((try simp only [List.length_append, List.length_cons, List.length_nil]); omega)); (case w => ((try simp only [List.length_append, List.length_cons, List.length_nil]); omega)); (case z => ((try simp only [List.length_append, List.length_cons, List.length_nil]); omega)))
  k_whole
  intro D' h' F' N' l1
  (try simp only [List.cons_append, List.nil_append, List.append_assoc] at N'); (try k_lt l1); (try dsimp only); (try k_fold)))
  k_with "wpAt!" => (k_dflt (ks_step "execs cons"; refine ks_wpAt_execs_cons ?_))
  k_with "wpAt!" => (k_dflt (ks_step "exec Expr"; refine ks_wpAt_Expr_any ?_))
  k_with "wpAt!" => (k_dflt (ks_step "eval Call"; refine ks_wpAt_MethodCall ?_))
  have hjl := hj.length
  (repeat' (first | (k_unfold; (try dsimp only)) | walk1 | (dsimp only; walk1) | (leave1; (try dsimp only))))
  all_goals (try dsimp only)
  refine' hret _ _ _ _ _ (by k_asm) (cb_drop (by assumption) ?sub) (NewPost.mk ChElof.mk ?own)
  (case sub => lcg_sub)
  (case own => exact ownNe3 (by simp only [AllNe, and_true]; (repeat' refine And.intro ?_ ?_) <;> omega) (by simp only [AllNe, and_true]; (repeat' refine And.intro ?_ ?_) <;> omega) (by simp only [AllNe, and_true]; (repeat' refine And.intro ?_ ?_) <;> omega))
end Mine
namespace Mine
open PySem PySem.W PySem.Calls PyProof.Rows PySem.Spec

set_option maxHeartbeats 4000000 in
theorem elof_check (w : World) (mean : ExcName → Option Value) (mg mb : Str → Option Value) {x d sc o v : Addr} {i z : Int} {ti tz t1 t2 t3 t4 t5 t6 t7 t8 : Tok} {os us : List Value} {ys xs : List Int}
    (hi : IntsAre us xs) (hj : IntsAre os ys) (h2 : xs.length = 2) (h3 : 1 ≤ ys.length) (h8 : ys.length ≤ 3) :
    Con w mean mg mb 12 280 [.ref x, .ref v] [(x, instObj 311 d), (d, dictOf [ent w "number" t1 (.int (-1) t2), ent w "scope" t3 (.ref sc), ent w "strength" t4 (.str (Str.ofString "values") t5), ent w "index" t6 (.int i ti), ent w "numbers" t7 (.ref o), ent w "z" t8 (.int z tz)] 6), (o, tupO os 0), (v, tupO us 0)]
      (BoolPost (elofF ys xs) [(x, instObj 311 d), (d, dictOf [ent w "number" t1 (.int (-1) t2), ent w "scope" t3 (.ref sc), ent w "strength" t4 (.str (Str.ofString "values") t5), ent w "index" t6 (.int i ti), ent w "numbers" t7 (.ref o), ent w "z" t8 (.int z tz)] 6), (o, tupO os 0), (v, tupO us 0)]) := by
  k_dflt (
  refine' con_of ?k7 ?k8 ?kA ?kB ?_ ?c2 ?c3 ?c4 ?c5;
  (case k7 => k_is); (case k8 => k_is);
  (case kA => exact fun _ => BindsTo.of_eq rfl); (case kB => exact locs rfl); (case c2 => exact rfl); (case c3 => exact rfl); (case c4 => exact rfl); (case c5 => decide))
  intro dp gd un outer base g s B st sz X T hroom hu L' h₁ Q' F N hlt hret
  (try k_lt hlt); (try dsimp only at *); (try k_lift B); (try k_fold)
  k_with_none
  k_with "call builtin:len!" => ((
  k_here
  (with_reducible show wpAny _ _ (PySem.call (Value.builtin _) [Value.ref _]) _ _ _)
  k_dflt (refine' len_tupN ?N ?m ?i ?f ?_; (case N => k_asm); (case m => k_mem); (case i => with_reducible assumption); (case f => omega))
  k_whole))
  k_with "subscriptTail!" => ((
  k_here
  (with_reducible show wpAny _ _ (subscriptTail _ _ (Value.ref _) (Value.int _ _)) _ _ _)
  k_dflt (first
    | (refine' item_tupN ?N ?m ?i ?h0 ?h1 ?f ?_ ?k6; (case N => k_asm); (case m => k_mem); (case i => with_reducible assumption); (case h0 => omega); (case h1 => omega); (case f => omega); (case k6 => with_unfolding_all rfl))
    | ((with_reducible show wpAny _ _ (subscriptTail _ _ (Value.ref _) (Value.int (-1) _)) _ _ _); refine' item_tup_last ?N ?m ?i ?h1 ?_ ?k6; (case N => k_asm); (case m => k_mem); (case i => with_reducible assumption); (case h1 => omega); (case k6 => with_unfolding_all rfl)))
  k_whole
  intro t'))
  k_with "call type:tuple!" => ((
  k_here
  (with_reducible show wpAny _ _ (PySem.call (Value.type _) [Value.ref _]) _ _ _)
  k_dflt (refine' tup_sameN ?N ?m ?_; (case N => k_asm); (case m => k_mem))
  k_whole))
  k_with "pyIter ref!" => ((
  k_here
  (with_reducible show wpAny _ _ (pyIter (Value.ref _)) (fun it s₂ => LoopAtV _ _ _ _ _ _ _ _ _ it s₂) _ _)
  k_dflt (refine' iter_tupUnr ?hh ?F ?N ?m ?_; (case hh => exact rfl); (case F => k_asm); (case N => k_asm); (case m => k_mem))
  k_whole
  intro i' l1
  (try k_lt l1)))
  k_with "TupRest!" => ((with_unfolding_all first | (refine TupRest.succ (fun it' h' tk' hit' F' N' => ?_)) | (refine TupRest.zero (fun h' tk' F' N' => ?_))))
  k_with "compareOp In int ref!" => ((
  k_here
  (with_reducible show wpAny _ _ (compareOp CmpOp.In (Value.int _ _) (Value.ref _)) _ _ _)
  k_dflt (refine in_rangeK (by with_reducible assumption) ?_)
  k_whole))
  k_with "binaryOp Add ref ref!" => ((
  k_here
  k_dflt (refine' add_tupN ?F ?N ?m1 ?m2 ?v ?w ?z ?_; (case F => k_asm); (case N => k_asm); (case m1 => k_mem); (case m2 => k_mem); (case v => ((try simp only [List.length_append, List.length_cons, List.length_nil]); omega)); (case w => ((try simp only [List.length_append, List.length_cons, List.length_nil]); omega)); (case z => ((try simp only [List.length_append, List.length_cons, List.length_nil]); omega)))
  k_whole
  intro D' h' F' N' l1
  (try simp only [List.cons_append, List.nil_append, List.append_assoc] at N'); (try k_lt l1); (try dsimp only); (try k_fold)))
  k_with "call type:list!" => ((
  k_here
  (with_reducible show wpAny _ _ (PySem.call (Value.type "list") [Value.ref _]) _ _ _)
  k_dflt (refine' list_tupN ?F ?N ?m ?_ ?z; (case F => k_asm); (case N => k_asm); (case m => k_mem); (case z => (try simp only [List.length_cons, List.length_nil]); omega))
  k_whole
  intro D' c' h' F' N' l1
  (try k_lt l1); (try dsimp only); (try k_fold)))
  k_with "compareOp Eq ref ref!" => ((
  k_here
  (with_reducible show wpAny _ _ (compareOp CmpOp.Eq (Value.ref _) (Value.ref _)) _ _ _)
  k_dflt (refine' eq_intsN ?N ?m1 ?m2 ?i1 ?i2 ?u ?_; (case N => k_asm); (case m1 => k_mem); (case m2 => k_mem); (case i1 => first | (with_reducible assumption) | exact .cons _ _ .nil); (case i2 => first | (with_reducible assumption) | exact .cons _ _ .nil); (case u => ktr_units))
  k_whole))
  k_with "last subscriptTail!" => (k_extra "cut")
  k_with "subscriptTail!" => (k_extra "cut")
  have hjl := hj.length
  k_with "cut" => (
    (with_reducible show wpAny _ _ (subscriptTail _ (PySem.Expr.Slice _ _ _ _) (Value.ref o) (Value.ref _)) _ _ _)
    (have e0 : Int.toNat 0 = 0 := rfl); (simp only [e0] at *)
    k_dflt (first
      | (refine' slice_tupAll (xs.getD 0 0 - 1).toNat (xs.getD 0 0).toNat ?F ?N ?m (.inr ⟨_, _, rfl, ?lo⟩) (.inr ⟨_, _, rfl, ?hi⟩) ?ha ?hb ?hsz ?hs ?_
         (case F => k_asm); (case N => k_asm); (case m => k_mem); (case lo => omega); (case hi => omega); (case ha => omega); (case hb => omega); (case hsz => omega); (case hs => with_unfolding_all rfl)
         k_whole
         intro h' F' N')
      | (refine' slice_tupN (xs.getD 0 0 - 1).toNat (xs.getD 0 0).toNat ?F ?N ?m (.inr ⟨_, _, rfl, ?lo⟩) (.inr ⟨_, _, rfl, ?hi⟩) ?hab ?hbn ?hsz ?hnf ?hs ?_
         (case F => k_asm); (case N => k_asm); (case m => k_mem); (case lo => omega); (case hi => omega); (case hab => omega); (case hbn => omega); (case hsz => omega); (case hnf => omega); (case hs => with_unfolding_all rfl)
         k_whole
         intro D' h' F' N' l1
         (have hcut := ints_take ((xs.getD 0 0).toNat - (xs.getD 0 0 - 1).toNat) (ints_drop (xs.getD 0 0 - 1).toNat hj)); (have hcl := hcut.length)
         (try k_lt l1)))
    (try dsimp only); (try k_fold))
  rcases (show ys.length = 1 ∨ 2 ≤ ys.length by omega) with h1 | h1
  all_goals (repeat' (first | (k_unfold; (try dsimp only)) | walk1 | (dsimp only; walk1) | (leave1; (try dsimp only))))
  all_goals (try dsimp only)
  all_goals (refine hret _ _ _ _ _ (by k_asm) (cb_drop (by assumption) (by lcg_sub)) (BoolPost.mk ?_))
  all_goals (try simp only [show Int.toNat 0 = 0 from rfl, show Int.toNat 1 = 1 from rfl] at *)
  all_goals (first | exact elof_one h1 (by omega) (by omega) | exact elof_cut (by omega) (by omega) | (rw [decide_eq_false (by assumption)]; exact elof_out (by assumption)))
end Mine
namespace Mine
open PySem PySem.W PySem.Calls PyProof.Rows PySem.Spec

set_option maxHeartbeats 4000000 in
theorem elof_keeps (w : World) (mean : ExcName → Option Value) (mg mb : Str → Option Value) {t o v : Addr} {os us : List Value} {ys xs : List Int} {i z : Int} {ti tz ts : Tok}
    (hi : IntsAre us xs) (hj : IntsAre os ys) (h2 : xs.length = 2) (h3 : 1 ≤ ys.length) (h8 : ys.length ≤ 3) :
    Con w mean mg mb 2 408 [.ref t, .ref v] [(t, tupO [.str (Str.ofString "element_of") ts, .int i ti, .ref o, .int z tz] 0), (o, tupO os 0), (v, tupO us 0)] (BoolPost (elofF ys xs) [(t, tupO [.str (Str.ofString "element_of") ts, .int i ti, .ref o, .int z tz] 0), (o, tupO os 0), (v, tupO us 0)]) := by
  k_dflt (
  refine' con_ofC ?k7 ?k8 ?kA ?kB ?kD ?_ ?c2 ?c3 ?c4;
  (case k7 => k_is); (case k8 => k_is);
  (case kA => exact fun _ => BindsTo.of_eq rfl); (case kB => exact rfl); (case kD => decide +kernel); (case c2 => exact rfl); (case c3 => exact rfl); (case c4 => exact rfl))
  intro dp gd un outer base g s B st sz X T hroom hu L' h₁ tk' cells' Q' F N' Y' hlt hret
  (try k_lt hlt)
  k_cells Y'
  (try simp only [List.cons_append, List.nil_append] at N')
  (try dsimp only at *); (try k_lift B); (try k_fold)
  k_with_none
  k_with "call builtin:len!" => ((
  k_here
  (with_reducible show wpAny _ _ (PySem.call (Value.builtin _) [Value.ref _]) _ _ _)
  k_dflt (refine' len_tupN ?N ?m ?i ?f ?_; (case N => k_asm); (case m => k_mem); (case i => with_reducible assumption); (case f => omega))
  k_whole))
  k_with "subscriptTail!" => ((
  k_here
  (with_reducible show wpAny _ _ (subscriptTail _ _ (Value.ref _) (Value.int _ _)) _ _ _)
  k_dflt (first
    | (refine' item_tupN ?N ?m ?i ?h0 ?h1 ?f ?_ ?k6; (case N => k_asm); (case m => k_mem); (case i => with_reducible assumption); (case h0 => omega); (case h1 => omega); (case f => omega); (case k6 => with_unfolding_all rfl))
    | ((with_reducible show wpAny _ _ (subscriptTail _ _ (Value.ref _) (Value.int (-1) _)) _ _ _); refine' item_tup_last ?N ?m ?i ?h1 ?_ ?k6; (case N => k_asm); (case m => k_mem); (case i => with_reducible assumption); (case h1 => omega); (case k6 => with_unfolding_all rfl)))
  k_whole
  intro t'))
  k_with "call type:tuple!" => ((
  k_here
  (with_reducible show wpAny _ _ (PySem.call (Value.type _) [Value.ref _]) _ _ _)
  k_dflt (refine' tup_sameN ?N ?m ?_; (case N => k_asm); (case m => k_mem))
  k_whole))
  k_with "pyIter ref!" => ((
  k_here
  (with_reducible show wpAny _ _ (pyIter (Value.ref _)) (fun it s₂ => LoopAtV _ _ _ _ _ _ _ _ _ it s₂) _ _)
  k_dflt (refine' iter_tupUnr ?hh ?F ?N ?m ?_; (case hh => exact rfl); (case F => k_asm); (case N => k_asm); (case m => k_mem))
  k_whole
  intro i' l1
  (try k_lt l1)))
  k_with "TupRest!" => ((with_unfolding_all first | (refine TupRest.succ (fun it' h' tk' hit' F' N' => ?_)) | (refine TupRest.zero (fun h' tk' F' N' => ?_))))
  k_with "compareOp In int ref!" => ((
  k_here
  (with_reducible show wpAny _ _ (compareOp CmpOp.In (Value.int _ _) (Value.ref _)) _ _ _)
  k_dflt (refine in_rangeK (by with_reducible assumption) ?_)
  k_whole))
  k_with "binaryOp Add ref ref!" => ((
  k_here
  k_dflt (refine' add_tupN ?F ?N ?m1 ?m2 ?v ?w ?z ?_; (case F => k_asm); (case N => k_asm); (case m1 => k_mem); (case m2 => k_mem); (case v => ((try simp only [List.length_append, List.length_cons, List.length_nil]); omega)); (case w => ((try simp only [List.length_append, List.length_cons, List.length_nil]); omega)); (case z => ((try simp only [List.length_append, List.length_cons, List.length_nil]); omega)))
  k_whole
  intro D' h' F' N' l1
  (try simp only [List.cons_append, List.nil_append, List.append_assoc] at N'); (try k_lt l1); (try dsimp only); (try k_fold)))
  (repeat' (first | (k_unfold; (try dsimp only)) | walk1 | (dsimp only; walk1) | (leave1; (try dsimp only))))
  all_goals (try dsimp only)
  all_goals (refine hret _ _ _ _ _ (by k_asm) (cb_drop (by assumption) (by lcg_sub)) (BoolPost.mk ?_))
  all_goals ((try simp only [show Int.toNat 0 = 0 from rfl, show Int.toNat 1 = 1 from rfl] at *); rw [Bool.eq_iff_iff]; simp only [elofF, decide_eq_true_eq, beq_iff_eq]; omega)
end Mine
namespace Mine
open PySem PySem.W PySem.Calls PyProof.Rows PySem.Spec

set_option maxHeartbeats 8000000 in
theorem values0_elof (w : World) (mean : ExcName → Option Value) (mg mb : Str → Option Value) {fa t sc : Addr} {ss : List Value} {zs : List Int} {tl : Tok} {o : Addr} {i z : Int} {ti tz ts : Tok} {os : List Value} {ys : List Int}
    (hs : IntsAre ss zs) (hj : IntsAre os ys) (h1 : 1 ≤ ys.length) (h3 : ys.length ≤ 3) (hsl : zs.length = 2) :
    Con w mean mg mb 12 413 [.ref fa, .ref t, .ref sc, .int 0 tl] [(t, tupO [.str (Str.ofString "element_of") ts, .int i ti, .ref o, .int z tz] 0), (sc, tupO ss 0), (o, tupO os 0)] (NewPost (ValP (2)) [(t, tupO [.str (Str.ofString "element_of") ts, .int i ti, .ref o, .int z tz] 0), (sc, tupO ss 0), (o, tupO os 0)]) := by
  k_dflt (
  refine' con_ofC ?k7 ?k8 ?kA ?kB ?kD ?_ ?c2 ?c3 ?c4;
  (case k7 => k_is); (case k8 => k_is);
  (case kA => exact fun _ => BindsTo.of_eq rfl); (case kB => exact rfl); (case kD => decide +kernel); (case c2 => exact rfl); (case c3 => exact rfl); (case c4 => exact rfl))
  intro dp gd un outer base g s B st sz X T hroom hu L' h₁ tk' cells' Q' F N' Y' hlt hret
  (try k_lt hlt)
  k_cells Y'
  (try simp only [List.cons_append, List.nil_append] at N')
  (try dsimp only at *); (try k_lift B); (try k_fold)
  k_with_none
  k_with "call builtin:len!" => ((
  k_here
  (with_reducible show wpAny _ _ (PySem.call (Value.builtin _) [Value.ref _]) _ _ _)
  k_dflt (refine' len_tupN ?N ?m ?i ?f ?_; (case N => k_asm); (case m => k_mem); (case i => with_reducible assumption); (case f => omega))
  k_whole))
  k_with "subscriptTail!" => ((
  k_here
  (with_reducible show wpAny _ _ (subscriptTail _ _ (Value.ref _) (Value.int _ _)) _ _ _)
  k_dflt (first
    | (refine' item_tupN ?N ?m ?i ?h0 ?h1 ?f ?_ ?k6; (case N => k_asm); (case m => k_mem); (case i => with_reducible assumption); (case h0 => omega); (case h1 => omega); (case f => omega); (case k6 => with_unfolding_all rfl))
    | ((with_reducible show wpAny _ _ (subscriptTail _ _ (Value.ref _) (Value.int (-1) _)) _ _ _); refine' item_tup_last ?N ?m ?i ?h1 ?_ ?k6; (case N => k_asm); (case m => k_mem); (case i => with_reducible assumption); (case h1 => omega); (case k6 => with_unfolding_all rfl)))
  k_whole
  intro t'))
  k_with "call type:tuple!" => ((
  k_here
  (with_reducible show wpAny _ _ (PySem.call (Value.type _) [Value.ref _]) _ _ _)
  k_dflt (refine' tup_sameN ?N ?m ?_; (case N => k_asm); (case m => k_mem))
  k_whole))
  k_with "pyIter ref!" => ((
  k_here
  (with_reducible show wpAny _ _ (pyIter (Value.ref _)) (fun it s₂ => LoopAtV _ _ _ _ _ _ _ _ _ it s₂) _ _)
  k_dflt (refine' iter_tupUnr ?hh ?F ?N ?m ?_; (case hh => exact rfl); (case F => k_asm); (case N => k_asm); (case m => k_mem))
  k_whole
  intro i' l1
  (try k_lt l1)))
  k_with "TupRest!" => ((with_unfolding_all first | (refine TupRest.succ (fun it' h' tk' hit' F' N' => ?_)) | (refine TupRest.zero (fun h' tk' F' N' => ?_))))
  k_with "compareOp In int ref!" => ((
  k_here
  (with_reducible show wpAny _ _ (compareOp CmpOp.In (Value.int _ _) (Value.ref _)) _ _ _)
  k_dflt (refine in_rangeK (by with_reducible assumption) ?_)
  k_whole))
  k_with "binaryOp Add ref ref!" => ((
  k_here
  k_dflt (refine' add_tupN ?F ?N ?m1 ?m2 ?v ?w ?z ?_; (case F => k_asm); (case N => k_asm); (case m1 => k_mem); (case m2 => k_mem); (case v => ((try simp only [List.length_append, List.length_cons, List.length_nil]); omega)); (case w => ((try simp only [List.length_append, List.length_cons, List.length_nil]); omega)); (case z => ((try simp only [List.length_append, List.length_cons, List.length_nil]); omega)))
  k_whole
  intro D' h' F' N' l1
  (try simp only [List.cons_append, List.nil_append, List.append_assoc] at N'); (try k_lt l1); (try dsimp only); (try k_fold)))
  k_with "CompRest!" => ((with_unfolding_all first
  | (refine LCg.CompRest.succ ?_; intro v' I' oI' C' oC' D' m' h' tk' E' hv' hC' hx' F' N' off' ne'; (first | lcg_open hv' | (obtain ⟨t9', hv9'⟩ := hv'; subst hv9')); replace ne' := Apart3.of ne')
  | refine LCg.CompRest.zero ?_))
  k_with "FinE!" => (((unfold LCg.FinE); intro D' h' tk' F' N' o1'; (try simp only [List.nil_append, List.cons_append] at N'); (try dsimp only)))
  k_with "FinA!" => (((unfold LCg.FinA); intro D' h' tk' F' N' o1'; (try simp only [List.nil_append, List.cons_append] at N'); (try dsimp only)))
  k_with "call ref!" => ((
  k_here
  (with_reducible show wpAny _ _ (PySem.call (Value.ref 391) _ _) _ _ _)
  k_dflt (
    refine wpAny_call ?_
    refine' row_use ?c5 ?c3 ?c1 ?c2 ?c4 ?c6 ?c7 ?c8 ?hc ?hI ?hne ?hn0 ?hcl ?hm0 ?hm1 ?hm ?hm2 ?hm3 ?hm4 ?c9 ?c10 ?c11 ?c12 ?c13 ?_
    (case c1 => exact rfl); (case c3 => k_asm); (case c2 => k_asm); (case c4 => k_asm); (case c5 => k_asm); (case c6 => k_asm); (case c7 => k_updF); (case c8 => k_mem)
    (case hc => with_reducible assumption); (case hI => with_reducible assumption); (case hne => first | exact AllNe.ne (by with_reducible assumption) (by k_mem) | with_reducible assumption | omega); (case hn0 => with_reducible assumption); (case hcl => exact Nat.le_of_ble_eq_true rfl)
    (case hm0 => first | with_reducible assumption | exact Int.natCast_nonneg _ | exact many_lo (by with_reducible assumption) | omega); (case hm1 => first | with_reducible assumption | exact many_hi (by with_reducible assumption) | exact many_nat (by with_reducible assumption) (by with_reducible assumption) | omega)
    (case hm => decide); (case hm2 => decide); (case hm3 => decide); (case hm4 => decide)
    (case c9 => exact rfl); (case c10 => exact rfl); (case c11 => first | exact rfl | assumption); (case c12 => ktr_room); (case c13 => ktr_units)
    k_whole
    intro a9' us9' xs9' n9' tk9' e9' h9' u9' F9' N9' c9' o9' q9' l9' i9'
    (try dsimp only at N9')
    (try dsimp only)
    (try k_fold))))
  iterate 190 (try (first | (k_unfold; (try dsimp only)) | walk1 | (dsimp only; walk1)))
  refine' hret _ _ _ _ _ (by k_asm) (cb_drop (by assumption) ?sub) (NewPost.mk (own := [(_, tupO _ 0)]) ⟨_, _, _, rfl, rfl, ?are, ?len⟩ ?own)
  (case sub => lcg_sub)
  (case are => exact .cons _ _ (.cons _ _ .nil))
  (case len => rfl)
  (case own => exact ownNe_one (List.forall_mem_cons.mpr ⟨by k_ne, List.forall_mem_cons.mpr ⟨by k_ne, List.forall_mem_cons.mpr ⟨by k_ne, List.forall_mem_nil _⟩⟩⟩))
end Mine
namespace Mine
open PySem PySem.W PySem.Calls PyProof.Rows PySem.Spec

set_option maxHeartbeats 4000000 in
theorem choice_circ (w : World) (mean : ExcName → Option Value) (mg mb : Str → Option Value) {t o : Addr} {os : List Value} {ys : List Int} {ts : Tok}
    (hj : IntsAre os ys) (h3 : 1 ≤ ys.length) (h8 : ys.length ≤ 3) :
    Con w mean mg mb 6 379 [.ref t] [(t, tupO [.str (Str.ofString "circuit") ts, .ref o] 0), (o, tupO os 0)] (NewPost (ChCirc w o) [(t, tupO [.str (Str.ofString "circuit") ts, .ref o] 0), (o, tupO os 0)]) := by
  k_dflt (
  refine' con_of ?k7 ?k8 ?kA ?kB ?_ ?c2 ?c3 ?c4 ?c5;
  (case k7 => k_is); (case k8 => k_is);
  (case kA => exact fun _ => BindsTo.of_eq rfl); (case kB => exact locs rfl); (case c2 => exact rfl); (case c3 => exact rfl); (case c4 => exact rfl); (case c5 => decide))
  intro dp gd un outer base g s B st sz X T hroom hu L' h₁ Q' F N hlt hret
  (try k_lt hlt); (try dsimp only at *); (try k_lift B); (try k_fold)
  k_with_none
  k_with "call builtin:len!" => ((
  k_here
  (with_reducible show wpAny _ _ (PySem.call (Value.builtin _) [Value.ref _]) _ _ _)
  k_dflt (refine' len_tupN ?N ?m ?i ?f ?_; (case N => k_asm); (case m => k_mem); (case i => with_reducible assumption); (case f => omega))
  k_whole))
  k_with "subscriptTail!" => ((
  k_here
  (with_reducible show wpAny _ _ (subscriptTail _ _ (Value.ref _) (Value.int _ _)) _ _ _)
  k_dflt (first
    | (refine' item_tupN ?N ?m ?i ?h0 ?h1 ?f ?_ ?k6; (case N => k_asm); (case m => k_mem); (case i => with_reducible assumption); (case h0 => omega); (case h1 => omega); (case f => omega); (case k6 => with_unfolding_all rfl))
    | ((with_reducible show wpAny _ _ (subscriptTail _ _ (Value.ref _) (Value.int (-1) _)) _ _ _); refine' item_tup_last ?N ?m ?i ?h1 ?_ ?k6; (case N => k_asm); (case m => k_mem); (case i => with_reducible assumption); (case h1 => omega); (case k6 => with_unfolding_all rfl)))
  k_whole
  intro t'))
  k_with "call type:tuple!" => ((
  k_here
  (with_reducible show wpAny _ _ (PySem.call (Value.type _) [Value.ref _]) _ _ _)
  k_dflt (refine' tup_sameN ?N ?m ?_; (case N => k_asm); (case m => k_mem))
  k_whole))
  k_with "pyIter ref!" => ((
  k_here
  (with_reducible show wpAny _ _ (pyIter (Value.ref _)) (fun it s₂ => LoopAtV _ _ _ _ _ _ _ _ _ it s₂) _ _)
  k_dflt (refine' iter_tupUnr ?hh ?F ?N ?m ?_; (case hh => exact rfl); (case F => k_asm); (case N => k_asm); (case m => k_mem))
  k_whole
  intro i' l1
  (try k_lt l1)))
  k_with "TupRest!" => ((with_unfolding_all first | (refine TupRest.succ (fun it' h' tk' hit' F' N' => ?_)) | (refine TupRest.zero (fun h' tk' F' N' => ?_))))
  k_with "compareOp In int ref!" => ((
  k_here
  (with_reducible show wpAny _ _ (compareOp CmpOp.In (Value.int _ _) (Value.ref _)) _ _ _)
  k_dflt (refine in_rangeK (by with_reducible assumption) ?_)
  k_whole))
  k_with "binaryOp Add ref ref!" => ((
  k_here
  k_dflt (refine' add_tupN ?F ?N ?m1 ?m2 ?v ?w ?z ?_; (case F => k_asm); (case N => k_asm); (case m1 => k_mem); (case m2 => k_mem); (case v => ((try simp only [List.length_append, List.length_cons, List.length_nil]); omega)); (case w => ((try simp only [List.length_append, List.length_cons, List.length_nil]); omega)); (case z => ((try simp only [List.length_append, List.length_cons, List.length_nil]); omega)))
  k_whole
  intro D' h' F' N' l1
  (try simp only [List.cons_append, List.nil_append, List.append_assoc] at N'); (try k_lt l1); (try dsimp only); (try k_fold)))
  k_with "wpAt!" => (k_dflt (ks_step "execs cons"; refine ks_wpAt_execs_cons ?_))
  k_with "wpAt!" => (k_dflt (ks_step "exec Expr"; refine ks_wpAt_Expr_any ?_))
  k_with "wpAt!" => (k_dflt (ks_step "eval Call"; refine ks_wpAt_MethodCall ?_))
  have hjl := hj.length
  (repeat' (first | (k_unfold; (try dsimp only)) | walk1 | (dsimp only; walk1) | (leave1; (try dsimp only))))
  all_goals (try dsimp only)
  refine' hret _ _ _ _ _ (by k_asm) (cb_drop (by assumption) ?sub) (NewPost.mk ChCirc.mk ?own)
  (case sub => lcg_sub)
  (case own => exact ownNe2 (by simp only [AllNe, and_true]; (repeat' refine And.intro ?_ ?_) <;> omega) (by simp only [AllNe, and_true]; (repeat' refine And.intro ?_ ?_) <;> omega))
end Mine
namespace Mine
open PySem PySem.W PySem.Calls PyProof.Rows PySem.Spec

section
variable {prog : Program} {w : World} {A : Around} {E : Value → Shared → Prop} {s : Shared} {env : Env} {h₀ : Heap} {L : Addr} {m : Str → Option Value} {body : List Stmt} {news : Led}

theorem append_intsN {D : Addr} {ms : List Value} {en : Nat} {x : Value} {g : Obj → Led} {Q : Value → Shared → Prop} (F : Fr h₀ L s.heap m) (N : News h₀ L s.heap news) (U : UpdF D (listOf ms.toArray en) news g) (hsz : ms.length ≤ 1000)
    (h : ∀ h', Fr h₀ L h' m → News h₀ L h' (g (listOf (ms ++ [x]).toArray (en + 1))) → Q .none { s with heap := h' }) : wpAny (model prog w) A (call (.builtin "list.append") [.ref D, x]) Q E s := by
  obtain ⟨pre, post, e1, e2, h1, h2⟩ := U.split
  have U' : Upd D (listOf ms.toArray en) (listOf (ms.toArray.push x) (en + 1)) news (g (listOf (ms.toArray.push x) (en + 1))) := by
    rw [e1, e2]
    clear e1 e2 U N
    induction pre with
    | nil => exact .head h2
    | cons p r ih => exact .tail (h1 p (.head _)) (ih fun q hq => h1 q (.tail _ hq))
  refine append_K F N U' (fun h' F' N' => h h' F' (by rw [← List.push_toArray]; exact N')) (by rw [List.size_toArray]; exact Nat.le_trans hsz (by decide))
theorem in_listN {D : Addr} {ms : List Value} {ns : List Int} {en : Nat} {k : Int} {t : Tok} {Q : Value → Shared → Prop} (N : News h₀ L s.heap news) (hm : (D, listOf ms.toArray en) ∈ news) (hi : IntsAre ms ns)
    (h : Q (.bool (decide (k ∈ ns))) s) : wpAny (model prog w) A (compareOp .In (.int k t) (.ref D)) Q E s := by
  have e : ns.any (· == k) = decide (k ∈ ns) := by
    rw [Bool.eq_iff_iff, decide_eq_true_eq, List.any_eq_true]
    exact ⟨fun ⟨y, hy, q⟩ => (by rw [← beq_iff_eq.mp q]; exact hy), fun q => ⟨k, q, by simp⟩⟩
  exact in_list_ints ⟨_, (N _ hm).1, rfl, _, rfl⟩ hi (by rw [e]; exact h)
end

def RingJ (xs : List Int) (us : List Value) (v mt : Addr) (lapn heren : Str) (m₀ : Str → Option Value) (i : Nat) (m : Str → Option Value) (nx : Led) : Prop :=
  ∃ (here : Int) (th : Tok) (lp : Option Value) (ms : List Value) (mets : List Int) (en : Nat), m = (fun y => if y = lapn then lp else if y = heren then some (.int here th) else m₀ y) ∧ nx = [(mt, listOf ms.toArray en), (v, tupO us 0)] ∧
    IntsAre ms mets ∧ mets.length = i ∧ i ≤ xs.length ∧ ringGo xs (xs.length - i) here mets = ringF xs

theorem ringJ_step {xs : List Int} {us : List Value} {v mt : Addr} {lapn heren : Str} {m₀ : Str → Option Value} {i : Nat} {here : Int} {th t2 t3 : Tok} {vv : Value} {ms : List Value} {mets : List Int} {en : Nat}
    (hne : lapn ≠ heren) (hi : IntsAre ms mets) (hl : mets.length = i) (hx : i < xs.length) (hg : ringGo xs (xs.length - i) here mets = ringF xs) (h1 : here ∉ mets) (h2 : 1 ≤ here) (h3 : here ≤ (xs.length : Int)) :
    RingJ xs us v mt lapn heren m₀ (i + 1) (fun y : Str => if y = heren then some (Value.int (xs.getD (here - 1).toNat 0) t3) else if y = lapn then some vv else if y = heren then some (Value.int here th) else m₀ y) [(mt, listOf (ms ++ [Value.int here t2]).toArray en), (v, tupO us 0)] := by
  refine ⟨xs.getD (here - 1).toNat 0, t3, some vv, ms ++ [.int here t2], mets ++ [here], en, ?_, rfl, hi.append (.cons here t2 .nil), by simp [hl], hx, ?_⟩
  · funext y
    by_cases e1 : y = heren
    · subst e1; simp [Ne.symm hne]
    · simp only [if_neg e1]
  · have e : xs.length - i = (xs.length - (i + 1)) + 1 := by omega
    rw [e, ringGo, if_neg (by simp only [not_or, Classical.not_not]; exact ⟨h1, h2, h3⟩)] at hg
    exact hg
theorem ring_stop {xs : List Int} {i : Nat} {here : Int} {mets : List Int} (hx : i < xs.length) (hg : ringGo xs (xs.length - i) here mets = ringF xs) (h : here ∈ mets ∨ ¬ (1 ≤ here ∧ here ≤ (xs.length : Int))) : ringF xs = false := by
  have e : xs.length - i = (xs.length - (i + 1)) + 1 := by omega
  rw [e, ringGo, if_pos h] at hg
  exact hg.symm

section
variable {prog : Program} {w : World} {A : Around} {E : Value → Shared → Prop} {s : Shared} {env : Env} {h₀ : Heap} {body : List Stmt} {Q : Flow → Shared → Prop}
theorem ring_loop {v mt : Addr} {us : List Value} {xs : List Int} {lapn heren : Str} {m₀ : Str → Option Value} {t1 : Tok} {en : Nat} {news : Led} (hh : A.handled = none) (F : Fr h₀ env.locals s.heap m₀) (N : News h₀ env.locals s.heap news)
    (hus : IntsAre us xs) (hm1 : (mt, listOf #[] en) ∈ news) (hm2 : (v, tupO us 0) ∈ news) (hhere : m₀ heren = some (.int 1 t1)) (hne : lapn ≠ heren)
    (turn : ∀ (I : Addr) (i : Nat) (here : Int) (th : Tok) (vv : Value) (ms : List Value) (mets : List Int) (en' : Nat) (it : Obj) h tk, (∀ p ∈ ([(mt, listOf ms.toArray en'), (v, tupO us 0)] : Led), p.1 < I) → i < xs.length → IntsAre ms mets → mets.length = i → ringGo xs (xs.length - i) here mets = ringF xs → it.cls = .type "tuple_iterator" →
      Fr h₀ env.locals h (fun y => if y = lapn then some vv else if y = heren then some (.int here th) else m₀ y) → News h₀ env.locals h [(I, it), (mt, listOf ms.toArray en'), (v, tupO us 0)] →
      wpAny (model prog w) A (execs body env) (UnrPost h₀ env.locals { s with heap := h, toks := tk } I it (RingJ xs us v mt lapn heren m₀ (i + 1)) Q) E { s with heap := h, toks := tk })
    (done : ∀ (here : Int) (th : Tok) (lp : Option Value) (ms : List Value) (en' : Nat) h tk, decide (here = 1) = ringF xs → Fr h₀ env.locals h (fun y => if y = lapn then lp else if y = heren then some (.int here th) else m₀ y) → News h₀ env.locals h [(mt, listOf ms.toArray en'), (v, tupO us 0)] → Q .next { s with heap := h, toks := tk }) :
    wpAny (model prog w) A (pyIter (.ref v)) (fun it s₂ => LoopAtV prog w A h₀ env lapn body Q E it s₂) E s := by
  have hl : us.length = xs.length := hus.length
  have N0 : News h₀ env.locals s.heap [(mt, listOf #[] en), (v, tupO us 0)] := fun p hp => N p (by
    rcases List.mem_cons.mp hp with rfl | hp
    · exact hm1
    · rw [List.mem_singleton.mp hp]; exact hm2)
  refine iter_tup (vs := us) (e := 0) (news := [(mt, listOf #[] en), (v, tupO us 0)]) (RingJ xs us v mt lapn heren m₀) hh F N0 (by simp) ⟨1, t1, m₀ lapn, [], [], en, ?_, rfl, .nil, rfl, Nat.zero_le _, rfl⟩ ?_ ?_ ?_
  · funext y
    by_cases e1 : y = lapn
    · rw [if_pos e1, e1]
    · rw [if_neg e1]
      by_cases e2 : y = heren
      · rw [if_pos e2, e2]; exact hhere
      · rw [if_neg e2]
  · rintro i m n ⟨_, _, _, _, _, _, _, rfl, _⟩; simp
  · rintro i vv m₁ n₁ it h tk hv hic ⟨here, th, lp, ms, mets, en', rfl, rfl, hi, hml, hix, hg⟩ F₁ N₁
    have hlt : i < xs.length := by
      rcases Nat.lt_or_ge i us.length with q | q
      · rw [← hl]; exact q
      · rw [List.getElem?_eq_none q] at hv; cases hv
    have e : (fun y => if y = lapn then some vv else (fun y => if y = lapn then lp else if y = heren then some (.int here th) else m₀ y) y) = fun y => if y = lapn then some vv else if y = heren then some (.int here th) else m₀ y := by
      funext y
      by_cases e1 : y = lapn
      · rw [if_pos e1, if_pos e1]
      · rw [if_neg e1, if_neg e1]; dsimp only; rw [if_neg e1]
    rw [e] at F₁
    refine turn _ i here th vv ms mets en' it h tk (fun p hp => ?_) hlt hi hml hg hic F₁ N₁
    rcases List.mem_cons.mp hp with rfl | hp
    · exact Heap.lt_size (N _ hm1).1
    · rw [List.mem_singleton.mp hp]; exact Heap.lt_size (N _ hm2).1
  · rintro m₁ n₁ h tk ⟨here, th, lp, ms, mets, en', rfl, rfl, _, _, _, hg⟩ F' N'
    rw [hl, Nat.sub_self] at hg
    exact done here th lp ms en' h tk hg F' N'
end
end Mine
namespace Mine
open PySem PySem.W PySem.Calls PyProof.Rows PySem.Spec

set_option maxHeartbeats 4000000 in
theorem circ_check (w : World) (mean : ExcName → Option Value) (mg mb : Str → Option Value) {self : Value} {v : Addr} {us : List Value} {xs : List Int}
    (hi : IntsAre us xs) (h2 : 1 ≤ xs.length) (h8 : xs.length ≤ 3) :
    Con w mean mg mb 2 114 [self, .ref v] [(v, tupO us 0)] (BoolPost (ringF xs) [(v, tupO us 0)]) := by
  k_dflt (
  refine' con_of ?k7 ?k8 ?kA ?kB ?_ ?c2 ?c3 ?c4 ?c5;
  (case k7 => k_is); (case k8 => k_is);
  (case kA => exact fun _ => BindsTo.of_eq rfl); (case kB => exact locs rfl); (case c2 => exact rfl); (case c3 => exact rfl); (case c4 => exact rfl); (case c5 => decide))
  intro dp gd un outer base g s B st sz X T hroom hu L' h₁ Q' F N hlt hret
  (try k_lt hlt); (try dsimp only at *); (try k_lift B); (try k_fold)
  k_with_none
  k_with "call builtin:len!" => ((
  k_here
  (with_reducible show wpAny _ _ (PySem.call (Value.builtin _) [Value.ref _]) _ _ _)
  k_dflt (refine' len_tupN ?N ?m ?i ?f ?_; (case N => k_asm); (case m => k_mem); (case i => with_reducible assumption); (case f => omega))
  k_whole))
  k_with "subscriptTail!" => ((
  k_here
  (with_reducible show wpAny _ _ (subscriptTail _ _ (Value.ref _) (Value.int _ _)) _ _ _)
  k_dflt (first
    | (refine' item_tupN ?N ?m ?i ?h0 ?h1 ?f ?_ ?k6; (case N => k_asm); (case m => k_mem); (case i => with_reducible assumption); (case h0 => omega); (case h1 => omega); (case f => omega); (case k6 => with_unfolding_all rfl))
    | ((with_reducible show wpAny _ _ (subscriptTail _ _ (Value.ref _) (Value.int (-1) _)) _ _ _); refine' item_tup_last ?N ?m ?i ?h1 ?_ ?k6; (case N => k_asm); (case m => k_mem); (case i => with_reducible assumption); (case h1 => omega); (case k6 => with_unfolding_all rfl)))
  k_whole
  intro t'))
  k_with "call type:tuple!" => ((
  k_here
  (with_reducible show wpAny _ _ (PySem.call (Value.type _) [Value.ref _]) _ _ _)
  k_dflt (refine' tup_sameN ?N ?m ?_; (case N => k_asm); (case m => k_mem))
  k_whole))
  k_with "pyIter ref!" => ((
  k_here
  (with_reducible show wpAny _ _ (pyIter (Value.ref _)) (fun it s₂ => LoopAtV _ _ _ _ _ _ _ _ _ it s₂) _ _)
  k_dflt (refine' iter_tupUnr ?hh ?F ?N ?m ?_; (case hh => exact rfl); (case F => k_asm); (case N => k_asm); (case m => k_mem))
  k_whole
  intro i' l1
  (try k_lt l1)))
  k_with "TupRest!" => ((with_unfolding_all first | (refine TupRest.succ (fun it' h' tk' hit' F' N' => ?_)) | (refine TupRest.zero (fun h' tk' F' N' => ?_))))
  k_with "compareOp In int ref!" => ((
  k_here
  (with_reducible show wpAny _ _ (compareOp CmpOp.In (Value.int _ _) (Value.ref _)) _ _ _)
  k_dflt (refine in_rangeK (by with_reducible assumption) ?_)
  k_whole))
  k_with "binaryOp Add ref ref!" => ((
  k_here
  k_dflt (refine' add_tupN ?F ?N ?m1 ?m2 ?v ?w ?z ?_; (case F => k_asm); (case N => k_asm); (case m1 => k_mem); (case m2 => k_mem); (case v => ((try simp only [List.length_append, List.length_cons, List.length_nil]); omega)); (case w => ((try simp only [List.length_append, List.length_cons, List.length_nil]); omega)); (case z => ((try simp only [List.length_append, List.length_cons, List.length_nil]); omega)))
  k_whole
  intro D' h' F' N' l1
  (try simp only [List.cons_append, List.nil_append, List.append_assoc] at N'); (try k_lt l1); (try dsimp only); (try k_fold)))
  k_with "pyIter ref!" => (k_extra "pyIter ref")
  k_with "UnrEnd!" => (k_extra "UnrEnd")
  k_with "call builtin:list.append!" => ((
  k_here
  k_dflt (refine' append_intsN ?F ?N ?U ?z ?_; (case F => k_asm); (case N => k_asm); (case U => k_updF); (case z => omega))
  k_whole
  intro h' F' N'
  (try dsimp only at N'); (try dsimp only); (try k_fold)))
  k_with "compareOp In int ref!" => ((
  k_here
  (with_reducible show wpAny _ _ (compareOp CmpOp.In (Value.int _ _) (Value.ref _)) _ _ _)
  k_dflt (refine' in_listN ?N ?m ?i ?_; (case N => k_asm); (case m => k_mem); (case i => with_reducible assumption))
  k_whole))
  k_with "pyIter ref" => (
    k_dflt (refine' ring_loop (v := v) (us := us) (xs := xs) (lapn := Str.ofString "lap") (heren := Str.ofString "here") ?hh ?F ?N ?hus ?hm1 ?hm2 ?hhere ?hne ?_ ?_
            (case hh => exact rfl); (case F => k_asm); (case N => k_asm); (case hus => assumption); (case hm1 => k_mem); (case hm2 => k_mem); (case hhere => exact rfl); (case hne => decide))
    k_whole
    intro I' i' here' th' vv' ms' mets' en' it' h' tk' l1 hix him hml hg hit F' N'
    (have hml2 := him.length)
    (try k_lt l1); (try dsimp only); (try k_fold)
    rotate_left
    intro here' th' lp' ms' en' h' tk' hg F' N'
    (try dsimp only); (try k_fold)
    rotate_left)
  k_with "UnrEnd" => (
    k_dflt (refine' UnrEnd.intro ?F ?N _ ?sub ?off (ringJ_step (by decide) ?k1 ?k2 ?k3 ?k4 ?k5 ?k6 ?k7)
            (case F => k_asm); (case N => k_asm); (case k1 => assumption); (case k2 => assumption); (case k3 => assumption); (case k4 => assumption); (case k5 => assumption); (case k6 => assumption); (case k7 => assumption)
            (case sub => lcg_sub); (case off => k_all)))
  (repeat' (first | (k_unfold; (try dsimp only)) | walk1 | (dsimp only; walk1) | (leave1; (try dsimp only))))
  all_goals (try dsimp only)
  all_goals (repeat (k_unfold; (try dsimp only)))
  all_goals (refine hret _ _ _ _ _ (by k_asm) (cb_drop (by assumption) (by lcg_sub)) (BoolPost.mk ?_))
  · exact (ring_stop hix hg (.inl (by assumption))).symm
  · exact (ring_stop hix hg (.inr (by omega))).symm
  · exact (ring_stop hix hg (.inr (by omega))).symm
  · rw [← hg, Bool.eq_iff_iff]; simp
end Mine
namespace Mine
open PySem PySem.W PySem.Calls PyProof.Rows PySem.Spec

set_option maxHeartbeats 4000000 in
theorem ring_con (w : World) (mean : ExcName → Option Value) (mg mb : Str → Option Value) {v : Addr} {us : List Value} {xs : List Int}
    (hi : IntsAre us xs) (h2 : 1 ≤ xs.length) (h8 : xs.length ≤ 3) :
    Con w mean mg mb 2 403 [.ref v] [(v, tupO us 0)] (BoolPost (ringF xs) [(v, tupO us 0)]) := by
  k_dflt (
  refine' con_of ?k7 ?k8 ?kA ?kB ?_ ?c2 ?c3 ?c4 ?c5;
  (case k7 => k_is); (case k8 => k_is);
  (case kA => exact fun _ => BindsTo.of_eq rfl); (case kB => exact locs rfl); (case c2 => exact rfl); (case c3 => exact rfl); (case c4 => exact rfl); (case c5 => decide))
  intro dp gd un outer base g s B st sz X T hroom hu L' h₁ Q' F N hlt hret
  (try k_lt hlt); (try dsimp only at *); (try k_lift B); (try k_fold)
  k_with_none
  k_with "call builtin:len!" => ((
  k_here
  (with_reducible show wpAny _ _ (PySem.call (Value.builtin _) [Value.ref _]) _ _ _)
  k_dflt (refine' len_tupN ?N ?m ?i ?f ?_; (case N => k_asm); (case m => k_mem); (case i => with_reducible assumption); (case f => omega))
  k_whole))
  k_with "subscriptTail!" => ((
  k_here
  (with_reducible show wpAny _ _ (subscriptTail _ _ (Value.ref _) (Value.int _ _)) _ _ _)
  k_dflt (first
    | (refine' item_tupN ?N ?m ?i ?h0 ?h1 ?f ?_ ?k6; (case N => k_asm); (case m => k_mem); (case i => with_reducible assumption); (case h0 => omega); (case h1 => omega); (case f => omega); (case k6 => with_unfolding_all rfl))
    | ((with_reducible show wpAny _ _ (subscriptTail _ _ (Value.ref _) (Value.int (-1) _)) _ _ _); refine' item_tup_last ?N ?m ?i ?h1 ?_ ?k6; (case N => k_asm); (case m => k_mem); (case i => with_reducible assumption); (case h1 => omega); (case k6 => with_unfolding_all rfl)))
  k_whole
  intro t'))
  k_with "call type:tuple!" => ((
  k_here
  (with_reducible show wpAny _ _ (PySem.call (Value.type _) [Value.ref _]) _ _ _)
  k_dflt (refine' tup_sameN ?N ?m ?_; (case N => k_asm); (case m => k_mem))
  k_whole))
  k_with "pyIter ref!" => ((
  k_here
  (with_reducible show wpAny _ _ (pyIter (Value.ref _)) (fun it s₂ => LoopAtV _ _ _ _ _ _ _ _ _ it s₂) _ _)
  k_dflt (refine' iter_tupUnr ?hh ?F ?N ?m ?_; (case hh => exact rfl); (case F => k_asm); (case N => k_asm); (case m => k_mem))
  k_whole
  intro i' l1
  (try k_lt l1)))
  k_with "TupRest!" => ((with_unfolding_all first | (refine TupRest.succ (fun it' h' tk' hit' F' N' => ?_)) | (refine TupRest.zero (fun h' tk' F' N' => ?_))))
  k_with "compareOp In int ref!" => ((
  k_here
  (with_reducible show wpAny _ _ (compareOp CmpOp.In (Value.int _ _) (Value.ref _)) _ _ _)
  k_dflt (refine in_rangeK (by with_reducible assumption) ?_)
  k_whole))
  k_with "binaryOp Add ref ref!" => ((
  k_here
  k_dflt (refine' add_tupN ?F ?N ?m1 ?m2 ?v ?w ?z ?_; (case F => k_asm); (case N => k_asm); (case m1 => k_mem); (case m2 => k_mem); (case v => ((try simp only [List.length_append, List.length_cons, List.length_nil]); omega)); (case w => ((try simp only [List.length_append, List.length_cons, List.length_nil]); omega)); (case z => ((try simp only [List.length_append, List.length_cons, List.length_nil]); omega)))
  k_whole
  intro D' h' F' N' l1
  (try simp only [List.cons_append, List.nil_append, List.append_assoc] at N'); (try k_lt l1); (try dsimp only); (try k_fold)))
  k_with "pyIter ref!" => (k_extra "pyIter ref")
  k_with "UnrEnd!" => (k_extra "UnrEnd")
  k_with "call builtin:list.append!" => ((
  k_here
  k_dflt (refine' append_intsN ?F ?N ?U ?z ?_; (case F => k_asm); (case N => k_asm); (case U => k_updF); (case z => omega))
  k_whole
  intro h' F' N'
  (try dsimp only at N'); (try dsimp only); (try k_fold)))
  k_with "compareOp In int ref!" => ((
  k_here
  (with_reducible show wpAny _ _ (compareOp CmpOp.In (Value.int _ _) (Value.ref _)) _ _ _)
  k_dflt (refine' in_listN ?N ?m ?i ?_; (case N => k_asm); (case m => k_mem); (case i => with_reducible assumption))
  k_whole))
  k_with "pyIter ref" => (
    k_dflt (refine' ring_loop (v := v) (us := us) (xs := xs) (lapn := Str.ofString "lap") (heren := Str.ofString "here") ?hh ?F ?N ?hus ?hm1 ?hm2 ?hhere ?hne ?_ ?_
            (case hh => exact rfl); (case F => k_asm); (case N => k_asm); (case hus => assumption); (case hm1 => k_mem); (case hm2 => k_mem); (case hhere => exact rfl); (case hne => decide))
    k_whole
    intro I' i' here' th' vv' ms' mets' en' it' h' tk' l1 hix him hml hg hit F' N'
    (have hml2 := him.length)
    (try k_lt l1); (try dsimp only); (try k_fold)
    rotate_left
    intro here' th' lp' ms' en' h' tk' hg F' N'
    (try dsimp only); (try k_fold)
    rotate_left)
  k_with "UnrEnd" => (
    k_dflt (refine' UnrEnd.intro ?F ?N _ ?sub ?off (ringJ_step (by decide) ?k1 ?k2 ?k3 ?k4 ?k5 ?k6 ?k7)
            (case F => k_asm); (case N => k_asm); (case k1 => assumption); (case k2 => assumption); (case k3 => assumption); (case k4 => assumption); (case k5 => assumption); (case k6 => assumption); (case k7 => assumption)
            (case sub => lcg_sub); (case off => k_all)))
  (repeat' (first | (k_unfold; (try dsimp only)) | walk1 | (dsimp only; walk1) | (leave1; (try dsimp only))))
  all_goals (try dsimp only)
  all_goals (repeat (k_unfold; (try dsimp only)))
  all_goals (refine hret _ _ _ _ _ (by k_asm) (cb_drop (by assumption) (by lcg_sub)) (BoolPost.mk ?_))
  · exact (ring_stop hix hg (.inl (by assumption))).symm
  · exact (ring_stop hix hg (.inr (by omega))).symm
  · exact (ring_stop hix hg (.inr (by omega))).symm
  · rw [← hg, Bool.eq_iff_iff]; simp
end Mine
namespace Mine
open PySem PySem.W PySem.Calls PyProof.Rows PySem.Spec

set_option maxHeartbeats 4000000 in
theorem circ_keeps (w : World) (mean : ExcName → Option Value) (mg mb : Str → Option Value) {t o v : Addr} {us : List Value} {xs : List Int} {ts : Tok} {os : List Value}
    (hi : IntsAre us xs) (h2 : 1 ≤ xs.length) (h8 : xs.length ≤ 3) :
    Con w mean mg mb 4 408 [.ref t, .ref v] [(t, tupO [.str (Str.ofString "circuit") ts, .ref o] 0), (o, tupO os 0), (v, tupO us 0)] (BoolPost (ringF xs) [(t, tupO [.str (Str.ofString "circuit") ts, .ref o] 0), (o, tupO os 0), (v, tupO us 0)]) := by
  k_dflt (
  refine' con_ofC ?k7 ?k8 ?kA ?kB ?kD ?_ ?c2 ?c3 ?c4;
  (case k7 => k_is); (case k8 => k_is);
  (case kA => exact fun _ => BindsTo.of_eq rfl); (case kB => exact rfl); (case kD => decide +kernel); (case c2 => exact rfl); (case c3 => exact rfl); (case c4 => exact rfl))
  intro dp gd un outer base g s B st sz X T hroom hu L' h₁ tk' cells' Q' F N' Y' hlt hret
  (try k_lt hlt)
  k_cells Y'
  (try simp only [List.cons_append, List.nil_append] at N')
  (try dsimp only at *); (try k_lift B); (try k_fold)
  k_with_none
  k_with "call builtin:len!" => ((
  k_here
  (with_reducible show wpAny _ _ (PySem.call (Value.builtin _) [Value.ref _]) _ _ _)
  k_dflt (refine' len_tupN ?N ?m ?i ?f ?_; (case N => k_asm); (case m => k_mem); (case i => with_reducible assumption); (case f => omega))
  k_whole))
  k_with "subscriptTail!" => ((
  k_here
  (with_reducible show wpAny _ _ (subscriptTail _ _ (Value.ref _) (Value.int _ _)) _ _ _)
  k_dflt (first
    | (refine' item_tupN ?N ?m ?i ?h0 ?h1 ?f ?_ ?k6; (case N => k_asm); (case m => k_mem); (case i => with_reducible assumption); (case h0 => omega); (case h1 => omega); (case f => omega); (case k6 => with_unfolding_all rfl))
    | ((with_reducible show wpAny _ _ (subscriptTail _ _ (Value.ref _) (Value.int (-1) _)) _ _ _); refine' item_tup_last ?N ?m ?i ?h1 ?_ ?k6; (case N => k_asm); (case m => k_mem); (case i => with_reducible assumption); (case h1 => omega); (case k6 => with_unfolding_all rfl)))
  k_whole
  intro t'))
  k_with "call type:tuple!" => ((
  k_here
  (with_reducible show wpAny _ _ (PySem.call (Value.type _) [Value.ref _]) _ _ _)
  k_dflt (refine' tup_sameN ?N ?m ?_; (case N => k_asm); (case m => k_mem))
  k_whole))
  k_with "pyIter ref!" => ((
  k_here
  (with_reducible show wpAny _ _ (pyIter (Value.ref _)) (fun it s₂ => LoopAtV _ _ _ _ _ _ _ _ _ it s₂) _ _)
  k_dflt (refine' iter_tupUnr ?hh ?F ?N ?m ?_; (case hh => exact rfl); (case F => k_asm); (case N => k_asm); (case m => k_mem))
  k_whole
  intro i' l1
  (try k_lt l1)))
  k_with "TupRest!" => ((with_unfolding_all first | (refine TupRest.succ (fun it' h' tk' hit' F' N' => ?_)) | (refine TupRest.zero (fun h' tk' F' N' => ?_))))
  k_with "compareOp In int ref!" => ((
  k_here
  (with_reducible show wpAny _ _ (compareOp CmpOp.In (Value.int _ _) (Value.ref _)) _ _ _)
  k_dflt (refine in_rangeK (by with_reducible assumption) ?_)
  k_whole))
  k_with "binaryOp Add ref ref!" => ((
  k_here
  k_dflt (refine' add_tupN ?F ?N ?m1 ?m2 ?v ?w ?z ?_; (case F => k_asm); (case N => k_asm); (case m1 => k_mem); (case m2 => k_mem); (case v => ((try simp only [List.length_append, List.length_cons, List.length_nil]); omega)); (case w => ((try simp only [List.length_append, List.length_cons, List.length_nil]); omega)); (case z => ((try simp only [List.length_append, List.length_cons, List.length_nil]); omega)))
  k_whole
  intro D' h' F' N' l1
  (try simp only [List.cons_append, List.nil_append, List.append_assoc] at N'); (try k_lt l1); (try dsimp only); (try k_fold)))
  k_with "call ref!" => ((
  k_here
  (with_reducible show wpAny _ _ (PySem.call (Value.ref 403) _ _) _ _ _)
  k_dflt (
    refine wpAny_call ?_
    refine' bool_use (ring_con _ _ _ _ ?hi ?h2 ?h8) ?c5 ?c3 ?c1 ?c2 ?c4 ?c6 ?c8 ?c9 ?c10 ?c11 ?c12 ?c13 ?_
    (case c1 => exact rfl); (case c3 => k_asm); (case c2 => k_asm); (case c4 => k_asm); (case c5 => k_asm); (case c6 => k_asm)
    (case c8 => exact List.forall_mem_singleton.mpr (by k_mem)); (case hi => assumption); (case h2 => omega); (case h8 => omega)
    (case c9 => exact rfl); (case c10 => exact rfl); (case c11 => first | exact rfl | assumption); (case c12 => ktr_room); (case c13 => ktr_units)
    k_whole
    intro h9' u9' F9' N9'
    (try dsimp only)
    (try k_fold))))
  (repeat' (first | (k_unfold; (try dsimp only)) | walk1 | (dsimp only; walk1) | (leave1; (try dsimp only))))
  all_goals (try dsimp only)
  all_goals (refine hret _ _ _ _ _ (by k_asm) (cb_drop (by assumption) (by lcg_sub)) (BoolPost.mk rfl))
end Mine
namespace Mine
open PySem PySem.W PySem.Calls PyProof.Rows PySem.Spec

set_option maxHeartbeats 8000000 in
theorem values0_circ (w : World) (mean : ExcName → Option Value) (mg mb : Str → Option Value) {fa t sc : Addr} {ss : List Value} {zs : List Int} {tl : Tok} {o : Addr} {ts : Tok} {q : Nat}
    (hs : IntsAre ss zs) (h1 : 1 ≤ q) (h3 : q ≤ 3) (hsl : zs.length = q) :
    Con w mean mg mb 12 413 [.ref fa, .ref t, .ref sc, .int 0 tl] [(t, tupO [.str (Str.ofString "circuit") ts, .ref o] 0), (sc, tupO ss 0)] (NewPost (ValP (q)) [(t, tupO [.str (Str.ofString "circuit") ts, .ref o] 0), (sc, tupO ss 0)]) := by
  k_dflt (
  refine' con_ofC ?k7 ?k8 ?kA ?kB ?kD ?_ ?c2 ?c3 ?c4;
  (case k7 => k_is); (case k8 => k_is);
  (case kA => exact fun _ => BindsTo.of_eq rfl); (case kB => exact rfl); (case kD => decide +kernel); (case c2 => exact rfl); (case c3 => exact rfl); (case c4 => exact rfl))
  intro dp gd un outer base g s B st sz X T hroom hu L' h₁ tk' cells' Q' F N' Y' hlt hret
  (try k_lt hlt)
  k_cells Y'
  (try simp only [List.cons_append, List.nil_append] at N')
  (try dsimp only at *); (try k_lift B); (try k_fold)
  k_with_none
  k_with "call builtin:len!" => ((
  k_here
  (with_reducible show wpAny _ _ (PySem.call (Value.builtin _) [Value.ref _]) _ _ _)
  k_dflt (refine' len_tupN ?N ?m ?i ?f ?_; (case N => k_asm); (case m => k_mem); (case i => with_reducible assumption); (case f => omega))
  k_whole))
  k_with "subscriptTail!" => ((
  k_here
  (with_reducible show wpAny _ _ (subscriptTail _ _ (Value.ref _) (Value.int _ _)) _ _ _)
  k_dflt (first
    | (refine' item_tupN ?N ?m ?i ?h0 ?h1 ?f ?_ ?k6; (case N => k_asm); (case m => k_mem); (case i => with_reducible assumption); (case h0 => omega); (case h1 => omega); (case f => omega); (case k6 => with_unfolding_all rfl))
    | ((with_reducible show wpAny _ _ (subscriptTail _ _ (Value.ref _) (Value.int (-1) _)) _ _ _); refine' item_tup_last ?N ?m ?i ?h1 ?_ ?k6; (case N => k_asm); (case m => k_mem); (case i => with_reducible assumption); (case h1 => omega); (case k6 => with_unfolding_all rfl)))
  k_whole
  intro t'))
  k_with "call type:tuple!" => ((
  k_here
  (with_reducible show wpAny _ _ (PySem.call (Value.type _) [Value.ref _]) _ _ _)
  k_dflt (refine' tup_sameN ?N ?m ?_; (case N => k_asm); (case m => k_mem))
  k_whole))
  k_with "pyIter ref!" => ((
  k_here
  (with_reducible show wpAny _ _ (pyIter (Value.ref _)) (fun it s₂ => LoopAtV _ _ _ _ _ _ _ _ _ it s₂) _ _)
  k_dflt (refine' iter_tupUnr ?hh ?F ?N ?m ?_; (case hh => exact rfl); (case F => k_asm); (case N => k_asm); (case m => k_mem))
  k_whole
  intro i' l1
  (try k_lt l1)))
  k_with "TupRest!" => ((with_unfolding_all first | (refine TupRest.succ (fun it' h' tk' hit' F' N' => ?_)) | (refine TupRest.zero (fun h' tk' F' N' => ?_))))
  k_with "compareOp In int ref!" => ((
  k_here
  (with_reducible show wpAny _ _ (compareOp CmpOp.In (Value.int _ _) (Value.ref _)) _ _ _)
  k_dflt (refine in_rangeK (by with_reducible assumption) ?_)
  k_whole))
  k_with "binaryOp Add ref ref!" => ((
  k_here
  k_dflt (refine' add_tupN ?F ?N ?m1 ?m2 ?v ?w ?z ?_; (case F => k_asm); (case N => k_asm); (case m1 => k_mem); (case m2 => k_mem); (case v => ((try simp only [List.length_append, List.length_cons, List.length_nil]); omega)); (case w => ((try simp only [List.length_append, List.length_cons, List.length_nil]); omega)); (case z => ((try simp only [List.length_append, List.length_cons, List.length_nil]); omega)))
  k_whole
  intro D' h' F' N' l1
  (try simp only [List.cons_append, List.nil_append, List.append_assoc] at N'); (try k_lt l1); (try dsimp only); (try k_fold)))
  k_with "CompRest!" => ((with_unfolding_all first
  | (refine LCg.CompRest.succ ?_; intro v' I' oI' C' oC' D' m' h' tk' E' hv' hC' hx' F' N' off' ne'; (first | lcg_open hv' | (obtain ⟨t9', hv9'⟩ := hv'; subst hv9')); replace ne' := Apart3.of ne')
  | refine LCg.CompRest.zero ?_))
  k_with "FinE!" => (((unfold LCg.FinE); intro D' h' tk' F' N' o1'; (try simp only [List.nil_append, List.cons_append] at N'); (try dsimp only)))
  k_with "FinA!" => (((unfold LCg.FinA); intro D' h' tk' F' N' o1'; (try simp only [List.nil_append, List.cons_append] at N'); (try dsimp only)))
  k_with "call ref!" => ((
  k_here
  (with_reducible show wpAny _ _ (PySem.call (Value.ref 391) _ _) _ _ _)
  k_dflt (
    refine wpAny_call ?_
    refine' row_use ?c5 ?c3 ?c1 ?c2 ?c4 ?c6 ?c7 ?c8 ?hc ?hI ?hne ?hn0 ?hcl ?hm0 ?hm1 ?hm ?hm2 ?hm3 ?hm4 ?c9 ?c10 ?c11 ?c12 ?c13 ?_
    (case c1 => exact rfl); (case c3 => k_asm); (case c2 => k_asm); (case c4 => k_asm); (case c5 => k_asm); (case c6 => k_asm); (case c7 => k_updF); (case c8 => k_mem)
    (case hc => with_reducible assumption); (case hI => with_reducible assumption); (case hne => first | exact AllNe.ne (by with_reducible assumption) (by k_mem) | with_reducible assumption | omega); (case hn0 => with_reducible assumption); (case hcl => exact Nat.le_of_ble_eq_true rfl)
    (case hm0 => first | with_reducible assumption | exact Int.natCast_nonneg _ | exact many_lo (by with_reducible assumption) | omega); (case hm1 => first | with_reducible assumption | exact many_hi (by with_reducible assumption) | exact many_nat (by with_reducible assumption) (by with_reducible assumption) | omega)
    (case hm => decide); (case hm2 => decide); (case hm3 => decide); (case hm4 => decide)
    (case c9 => exact rfl); (case c10 => exact rfl); (case c11 => first | exact rfl | assumption); (case c12 => ktr_room); (case c13 => ktr_units)
    k_whole
    intro a9' us9' xs9' n9' tk9' e9' h9' u9' F9' N9' c9' o9' q9' l9' i9'
    (try dsimp only at N9')
    (try dsimp only)
    (try k_fold))))
  k_with "call type:tuple!" => ((
  k_here
  (with_reducible show wpAny _ _ (PySem.call (Value.type "tuple") [Value.ref _]) _ _ _)
  k_dflt (refine' tup_ofN ?F ?N ?m ?z ?_; (case F => k_asm); (case N => k_asm); (case m => k_mem); (case z => first | ((try simp only [List.length_append, List.length_cons, List.length_nil]); omega) | (rw [IntsAre.length (by with_reducible assumption)]; simp only [List.length_append, List.length_map, rangeKs_length, List.length_cons, List.length_nil]; omega)))
  k_whole
  intro D' h' F' N' l1
  (try k_lt l1); (try dsimp only); (try k_fold)))
  iterate 190 (try (first | (k_unfold; (try dsimp only)) | walk1 | (dsimp only; walk1)))
  refine' hret _ _ _ _ _ (by k_asm) (cb_drop (by assumption) ?sub) (NewPost.mk (own := [(_, tupO _ 0)]) ⟨_, _, _, rfl, rfl, ?are, ?len⟩ ?own)
  (case sub => lcg_sub)
  (case are => with_reducible assumption)
  (case len => (simp only [List.length_append, List.length_map, rangeKs_length, List.length_cons, List.length_nil]; omega))
  (case own => exact ownNe_one (List.forall_mem_cons.mpr ⟨by k_ne, List.forall_mem_cons.mpr ⟨by k_ne, List.forall_mem_nil _⟩⟩))
end Mine
namespace Mine
open PySem PySem.W PySem.Calls PyProof.Rows PySem.Spec
open PySem.Sem (wp)

abbrev titO (t : Addr) (i : Nat) : Obj := { cls := .type "tuple_iterator", dict := none, data := .fields #[.ref t, .int i 0], slots := #[] }
abbrev zipO (f0 : Value) (f1 : Bool) (TI TO : Addr) : Obj := { cls := .type "zip", dict := none, data := .fields #[f0, .bool f1, .bool false, .ref TI, .ref TO], slots := #[] }

section
variable {prog : Program} {w : World} {A : Around} {E : Value → Shared → Prop} {s : Shared}

theorem nextT_item {it t : Addr} {i e : Nat} {us : List Value} {x : Value} {Q : Value → Shared → Prop} (hit : s.heap.get? it = some (titO t i))
    (ht : s.heap.get? t = some (tupO us e)) (hx : us[i]? = some x)
    (hQ : ∀ h', h'.get? it = some (titO t (i + 1)) → Heap.SameBut it s.heap h' → Q x { s with heap := h' }) :
    wpAny (model prog w) A (Builtin.SmallTypes.nextOf (.ref it)) Q E s := by
  have hT : s.TypeIs (.ref it) "tuple_iterator" := ⟨_, hit, rfl⟩
  unfold Builtin.SmallTypes.nextOf
  refine wpAny_bind (wpAny_callSpecial?_slot (name := Str.ofString "__next__") hT F.slot_tuple_iterator_next
    (wpAny_call_entry F.slot_tuple_iterator_next hT F.entry_tuple_iterator_next ?_ (F.args_tuple_iterator_next_1 _)))
  show wpAny _ _ (field (.ref it) 0 >>= _) _ _ s
  refine wpAny_bind (wpAny_field hit rfl (x := .ref t) rfl ?_)
  show wpAny _ _ (if (Value.ref t == Value.none) = true then _ else _) _ _ s
  rw [if_neg (show ¬ ((Value.ref t == Value.none) = true) from Bool.false_ne_true)]
  show wpAny _ _ (field (.ref it) 1 >>= _) _ _ s
  refine wpAny_bind (wpAny_field hit rfl (x := .int i 0) rfl ?_)
  show wpAny _ _ (seqItems? (.ref t) >>= _) _ _ s
  refine wpAny_bind (wpAny_seqItems ht rfl ?_)
  simp only [Int.toNat_natCast, List.getElem?_toArray, hx]
  refine wpAny_bind (wpAny_setField_rec hit (by simp) fun h' hh hs => wpAny_pure ⟨x, rfl, wpAny_pure (hQ h' ?_ hs)⟩)
  have e1 : ((i + 1 : Nat) : Int) = (i : Int) + 1 := by omega
  show h'.get? it = some { cls := .type "tuple_iterator", dict := none, data := .fields #[.ref t, .int ((i + 1 : Nat) : Int) 0], slots := #[] }
  rw [e1]; simpa [rawInt] using hh

theorem nextT_end {it t : Addr} {i e : Nat} {us : List Value} {Q : Value → Shared → Prop} (hh : A.handled = none) (hit : s.heap.get? it = some (titO t i))
    (ht : s.heap.get? t = some (tupO us e)) (hx : us[i]? = none)
    (hE : ∀ h' e, Heap.ExtBut it s.heap h' → (∃ o, h'.get? e = some o ∧ o.cls = .type "StopIteration") → E (.ref e) { s with heap := h' }) :
    wpAny (model prog w) A (Builtin.SmallTypes.nextOf (.ref it)) Q E s := by
  have hT : s.TypeIs (.ref it) "tuple_iterator" := ⟨_, hit, rfl⟩
  unfold Builtin.SmallTypes.nextOf
  refine wpAny_bind (wpAny_callSpecial?_slot (name := Str.ofString "__next__") hT F.slot_tuple_iterator_next
    (wpAny_call_entry F.slot_tuple_iterator_next hT F.entry_tuple_iterator_next ?_ (F.args_tuple_iterator_next_1 _)))
  show wpAny _ _ (field (.ref it) 0 >>= _) _ _ s
  refine wpAny_bind (wpAny_field hit rfl (x := .ref t) rfl ?_)
  show wpAny _ _ (if (Value.ref t == Value.none) = true then _ else _) _ _ s
  rw [if_neg (show ¬ ((Value.ref t == Value.none) = true) from Bool.false_ne_true)]
  show wpAny _ _ (field (.ref it) 1 >>= _) _ _ s
  refine wpAny_bind (wpAny_field hit rfl (x := .int i 0) rfl ?_)
  show wpAny _ _ (seqItems? (.ref t) >>= _) _ _ s
  refine wpAny_bind (wpAny_seqItems ht rfl ?_)
  simp only [Int.toNat_natCast, List.getElem?_toArray, hx]
  refine wpAny_bind (wpAny_rule (wpAny_bind (wpAny_setField hit rfl (by simp) ?_)))
  show wpAny _ _ (newExc (.type "StopIteration") [] >>= _) _ _ _
  refine wpAny_bind ?_
  simp only [newExc, newTuple]
  refine wpAny_bind (wpAny_newObj_type ?_ (by size_fits))
  refine wpAny_bind (m := firstArgMember _ _) (wpAny_of_eq (a := Value.none) (by first | rfl | (simp only [firstArgMember]; rfl)) ?_)
  refine wpAny_newObj_type ?_ (by size_fits)
  simp only [raiseNew]
  refine wpAny_bind (wpAny_handled ?_)
  first | rw [show A.in1.handled = none from hh] | rw [hh]
  refine wpAny_bind (wpAny_pure (wpAny_throw ?_))
  exact hE _ _ (((Heap.SameBut.update ..).extBut.push _).push _) ⟨_, Heap.get?_push_size _ rfl, rfl⟩

theorem upd_pair {T : Addr} {a b x : Value} {k : Nat} {e : Nat} {Q : Unit → Shared → Prop} (hT : s.heap.get? T = some (tupO [a, b] e))
    (h : ∀ h', (∃ e', h'.get? T = some (tupO (([a, b] : List Value).set k x) e')) → Heap.SameBut T s.heap h' → Q () { s with heap := h' }) :
    wpAny (model prog w) A (updateSeq T (·.setIfInBounds k x)) Q E s := by
  refine wpAny_updateSeq hT rfl (h _ ⟨e, ?_⟩ (Heap.SameBut.update ..))
  rw [Heap.get?_update_self _ hT rfl]
  simp [Obj.mapSeq]
end

/-- a zip of two tuples amid its walk -/
structure ZS (z TI TO i1 i2 t1 t2 : Addr) (us vs : List Value) (e1 e2 k : Nat) (h : Heap) : Prop where
  zz : ∃ f0 f1, h.get? z = some (zipO f0 f1 TI TO) ∧ ((f0 = .none ∧ f1 = false) ∨ ∃ T0 oT, f0 = rawInt ((T0 : Nat) : Int) ∧ h.get? T0 = some oT ∧ oT.cls = .type "tuple" ∧ T0 ≠ z ∧ T0 ≠ TO ∧ T0 ≠ i1 ∧ T0 ≠ i2)
  ti : ∃ e, h.get? TI = some (tupO [.ref i1, .ref i2] e)
  to : ∃ a b e, h.get? TO = some (tupO [a, b] e)
  p1 : h.get? i1 = some (titO t1 k)
  p2 : h.get? i2 = some (titO t2 k)
  q1 : h.get? t1 = some (tupO us e1)
  q2 : h.get? t2 = some (tupO vs e2)
structure ZA (z TI TO i1 i2 t1 t2 : Addr) : Prop where
  TIz : TI ≠ z
  TOz : TO ≠ z
  i1z : i1 ≠ z
  i2z : i2 ≠ z
  TITO : TI ≠ TO
  TIi1 : TI ≠ i1
  TIi2 : TI ≠ i2
  TOi1 : TO ≠ i1
  TOi2 : TO ≠ i2
  i12 : i1 ≠ i2
  t1z : t1 ≠ z
  t1TO : t1 ≠ TO
  t1i1 : t1 ≠ i1
  t1i2 : t1 ≠ i2
  t2z : t2 ≠ z
  t2TO : t2 ≠ TO
  t2i1 : t2 ≠ i1
  t2i2 : t2 ≠ i2

section
variable {prog : Program} {w : World} {A : Around} {E : Value → Shared → Prop} {s : Shared} {z TI TO i1 i2 t1 t2 : Addr} {us vs : List Value} {e1 e2 k : Nat}
theorem alive_some {a : Addr} {o : Obj} {Q : Option Obj → Shared → Prop} (ho : s.heap.get? a = some o) (h : Q (some o) s) : wpAny (model prog w) A (loadIfAlive a) Q E s := kdx_alive ho h

theorem zip_item {x y : Value} {Q : Value → Shared → Prop} (D : ZA z TI TO i1 i2 t1 t2) (S : ZS z TI TO i1 i2 t1 t2 us vs e1 e2 k s.heap) (hx : us[k]? = some x) (hy : vs[k]? = some y)
    (hQ : ∀ T h' eT, ZS z TI TO i1 i2 t1 t2 us vs e1 e2 (k + 1) h' → h'.get? T = some (tupO [x, y] eT) →
      (∀ c o, c ≠ z → c ≠ TO → c ≠ i1 → c ≠ i2 → s.heap.get? c = some o → h'.get? c = some o) → s.heap.objs.size ≤ h'.objs.size → Q (.ref T) { s with heap := h' }) :
    wpAny (model prog w) A (Builtin.«zip.__next__» ⟨[.ref z], []⟩) (fun fin s' => ∃ v, fin = .done (.ret v) ∧ Q v s') E s := by
  obtain ⟨⟨f0, f1, hz, hf⟩, ⟨eTI, hTI⟩, ⟨a, b, eTO, hTO⟩, p1, p2, q1, q2⟩ := S
  show wpAny _ _ (field (.ref z) 2 >>= _) _ _ _
  refine wpAny_bind (wpAny_field hz rfl (x := .bool false) rfl ?_)
  show wpAny _ _ (field (.ref z) 3 >>= _) _ _ _
  refine wpAny_bind (wpAny_field hz rfl (x := .ref TI) rfl ?_)
  refine wpAny_bind (wpAny_seqItems hTI rfl ?_)
  show wpAny _ _ (Builtin.SmallTypes.ownedTupleIsFree (.ref z) >>= _) _ _ _
  rcases hf with ⟨rfl, rfl⟩ | ⟨T0, oT, rfl, hT0, hTc, n1, n2, n3, n4⟩
  · refine wpAny_bind ?_
    unfold Builtin.SmallTypes.ownedTupleIsFree
    refine wpAny_bind (wpAny_field hz rfl (x := .none) rfl (wpAny_pure ?_))
    simp only [if_true]
    refine wpAny_bind (wpAny_rule ?_)
    refine wpAny_bind (wpAny_field hz rfl (x := .ref TO) rfl ?_)
    refine wpAny_bind (wpAny_setField_rec hz (by simp) fun h₁ hz₁ hs₁ => ?_)
    replace hz₁ : h₁.get? z = some (zipO .ellipsis false TI TO) := hz₁
    refine wpAny_bind ?_
    simp only [List.zipIdx_cons, List.zipIdx_nil, List.forIn_cons, List.forIn_nil]
    refine wpAny_bind (wpAny_bind (wpAny_onRaise ?_))
    show wpAny _ _ (Builtin.SmallTypes.nextOf (.ref i1) >>= _) _ _ _
    refine wpAny_bind (nextT_item (hs₁.extBut _ _ D.i1z p1) (hs₁.extBut _ _ D.t1z q1) hx fun h₂ p1₂ hs₂ => wpAny_pure ?_)
    have hTO₂ : h₂.get? TO = some (tupO [a, b] eTO) := hs₂.extBut _ _ D.TOi1 (hs₁.extBut _ _ D.TOz hTO)
    refine wpAny_bind (wpAny_seqItems hTO₂ rfl ?_)
    refine wpAny_bind (upd_pair hTO₂ fun h₃ hTO₃ hs₃ => ?_)
    obtain ⟨eT3, hTO₃⟩ := hTO₃
    replace hTO₃ : h₃.get? TO = some (tupO [x, b] eT3) := hTO₃
    refine wpAny_bind (wpAny_letGo (wpAny_pure ?_))
    refine wpAny_bind (wpAny_bind (wpAny_onRaise ?_))
    show wpAny _ _ (Builtin.SmallTypes.nextOf (.ref i2) >>= _) _ _ _
    refine wpAny_bind (nextT_item (hs₃.extBut _ _ D.TOi2.symm (hs₂.extBut _ _ D.i12.symm (hs₁.extBut _ _ D.i2z p2)))
      (hs₃.extBut _ _ D.t2TO (hs₂.extBut _ _ D.t2i1 (hs₁.extBut _ _ D.t2z q2))) hy fun h₄ p2₄ hs₄ => wpAny_pure ?_)
    have hTO₄ : h₄.get? TO = some (tupO [x, b] eT3) := hs₄.extBut _ _ D.TOi2 hTO₃
    refine wpAny_bind (wpAny_seqItems hTO₄ rfl ?_)
    refine wpAny_bind (upd_pair hTO₄ fun h₅ hTO₅ hs₅ => ?_)
    obtain ⟨eT5, hTO₅⟩ := hTO₅
    replace hTO₅ : h₅.get? TO = some (tupO [x, y] eT5) := hTO₅
    refine wpAny_bind (wpAny_letGo (wpAny_pure (wpAny_pure ?_)))
    refine wpAny_bind (wpAny_seqItems hTO₅ rfl ?_)
    refine wpAny_bind (wpAny_newTuple ?_)
    have hsz : h₅.objs.size = s.heap.objs.size := by rw [hs₅.1, hs₄.1, hs₃.1, hs₂.1, hs₁.1]
    have hz₅ : h₅.get? z = some (zipO .ellipsis false TI TO) := hs₅.extBut _ _ D.TOz.symm (hs₄.extBut _ _ D.i2z.symm (hs₃.extBut _ _ D.TOz.symm (hs₂.extBut _ _ D.i1z.symm hz₁)))
    have hk₅ : ∀ c o, c ≠ z → c ≠ TO → c ≠ i1 → c ≠ i2 → s.heap.get? c = some o → h₅.get? c = some o := fun c o c1 c2 c3 c4 e =>
      hs₅.extBut _ _ c2 (hs₄.extBut _ _ c4 (hs₃.extBut _ _ c2 (hs₂.extBut _ _ c3 (hs₁.extBut _ _ c1 e))))
    have p1₅ : h₅.get? i1 = some (titO t1 (k + 1)) := hs₅.extBut _ _ D.TOi1.symm (hs₄.extBut _ _ D.i12 (hs₃.extBut _ _ D.TOi1.symm p1₂))
    have p2₅ : h₅.get? i2 = some (titO t2 (k + 1)) := hs₅.extBut _ _ D.TOi2.symm p2₄
    have hzlt : z < h₅.objs.size := Heap.lt_size hz₅
    show wpAny _ _ (Builtin.SmallTypes.ownedTupleHandOut (.ref z) (.ref h₅.objs.size) >>= _) _ _ _
    refine wpAny_bind ?_
    unfold Builtin.SmallTypes.ownedTupleHandOut
    have hz₆ : (h₅.push { cls := .type "tuple", data := .seq #[x, y] }).get? z = some (zipO .ellipsis false TI TO) := Heap.get?_push_of_some _ hz₅
    refine wpAny_bind (wpAny_setField_rec hz₆ (by simp) fun h₇ hz₇ hs₇ => ?_)
    replace hz₇ : h₇.get? z = some (zipO (rawInt h₅.objs.size) false TI TO) := hz₇
    refine wpAny_setField_rec hz₇ (by simp) fun h₈ hz₈ hs₈ => ?_
    replace hz₈ : h₈.get? z = some (zipO (rawInt h₅.objs.size) false TI TO) := hz₈
    have up : ∀ c o, c ≠ z → h₅.get? c = some o → h₈.get? c = some o := fun c o c1 e => hs₈.extBut _ _ c1 (hs₇.extBut _ _ c1 (Heap.get?_push_of_some _ e))
    have hT₈ : h₈.get? h₅.objs.size = some (tupO [x, y] 0) := hs₈.extBut _ _ (Nat.ne_of_gt hzlt) (hs₇.extBut _ _ (Nat.ne_of_gt hzlt) (Heap.get?_push_size _ rfl))
    have hz8 : h₈.objs.size = h₅.objs.size + 1 := by rw [hs₈.1, hs₇.1, Heap.size_push]
    refine wpAny_pure ⟨_, rfl, ?_⟩
    refine hQ h₅.objs.size h₈ 0 ⟨⟨_, _, hz₈, .inr ⟨h₅.objs.size, _, rfl, hT₈, rfl, Nat.ne_of_gt hzlt, Nat.ne_of_gt (Heap.lt_size hTO₅), Nat.ne_of_gt (Heap.lt_size p1₅), Nat.ne_of_gt (Heap.lt_size p2₅)⟩⟩,
      ⟨eTI, up _ _ D.TIz (hk₅ _ _ D.TIz D.TITO D.TIi1 D.TIi2 hTI)⟩, ⟨x, y, eT5, up _ _ D.TOz hTO₅⟩, up _ _ D.i1z p1₅, up _ _ D.i2z p2₅,
      up _ _ D.t1z (hk₅ _ _ D.t1z D.t1TO D.t1i1 D.t1i2 q1), up _ _ D.t2z (hk₅ _ _ D.t2z D.t2TO D.t2i1 D.t2i2 q2)⟩ hT₈
      (fun c o c1 c2 c3 c4 e => up c o c1 (hk₅ c o c1 c2 c3 c4 e)) (by rw [hz8, hsz]; exact Nat.le_succ _)
  · have hfree : wpAny (model prog w) A (Builtin.SmallTypes.ownedTupleIsFree (.ref z)) (fun b s₁ => b = false ∧ ∃ h₁, s₁ = { s with heap := h₁ } ∧ h₁.get? z = some (zipO (rawInt ((T0 : Nat) : Int)) true TI TO) ∧ Heap.SameBut z s.heap h₁) E s := by
      unfold Builtin.SmallTypes.ownedTupleIsFree
      refine wpAny_bind (wpAny_field hz rfl (x := rawInt ((T0 : Nat) : Int)) rfl ?_)
      show wpAny _ _ (loadIfAlive ((T0 : Int).toNat) >>= _) _ _ _
      rw [Int.toNat_natCast]
      refine wpAny_bind (alive_some hT0 ?_)
      simp only [Option.isNone_some, Bool.false_eq_true, if_false]
      refine wpAny_bind (wpAny_field hz rfl (x := .bool f1) rfl ?_)
      cases f1 with
      | true =>
        rw [if_neg (show ¬ ((Value.bool true != Value.bool true) = true) from Bool.false_ne_true)]
        exact wpAny_pure ⟨rfl, s.heap, rfl, hz, Heap.SameBut.refl _ _⟩
      | false =>
        rw [if_pos (show (Value.bool false != Value.bool true) = true from rfl)]
        refine wpAny_bind (wpAny_setField_rec hz (by simp) fun h₁ hz₁ hs₁ => ?_)
        exact wpAny_pure ⟨rfl, h₁, rfl, hz₁, hs₁⟩
    refine wpAny_bind (wpAny_mono hfree ?_ fun _ _ e => e)
    rintro _ _ ⟨rfl, h₁, rfl, hz₁, hs₁⟩
    simp only [Bool.false_eq_true, if_false]
    refine wpAny_bind ?_
    rw [← Array.forIn_toList]
    simp only [List.forIn_cons, List.forIn_nil]
    refine wpAny_bind (wpAny_bind (wpAny_holding ?_))
    show wpAny _ _ (Builtin.SmallTypes.nextOf (.ref i1) >>= _) _ _ _
    refine wpAny_bind (nextT_item (hs₁.extBut _ _ D.i1z p1) (hs₁.extBut _ _ D.t1z q1) hx fun h₂ p1₂ hs₂ => wpAny_pure (wpAny_pure ?_))
    refine wpAny_bind (wpAny_bind (wpAny_holding ?_))
    show wpAny _ _ (Builtin.SmallTypes.nextOf (.ref i2) >>= _) _ _ _
    refine wpAny_bind (nextT_item (hs₂.extBut _ _ D.i12.symm (hs₁.extBut _ _ D.i2z p2)) (hs₂.extBut _ _ D.t2i1 (hs₁.extBut _ _ D.t2z q2)) hy fun h₃ p2₃ hs₃ => wpAny_pure (wpAny_pure (wpAny_pure ?_)))
    refine wpAny_bind (wpAny_newTuple ?_ (show 2 ≤ sizeLine by decide))
    have hsz : h₃.objs.size = s.heap.objs.size := by rw [hs₃.1, hs₂.1, hs₁.1]
    have up : ∀ c o, c ≠ z → c ≠ i1 → c ≠ i2 → s.heap.get? c = some o → (h₃.push { cls := .type "tuple", data := .seq #[x, y] }).get? c = some o := fun c o c1 c2 c3 e =>
      Heap.get?_push_of_some _ (hs₃.extBut _ _ c3 (hs₂.extBut _ _ c2 (hs₁.extBut _ _ c1 e)))
    refine wpAny_pure ⟨_, rfl, ?_⟩
    refine hQ h₃.objs.size (h₃.push { cls := .type "tuple", data := .seq #[x, y] }) 0 ⟨⟨_, _, Heap.get?_push_of_some _ (hs₃.extBut _ _ D.i2z.symm (hs₂.extBut _ _ D.i1z.symm hz₁)), .inr ⟨T0, oT, rfl, up _ _ n1 n3 n4 hT0, hTc, n1, n2, n3, n4⟩⟩,
      ⟨eTI, up _ _ D.TIz D.TIi1 D.TIi2 hTI⟩, ⟨a, b, eTO, up _ _ D.TOz D.TOi1 D.TOi2 hTO⟩, Heap.get?_push_of_some _ (hs₃.extBut _ _ D.i12 p1₂), Heap.get?_push_of_some _ p2₃,
      up _ _ D.t1z D.t1i1 D.t1i2 q1, up _ _ D.t2z D.t2i1 D.t2i2 q2⟩ (Heap.get?_push_size _ rfl) (fun c o c1 c2 c3 c4 e => up c o c1 c3 c4 e) (by rw [Heap.size_push, hsz]; exact Nat.le_succ _)

theorem zip_end {Q : Fin → Shared → Prop} (hh : A.handled = none) (D : ZA z TI TO i1 i2 t1 t2) (S : ZS z TI TO i1 i2 t1 t2 us vs e1 e2 k s.heap) (hx : us[k]? = none)
    (hE : ∀ h' e, (∀ c o, c ≠ z → c ≠ TO → c ≠ i1 → c ≠ i2 → s.heap.get? c = some o → h'.get? c = some o) → (∃ o, h'.get? e = some o ∧ o.cls = .type "StopIteration") → E (.ref e) { s with heap := h' }) :
    wpAny (model prog w) A (Builtin.«zip.__next__» ⟨[.ref z], []⟩) Q E s := by
  obtain ⟨⟨f0, f1, hz, hf⟩, ⟨eTI, hTI⟩, ⟨a, b, eTO, hTO⟩, p1, p2, q1, q2⟩ := S
  show wpAny _ _ (field (.ref z) 2 >>= _) _ _ _
  refine wpAny_bind (wpAny_field hz rfl (x := .bool false) rfl ?_)
  show wpAny _ _ (field (.ref z) 3 >>= _) _ _ _
  refine wpAny_bind (wpAny_field hz rfl (x := .ref TI) rfl ?_)
  refine wpAny_bind (wpAny_seqItems hTI rfl ?_)
  show wpAny _ _ (Builtin.SmallTypes.ownedTupleIsFree (.ref z) >>= _) _ _ _
  rcases hf with ⟨rfl, rfl⟩ | ⟨T0, oT, rfl, hT0, hTc, n1, n2, n3, n4⟩
  · refine wpAny_bind ?_
    unfold Builtin.SmallTypes.ownedTupleIsFree
    refine wpAny_bind (wpAny_field hz rfl (x := .none) rfl (wpAny_pure ?_))
    simp only [if_true]
    refine wpAny_bind (wpAny_rule ?_)
    refine wpAny_bind (wpAny_field hz rfl (x := .ref TO) rfl ?_)
    refine wpAny_bind (wpAny_setField_rec hz (by simp) fun h₁ hz₁ hs₁ => ?_)
    replace hz₁ : h₁.get? z = some (zipO .ellipsis false TI TO) := hz₁
    refine wpAny_bind ?_
    simp only [List.zipIdx_cons, List.zipIdx_nil, List.forIn_cons, List.forIn_nil]
    refine wpAny_bind (wpAny_bind (wpAny_onRaise ?_))
    show wpAny _ _ (Builtin.SmallTypes.nextOf (.ref i1) >>= _) _ _ _
    refine wpAny_bind (nextT_end hh (hs₁.extBut _ _ D.i1z p1) (hs₁.extBut _ _ D.t1z q1) hx fun h₂ e hs₂ he => ?_)
    obtain ⟨oe, hoe, hce⟩ := he
    have hz₂ : h₂.get? z = some (zipO .ellipsis false TI TO) := hs₂ _ _ D.i1z.symm hz₁
    have hez : e ≠ z := fun x => by subst x; rw [hz₂] at hoe; cases hoe; simp at hce
    refine wpAny_setField_rec hz₂ (by simp) fun h₃ _ hs₃ => hE h₃ e (fun c o c1 _ c3 _ x => hs₃.extBut _ _ c1 (hs₂ _ _ c3 (hs₁.extBut _ _ c1 x))) ⟨oe, hs₃.extBut _ _ hez hoe, hce⟩
  · have hfree : wpAny (model prog w) A (Builtin.SmallTypes.ownedTupleIsFree (.ref z)) (fun b s₁ => b = false ∧ ∃ h₁, s₁ = { s with heap := h₁ } ∧ h₁.get? z = some (zipO (rawInt ((T0 : Nat) : Int)) true TI TO) ∧ Heap.SameBut z s.heap h₁) E s := by
      unfold Builtin.SmallTypes.ownedTupleIsFree
      refine wpAny_bind (wpAny_field hz rfl (x := rawInt ((T0 : Nat) : Int)) rfl ?_)
      show wpAny _ _ (loadIfAlive ((T0 : Int).toNat) >>= _) _ _ _
      rw [Int.toNat_natCast]
      refine wpAny_bind (alive_some hT0 ?_)
      simp only [Option.isNone_some, Bool.false_eq_true, if_false]
      refine wpAny_bind (wpAny_field hz rfl (x := .bool f1) rfl ?_)
      cases f1 with
      | true =>
        rw [if_neg (show ¬ ((Value.bool true != Value.bool true) = true) from Bool.false_ne_true)]
        exact wpAny_pure ⟨rfl, s.heap, rfl, hz, Heap.SameBut.refl _ _⟩
      | false =>
        rw [if_pos (show (Value.bool false != Value.bool true) = true from rfl)]
        refine wpAny_bind (wpAny_setField_rec hz (by simp) fun h₁ hz₁ hs₁ => ?_)
        exact wpAny_pure ⟨rfl, h₁, rfl, hz₁, hs₁⟩
    refine wpAny_bind (wpAny_mono hfree ?_ fun _ _ e => e)
    rintro _ _ ⟨rfl, h₁, rfl, hz₁, hs₁⟩
    simp only [Bool.false_eq_true, if_false]
    refine wpAny_bind ?_
    rw [← Array.forIn_toList]
    simp only [List.forIn_cons, List.forIn_nil]
    refine wpAny_bind (wpAny_bind (wpAny_holding ?_))
    show wpAny _ _ (Builtin.SmallTypes.nextOf (.ref i1) >>= _) _ _ _
    refine wpAny_bind (nextT_end hh (hs₁.extBut _ _ D.i1z p1) (hs₁.extBut _ _ D.t1z q1) hx fun h₂ e hs₂ he => ?_)
    exact hE h₂ e (fun c o c1 _ c3 _ x => hs₂ _ _ c3 (hs₁.extBut _ _ c1 x)) he

theorem zip_pyNext_item {x y : Value} {Q : Option Value → Shared → Prop} (D : ZA z TI TO i1 i2 t1 t2) (S : ZS z TI TO i1 i2 t1 t2 us vs e1 e2 k s.heap) (hx : us[k]? = some x) (hy : vs[k]? = some y)
    (hQ : ∀ T h' eT, ZS z TI TO i1 i2 t1 t2 us vs e1 e2 (k + 1) h' → h'.get? T = some (tupO [x, y] eT) →
      (∀ c o, c ≠ z → c ≠ TO → c ≠ i1 → c ≠ i2 → s.heap.get? c = some o → h'.get? c = some o) → s.heap.objs.size ≤ h'.objs.size → Q (some (.ref T)) { s with heap := h' }) :
    wpAny (model prog w) A (pyNext (.ref z)) Q E s := by
  have hT : s.TypeIs (.ref z) "zip" := by obtain ⟨_, _, h, _⟩ := S.zz; exact ⟨_, h, rfl⟩
  unfold pyNext
  exact wpAny_bind (wpAny_attempt (wpAny_callSpecial?_slot (name := Str.ofString "__next__") hT F.slot_zip_next
    (wpAny_call_entry F.slot_zip_next hT F.entry_zip_next
      (zip_item D S hx hy fun T h' eT a1 a2 a3 a4 => wpAny_pure (hQ T h' eT a1 a2 a3 a4)) (F.args_zip_next_1 _))))
theorem zip_pyNext_end {Q : Option Value → Shared → Prop} (hh : A.handled = none) (D : ZA z TI TO i1 i2 t1 t2) (S : ZS z TI TO i1 i2 t1 t2 us vs e1 e2 k s.heap) (hx : us[k]? = none)
    (hQ : ∀ h', (∀ c o, c ≠ z → c ≠ TO → c ≠ i1 → c ≠ i2 → s.heap.get? c = some o → h'.get? c = some o) → Q none { s with heap := h' }) : wpAny (model prog w) A (pyNext (.ref z)) Q E s := by
  have hT : s.TypeIs (.ref z) "zip" := by obtain ⟨_, _, h, _⟩ := S.zz; exact ⟨_, h, rfl⟩
  unfold pyNext
  refine wpAny_bind (wpAny_attempt (wpAny_callSpecial?_slot (name := Str.ofString "__next__") hT F.slot_zip_next
    (wpAny_call_entry F.slot_zip_next hT F.entry_zip_next (zip_end hh D S hx fun h' e hk he => ?_) (F.args_zip_next_1 _))))
  obtain ⟨o, ho, hc⟩ := he
  refine wpAny_bind (wpAny_isInstance (T := "StopIteration") (b := true) ⟨o, ho, hc⟩ isSubtype_stop ?_)
  exact wpAny_pure (hQ _ hk)
end
end Mine
namespace Mine
open PySem PySem.W PySem.Calls PyProof.Rows PySem.Spec
open PySem.Sem (wp)
theorem zip_getattr_none : typeLookup (.type "zip") "__getattr__" = pure none := by rw [typeLookup_type, builtinLookup_eq_fast]; kernel_rfl
theorem zip_no_keys : typeLookup (.type "zip") "keys" = pure none := by rw [typeLookup_type, builtinLookup_eq_fast]; kernel_rfl
theorem zip_entry_ga : entryFor table "zip.__getattribute__" = some Builtin.«object.__getattribute__» :=
  entryFor_alias (id' := "object.__getattribute__") (by kernel_rfl) (by first | rfl | decide +kernel) (by decide +kernel) (by kernel_rfl)

theorem meets_ga_zip (a : Addr) (fs : Array Value) (u : Tok) :
    Meets (Builtin.«object.__getattribute__» ⟨[.ref a, .str "keys" u], []⟩) (fun A R s => s.heap.get? a = some { cls := .type "zip", dict := none, data := .fields fs, slots := #[] } ∧ raisesAttr (.ref a) "keys" A R s) :=
  Meets.of_wp fun prog w A R s hs => by
    obtain ⟨hp, g, d, tk, os⟩ := s
    obtain ⟨hx, hs⟩ := hs
    have hT : (⟨hp, g, d, tk, os⟩ : Shared).TypeIs (.ref a) "zip" := ⟨_, hx, rfl⟩
    have hmiss := zip_no_keys
    have hname : (["__module__", "__name__", "__qualname__", "__doc__", "__annotations__"] : List Str).contains "keys" = false := by decide +kernel
    unfold Builtin.«object.__getattribute__»
    repeat (any_goals (first | assumption | wp_step))
    (try simp only [hname, Bool.false_eq_true, if_false])
    repeat (any_goals (first | assumption | wp_step))
    exact wpAny_raiseAttrError hs.1 hs.2 (attrMsg_fits (by decide +kernel) (by size_fits))

section
variable {prog : Program} {w : World} {A : Around} {E : Value → Shared → Prop} {s : Shared}
theorem zip_keys_none {a : Addr} {fs : Array Value} {Q : Option Value → Shared → Prop} (hx : s.heap.get? a = some { cls := .type "zip", dict := none, data := .fields fs, slots := #[] }) (hA : A.handled = none)
    (h : ∀ h' tk, (∀ b o, s.heap.get? b = some o → h'.get? b = some o) → Q none { s with heap := h', toks := tk }) :
    wpAny (model prog w) A (getAttr? (.ref a) "keys") Q E s := by
  obtain ⟨hp, g, d, tk, os⟩ := s
  have hT : ∀ tk', (⟨hp, g, d, tk', os⟩ : Shared).TypeIs (.ref a) "zip" := fun _ => ⟨_, hx, rfl⟩
  have f1 := sub_AttributeError
  have f3 := F.slot_zip_getattribute.lookup
  have f4 := F.slot_zip_getattribute.bind (.ref a)
  have f5 := zip_getattr_none
  unfold getAttr? getAttrBy? getAttrBy
  repeat (any_goals (first | assumption | exact hT _ | ((with_reducible show wpAny _ _ (call (Value.builtin "zip.__getattribute__") _ _) _ _ _); refine call_meets F.slot_zip_getattribute (hT _) zip_entry_ga (F.args_zip_getattribute_2 _ _) (meets_ga_zip a fs _) ⟨hx, hA, fun h' tk' e hx' => ?_⟩) | wp_step))
  obtain ⟨t', u', he⟩ := hx'.there
  show wpAny _ _ (getattributeRaised _ _ _ _ _ _ _) _ _ _
  unfold getattributeRaised
  repeat (any_goals (first | assumption | wp_step))
  exact h _ _ hx'.keeps
end
end Mine
namespace Mine
open PySem PySem.W PySem.Calls PyProof.Rows PySem.Spec
open PySem.Sem (wp)
theorem entry_dict_loop : entryFor table "dict.update.loop" = some Builtin.«dict.update.loop» := entryFor_of_tree (by kernel_rfl)
theorem plain_dict_loop : plainId "dict.update.loop" = true := by decide +kernel
structure ZD (z TI TO i1 i2 t1 t2 D : Addr) : Prop where
  z : z ≠ D
  TI : TI ≠ D
  TO : TO ≠ D
  i1 : i1 ≠ D
  i2 : i2 ≠ D
  t1 : t1 ≠ D
  t2 : t2 ≠ D
section
variable {prog : Program} {w : World} {A : Around} {E : Value → Shared → Prop} {s : Shared} {z TI TO i1 i2 t1 t2 D : Addr} {us vs : List Value} {e1 e2 : Nat}
theorem ZS.keep {k : Nat} {h h' : Heap} (S : ZS z TI TO i1 i2 t1 t2 us vs e1 e2 k h) (P : ZD z TI TO i1 i2 t1 t2 D) (hd : ∃ o, h.get? D = some o ∧ o.cls = .type "dict") (hk : ∀ c o, c ≠ D → h.get? c = some o → h'.get? c = some o) :
    ZS z TI TO i1 i2 t1 t2 us vs e1 e2 k h' := by
  obtain ⟨⟨f0, f1, hz, hf⟩, ⟨eTI, hTI⟩, ⟨a, b, eTO, hTO⟩, p1, p2, q1, q2⟩ := S
  refine ⟨⟨f0, f1, hk _ _ P.z hz, ?_⟩, ⟨eTI, hk _ _ P.TI hTI⟩, ⟨a, b, eTO, hk _ _ P.TO hTO⟩, hk _ _ P.i1 p1, hk _ _ P.i2 p2, hk _ _ P.t1 q1, hk _ _ P.t2 q2⟩
  rcases hf with hf | ⟨T0, oT, rfl, hT0, hTc, n⟩
  · exact .inl hf
  · refine .inr ⟨T0, oT, rfl, hk _ _ (fun e => ?_) hT0, hTc, n⟩
    obtain ⟨o, ho, hc⟩ := hd
    rw [← e, hT0] at ho
    cases ho
    rw [hTc] at hc
    exact absurd hc (fun h => by injection h with h; exact absurd h (by decide))

theorem dict_loop {h₀ : Heap} {R : Result → Shared → Prop} {xs ys : List Int} (hh : A.handled = none) (AP : ZA z TI TO i1 i2 t1 t2) (P : ZD z TI TO i1 i2 t1 t2 D) (hi : IntsAre us xs) (hj : IntsAre vs ys) (hl : us.length = vs.length) (hsz : us.length ≤ 1000)
    (fin : ∀ h' tk' f, h'.IntMap D f → (∀ x ∈ xs, ∃ i t, f x = some (.int i t)) → (∀ c o, c ≠ z → c ≠ TO → c ≠ i1 → c ≠ i2 → c ≠ D → h₀.get? c = some o → h'.get? c = some o) → R (.ok (.ret .none)) { s with heap := h', toks := tk' }) :
    ∀ j k h tk f, k + j = us.length → ZS z TI TO i1 i2 t1 t2 us vs e1 e2 k h → h.IntMap D f → h.DictLe D k → (∀ x ∈ xs.take k, ∃ i t, f x = some (.int i t)) → (∀ c o, c ≠ z → c ≠ TO → c ≠ i1 → c ≠ i2 → c ≠ D → h₀.get? c = some o → h.get? c = some o) →
      codeAny (model prog w) A (.builtin "dict.update.loop" ⟨[.ref D, .ref z, .int k 0, .none], []⟩) R { s with heap := h, toks := tk } := by
  have hul : us.length = xs.length := hi.length
  intro j
  induction j with
  | zero =>
    intro k h tk f hk S hm hle hf hfr
    refine codeAny_builtin entry_dict_loop ?_
    rw [Around.under_plainId plain_dict_loop]
    show wpAny _ _ (pyNext (.ref z) >>= _) _ _ _
    refine wpAny_bind (zip_pyNext_end hh AP S (List.getElem?_eq_none (by omega)) fun h' hk' => ?_)
    show wpAny _ _ (Builtin.Dict.addKeywords D [] >>= _) _ _ _
    refine wpAny_bind (wpAny_pure (wpAny_pure ?_))
    have hD : h'.IntMap D f := by
      obtain ⟨o, es, ep, ho, r⟩ := hm
      exact ⟨o, es, ep, hk' _ _ P.z.symm P.TO.symm P.i1.symm P.i2.symm ho, r⟩
    refine fin h' tk f hD (fun x hx => hf x ?_) fun c o c1 c2 c3 c4 c5 e => hk' c o c1 c2 c3 c4 (hfr c o c1 c2 c3 c4 c5 e)
    rw [List.take_of_length_le (by omega)]; exact hx
  | succ j ih =>
    intro k h tk f hk S hm hle hf hfr
    have hkx : k < xs.length := by omega
    obtain ⟨tx, hx⟩ := hi.get k xs[k] (List.getElem?_eq_getElem hkx)
    obtain ⟨ty, hy⟩ := hj.get k (ys[k]'(by have := hj.length; omega)) (List.getElem?_eq_getElem (by have := hj.length; omega))
    refine codeAny_builtin entry_dict_loop ?_
    rw [Around.under_plainId plain_dict_loop]
    show wpAny _ _ (pyNext (.ref z) >>= _) _ _ _
    refine wpAny_bind (zip_pyNext_item AP S hx hy fun T h' eT S' hT hk' _ => ?_)
    have hm' : h'.IntMap D f := by
      obtain ⟨o, es, ep, ho, r⟩ := hm
      exact ⟨o, es, ep, hk' _ _ P.z.symm P.TO.symm P.i1.symm P.i2.symm ho, r⟩
    have hle' : h'.DictLe D k := by
      obtain ⟨o, es, ep, ho, _⟩ := hm
      exact hle.of_same ho (hk' _ _ P.z.symm P.TO.symm P.i1.symm P.i2.symm ho)
    refine wpAny_bind (wpAny_holding ?_)
    have hTT : Shared.TypeIs { s with heap := h', toks := tk } (.ref T) "tuple" := ⟨_, hT, rfl⟩
    refine wpAny_bind (wpAny_mono (Q := fun (pair : List Value) (s' : Shared) => pair = [Value.int xs[k] tx, Value.int (ys[k]'(by have := hj.length; omega)) ty] ∧ s' = { s with heap := h', toks := tk }) (wpAny_tryCatch ?_) ?_ fun _ _ e => e)
    · unfold Builtin.Dict.pairItems
      refine wpAny_bind (wpAny_typeOf hTT ?_)
      rw [if_pos (by decide)]
      refine wpAny_bind (wpAny_seqItems hT rfl (wpAny_pure ⟨rfl, rfl⟩))
    · rintro _ _ ⟨rfl, rfl⟩
      refine wpAny_holding (wpAny_dictSet_int_le hm' hle' (Nat.le_trans (show k ≤ 1000 by omega) (by decide)) fun h₂ hm₂ hle₂ hs₂ => ?_)
      refine wpAny_pure ⟨plainId_quiet plain_dict_loop _, ?_⟩
      have e1 : rawInt ((k : Int) + 1) = .int ((k + 1 : Nat) : Int) 0 := by
        show Value.int ((k : Int) + 1) 0 = _
        rw [show ((k + 1 : Nat) : Int) = (k : Int) + 1 by omega]
      rw [e1]
      refine ih (k + 1) h₂ _ _ (by omega) (S'.keep P ?_ fun c o c1 e => hs₂.extBut _ _ c1 e) hm₂ hle₂ (fun x hx => ?_) fun c o c1 c2 c3 c4 c5 e => hs₂.extBut _ _ c5 (hk' c o c1 c2 c3 c4 (hfr c o c1 c2 c3 c4 c5 e))
      · obtain ⟨o, es, ep, ho, hc, _⟩ := hm'
        exact ⟨o, ho, hc⟩
      · rw [List.take_add_one, List.getElem?_eq_getElem hkx] at hx
        (try dsimp only)
        by_cases e : x = xs[k]
        · rw [if_pos e]; exact ⟨_, _, rfl⟩
        · rw [if_neg e]
          refine hf x ?_
          rcases List.mem_append.mp hx with hx | hx
          · exact hx
          · exact absurd (by simpa using hx) e
end
abbrev zT1 (h : Heap) (t1 : Addr) : Heap := h.push (titO t1 0)
abbrev zT2 (h : Heap) (t1 t2 : Addr) : Heap := (zT1 h t1).push (titO t2 0)
abbrev zT3 (h : Heap) (t1 t2 : Addr) : Heap := (zT2 h t1 t2).push (tupO [.ref h.objs.size, .ref (zT1 h t1).objs.size] 0)
abbrev zT4 (h : Heap) (t1 t2 : Addr) : Heap := (zT3 h t1 t2).push (tupO [.none, .none] 0)
abbrev zT5 (h : Heap) (t1 t2 : Addr) : Heap := (zT4 h t1 t2).push (zipO .none false (zT2 h t1 t2).objs.size (zT3 h t1 t2).objs.size)
theorem meets_zipT (t1 t2 : Addr) (xs ys : Array Value) :
    Meets (Builtin.«zip.__new__» ⟨[.type "zip", .ref t1, .ref t2], []⟩) (fun _ R s => s.heap.IsTuple t1 xs ∧ s.heap.IsTuple t2 ys ∧ R (.ok (.ret (.ref (zT4 s.heap t1 t2).objs.size))) { s with heap := zT5 s.heap t1 t2 }) :=
  .of_wp fun prog w A R s h => by
    obtain ⟨hp, g, d, tk, os⟩ := s; obtain ⟨hl1, hl2, h⟩ := h
    have hsub := sub_zip
    have hL1 : Heap.IsTuple (Shared.heap ⟨hp, g, d, tk, os⟩) t1 xs := hl1
    have hL2 : Heap.IsTuple (Shared.heap ⟨hp.push { cls := .type "tuple_iterator", data := .fields #[.ref t1, .int 0 0] }, g, d, tk, os⟩) t2 ys := Heap.IsTuple.push hl2 _
    wp_walk using wpAny_pyIter_tuple hL1, wpAny_pyIter_tuple hL2
    exact ⟨_, rfl, h⟩
/-- the old ones lie apart from a zip's parts -/
def ZN (news : Led) (z TO i1 i2 : Addr) : Prop := ∀ p ∈ news, p.1 ≠ z ∧ p.1 ≠ TO ∧ p.1 ≠ i1 ∧ p.1 ≠ i2
theorem za_of {n a1 a2 a3 a4 t1 t2 : Nat} (h1 : a1 = n + 1) (h2 : a2 = n + 2) (h3 : a3 = n + 3) (h4 : a4 = n + 4) (l1 : t1 < n) (l2 : t2 < n) : ZA a4 a2 a3 n a1 t1 t2 := by
  subst h1 h2 h3 h4
  constructor <;> (show @Ne Nat _ _) <;> omega
theorem zn_of {n a1 a2 a3 a4 t : Nat} (h1 : a1 = n + 1) (_ : a2 = n + 2) (h3 : a3 = n + 3) (h4 : a4 = n + 4) (l1 : t < n) : (t ≠ a4) ∧ (t ≠ a3) ∧ (t ≠ n) ∧ (t ≠ a1) := by
  subst h1 h3 h4
  refine ⟨?_, ?_, ?_, ?_⟩ <;> omega
abbrev zipL (z TI TO i1 i2 t1 t2 : Addr) (news : Led) : Led :=
  (z, zipO .none false TI TO) :: (TO, tupO [.none, .none] 0) :: (TI, tupO [.ref i1, .ref i2] 0) :: (i2, titO t2 0) :: (i1, titO t1 0) :: news
section
variable {prog : Program} {w : World} {A : Around} {E : Value → Shared → Prop} {s : Shared} {h₀ : Heap} {L : Addr} {m : Str → Option Value} {news : Led}
theorem zip_tupN {t1 t2 : Addr} {us vs : List Value} {e1 e2 : Nat} {Q : Value → Shared → Prop} (FF : Fr h₀ L s.heap m) (N : News h₀ L s.heap news) (h1 : (t1, tupO us e1) ∈ news) (h2 : (t2, tupO vs e2) ∈ news)
    (h : ∀ z TI TO i1 i2 h', Fr h₀ L h' m → News h₀ L h' (zipL z TI TO i1 i2 t1 t2 news) → ZA z TI TO i1 i2 t1 t2 → ZN news z TO i1 i2 → Q (.ref z) { s with heap := h' }) :
    wpAny (model prog w) A (call (.type "zip") [.ref t1, .ref t2]) Q E s := by
  refine callType_new F.called_zip (by decide) (F.typeCall_zip_2 _ _) (F.newCall_zip_2 _ _) (fun obj => F.args_object_init_3 obj _ _) F.entry_zip_new
    (meets_zipT t1 t2 us.toArray vs.toArray) ⟨isTupN N h1, isTupN N h2, ?_⟩
  have z1 : (zT1 s.heap t1).objs.size = s.heap.objs.size + 1 := Heap.size_push ..
  have z2 : (zT2 s.heap t1 t2).objs.size = s.heap.objs.size + 2 := by rw [Heap.size_push, z1]
  have z3 : (zT3 s.heap t1 t2).objs.size = s.heap.objs.size + 3 := by rw [Heap.size_push, z2]
  have z4 : (zT4 s.heap t1 t2).objs.size = s.heap.objs.size + 4 := by rw [Heap.size_push, z3]
  have F1 := FF.push (titO t1 0)
  have N1 := N.push FF (titO t1 0)
  have F2 := F1.push (titO t2 0)
  have N2 := N1.push F1 (titO t2 0)
  have F3 := F2.push (tupO [.ref s.heap.objs.size, .ref (zT1 s.heap t1).objs.size] 0)
  have N3 := N2.push F2 (tupO [.ref s.heap.objs.size, .ref (zT1 s.heap t1).objs.size] 0)
  have F4 := F3.push (tupO [.none, .none] 0)
  have N4 := N3.push F3 (tupO [.none, .none] 0)
  have F5 := F4.push (zipO .none false (zT2 s.heap t1 t2).objs.size (zT3 s.heap t1 t2).objs.size)
  have N5 := N4.push F4 (zipO .none false (zT2 s.heap t1 t2).objs.size (zT3 s.heap t1 t2).objs.size)
  have l1 : t1 < s.heap.objs.size := Heap.lt_size (N _ h1).1
  have l2 : t2 < s.heap.objs.size := Heap.lt_size (N _ h2).1
  show _ ∧ _
  refine ⟨⟨_, Heap.get?_push_size _ rfl, rfl⟩, h _ _ _ _ _ _ F5 N5 ?_ ?_⟩
  · exact za_of z1 z2 z3 z4 l1 l2
  · exact fun p hp => zn_of z1 z2 z3 z4 (Heap.lt_size (N p hp).1)

/-- a dict of ints whose keys are these and maybe more -/
def DictHas (o : Obj) (xs : List Int) : Prop := ∀ (h : Heap) (a : Addr), h.get? a = some o → ∃ f, h.IntMap a f ∧ ∀ x ∈ xs, ∃ i t, f x = some (.int i t)
theorem dict_zipN {t1 t2 z TI TO i1 i2 : Addr} {us vs : List Value} {xs ys : List Int} {e1 e2 : Nat} {Q : Value → Shared → Prop} (hh : A.handled = none) (FF : Fr h₀ L s.heap m) (N : News h₀ L s.heap (zipL z TI TO i1 i2 t1 t2 news)) (AP : ZA z TI TO i1 i2 t1 t2) (ZZ : ZN news z TO i1 i2)
    (h1 : (t1, tupO us e1) ∈ news) (h2 : (t2, tupO vs e2) ∈ news) (hi : IntsAre us xs) (hj : IntsAre vs ys) (hl : xs.length = ys.length) (hsz : xs.length ≤ 1000)
    (h : ∀ D o h' tk', Fr h₀ L h' m → News h₀ L h' ((D, o) :: news) → (∀ p ∈ news, p.1 < D) → DictHas o xs → Q (.ref D) { s with heap := h', toks := tk' }) :
    wpAny (model prog w) A (call (.type "dict") [.ref z]) Q E s := by
  refine callType_codes (Q₁ := fun obj s₁ => obj = .ref s.heap.objs.size ∧ s₁ = { s with heap := s.heap.push { cls := .type "dict", data := .dict #[] } }) F.kt_called_dict (F.kt_typeCall_dict_1 _) F.entry_dict_init (kt_code_dict_new _ ⟨rfl, rfl⟩) ?_
  rintro obj s₁ ⟨rfl, rfl⟩
  have hnew : (s.heap.push { cls := .type "dict", data := .dict #[] }).IntMap s.heap.objs.size (fun _ => none) := Heap.IntMap.new s.heap
  refine ⟨hnew.typeIs, F.args_dict_init_2 _ _, ?_⟩
  have hz : s.heap.get? z = some (zipO .none false TI TO) := (N _ (.head _)).1
  have hzT : Shared.TypeIs { s with heap := s.heap.push { cls := .type "dict", data := .dict #[] } } (.ref z) "zip" := ⟨_, Heap.get?_push_of_some _ hz, rfl⟩
  unfold Builtin.«dict.__init__»
  refine wpAny_bind ?_
  unfold Builtin.Dict.selfAndRest
  refine wpAny_bind (wpAny_notOrdered_dict hnew.typeIs ?_)
  show wpAny _ _ (pure (s.heap.objs.size, [Value.ref z])) _ _ _
  refine wpAny_pure ?_
  show wpAny _ _ (Builtin.Dict.updateFrom "dict.__init__" s.heap.objs.size (.ref z) [] .none) _ _ _
  unfold Builtin.Dict.updateFrom
  refine wpAny_bind (wpAny_typeOf hzT ?_)
  rw [if_pos (by decide)]
  refine wpAny_bind (zip_keys_none (Heap.get?_push_of_some _ hz) hh fun h₂ tk₂ hk₂ => ?_)
  rw [if_pos (by rfl)]
  refine wpAny_bind (wpAny_rule ?_)
  refine wpAny_bind (wpAny_pyIter_zip (hk₂ _ _ (Heap.get?_push_of_some _ hz)) ?_)
  refine wpAny_pure ⟨plainId_quiet plain_dict_loop _, ?_⟩
  have up : ∀ c o, s.heap.get? c = some o → h₂.get? c = some o := fun c o e => hk₂ _ _ (Heap.get?_push_of_some _ e)
  have lt : ∀ {c o}, s.heap.get? c = some o → c ≠ s.heap.objs.size := fun e => Nat.ne_of_lt (Heap.lt_size e)
  have m1 := (N _ (List.mem_cons_of_mem _ (.head _))).1
  have m2 := (N _ (List.mem_cons_of_mem _ (List.mem_cons_of_mem _ (.head _)))).1
  have m3 := (N _ (List.mem_cons_of_mem _ (List.mem_cons_of_mem _ (List.mem_cons_of_mem _ (.head _))))).1
  have m4 := (N _ (List.mem_cons_of_mem _ (List.mem_cons_of_mem _ (List.mem_cons_of_mem _ (List.mem_cons_of_mem _ (.head _)))))).1
  have rest : ∀ p ∈ news, p ∈ zipL z TI TO i1 i2 t1 t2 news := fun p hp => List.mem_cons_of_mem _ (List.mem_cons_of_mem _ (List.mem_cons_of_mem _ (List.mem_cons_of_mem _ (List.mem_cons_of_mem _ hp))))
  have n1 := (N _ (rest _ h1)).1
  have n2 := (N _ (rest _ h2)).1
  have hul : us.length = xs.length := hi.length
  have hvl : vs.length = ys.length := hj.length
  have hD₂ : h₂.IntMap s.heap.objs.size (fun _ => none) := by
    obtain ⟨o, es, ep, ho, r⟩ := hnew
    exact ⟨o, es, ep, hk₂ _ _ ho, r⟩
  have hle₂ : h₂.DictLe s.heap.objs.size 0 := by
    intro o es ep ho hd
    rw [hk₂ _ _ (Heap.get?_push_size _ rfl)] at ho
    cases ho
    injection hd with hd
    rw [← hd]
    exact Nat.le_refl _
  refine dict_loop (s := { s with heap := h₂, toks := tk₂ }) (h₀ := h₂) (us := us) (vs := vs) (e1 := e1) (e2 := e2) (xs := xs) (ys := ys) (show A.in1.handled = none from hh) AP ⟨lt hz, lt m2, lt m1, lt m4, lt m3, lt n1, lt n2⟩ hi hj (by omega) (by omega) ?_ us.length 0 h₂ tk₂ (fun _ => none) (by omega)
    ⟨⟨.none, false, up _ _ hz, .inl ⟨rfl, rfl⟩⟩, ⟨0, up _ _ m2⟩, ⟨.none, .none, 0, up _ _ m1⟩, up _ _ m4, up _ _ m3, up _ _ n1, up _ _ n2⟩ hD₂ hle₂ (fun x hx => by simp at hx) (fun _ _ _ _ _ _ _ e => e)
  intro h' tk' f hm' hf hk'
  obtain ⟨o, es, ep, ho, r⟩ := id hm'
  have NN : ∀ p ∈ zipL z TI TO i1 i2 t1 t2 news, L ≠ p.1 ∧ h₀.get? p.1 = none := fun p hp => ⟨fun q => (N p hp).2.1 q.symm, (N p hp).2.2⟩
  have m3' : (i2, titO t2 0) ∈ zipL z TI TO i1 i2 t1 t2 news := List.mem_cons_of_mem _ (List.mem_cons_of_mem _ (List.mem_cons_of_mem _ (.head _)))
  have m4' : (i1, titO t1 0) ∈ zipL z TI TO i1 i2 t1 t2 news := List.mem_cons_of_mem _ (List.mem_cons_of_mem _ (List.mem_cons_of_mem _ (List.mem_cons_of_mem _ (.head _))))
  refine ⟨rfl, h s.heap.objs.size o h' tk' ?_ ?_ (fun p hp => Heap.lt_size (N p (rest p hp)).1) ?_⟩
  · obtain ⟨oL, es', ep', hL, hLd, hLk, hLf⟩ := FF.ns
    refine ⟨⟨oL, es', ep', hk' _ _ (NN _ (.head _)).1 (NN _ (List.mem_cons_of_mem _ (.head _))).1 (NN _ m4').1 (NN _ m3').1 (lt hL) (up _ _ hL), hLd, hLk, hLf⟩, fun b o' e => ?_, FF.above⟩
    have ne : ∀ p ∈ zipL z TI TO i1 i2 t1 t2 news, b ≠ p.1 := fun p hp q => by rw [q, (NN p hp).2] at e; cases e
    exact hk' _ _ (ne _ (.head _)) (ne _ (List.mem_cons_of_mem _ (.head _))) (ne _ m4') (ne _ m3') (lt (FF.keep _ _ e)) (up _ _ (FF.keep _ _ e))
  · intro p hp
    rcases List.mem_cons.mp hp with rfl | hp
    · refine ⟨ho, Nat.ne_of_gt FF.ns.lt, ?_⟩
      cases q : h₀.get? s.heap.objs.size with
      | none => rfl
      | some o' => exact absurd (Heap.lt_size (FF.keep _ _ q)) (Nat.lt_irrefl _)
    · obtain ⟨a1, a2, a3, a4⟩ := ZZ p hp
      have q := N p (rest p hp)
      exact ⟨hk' _ _ a1 a2 a3 a4 (lt q.1) (up _ _ q.1), q.2⟩
  · intro hx a ha
    exact ⟨f, ⟨o, es, ep, ha, r⟩, hf⟩
theorem item_dictN {value slice : PySem.Expr} {D : Addr} {o : Obj} {xs : List Int} {x : Int} {u : Tok} {Q : Value → Shared → Prop} (N : News h₀ L s.heap news) (hm : (D, o) ∈ news) (hd : DictHas o xs) (hx : x ∈ xs) (h : ∀ i t tk, Q (.int i t) { s with toks := tk })
    (hs : subscripted slice false (.ref D) (.int x u) = operate [.ref D, .int x u] (getItem (.ref D) (.int x u))) :
    wpAny (model prog w) A (subscriptTail value slice (.ref D) (.int x u)) Q E s := by
  obtain ⟨f, hf, hv⟩ := hd _ _ (N _ hm).1
  obtain ⟨i, t, e⟩ := hv x hx
  exact tail_any hf.typeIs slot_dict_getitem.lookup (wpAny_getItem_intMap hf e (h i t _)) hs
end
end Mine
namespace Mine
open PySem PySem.W PySem.Calls PyProof.Rows PySem.Spec PyProof.Rows.LCg PyProof.Rows.LCt

def SrcTU (prog : Program) (w : World) (A : Around) (h₀ : Heap) (L : Addr) (m : Str → Option Value) (env : Env) (elt : PySem.Expr) (x : Str) (scope : Scope) (cl : List (Str × Addr)) (Q : Value → Shared → Prop) (xv : Value) (s₁ : Shared) : Prop :=
  ∃ ax us e news, xv = .ref ax ∧ A.handled = none ∧ Fr h₀ L s₁.heap m ∧ News h₀ L s₁.heap news ∧ (ax, tupO us e) ∈ news ∧ us.length ≤ sizeLine ∧
    ∀ g : Heap, CompRest prog w A h₀ L m env elt x scope cl { s₁ with heap := g } (fun nw => (ax, tupO us e) ∈ nw) (fun i v => us[i]? = some v) (FinE h₀ L m { s₁ with heap := g } Q) us.length 0 [] news
def SrcTT (prog : Program) (w : World) (A : Around) (h₀ : Heap) (L : Addr) (m : Str → Option Value) (env : Env) (ct elt : PySem.Expr) (x : Str) (scope : Scope) (cl : List (Str × Addr)) (Q : Value → Shared → Prop) (xv : Value) (s₁ : Shared) : Prop :=
  ∃ ax us e news, xv = .ref ax ∧ A.handled = none ∧ Fr h₀ L s₁.heap m ∧ News h₀ L s₁.heap news ∧ (ax, tupO us e) ∈ news ∧ us.length ≤ sizeLine ∧
    ∀ g : Heap, CompRestT prog w A h₀ L m env ct elt x scope cl { s₁ with heap := g } (fun nw => (ax, tupO us e) ∈ nw) (fun i v => us[i]? = some v) (FinE h₀ L m { s₁ with heap := g } Q) us.length 0 [] news

section
variable {prog : Program} {w : World} {A : Around} {E : Value → Shared → Prop} {s : Shared} {h₀ : Heap} {L : Addr} {m : Str → Option Value} {env : Env}
theorem tup_st {ax I : Addr} {us : List Value} {e : Nat} : ∀ i (h h' : Heap) (o : Obj) (nw : Led), (h.IsTupleIter I ax i ∧ h.IsTuple ax us.toArray) → h.get? I = some o → h'.get? I = some o → (∀ b o, h₀.get? b = some o → h'.get? b = some o) → News h₀ L h' nw → (ax, tupO us e) ∈ nw → (h'.IsTupleIter I ax i ∧ h'.IsTuple ax us.toArray) :=
  fun i h h' o nw st e e' _ N S => ⟨by obtain ⟨o', q, r⟩ := st.1; rw [e] at q; cases q; exact ⟨o, e', r⟩, ⟨_, (N _ S).1, rfl, _, rfl⟩⟩

theorem listComp_tup {elt iter : PySem.Expr} {x : Str} {px : Pos} {scope : Scope} {cl : List (Str × Addr)} {pos : Pos} {Q : Value → Shared → Prop} (_F₀ : Fr h₀ L s.heap m)
    (hclos : closureFor scope env = pure cl) (hcell : ∀ y ∈ scope.names, y.2 ≠ .cell) (hkind : scope.kind = .function)
    (hnames : ∀ y ∈ scope.names, y.2 = .local → scope.names.lookup y.1 = some .local) (hx : scope.names.lookup x = some .local)
    (h : wpAny (model prog w) A (eval iter env) (SrcTU prog w A h₀ L m env elt x scope cl Q) E s)
    (hs : ∀ x, foldedSetIterable iter env x = pure x := by intro _; rfl) :
    wpAny (model prog w) A (eval (.ListComp elt [⟨.Name x px, iter, [], 0⟩] scope pos) env) Q E s := by
  rw [eval_ListComp]
  refine wpAny_comprehension_free (use := none) rfl hs hclos hkind hnames (wpAny_mono h (fun xv s₁ h₁ => ?_) fun _ _ e => e)
  obtain ⟨ax, us, e, news, rfl, hh, F, N, hm, hsz, R⟩ := h₁
  have hl : s₁.heap.IsTuple ax us.toArray := ⟨_, (N _ hm).1, rfl, _, rfl⟩
  have hlt : ax < s₁.heap.objs.size := Heap.lt_size (N _ hm).1
  refine wpAny_pyIter_tuple hl ?_
  have up : ∀ b o, s₁.heap.get? b = some o → (s₁.heap.push { cls := .type "tuple_iterator", data := .fields #[.ref ax, .int 0 0] }).get? b = some o := fun b o e => Heap.get?_push_of_some _ e
  have W := Walks.tuple (prog := prog) (w := w) hh s₁.heap.objs.size ax (Nat.ne_of_lt hlt) us.toArray
  have e1 : (fun (i : Nat) (v : Value) => us.toArray[i]? = some v) = fun i v => us[i]? = some v := by funext i v; simp
  rw [List.size_toArray, e1] at W
  refine block_U W hsz (fun i h st => by obtain ⟨o, e, _⟩ := st.1; exact ⟨o, e⟩) (tup_st (e := e)) hcell hkind hx ⟨⟨_, Heap.get?_push_size _ rfl, rfl, rfl⟩, hl.push _⟩ (fun b hb => ?_)
    (F.keeps up) (N.grown up) (Nat.ne_of_lt F.ns.lt) (next_is_new F) (fun p hp => Nat.ne_of_lt (Heap.lt_size (N p hp).1)) hm (R _) ?_
  · show b < (s₁.heap.push _).objs.size
    rw [Heap.size_push]
    rcases List.mem_cons.mp hb with rfl | hb
    · exact Nat.lt_succ_self _
    · rw [List.mem_singleton.mp hb]; exact Nat.lt_succ_of_lt hlt
  · intro D C h' tk m' ys news' F' N' o1 hn hC₀ hD₀ hCL hDL hCD offC fin
    refine ⟨m', hn, fun h'' hs'' => fin D h'' tk (F'.change hs'' hCL hC₀) (fun p hp => ?_) o1⟩
    refine ⟨hs''.extBut _ _ ?_ (N' p hp).1, (N' p hp).2⟩
    rcases List.mem_cons.mp hp with rfl | hp
    · exact Ne.symm hCD
    · exact offC p hp

theorem listComp_tupT {ct elt iter : PySem.Expr} {x : Str} {px : Pos} {scope : Scope} {cl : List (Str × Addr)} {pos : Pos} {Q : Value → Shared → Prop} (_F₀ : Fr h₀ L s.heap m)
    (hclos : closureFor scope env = pure cl) (hcell : ∀ y ∈ scope.names, y.2 ≠ .cell) (hkind : scope.kind = .function)
    (hnames : ∀ y ∈ scope.names, y.2 = .local → scope.names.lookup y.1 = some .local) (hx : scope.names.lookup x = some .local)
    (h : wpAny (model prog w) A (eval iter env) (SrcTT prog w A h₀ L m env ct elt x scope cl Q) E s)
    (hs : ∀ x, foldedSetIterable iter env x = pure x := by intro _; rfl) :
    wpAny (model prog w) A (eval (.ListComp elt [⟨.Name x px, iter, [ct], 0⟩] scope pos) env) Q E s := by
  rw [eval_ListComp]
  refine wpAny_comprehension_free (use := none) rfl hs hclos hkind hnames (wpAny_mono h (fun xv s₁ h₁ => ?_) fun _ _ e => e)
  obtain ⟨ax, us, e, news, rfl, hh, F, N, hm, hsz, R⟩ := h₁
  have hl : s₁.heap.IsTuple ax us.toArray := ⟨_, (N _ hm).1, rfl, _, rfl⟩
  have hlt : ax < s₁.heap.objs.size := Heap.lt_size (N _ hm).1
  refine wpAny_pyIter_tuple hl ?_
  have up : ∀ b o, s₁.heap.get? b = some o → (s₁.heap.push { cls := .type "tuple_iterator", data := .fields #[.ref ax, .int 0 0] }).get? b = some o := fun b o e => Heap.get?_push_of_some _ e
  have W := Walks.tuple (prog := prog) (w := w) hh s₁.heap.objs.size ax (Nat.ne_of_lt hlt) us.toArray
  have e1 : (fun (i : Nat) (v : Value) => us.toArray[i]? = some v) = fun i v => us[i]? = some v := by funext i v; simp
  rw [List.size_toArray, e1] at W
  refine block_T W hsz (fun i h st => by obtain ⟨o, e, _⟩ := st.1; exact ⟨o, e⟩) (tup_st (e := e)) hcell hkind hx ⟨⟨_, Heap.get?_push_size _ rfl, rfl, rfl⟩, hl.push _⟩ (fun b hb => ?_)
    (F.keeps up) (N.grown up) (Nat.ne_of_lt F.ns.lt) (next_is_new F) (fun p hp => Nat.ne_of_lt (Heap.lt_size (N p hp).1)) hm (R _) ?_
  · show b < (s₁.heap.push _).objs.size
    rw [Heap.size_push]
    rcases List.mem_cons.mp hb with rfl | hb
    · exact Nat.lt_succ_self _
    · rw [List.mem_singleton.mp hb]; exact Nat.lt_succ_of_lt hlt
  · intro D C h' tk m' ys news' F' N' o1 hn hC₀ hD₀ hCL hDL hCD offC fin
    refine ⟨m', hn, fun h'' hs'' => fin D h'' tk (F'.change hs'' hCL hC₀) (fun p hp => ?_) o1⟩
    refine ⟨hs''.extBut _ _ ?_ (N' p hp).1, (N' p hp).2⟩
    rcases List.mem_cons.mp hp with rfl | hp
    · exact Ne.symm hCD
    · exact offC p hp

/-- over a tuple of ints whose turns make ints and change nothing -/
theorem srcTU_ints {elt : PySem.Expr} {x : Str} {scope : Scope} {cl : List (Str × Addr)} {Q : Value → Shared → Prop} {ax : Addr} {us : List Value} {xs : List Int} {e : Nat} {news : Led}
    (hh : A.handled = none) (F : Fr h₀ L s.heap m) (N : News h₀ L s.heap news) (hm : (ax, tupO us e) ∈ news) (hi : IntsAre us xs) (hsz : xs.length ≤ 1000)
    (turn : ∀ (_g : Heap) k t ys I oI C oC D m₂ h tk (E' : Value → Shared → Prop), k ∈ xs → (∃ zs, IntsAre ys zs) → NsObj oC m₂ → m₂ x = some (.int k t) → Fr h₀ L h m → News h₀ L h ((I, oI) :: (C, oC) :: (D, lst ys) :: news) → Off3 I C D news → ((@Ne Nat I C) ∧ (@Ne Nat I D) ∧ (@Ne Nat C D)) →
      wpAny (model prog w) A (eval elt (compEnvC scope cl C env)) (CompEnd h₀ L m { s with heap := h, toks := tk } I oI C oC D (lst ys) (fun nw => (ax, tupO us e) ∈ nw) (fun y nw => nw = news ∧ ∃ k t, y = .int k t)) E' { s with heap := h, toks := tk })
    (done : ∀ (g : Heap) ys zs, IntsAre ys zs → zs.length = xs.length → FinE h₀ L m { s with heap := g } Q ys news) :
    SrcTU prog w A h₀ L m env elt x scope cl Q (.ref ax) s := by
  have hl := hi.length
  refine ⟨ax, us, e, news, rfl, hh, F, N, hm, Nat.le_trans (show _ ≤ 1000 by omega) (by decide), fun g => ?_⟩
  refine compRest_inv (s := { s with heap := g }) (n := us.length) (fun i ys nw => nw = news ∧ ∃ zs, IntsAre ys zs ∧ zs.length = i) ?_ ?_ us.length 0 [] news (by omega) ⟨rfl, [], .nil, rfl⟩
  · rintro i ys nw v I oI C oC D m₂ h tk E' hlt ⟨rfl, zs, hz, hzl⟩ hP hC hx F' N' off ne
    obtain ⟨t, e2⟩ := hi.get i (xs[i]'(by omega)) (List.getElem?_eq_getElem (by omega))
    rw [e2] at hP
    cases hP
    refine wpAny_mono (turn g (xs[i]'(by omega)) t ys I oI C oC D m₂ h tk E' (List.getElem_mem _) ⟨zs, hz⟩ hC hx F' N' off ne) (fun y s₂ hy => ?_) fun _ _ e => e
    obtain ⟨h', tk₃, news', rfl, F₃, N₃, off₃, hS, rfl, k, t', rfl⟩ := hy
    exact ⟨h', tk₃, _, rfl, F₃, N₃, off₃, hS, rfl, zs ++ [k], hz.append (.cons k t' .nil), by simp [hzl]⟩
  · rintro ys nw ⟨rfl, zs, hz, hzl⟩
    exact done g ys zs hz (by omega)

theorem compRestT_inv {ct elt : PySem.Expr} {x : Str} {scope : Scope} {cl : List (Str × Addr)} {S : Led → Prop} {P : Nat → Value → Prop} {Fin : List Value → Led → Prop} {n : Nat} (J : Nat → List Value → Led → Prop)
    (turn : ∀ i ys news v I oI C oC D m₂ h tk (E' : Value → Shared → Prop), i < n → J i ys news → P i v → NsObj oC m₂ → m₂ x = some v → Fr h₀ L h m → News h₀ L h ((I, oI) :: (C, oC) :: (D, lst ys) :: news) → Off3 I C D news → ((@Ne Nat I C) ∧ (@Ne Nat I D) ∧ (@Ne Nat C D)) →
      wpAny (model prog w) A (isTrue ct (compEnvC scope cl C env) (eval ct (compEnvC scope cl C env))) (fun ok s' => if ok = true then
        wpAny (model prog w) A (eval elt (compEnvC scope cl C env)) (CompEnd h₀ L m { s with heap := h, toks := tk } I oI C oC D (lst ys) S (fun y news' => J (i + 1) (ys ++ [y]) news')) E' s'
        else CompEnd h₀ L m { s with heap := h, toks := tk } I oI C oC D (lst ys) S (fun _ news' => J (i + 1) ys news') Value.none s') E' { s with heap := h, toks := tk })
    (done : ∀ ys news, J n ys news → Fin ys news) :
    ∀ k i ys news, i + k = n → J i ys news → CompRestT prog w A h₀ L m env ct elt x scope cl s S P Fin k i ys news := by
  intro k
  induction k with
  | zero => intro i ys news e hj; obtain rfl : i = n := by omega
            exact done ys news hj
  | succ k ih =>
    intro i ys news e hj
    refine CompRestT.succ fun v I oI C oC D m₂ h tk E' hP hC hx F N off ne => ?_
    refine wpAny_mono (turn i ys news v I oI C oC D m₂ h tk E' (by omega) hj hP hC hx F N off ne) (fun ok s₂ hy => ?_) fun _ _ e => e
    cases ok with
    | true =>
      simp only [if_true] at hy ⊢
      refine wpAny_mono hy (fun y s₃ hy => ?_) fun _ _ e => e
      obtain ⟨h', tk', news', rfl, F', N', off', hS, hr⟩ := hy
      exact ⟨h', tk', news', rfl, F', N', off', hS, ih (i + 1) _ _ (by omega) hr⟩
    | false =>
      simp only [Bool.false_eq_true, if_false] at hy ⊢
      obtain ⟨h', tk', news', rfl, F', N', off', hS, hr⟩ := hy
      exact ⟨h', tk', news', rfl, F', N', off', hS, ih (i + 1) _ _ (by omega) hr⟩

/-- some of a tuple's items, by a test that changes nothing -/
theorem srcTT_some {ct elt : PySem.Expr} {x : Str} {scope : Scope} {cl : List (Str × Addr)} {Q : Value → Shared → Prop} {ax : Addr} {us : List Value} {e : Nat} {news : Led}
    (hh : A.handled = none) (F : Fr h₀ L s.heap m) (N : News h₀ L s.heap news) (hm : (ax, tupO us e) ∈ news) (hsz : us.length ≤ 1000)
    (turn : ∀ (_g : Heap) v ys I oI C oC D m₂ h tk (E' : Value → Shared → Prop), v ∈ us → NsObj oC m₂ → m₂ x = some v → Fr h₀ L h m → News h₀ L h ((I, oI) :: (C, oC) :: (D, lst ys) :: news) → Off3 I C D news → ((@Ne Nat I C) ∧ (@Ne Nat I D) ∧ (@Ne Nat C D)) →
      wpAny (model prog w) A (isTrue ct (compEnvC scope cl C env) (eval ct (compEnvC scope cl C env))) (fun ok s' => if ok = true then
        wpAny (model prog w) A (eval elt (compEnvC scope cl C env)) (CompEnd h₀ L m { s with heap := h, toks := tk } I oI C oC D (lst ys) (fun nw => (ax, tupO us e) ∈ nw) (fun y nw => nw = news ∧ y ∈ us)) E' s'
        else CompEnd h₀ L m { s with heap := h, toks := tk } I oI C oC D (lst ys) (fun nw => (ax, tupO us e) ∈ nw) (fun _ nw => nw = news ∧ True) Value.none s') E' { s with heap := h, toks := tk })
    (done : ∀ (g : Heap) ys, (∀ y ∈ ys, y ∈ us) → ys.length ≤ us.length → FinE h₀ L m { s with heap := g } Q ys news) :
    SrcTT prog w A h₀ L m env ct elt x scope cl Q (.ref ax) s := by
  refine ⟨ax, us, e, news, rfl, hh, F, N, hm, Nat.le_trans hsz (by decide), fun g => ?_⟩
  refine compRestT_inv (s := { s with heap := g }) (n := us.length) (fun i ys nw => nw = news ∧ (∀ y ∈ ys, y ∈ us) ∧ ys.length ≤ i) ?_ ?_ us.length 0 [] news (by omega) ⟨rfl, (by intro y hy; cases hy), Nat.le_refl _⟩
  · rintro i ys nw v I oI C oC D m₂ h tk E' hlt ⟨rfl, hy, hyl⟩ hP hC hx F' N' off ne
    refine wpAny_mono (turn g v ys I oI C oC D m₂ h tk E' (List.mem_of_getElem? hP) hC hx F' N' off ne) (fun ok s₂ hz => ?_) fun _ _ e => e
    cases ok with
    | true =>
      simp only [if_true] at hz ⊢
      refine wpAny_mono hz (fun y s₃ hz => ?_) fun _ _ e => e
      obtain ⟨h₂, tk₂, news', rfl, F₂, N₂, off₂, hS, rfl, hyy⟩ := hz
      refine ⟨h₂, tk₂, _, rfl, F₂, N₂, off₂, hS, rfl, fun q hq => ?_, by simp; omega⟩
      rcases List.mem_append.mp hq with hq | hq
      · exact hy q hq
      · rw [List.mem_singleton.mp hq]; exact hyy
    | false =>
      simp only [Bool.false_eq_true, if_false] at hz ⊢
      obtain ⟨h₂, tk₂, news', rfl, F₂, N₂, off₂, hS, rfl, _⟩ := hz
      exact ⟨h₂, tk₂, _, rfl, F₂, N₂, off₂, hS, rfl, hy, by omega⟩
  · rintro ys nw ⟨rfl, hy, hyl⟩
    exact done g ys hy hyl
/-- over a list whose items are known to be some of these; the turns change nothing -/
theorem srcL_some {elt : PySem.Expr} {x : Str} {scope : Scope} {cl : List (Str × Addr)} {Fin : Shared → List Value → Led → Prop} {l : Addr} {ys us : List Value} {e : Nat} {news : Led}
    (hh : A.handled = none) (F : Fr h₀ L s.heap m) (N : News h₀ L s.heap news) (hm : (l, ({ cls := .type "list", data := .seq ys.toArray e } : Obj)) ∈ news) (hsz : ys.length ≤ 1000) (hy : ∀ y ∈ ys, y ∈ us)
    (turn : ∀ (_g : Heap) v zs I oI C oC D m₂ h tk (E' : Value → Shared → Prop), v ∈ us → NsObj oC m₂ → m₂ x = some v → Fr h₀ L h m → News h₀ L h ((I, oI) :: (C, oC) :: (D, lst zs) :: news) → Off3 I C D news → ((@Ne Nat I C) ∧ (@Ne Nat I D) ∧ (@Ne Nat C D)) →
      wpAny (model prog w) A (eval elt (compEnvC scope cl C env)) (CompEnd h₀ L m { s with heap := h, toks := tk } I oI C oC D (lst zs) (SrcAt h₀ l ys.toArray) (fun _ nw => nw = news ∧ True)) E' { s with heap := h, toks := tk })
    (done : ∀ (g : Heap) zs, Fin { s with heap := g } zs news) :
    CompSrc prog w A h₀ L m env elt x scope cl Fin (.ref l) s := by
  refine CompSrc.ledger hh F N hm (by rw [List.size_toArray]; exact Nat.le_trans hsz (by decide)) fun g => ?_
  refine compRest_inv (s := { s with heap := g }) (n := ys.toArray.size) (fun i zs nw => nw = news) ?_ ?_ ys.toArray.size 0 [] news (by omega) rfl
  · rintro i zs nw v I oI C oC D m₂ h tk E' hlt rfl hP hC hx F' N' off ne
    refine wpAny_mono (turn g v zs I oI C oC D m₂ h tk E' (hy v (List.mem_of_getElem? (by simpa using hP))) hC hx F' N' off ne) (fun y s₂ hz => ?_) fun _ _ e => e
    obtain ⟨h', tk₃, news', rfl, F₃, N₃, off₃, hS, rfl, _⟩ := hz
    exact ⟨h', tk₃, _, rfl, F₃, N₃, off₃, hS, rfl⟩
  · rintro zs nw rfl
    exact done g zs

/-- the same items again -/
theorem srcTU_same {elt : PySem.Expr} {x : Str} {scope : Scope} {cl : List (Str × Addr)} {Q : Value → Shared → Prop} {ax : Addr} {us : List Value} {e : Nat} {news : Led}
    (hh : A.handled = none) (F : Fr h₀ L s.heap m) (N : News h₀ L s.heap news) (hm : (ax, tupO us e) ∈ news) (hsz : us.length ≤ 1000)
    (turn : ∀ (_g : Heap) v ys I oI C oC D m₂ h tk (E' : Value → Shared → Prop), v ∈ us → NsObj oC m₂ → m₂ x = some v → Fr h₀ L h m → News h₀ L h ((I, oI) :: (C, oC) :: (D, lst ys) :: news) → Off3 I C D news → ((@Ne Nat I C) ∧ (@Ne Nat I D) ∧ (@Ne Nat C D)) →
      wpAny (model prog w) A (eval elt (compEnvC scope cl C env)) (CompEnd h₀ L m { s with heap := h, toks := tk } I oI C oC D (lst ys) (fun nw => (ax, tupO us e) ∈ nw) (fun y nw => nw = news ∧ y = v)) E' { s with heap := h, toks := tk })
    (done : ∀ (g : Heap), FinE h₀ L m { s with heap := g } Q us news) :
    SrcTU prog w A h₀ L m env elt x scope cl Q (.ref ax) s := by
  refine ⟨ax, us, e, news, rfl, hh, F, N, hm, Nat.le_trans hsz (by decide), fun g => ?_⟩
  refine compRest_inv (s := { s with heap := g }) (n := us.length) (fun i ys nw => nw = news ∧ ys = us.take i) ?_ ?_ us.length 0 [] news (by omega) ⟨rfl, by simp⟩
  · rintro i ys nw v I oI C oC D m₂ h tk E' hlt ⟨rfl, hys⟩ hP hC hx F' N' off ne
    refine wpAny_mono (turn g v ys I oI C oC D m₂ h tk E' (List.mem_of_getElem? hP) hC hx F' N' off ne) (fun y s₂ hy => ?_) fun _ _ e => e
    obtain ⟨h', tk₃, news', rfl, F₃, N₃, off₃, hS, rfl, rfl⟩ := hy
    refine ⟨h', tk₃, _, rfl, F₃, N₃, off₃, hS, rfl, ?_⟩
    rw [hys, List.take_add_one, hP]; rfl
  · rintro ys nw ⟨rfl, hys⟩
    rw [List.take_length] at hys
    subst hys
    exact done g
end
end Mine
namespace Mine
open PySem PySem.W PySem.Calls PyProof.Rows PySem.Spec

set_option maxHeartbeats 8000000 in
theorem one_con (w : World) (mean : ExcName → Option Value) (mg mb : Str → Option Value) {x d sc r a : Addr} {ss as : List Value} {zs xa : List Int} {t1 t2 t3 t4 t5 t6 : Tok}
    (hs : IntsAre ss zs) (ha : IntsAre as xa) (h1 : 1 ≤ zs.length) (h3 : zs.length ≤ 3) (hl : xa.length = zs.length) :
    Con w mean mg mb 12 332 [.ref x, .ref a] [(x, instObj 370 d), (d, dictOf [ent w "number" t1 (.int (-1) t2), ent w "scope" t3 (.ref sc), ent w "strength" t4 (.str (Str.ofString "values") t5), ent w "rows" t6 (.ref r)] 4), (sc, tupO ss 0), (a, tupO as 0)]
      (NewPost (fun own v => own = [] ∧ ∃ b, v = .bool b) [(x, instObj 370 d), (d, dictOf [ent w "number" t1 (.int (-1) t2), ent w "scope" t3 (.ref sc), ent w "strength" t4 (.str (Str.ofString "values") t5), ent w "rows" t6 (.ref r)] 4), (sc, tupO ss 0), (a, tupO as 0)]) := by
  k_dflt (
  refine' con_ofC ?k7 ?k8 ?kA ?kB ?kD ?_ ?c2 ?c3 ?c4;
  (case k7 => k_is); (case k8 => k_is);
  (case kA => exact fun _ => BindsTo.of_eq rfl); (case kB => exact rfl); (case kD => decide +kernel); (case c2 => exact rfl); (case c3 => exact rfl); (case c4 => exact rfl))
  intro dp gd un outer base g s B st sz X T hroom hu L' h₁ tk' cells' Q' F N' Y' hlt hret
  (try k_lt hlt)
  k_cells Y'
  (try simp only [List.cons_append, List.nil_append] at N')
  (try dsimp only at *); (try k_lift B); (try k_fold)
  k_with_none
  k_with "call builtin:len!" => ((
  k_here
  (with_reducible show wpAny _ _ (PySem.call (Value.builtin _) [Value.ref _]) _ _ _)
  k_dflt (refine' len_tupN ?N ?m ?i ?f ?_; (case N => k_asm); (case m => k_mem); (case i => with_reducible assumption); (case f => omega))
  k_whole))
  k_with "subscriptTail!" => ((
  k_here
  (with_reducible show wpAny _ _ (subscriptTail _ _ (Value.ref _) (Value.int _ _)) _ _ _)
  k_dflt (first
    | (refine' item_tupN ?N ?m ?i ?h0 ?h1 ?f ?_ ?k6; (case N => k_asm); (case m => k_mem); (case i => with_reducible assumption); (case h0 => omega); (case h1 => omega); (case f => omega); (case k6 => with_unfolding_all rfl))
    | ((with_reducible show wpAny _ _ (subscriptTail _ _ (Value.ref _) (Value.int (-1) _)) _ _ _); refine' item_tup_last ?N ?m ?i ?h1 ?_ ?k6; (case N => k_asm); (case m => k_mem); (case i => with_reducible assumption); (case h1 => omega); (case k6 => with_unfolding_all rfl)))
  k_whole
  intro t'))
  k_with "call type:tuple!" => ((
  k_here
  (with_reducible show wpAny _ _ (PySem.call (Value.type _) [Value.ref _]) _ _ _)
  k_dflt (refine' tup_sameN ?N ?m ?_; (case N => k_asm); (case m => k_mem))
  k_whole))
  k_with "pyIter ref!" => ((
  k_here
  (with_reducible show wpAny _ _ (pyIter (Value.ref _)) (fun it s₂ => LoopAtV _ _ _ _ _ _ _ _ _ it s₂) _ _)
  k_dflt (refine' iter_tupUnr ?hh ?F ?N ?m ?_; (case hh => exact rfl); (case F => k_asm); (case N => k_asm); (case m => k_mem))
  k_whole
  intro i' l1
  (try k_lt l1)))
  k_with "TupRest!" => ((with_unfolding_all first | (refine TupRest.succ (fun it' h' tk' hit' F' N' => ?_)) | (refine TupRest.zero (fun h' tk' F' N' => ?_))))
  k_with "compareOp In int ref!" => ((
  k_here
  (with_reducible show wpAny _ _ (compareOp CmpOp.In (Value.int _ _) (Value.ref _)) _ _ _)
  k_dflt (refine in_rangeK (by with_reducible assumption) ?_)
  k_whole))
  k_with "binaryOp Add ref ref!" => ((
  k_here
  k_dflt (refine' add_tupN ?F ?N ?m1 ?m2 ?v ?w ?z ?_; (case F => k_asm); (case N => k_asm); (case m1 => k_mem); (case m2 => k_mem); (case v => ((try simp only [List.length_append, List.length_cons, List.length_nil]); omega)); (case w => ((try simp only [List.length_append, List.length_cons, List.length_nil]); omega)); (case z => ((try simp only [List.length_append, List.length_cons, List.length_nil]); omega)))
  k_whole
  intro D' h' F' N' l1
  (try simp only [List.cons_append, List.nil_append, List.append_assoc] at N'); (try k_lt l1); (try dsimp only); (try k_fold)))
  k_with "CompRest!" => ((with_unfolding_all first
  | (refine LCg.CompRest.succ ?_; intro v' I' oI' C' oC' D' m' h' tk' E' hv' hC' hx' F' N' off' ne'; (first | lcg_open hv' | (obtain ⟨t9', hv9'⟩ := hv'; subst hv9')); replace ne' := Apart3.of ne')
  | refine LCg.CompRest.zero ?_))
  k_with "FinE!" => (((unfold LCg.FinE); intro D' h' tk' F' N' o1'; (try simp only [List.nil_append, List.cons_append] at N'); (try dsimp only)))
  k_with "FinA!" => (((unfold LCg.FinA); intro D' h' tk' F' N' o1'; (try simp only [List.nil_append, List.cons_append] at N'); (try dsimp only)))
  k_with "call type:list!" => ((
  k_here
  (with_reducible show wpAny _ _ (PySem.call (Value.type "list") [Value.ref _]) _ _ _)
  k_dflt (refine' list_tupN ?F ?N ?m ?_ ?z; (case F => k_asm); (case N => k_asm); (case m => k_mem); (case z => (try simp only [List.length_cons, List.length_nil]); omega))
  k_whole
  intro D' c' h' F' N' l1
  (try k_lt l1); (try dsimp only); (try k_fold)))
  k_with "compareOp Eq ref ref!" => ((
  k_here
  (with_reducible show wpAny _ _ (compareOp CmpOp.Eq (Value.ref _) (Value.ref _)) _ _ _)
  k_dflt (refine' eq_intsN ?N ?m1 ?m2 ?i1 ?i2 ?u ?_; (case N => k_asm); (case m1 => k_mem); (case m2 => k_mem); (case i1 => first | (with_reducible assumption) | exact .cons _ _ .nil); (case i2 => first | (with_reducible assumption) | exact .cons _ _ .nil); (case u => ktr_units))
  k_whole))
  k_with "call type:zip!" => ((
  k_here
  (with_reducible show wpAny _ _ (PySem.call (Value.type _) [Value.ref _, Value.ref _]) _ _ _)
  k_dflt (refine' zip_tupN ?F ?N ?m1 ?m2 ?_; (case F => k_asm); (case N => k_asm); (case m1 => k_mem); (case m2 => k_mem))
  k_whole
  intro z' TI' TO' i1' i2' h' F' N' za' zn'
  (try dsimp only); (try k_fold)))
  k_with "call type:dict!" => ((
  k_here
  (with_reducible show wpAny _ _ (PySem.call (Value.type _) [Value.ref _]) _ _ _)
  k_dflt (refine' dict_zipN ?hh ?F ?N ?za ?zn ?m1 ?m2 ?i1 ?i2 ?l ?z ?_; (case hh => exact rfl); (case F => k_asm); (case N => k_asm); (case za => with_reducible assumption); (case zn => with_reducible assumption); (case m1 => k_mem); (case m2 => k_mem); (case i1 => with_reducible assumption); (case i2 => with_reducible assumption); (case l => omega); (case z => omega))
  k_whole
  intro D' o' h' tk' F' N' l1 hdict'
  (try k_lt l1); (try dsimp only); (try k_fold)))
  k_with "CompEnd!" => ((
  k_dflt (refine' LCg.CompEnd.intro ?F ?N _ ?sub ?off ?S ⟨rfl, _, _, rfl⟩; (case F => k_asm); (case N => k_asm); (case sub => lcg_sub); (case off => with_reducible assumption); (case S => k_mem))))
  k_with "eval ListComp!" => ((
  k_here; (first | lcg_look | lcf_look); lcg_calm
  k_dflt (refine listComp_tup (_F₀ := by k_asm) (by with_unfolding_all rfl) (by decide) (by rfl) (by decide) (by rfl) ?_)))
  k_with "SrcTU!" => (k_extra "SrcTU")
  k_with "subscriptTail!" => (k_extra "known")
  k_with "last subscriptTail!" => (k_extra "known")
  have hlb : ((xa.length : Int) == (zs.length : Int)) = true := by rw [hl]; simp
  k_with "SrcTU" => (
    k_dflt (refine' srcTU_ints ?c1 ?c2 ?c3 ?c4 ?c5 ?c6 ?_ ?_
            (case c1 => exact rfl); (case c2 => k_asm); (case c3 => k_asm); (case c4 => k_mem); (case c5 => exact hs); (case c6 => omega))
    intro g' k' t' ys I' oI' C' oC' D' m' h' tk' E' hk' hPr hC' hx' F' N' off' ne'
    (replace ne' := Apart3.of ne')
    (try dsimp only at N' off'); (try dsimp only); (try k_fold)
    rotate_left
    intro g' ys zs' hz' hzl'
    (try dsimp only)
    rotate_left)
  k_with "known" => (
    (with_reducible show wpAny _ _ (subscriptTail _ _ (Value.ref _) (Value.int _ _)) _ _ _)
    k_dflt (refine' item_dictN ?N ?m ?d ?x ?_ ?s; (case N => k_asm); (case m => k_mem); (case d => with_reducible assumption); (case x => with_reducible assumption); (case s => with_unfolding_all rfl))
    intro i' t' tk'
    (try dsimp only); (try k_fold))
  iterate 95 (try (first | (k_unfold; (try dsimp only)) | walk1 | (dsimp only; walk1)))
  all_goals (try dsimp only)
  exact hret _ _ _ _ _ (by k_asm) (cb_drop (by assumption) (by lcg_sub)) (NewPost.mk (own := []) ⟨rfl, _, rfl⟩ OwnNe.nil)
end Mine
namespace Mine
open PySem PySem.W PySem.Calls PyProof.Rows PySem.Spec PyProof.Rows.LCg

theorem apart4 {a I : Nat} (h : a < I) : (a ≠ I) ∧ (a ≠ I + 1) ∧ (a ≠ I + 2) ∧ (a ≠ I + 3) := by refine ⟨?_, ?_, ?_, ?_⟩ <;> omega
theorem apartS (I : Nat) : (I ≠ I + 1) ∧ (I + 3 ≠ I + 1) ∧ (I ≠ I + 3) := by refine ⟨?_, ?_, ?_⟩ <;> omega
theorem apartT (I : Nat) : (I + 1 ≠ I) ∧ (I + 1 ≠ I + 3) ∧ (I + 2 ≠ I + 3) ∧ (I + 2 ≠ I + 1) := by refine ⟨?_, ?_, ?_, ?_⟩ <;> omega
/-- the end of a turn of a block with a cell: all stands -/
inductive CellEnd (h₀ : Heap) (L : Addr) (m : Str → Option Value) (s : Shared) (all : Led) (_y : Value) (s' : Shared) : Prop
  | mk (h' : Heap) (tk : Nat) (nw : Led) : s' = { s with heap := h', toks := tk } → Fr h₀ L h' m → News h₀ L h' nw → (∀ p ∈ all, p ∈ nw) → CellEnd h₀ L m s all _y s'
theorem CellEnd.intro {h₀ : Heap} {L : Addr} {m : Str → Option Value} {s : Shared} {all nw : Led} {y : Value} {h' : Heap} {tk : Nat} (F : Fr h₀ L h' m) (N : News h₀ L h' nw) (sub : ∀ p ∈ all, p ∈ nw) :
    CellEnd h₀ L m s all y { s with heap := h', toks := tk } := ⟨h', tk, nw, rfl, F, N, sub⟩
inductive SrcCR (prog : Program) (w : World) (A : Around) (h₀ : Heap) (L : Addr) (m : Str → Option Value) (env : Env) (elt : PySem.Expr) (x : Str) (scope : Scope) (cl : List (Str × Addr)) (Q : Value → Shared → Prop) (xv : Value) (s₁ : Shared) : Prop
  | mk (r : Addr) (n : Nat) (t u v : Tok) (news : Led) : xv = .ref r → A.handled = none → Fr h₀ L s₁.heap m → News h₀ L s₁.heap news → IsRange s₁.heap r 0 ((n : Nat) : Int) 1 t u v → n ≤ 1000 →
    (∀ i tv I oI C oC K oK D oD h tk (E' : Value → Shared → Prop), i < n → oK.data = .cell (some (.int ((i : Nat) : Int) tv)) → Fr h₀ L h m → News h₀ L h ((I, oI) :: (C, oC) :: (K, oK) :: (D, oD) :: news) →
      wpAny (model prog w) A (eval elt (compEnvC scope ((x, K) :: cl) C env)) (CellEnd h₀ L m { s₁ with heap := h, toks := tk } ((I, oI) :: (C, oC) :: (K, oK) :: (D, oD) :: news)) E' { s₁ with heap := h, toks := tk }) →
    (∀ D oD h tk, Fr h₀ L h m → News h₀ L h ((D, oD) :: news) → (∀ p ∈ news, p.1 < D) → Q (.ref D) { s₁ with heap := h, toks := tk }) →
    SrcCR prog w A h₀ L m env elt x scope cl Q xv s₁
inductive CellInv (h₀ : Heap) (L : Addr) (m : Str → Option Value) (s₁ : Shared) (I : Addr) (n : Nat) (news : Led) (k : Nat) (s' : Shared) : Prop
  | mk (h' : Heap) (tk i : Nat) (ys : List Value) (m' : Str → Option Value) (vc : Option Value) : s' = { s₁ with heap := h', toks := tk } → i ≤ n → k = n + 1 - i → ys.length = i → IsRangeIter h' I (0 + ((i : Nat) : Int) * 1) ((n : Int) - ((i : Nat) : Int)) 1 → Fr h₀ L h' m → h'.Ns (I + 2) m' → News h₀ L h' ((I + 1, lst ys) :: news) → h'.IsCell (I + 3) vc →
    CellInv h₀ L m s₁ I n news k s'

section
variable {prog : Program} {w : World} {A : Around} {E : Value → Shared → Prop} {s : Shared} {h₀ : Heap} {L : Addr} {m : Str → Option Value} {env : Env}
theorem listComp_cell {elt iter : PySem.Expr} {x n0 n2 : Str} {px : Pos} {scope : Scope} {cl : List (Str × Addr)} {pos : Pos} {Q : Value → Shared → Prop} (_F₀ : Fr h₀ L s.heap m)
    (hclos : closureFor scope env = pure cl) (hnm : scope.names = [(n0, .local), (x, .cell), (n2, .free)]) (hne : x ≠ n0) (hkind : scope.kind = .function)
    (h : wpAny (model prog w) A (eval iter env) (SrcCR prog w A h₀ L m env elt x scope cl Q) E s)
    (hs : ∀ x, foldedSetIterable iter env x = pure x := by intro _; rfl) :
    wpAny (model prog w) A (eval (.ListComp elt [⟨.Name x px, iter, [], 0⟩] scope pos) env) Q E s := by
  rw [eval_ListComp]
  have hlook : scope.names.lookup x = some .cell := by
    rw [hnm, List.lookup_cons, show (x == n0) = false from by simpa using hne]; simp [List.lookup_cons]
  refine wpAny_comprehension_free (use := none) rfl hs hclos hkind (fun y hy hl => ?_) (wpAny_mono h (fun xv s₁ h₁ => ?_) fun _ _ e => e)
  · rw [hnm] at hy ⊢
    rcases List.mem_cons.mp hy with rfl | hy
    · simp [List.lookup_cons]
    · rcases List.mem_cons.mp hy with rfl | hy
      · cases hl
      · rw [List.mem_singleton.mp hy] at hl; cases hl
  have hkindx : ∀ CC KK, (compEnvC scope ((x, KK) :: cl) CC env).kindOf x = some .cell := fun CC KK => by
    show (relabel scope env).names.lookup x = some .cell
    simp only [relabel, hnm, List.map_cons, List.map_nil, show (NameKind.local == NameKind.free) = false from rfl, show (NameKind.cell == NameKind.free) = false from rfl, Bool.false_and, Bool.false_eq_true, if_false]
    rw [List.lookup_cons, show (x == n0) = false from by simpa using hne]
    simp [List.lookup_cons]
  obtain ⟨r, n, t, u, v, news, rfl, hh, F, N, hr, hsm, turn, done⟩ := h₁
  refine wpAny_pyIter_range hr (small_one (by decide) (by omega) (by omega) (by omega)) ?_
  have W := range_walks (prog := prog) (w := w) (I := s₁.heap.objs.size) hh 0 n
  generalize hI : s₁.heap.objs.size = I at W
  have hst0 : IsRangeIter (s₁.heap.push { cls := .type "range_iterator", data := .fields #[rawInt 0, rawInt (Builtin.Range.rangeSize 0 (n : Int) 1), rawInt 1] }) I (0 + ((0 : Nat) : Int) * 1) ((n : Int) - ((0 : Nat) : Int)) 1 := by
    show IsRangeIter _ _ _ _ _
    rw [show Builtin.Range.rangeSize 0 (n : Int) 1 = ((n : Nat) : Int) from by have := rangeSize_nat 0 n; simpa using this, ← hI]
    simpa using Heap.get?_push_size _ rfl
  have F2 := F.push { cls := .type "range_iterator", data := .fields #[rawInt 0, rawInt (Builtin.Range.rangeSize 0 (n : Int) 1), rawInt 1] }
  have N2 := N.pushKeep { cls := .type "range_iterator", data := .fields #[rawInt 0, rawInt (Builtin.Range.rangeSize 0 (n : Int) 1), rawInt 1] }
  have hz2 : (s₁.heap.push { cls := .type "range_iterator", data := .fields #[rawInt 0, rawInt (Builtin.Range.rangeSize 0 (n : Int) 1), rawInt 1] }).objs.size = I + 1 := by rw [Heap.size_push, hI]
  have old2 : ∀ b o, s₁.heap.get? b = some o → (s₁.heap.push { cls := .type "range_iterator", data := .fields #[rawInt 0, rawInt (Builtin.Range.rangeSize 0 (n : Int) 1), rawInt 1] }).get? b = some o := fun b o e => Heap.get?_push_of_some _ e
  generalize hs2 : s₁.heap.push { cls := .type "range_iterator", data := .fields #[rawInt 0, rawInt (Builtin.Range.rangeSize 0 (n : Int) 1), rawInt 1] } = hp2 at *
  refine wpAny_newObj_type ?_
  have hz3 : (hp2.push { cls := .type "list", dict := none, data := .seq ([] : List Value).toArray }).objs.size = I + 2 := by rw [Heap.size_push, hz2]
  generalize hs3 : hp2.push { cls := .type "list", dict := none, data := .seq ([] : List Value).toArray } = hp3 at *
  unfold newFunctionEnv
  simp only [Option.isSome_some, if_true, hnm]
  refine wpAny_bind (wpAny_alloc ?_)
  refine wpAny_bind (wpAny_layCells _ (fun name kind cells => by cases hkc : kind == NameKind.cell <;> simp [hkc]) _ _ _ _ ?_)
  simp only [List.forIn_nil]
  refine wpAny_bind (wpAny_pure (wpAny_pure ?_))
  have hzC : hp3.objs.size = I + 2 := hz3
  have hz4 : (hp3.push { cls := .type "dict", data := .dict #[] }).objs.size = I + 3 := by rw [Heap.size_push, hz3]
  show codeAny _ A (.compStart (.ListComp elt [⟨.Name x px, iter, [], 0⟩] scope pos) 0 (.ref I) (.ref hp2.objs.size) (compEnvC scope ((x, (hp3.push { cls := .type "dict", data := .dict #[] }).objs.size) :: cl) hp3.objs.size env))
    (compPost (model prog w) A E none Q (.ref hp2.objs.size) hp3.objs.size) { s₁ with heap := (hp3.push { cls := .type "dict", data := .dict #[] }).push { cls := .type "cell", data := .cell none } }
  have g5 : ∀ b o, s₁.heap.get? b = some o → ((hp3.push { cls := .type "dict", data := .dict #[] }).push { cls := .type "cell", data := .cell none }).get? b = some o := fun b o e => by
    refine Heap.get?_push_of_some _ (Heap.get?_push_of_some _ ?_)
    rw [← hs3]; exact Heap.get?_push_of_some _ (old2 b o e)
  have gI : IsRangeIter ((hp3.push { cls := .type "dict", data := .dict #[] }).push { cls := .type "cell", data := .cell none }) I (0 + ((0 : Nat) : Int) * 1) ((n : Int) - ((0 : Nat) : Int)) 1 := by
    refine Heap.get?_push_of_some _ (Heap.get?_push_of_some _ ?_)
    rw [← hs3]; exact Heap.get?_push_of_some _ hst0
  have gD : ((hp3.push { cls := .type "dict", data := .dict #[] }).push { cls := .type "cell", data := .cell none }).get? hp2.objs.size = some (lst []) := by
    refine Heap.get?_push_of_some _ (Heap.get?_push_of_some _ ?_)
    rw [← hs3]; exact Heap.get?_push_size _ rfl
  have gC : ((hp3.push { cls := .type "dict", data := .dict #[] }).push { cls := .type "cell", data := .cell none }).Ns hp3.objs.size fun _ => none := (Heap.Ns.new hp3 (.type "dict")).keeps fun b o e => Heap.get?_push_of_some _ e
  have gK : ((hp3.push { cls := .type "dict", data := .dict #[] }).push { cls := .type "cell", data := .cell none }).IsCell (hp3.push { cls := .type "dict", data := .dict #[] }).objs.size none := ⟨_, Heap.get?_push_size _ rfl, rfl⟩
  have Lt : L < I := by rw [← hI]; exact F.ns.lt
  have Nt : ∀ p ∈ news, p.1 < I := fun p hp => by rw [← hI]; exact Heap.lt_size (N p hp).1
  have H0 : ∀ a, I ≤ a → h₀.get? a = none := fun a ha => by
    cases e : h₀.get? a with
    | none => rfl
    | some o' => exact absurd (Heap.lt_size (F.keep a o' e)) (by rw [hI]; exact Nat.not_lt.mpr ha)
  generalize (hp3.push { cls := .type "dict", data := .dict #[] }).push { cls := .type "cell", data := .cell none } = hp5 at *
  generalize hKe : (hp3.push { cls := .type "dict", data := .dict #[] }).objs.size = K at *
  generalize hp3.objs.size = C at *
  generalize hp2.objs.size = D at *
  clear hs2 hs3 hst0 F2 N2 old2 hKe
  subst hz2 hzC hz4
  have key : ∀ s₃ : Shared, s₃ = { s₁ with heap := hp5 } → codeAny (model prog w) A (.compLoop (.ListComp elt [⟨.Name x px, iter, [], 0⟩] scope pos) 0 (.ref I) (.ref (I + 1)) (compEnvC scope ((x, I + 3) :: cl) (I + 2) env))
      (compPost (model prog w) A E none Q (.ref (I + 1)) (I + 2)) s₃ := by
    rintro s₃ rfl
    refine codeAny_compLoop_tests
      (CellInv h₀ L m s₁ I n news) ?_ (n + 1)
      ⟨hp5, s₁.toks, 0, [], _, none, rfl, Nat.zero_le _, rfl, rfl, gI, F.keeps g5, gC, fun p hp => ?_, gK⟩
    · rintro k s' ⟨h', tk, i, ys, m', vc, rfl, hi, rfl, hyl, hst', F', hn', N', hK'⟩
      have nI : ∀ p ∈ news, p.1 ≠ I ∧ p.1 ≠ I + 1 ∧ p.1 ≠ I + 2 ∧ p.1 ≠ I + 3 := fun p hp => apart4 (Nt p hp)
      have lI := apart4 Lt
      by_cases hlt : i < n
      · refine W.item i _ _ _ hlt hst' fun vv h₂ tk₂ hPv hst₂ hk₂ => ?_
        obtain ⟨tv, rfl⟩ := hPv
        have hK₂ : h₂.IsCell (I + 3) vc := by obtain ⟨o, ho, hd⟩ := hK'; exact ⟨o, hk₂ _ _ (by simp) ho, hd⟩
        refine wpAny_assign_Name (wpAny_storeName_cell hkind (hkindx _ _) (by simp [compEnvC]) hK₂ fun h₃ hK₃ hs₃ => ?_)
        refine wpAny_tests_nil ?_
        simp only [if_true]
        obtain ⟨oI, heI⟩ : ∃ oI, h₃.get? I = some oI := ⟨_, hs₃.extBut _ _ (apartS I).2.2 hst₂⟩
        have hn₃ : h₃.Ns (I + 2) m' := (hn'.at' fun o e => hk₂ _ o (by simp) e).sameBut hs₃ (apartT I).2.2.1
        obtain ⟨oC, heC, hoC⟩ := ns_obj hn₃
        obtain ⟨oK, heK, hdK⟩ := hK₃
        have F₃ : Fr h₀ L h₃ m := (fr_but F' hk₂ lI.1 (H0 _ (Nat.le_refl _))).change hs₃ lI.2.2.2.symm (H0 _ (Nat.le_add_right _ _))
        have N₃ : News h₀ L h₃ ((I, oI) :: (I + 2, oC) :: (I + 3, oK) :: (I + 1, lst ys) :: news) := fun p hp => by
          rcases List.mem_cons.mp hp with rfl | hp
          · exact ⟨heI, lI.1.symm, H0 _ (Nat.le_refl _)⟩
          · rcases List.mem_cons.mp hp with rfl | hp
            · exact ⟨heC, lI.2.2.1.symm, H0 _ (Nat.le_add_right _ _)⟩
            · rcases List.mem_cons.mp hp with rfl | hp
              · exact ⟨heK, lI.2.2.2.symm, H0 _ (Nat.le_add_right _ _)⟩
              · have hpI : p.1 ≠ I ∧ p.1 ≠ I + 3 := by
                  rcases List.mem_cons.mp hp with rfl | hp
                  · exact ⟨(apartT I).1, (apartT I).2.1⟩
                  · exact ⟨(nI p hp).1, (nI p hp).2.2.2⟩
                exact ⟨hs₃.extBut _ _ hpI.2 (hk₂ _ _ (by simpa using hpI.1) (N' p hp).1), (N' p hp).2⟩
        refine wpAny_mono (turn i tv I oI (I + 2) oC (I + 3) oK (I + 1) (lst ys) h₃ tk₂ _ hlt (by rw [hdK]; simp) F₃ N₃) (fun y s₄ h₄ => ?_) fun _ _ e => e
        obtain ⟨h₄, tk₄, nw, rfl, F₄, N₄, sub⟩ := h₄
        have zI := (N₄ _ (sub (I, oI) (.head _))).1
        have zC := (N₄ _ (sub (I + 2, oC) (.tail _ (.head _)))).1
        have zK := (N₄ _ (sub (I + 3, oK) (.tail _ (.tail _ (.head _))))).1
        have zD := (N₄ _ (sub (I + 1, lst ys) (.tail _ (.tail _ (.tail _ (.head _)))))).1
        have N₄' : ∀ p ∈ news, h₄.get? p.1 = some p.2 := fun p hp => (N₄ _ (sub p (.tail _ (.tail _ (.tail _ (.tail _ hp)))))).1
        refine append_at (hsz := by show ys.toArray.size ≤ sizeLine; rw [List.size_toArray, hyl]; exact Nat.le_trans (show i ≤ 1000 by omega) (by decide)) zD fun h₅ hs₅ hD₅ => ?_
        have h₃I : IsRangeIter h₃ I (0 + ((i + 1 : Nat) : Int) * 1) ((n : Int) - ((i + 1 : Nat) : Int)) 1 := hs₃.extBut _ _ (apartS I).2.2 hst₂
        have h₃I' : h₃.get? I = some _ := h₃I
        refine ⟨n + 1 - (i + 1), by omega, h₅, tk₄, i + 1, ys ++ [y], _, _, rfl, hlt, rfl, by rw [List.length_append, List.length_singleton, hyl], ?_, F₄.change hs₅ lI.2.1.symm (H0 _ (Nat.le_succ _)),
          (hoC.ns zC).sameBut hs₅ (apartT I).2.2.2, fun p hp => ?_, ⟨oK, hs₅.extBut _ _ (apartS I).2.1 zK, hdK⟩⟩
        · show h₅.get? I = some _
          refine hs₅.extBut _ _ (apartS I).1 ?_
          rw [zI, ← heI]; exact h₃I'
        · rcases List.mem_cons.mp hp with rfl | hp
          · exact ⟨hD₅.trans (congrArg some (lst_snoc ys y)), lI.2.1.symm, H0 _ (Nat.le_succ _)⟩
          · exact ⟨hs₅.extBut _ _ (nI p hp).2.1 (N₄' p hp), (N p hp).2⟩
      · obtain rfl : i = n := Nat.le_antisymm hi (Nat.not_lt.mp hlt)
        refine W.done _ _ _ hst' fun h₂ tk₂ hk₂ => ?_
        refine ⟨m', hn'.at' (fun o e => hk₂ _ o (by simp) e), fun h'' hs'' => done (I + 1) (lst ys) h'' tk₂ ((fr_but F' hk₂ lI.1 (H0 _ (Nat.le_refl _))).change hs'' lI.2.2.1.symm (H0 _ (Nat.le_add_right _ _))) (fun p hp => ?_) fun p hp => Nat.lt_succ_of_lt (Nt p hp)⟩
        have hp2 : p.1 ≠ I ∧ p.1 ≠ I + 2 := by
          rcases List.mem_cons.mp hp with rfl | hp
          · exact ⟨(apartT I).1, (apartT I).2.2.2.symm⟩
          · exact ⟨(nI p hp).1, (nI p hp).2.2.1⟩
        exact ⟨hs''.extBut _ _ hp2.2 (hk₂ _ _ (by simpa using hp2.1) (N' p hp).1), (N' p hp).2⟩
    · rcases List.mem_cons.mp hp with rfl | hp
      · exact ⟨gD, Nat.ne_of_gt (Nat.lt_succ_of_lt Lt), H0 _ (Nat.le_succ _)⟩
      · exact ⟨g5 _ _ (N p hp).1, (N p hp).2⟩
  exact codeAny_compStart_list (key _ rfl) (W.self 0 _ _ _ gI (key _ rfl))
end
end Mine
namespace Mine
open PySem PySem.W PySem.Calls PyProof.Rows PySem.Spec
inductive ChTab (w : World) (o : Addr) (rs : List Value) : Led → Value → Prop
  | mk {x d rt a b : Addr} {t1 t2 t3 t4 t5 t6 t7 t8 : Tok} : ChTab w o rs
      [(x, instObj 370 d), (d, dictOf [ent w "number" t1 (.int (-1) t2), ent w "scope" t3 (.ref o), ent w "strength" t4 (.str (Str.ofString "values") t5), ent w "rows" t6 (.ref rt), ent w "able" t7 (.ref a), ent w "columns" t8 (.ref b)] 6),
       (rt, tupO rs 0)] (.ref x)
end Mine
namespace Mine
open PySem PySem.W PySem.Calls PyProof.Rows PySem.Spec

section
variable {prog : Program} {w : World} {A A₀ : Around} {s : Shared} {K : Frag} {L : Addr} {h₀ base : Heap} {m mg mb : Str → Option Value} {news : List (Addr × Obj)} {p : Program} {loose : List Str} {mean : ExcName → Option Value}

/-- entering a method that closes over __class__ and whose first argument lies in a cell -/
theorem ini_code {env : Env} {outer : List Env} {R : Result → Shared → Prop} {name qual n0 n1 n2 : Str} {params : Arguments} {body : List Stmt} {scope : Scope} {dV kV doc pm cdv ct oc : Value} {an od : Option Addr} {osl : Array (Option Value)} {f cc : Addr} {args : Args} {v0 v1 v2 : Value}
    (B : Below A₀ base outer h₀) (F : Fr h₀ L s.heap m) (X₀ : K.In h₀) (N : News h₀ L s.heap news) (T : Top p loose mean mg mb h₀) (hA : A.frames = some (env :: outer)) (hf : env.frame = some L) (hke : env.scope.kind = .function)
    (ho : K.lookup f = some ⟨oc, od, .func (ksFn name qual params body scope dV kV doc pm an cdv ct cc), osl⟩) (hcd : codeIn K cdv qual = true) (hroom : A.depth < recursionLimit)
    (hbind : BindsTo s (ksFn name qual params body scope dV kV doc pm an cdv ct cc) args [(n0, v0), (n1, v1), (n2, v2)])
    (h0 : scope.names.lookup n0 = some .cell) (h1 : scope.names.lookup n1 = some .local) (h2 : scope.names.lookup n2 = some .local)
    (hcs : ∀ n, cellsFrom n scope.names [("__class__", cc)] = [(n0, n), ("__class__", cc)]) (hps : ∀ h, pushCells h scope.names = h.push { cls := .type "cell", data := .cell none })
    (h : ∀ g L' h₁ tk, Fr h₀ L g m → Fr g L' h₁ (fun y => if y = n2 then some v2 else if y = n1 then some v1 else none) →
      (∃ oc', News g L' h₁ ((L' + 1, oc') :: news) ∧ oc'.data = .cell (some v0)) → Below A base (env :: outer) g → K.In g → Top p loose mean mg mb g → (∀ p ∈ news, p.1 < L') →
      _root_.PySem.wpAt (model prog w) (A.deeper (envX qual scope L' f cdv [(n0, L' + 1), ("__class__", cc)])) (.func body (envX qual scope L' f cdv [(n0, L' + 1), ("__class__", cc)])) (execs body (envX qual scope L' f cdv [(n0, L' + 1), ("__class__", cc)]))
        (fun fl s' => LeaveK h₀ L m g R (match fl with | .ret v => v | _ => .none) s')
        (fun e s' => wpAny (model prog w) (A.deeper (envX qual scope L' f cdv [(n0, L' + 1), ("__class__", cc)])) (leaving (envX qual scope L' f cdv [(n0, L' + 1), ("__class__", cc)]) e) (fun _ s'' => R (.error e) s'') (fun e' s'' => R (.error e') s'') s')
        { s with heap := h₁, toks := tk })
    (hco : scope.isCoroutine = false) (hgen : scope.isGenerator = false) (hk : scope.kind = .function) : codeAny (model prog w) A (.call (.ref f) args) R s := by
  obtain ⟨FG, BG, st, lv⟩ := groundX (R := R) B F N hA hf hke
  refine codeAny_call_function hroom ((X₀.keeps F.keep) _ _ ho) rfl hco hgen rfl (codeRec_of (X₀.keeps F.keep) hcd) (hbind _ _ _ _ ?_)
  unfold newFunctionEnv
  simp only [Option.isSome_none, Bool.false_eq_true, if_false]
  refine wpAny_bind (wpAny_alloc ?_)
  refine wpAny_bind (wpAny_layCells _ (fun name kind cells => by cases hkc : kind == NameKind.cell <;> simp [hkc]) _ _ _ _ ?_)
  rw [hcs, hps]
  have hz : (s.heap.push { cls := .type "frame", data := .dict #[] }).objs.size = s.heap.objs.size + 1 := Heap.size_push ..
  have gC : ((s.heap.push { cls := .type "frame", data := .dict #[] }).push { cls := .type "cell", data := .cell none }).Ns s.heap.objs.size fun _ => none := (Heap.Ns.new s.heap (.type "frame")).keeps fun b o e => Heap.get?_push_of_some _ e
  have gK : ((s.heap.push { cls := .type "frame", data := .dict #[] }).push { cls := .type "cell", data := .cell none }).IsCell (s.heap.objs.size + 1) none := ⟨_, by rw [← hz]; exact Heap.get?_push_size _ rfl, rfl⟩
  have g5 : ∀ b o, s.heap.get? b = some o → ((s.heap.push { cls := .type "frame", data := .dict #[] }).push { cls := .type "cell", data := .cell none }).get? b = some o := fun b o e => Heap.get?_push_of_some _ (Heap.get?_push_of_some _ e)
  have Nt : ∀ p ∈ news, p.1 < s.heap.objs.size := fun p hp => Heap.lt_size (N p hp).1
  have hcode : codeIn K cdv qual = true := hcd
  simp only [hz]
  show wpAny _ _ _ _ _ { s with heap := (s.heap.push { cls := .type "frame", data := .dict #[] }).push { cls := .type "cell", data := .cell none } }
  generalize (s.heap.push { cls := .type "frame", data := .dict #[] }).push { cls := .type "cell", data := .cell none } = hp at *
  simp only [List.forIn_cons, List.forIn_nil, bind_assoc, pure_bind]
  refine wpAny_bind ((wpAny_storeName_cell (c := s.heap.objs.size + 1) (env := envX qual scope s.heap.objs.size f cdv [(n0, s.heap.objs.size + 1), ("__class__", cc)]) hk h0 (by simp) gK fun ha hca hsa => ?_))
  have hpl : ((envX qual scope s.heap.objs.size f cdv [(n0, s.heap.objs.size + 1), ("__class__", cc)]).scope.kind == .class || ((envX qual scope s.heap.objs.size f cdv [(n0, s.heap.objs.size + 1), ("__class__", cc)]).scope.kind == .module && (envX qual scope s.heap.objs.size f cdv [(n0, s.heap.objs.size + 1), ("__class__", cc)]).locals != mainGlobals)) = false := by
    show (scope.kind == .class || (scope.kind == .module && s.heap.objs.size != mainGlobals)) = false; rw [hk]; rfl
  refine wpAny_bind ((wpAny_storeName_local (env := envX qual scope s.heap.objs.size f cdv [(n0, s.heap.objs.size + 1), ("__class__", cc)]) h1 (gC.sameBut hsa (Nat.ne_of_lt (Nat.lt_succ_self _))) (fun hb hnb hsb => ?_) hpl))
  refine wpAny_bind ((wpAny_storeName_local (env := envX qual scope s.heap.objs.size f cdv [(n0, s.heap.objs.size + 1), ("__class__", cc)]) h2 hnb (fun hc hnc hsc => ?_) hpl))
  have old : ∀ b o, s.heap.get? b = some o → hc.get? b = some o := fun b o e => by
    have hb1 : b < s.heap.objs.size := Heap.lt_size e
    have a1 := (hsa.2 b (Nat.ne_of_lt (Nat.lt_succ_of_lt hb1))).trans (g5 b o e)
    have a2 := (hsb.2 b (Nat.ne_of_lt hb1)).trans a1
    exact (hsc.2 b (Nat.ne_of_lt hb1)).trans a2
  obtain ⟨oc', hoc, hod⟩ := (hca.sameBut hsb (Nat.ne_of_gt (Nat.lt_succ_self _))).sameBut hsc (Nat.ne_of_gt (Nat.lt_succ_self _))
  have hL0 : ∀ a, s.heap.objs.size ≤ a → (hideAll s.heap (news.map (·.1))).get? a = none := fun a ha => by
    cases e : (hideAll s.heap (news.map (·.1))).get? a with
    | none => rfl
    | some o' => exact absurd (Heap.lt_size (of_hideAll _ e)) (Nat.not_lt.mpr ha)
  refine wpAny_pure ⟨T.nolimit.keeps (fun b o e => old b o (F.keep b o e)), ks_codeAny_funcAt ?_⟩
  exact ks_wpAt_mono (h _ s.heap.objs.size hc _ FG ⟨hnc, fun b o e => old b o (of_hideAll _ e), Nat.le_of_eq (hideAll_size _ _)⟩
    ⟨oc', fun p hp => by
      rcases List.mem_cons.mp hp with rfl | hp
      · exact ⟨hoc, Nat.ne_of_gt (Nat.lt_succ_self _), hL0 _ (Nat.le_succ _)⟩
      · exact ⟨old _ _ (N p hp).1, Nat.ne_of_lt (Heap.lt_size (N p hp).1), hideAll_none _ (List.mem_map_of_mem hp)⟩, hod⟩ BG (X₀.keeps st) (T.keeps st) Nt) (fun fl s' hl => lv _ _ hl) fun _ _ y => y

theorem ini_node {q n0 : Str} {body : List Stmt} {scope : Scope} {p0 p1 : Pos} {attr : Str} {whole : Sem Value} {fd : FuncData} {ar : Arg} {vs : Array Value} {file : Str} {tf : Tok} {oc ccl cl : Value} {od cdd cld : Option Addr} {osl ccs csl : Array (Option Value)} {cdD : ClassData} {Q : Value → Shared → Prop}
    {E : Value → Shared → Prop} {x D C f cc cda ca : Addr} {ox oca : Obj} {oda : Option Obj}
    (F : Fr h₀ L s.heap m) (X₀ : K.In h₀) (N : News h₀ L s.heap news) (T : Top p loose mean mg mb h₀)
    (hf : K.lookup f = some ⟨oc, od, .func fd, osl⟩) (hp : (fd.params.posonlyargs ++ fd.params.args).head? = some ar) (hn0 : ar.arg = n0) (hca : (ca, oca) ∈ news) (hcv : oca.data = .cell (some (.ref x))) (I : InstAt s.heap x ox C oda)
    (hcode : K.lookup cda = some ⟨ccl, cdd, .fields vs, ccs⟩) (hvs : vs[2]? = some (.str file tf)) (hfile : ((prog.main.file : Str) == file) = true)
    (hcell : K.lookup cc = some ⟨cl, cld, .cell (some (.ref D)), csl⟩) (hD : clsIn K D = some cdD) (hsub : mroIn K C (.ref D) = some true) (hsuper : nsIn K mainGlobals "super" = some none)
    (hat : (attr == ("__class__" : Str)) = false) (hks : scope.names.lookup ("super" : Str) = some .globalImplicit) (hkc : scope.names.lookup ("__class__" : Str) = some .free) (hka : scope.names.lookup n0 = some .cell) (hcc : (("__class__" : Str) == n0) = false) (hk : scope.kind = .function)
    (htop : (prog.main.scope.names.lookup ("super" : Str)).isSome = false) (hboot : bootBuiltins "super" = some (.type "super"))
    (h : ∀ so h', Fr h₀ L h' m → News h₀ L h' ((so, ks_superObj D x C) :: news) → (∀ p ∈ news, p.1 < so) → Q (.ref so) { s with heap := h' }) :
    _root_.PySem.wpAt (model prog w) A (.func body (envX q scope L f (.ref cda) [(n0, ca), ("__class__", cc)])) (attributeBase (.Call (.Name "super" p0) [] [] p1) attr (envX q scope L f (.ref cda) [(n0, ca), ("__class__", cc)]) whole) Q E s := by
  subst hn0
  have X : K.In s.heap := X₀.keeps F.keep
  obtain ⟨hh, g, d, t, os⟩ := s
  obtain ⟨oD, hD1, hD2⟩ : ∃ oD, hh.get? D = some oD ∧ oD.data = .cls cdD := by
    unfold clsIn at hD
    split at hD
    · rename_i c d cd' sl ho
      cases hD
      exact ⟨_, X _ _ ho, rfl⟩
    · cases hD
  refine ks_wpAt_super_base (env := envX q scope L f (.ref cda) [(ar.arg, ca), ("__class__", cc)]) hks hkc hat rfl (X _ _ hf) rfl hp rfl (X _ _ hcode) rfl hvs hfile htop ?_
  refine ks_loadName_global hk hks (loadGlobal_builtin (env := envX q scope L f (.ref cda) [(ar.arg, ca), ("__class__", cc)]) (T.g.keeps F.keep) (mg_none_of X₀ T.g hsuper) (T.b.keeps F.keep) ((T.builtins _ (by decide +kernel)).trans hboot) ⟨rfl, ?_⟩)
  refine wpAny_loadName_free (c := cc) hk hkc ?_ ⟨_, X _ _ hcell, rfl⟩ ?_
  · show List.lookup _ (_ :: _) = _
    rw [List.lookup_cons, hcc]; simp [List.lookup_cons]
  refine wpAny_loadName_cell (c := ca) hk hka ?_ ⟨oca, N.get hca, hcv⟩ ?_
  · show List.lookup _ (_ :: _) = _
    rw [List.lookup_cons, beq_self_eq_true]
  refine ks_wpAny_isType_cls hD1 hD2 ⟨rfl, ?_⟩
  refine ks_wpAny_call_super hD1 hD2 I.at_ I.cls (fun c e => ?_) (looks_mroIn X hsub) (fun h' e k => ?_)
  · have := I.no
    unfold notCls at this
    rw [e] at this
    exact Bool.noConfusion this
  · obtain ⟨F', N', l'⟩ := ks_newsPush (s := ⟨hh, g, d, t, os⟩) F N rfl e k
    exact h _ _ F' N' l'
end
theorem units_cls (A : Around) (C : Addr) (args : List Value) (kw : List (Str × Value)) : (A.under (.builtin "type.__call__" ⟨.ref C :: args, kw⟩)).units = A.units + 1 := rfl
end Mine
namespace Mine
open PySem PySem.W PySem.Calls PyProof.Rows PySem.Spec
local macro_rules | `(tactic| lcg_sub) => `(tactic| ((repeat (refine sub_v (by k_mem) ?_)); first | exact sub_nil | (repeat (first | exact sub_rfl | refine sub_c ?_))))

set_option maxHeartbeats 4000000 in
theorem choice_tab (w : World) (mean : ExcName → Option Value) (mg mb : Str → Option Value) {t o rt : Addr} {os rs : List Value} {ys : List Int} {ts : Tok} {rl : Led}
    (hj : IntsAre os ys) (h3 : 1 ≤ ys.length) (h8 : ys.length ≤ 3) (hrs : rs.length ≤ 3) (hR : ∀ v ∈ rs, ∃ a us xs, v = .ref a ∧ (a, tupO us 0) ∈ rl ∧ IntsAre us xs ∧ xs.length = ys.length) :
    Con w mean mg mb 20 379 [.ref t] ((t, tupO [.str (Str.ofString "table") ts, .ref o, .ref rt] 0) :: (rt, tupO rs 0) :: (o, tupO os 0) :: rl) (NewPost (ChTab w o rs) ((t, tupO [.str (Str.ofString "table") ts, .ref o, .ref rt] 0) :: (rt, tupO rs 0) :: (o, tupO os 0) :: rl)) := by
  k_dflt (
  refine' con_of ?k7 ?k8 ?kA ?kB ?_ ?c2 ?c3 ?c4 ?c5;
  (case k7 => k_is); (case k8 => k_is);
  (case kA => exact fun _ => BindsTo.of_eq rfl); (case kB => exact locs rfl); (case c2 => exact rfl); (case c3 => exact rfl); (case c4 => exact rfl); (case c5 => decide))
  intro dp gd un outer base g s B st sz X T hroom hu L' h₁ Q' F N hlt hret
  (try k_lt hlt); (try dsimp only at *); (try k_lift B); (try k_fold)
  k_with_none
  k_with "call builtin:len!" => ((
  k_here
  (with_reducible show wpAny _ _ (PySem.call (Value.builtin _) [Value.ref _]) _ _ _)
  k_dflt (refine' len_tupN ?N ?m ?i ?f ?_; (case N => k_asm); (case m => k_mem); (case i => with_reducible assumption); (case f => omega))
  k_whole))
  k_with "subscriptTail!" => ((
  k_here
  (with_reducible show wpAny _ _ (subscriptTail _ _ (Value.ref _) (Value.int _ _)) _ _ _)
  k_dflt (first
    | (refine' item_tupN ?N ?m ?i ?h0 ?h1 ?f ?_ ?k6; (case N => k_asm); (case m => k_mem); (case i => with_reducible assumption); (case h0 => omega); (case h1 => omega); (case f => omega); (case k6 => with_unfolding_all rfl))
    | ((with_reducible show wpAny _ _ (subscriptTail _ _ (Value.ref _) (Value.int (-1) _)) _ _ _); refine' item_tup_last ?N ?m ?i ?h1 ?_ ?k6; (case N => k_asm); (case m => k_mem); (case i => with_reducible assumption); (case h1 => omega); (case k6 => with_unfolding_all rfl)))
  k_whole
  intro t'))
  k_with "call type:tuple!" => ((
  k_here
  (with_reducible show wpAny _ _ (PySem.call (Value.type _) [Value.ref _]) _ _ _)
  k_dflt (refine' tup_sameN ?N ?m ?_; (case N => k_asm); (case m => k_mem))
  k_whole))
  k_with "pyIter ref!" => ((
  k_here
  (with_reducible show wpAny _ _ (pyIter (Value.ref _)) (fun it s₂ => LoopAtV _ _ _ _ _ _ _ _ _ it s₂) _ _)
  k_dflt (refine' iter_tupUnr ?hh ?F ?N ?m ?_; (case hh => exact rfl); (case F => k_asm); (case N => k_asm); (case m => k_mem))
  k_whole
  intro i' l1
  (try k_lt l1)))
  k_with "TupRest!" => ((with_unfolding_all first | (refine TupRest.succ (fun it' h' tk' hit' F' N' => ?_)) | (refine TupRest.zero (fun h' tk' F' N' => ?_))))
  k_with "compareOp In int ref!" => ((
  k_here
  (with_reducible show wpAny _ _ (compareOp CmpOp.In (Value.int _ _) (Value.ref _)) _ _ _)
  k_dflt (refine in_rangeK (by with_reducible assumption) ?_)
  k_whole))
  k_with "binaryOp Add ref ref!" => ((
  k_here
  k_dflt (refine' add_tupN ?F ?N ?m1 ?m2 ?v ?w ?z ?_; (case F => k_asm); (case N => k_asm); (case m1 => k_mem); (case m2 => k_mem); (case v => ((try simp only [List.length_append, List.length_cons, List.length_nil]); omega)); (case w => ((try simp only [List.length_append, List.length_cons, List.length_nil]); omega)); (case z => ((try simp only [List.length_append, List.length_cons, List.length_nil]); omega)))
  k_whole
  intro D' h' F' N' l1
  (try simp only [List.cons_append, List.nil_append, List.append_assoc] at N'); (try k_lt l1); (try dsimp only); (try k_fold)))
  k_with "wpAt!" => (k_dflt (ks_step "execs cons"; refine ks_wpAt_execs_cons ?_))
  k_with "wpAt!" => (k_dflt (ks_step "exec Expr"; refine ks_wpAt_Expr_any ?_))
  k_with "wpAt!" => (k_dflt (ks_step "eval Call"; refine ks_wpAt_MethodCall ?_))
  k_with "CompRest!" => ((with_unfolding_all first
  | (refine LCg.CompRest.succ ?_; intro v' I' oI' C' oC' D' m' h' tk' E' hv' hC' hx' F' N' off' ne'; (first | lcg_open hv' | (obtain ⟨t9', hv9'⟩ := hv'; subst hv9')); replace ne' := Apart3.of ne')
  | refine LCg.CompRest.zero ?_))
  k_with "FinE!" => (((unfold LCg.FinE); intro D' h' tk' F' N' o1'; (try simp only [List.nil_append, List.cons_append] at N'); (try dsimp only)))
  k_with "FinA!" => (((unfold LCg.FinA); intro D' h' tk' F' N' o1'; (try simp only [List.nil_append, List.cons_append] at N'); (try dsimp only)))
  k_with "call type:tuple!" => ((
  k_here
  (with_reducible show wpAny _ _ (PySem.call (Value.type "tuple") [Value.ref _]) _ _ _)
  k_dflt (refine' tup_ofN ?F ?N ?m ?z ?_; (case F => k_asm); (case N => k_asm); (case m => k_mem); (case z => first | ((try simp only [List.length_append, List.length_cons, List.length_nil]); omega) | (rw [IntsAre.length (by with_reducible assumption)]; simp only [List.length_append, List.length_map, rangeKs_length, List.length_cons, List.length_nil]; omega)))
  k_whole
  intro D' h' F' N' l1
  (try k_lt l1); (try dsimp only); (try k_fold)))
  k_with "call ref!" => ((
  k_here
  (with_reducible show wpAny _ _ (PySem.call (Value.ref 332) _ _) _ _ _)
  k_dflt (
    refine wpAny_call ?_
    refine' some_use (one_con _ _ _ _ ?hs ?ha ?h1 ?h3 ?hl) ?c5 ?c3 ?c1 ?c2 ?c4 ?c6 ?c8 ?c9 ?c10 ?c11 ?c12 ?c13 ?_
    (case c1 => exact rfl); (case c3 => k_asm); (case c2 => k_asm); (case c4 => k_asm); (case c5 => k_asm); (case c6 => k_asm)
    (case c8 => exact List.forall_mem_cons.mpr ⟨by k_mem, List.forall_mem_cons.mpr ⟨by k_mem, List.forall_mem_cons.mpr ⟨by k_mem, List.forall_mem_singleton.mpr (by k_mem)⟩⟩⟩); (case hs => with_reducible assumption); (case ha => with_reducible assumption); (case h1 => omega); (case h3 => omega); (case hl => omega)
    (case c9 => exact rfl); (case c10 => exact rfl); (case c11 => first | exact rfl | assumption); (case c12 => ktr_room); (case c13 => (simp only [units_deeper, units_cls]; ktr_units))
    k_whole
    intro b9' h9' u9' F9' N9'
    (try dsimp only)
    (try k_fold))))
  k_with "CompEnd!" => ((
  k_dflt (first
    | (refine' LCg.CompEnd.intro ?F ?N _ ?sub ?off ?S ⟨rfl, rfl⟩; (case F => k_asm); (case N => k_asm); (case sub => lcg_sub); (case off => with_reducible assumption); (case S => first | k_mem | lcg_src))
    | (refine' LCg.CompEnd.intro ?F ?N _ ?sub ?off ?S ⟨rfl, by with_reducible assumption⟩; (case F => k_asm); (case N => k_asm); (case sub => lcg_sub); (case off => with_reducible assumption); (case S => first | k_mem | lcg_src))
    | (refine' LCg.CompEnd.intro ?F ?N _ ?sub ?off ?S ⟨rfl, trivial⟩; (case F => k_asm); (case N => k_asm); (case sub => lcg_sub); (case off => with_reducible assumption); (case S => first | k_mem | lcg_src))
    | (refine' LCg.CompEnd.intro ?F ?N _ ?sub ?off ?S ⟨rfl, List.mem_cons_self⟩; (case F => k_asm); (case N => k_asm); (case sub => lcg_sub); (case off => with_reducible assumption); (case S => first | k_mem | lcg_src))
    | (refine' LCg.CompEnd.intro ?F ?N _ ?sub ?off ?S ⟨rfl, List.mem_cons_of_mem _ List.mem_cons_self⟩; (case F => k_asm); (case N => k_asm); (case sub => lcg_sub); (case off => with_reducible assumption); (case S => first | k_mem | lcg_src))
    | (refine' LCg.CompEnd.intro ?F ?N _ ?sub ?off ?S ⟨rfl, List.mem_cons_of_mem _ (List.mem_cons_of_mem _ List.mem_cons_self)⟩; (case F => k_asm); (case N => k_asm); (case sub => lcg_sub); (case off => with_reducible assumption); (case S => first | k_mem | lcg_src)))))
  k_with "CellEnd!" => ((
  k_dflt (exact CellEnd.intro (by k_asm) (by k_asm) (by lcg_sub))))
  k_with "eval ListComp!" => ((
  k_here
  (fail_if_success (with_reducible show wpAny _ _ (eval (PySem.Expr.ListComp _ [⟨_, PySem.Expr.Attribute _ (Str.ofString "able") _, _, _⟩] _ _) _) _ _ _))
  (first | lcg_look | lcf_look); lcg_calm
  k_dflt (refine listComp_tup (_F₀ := by k_asm) (by with_unfolding_all rfl) (by decide) (by rfl) (by decide) (by rfl) ?_)))
  k_with "eval ListComp!" => ((
  k_here
  lct_look; lcg_calm
  k_dflt (refine listComp_tupT (_F₀ := by k_asm) (by with_unfolding_all rfl) (by decide) (by rfl) (by decide) (by rfl) ?_)))
  k_with "eval ListComp!" => ((
  k_here
  (with_reducible show wpAny _ _ (eval (PySem.Expr.ListComp (PySem.Expr.ListComp _ _ _ _) _ _ _) _) _ _ _)
  k_dflt (refine listComp_cell (_F₀ := by k_asm) (by with_unfolding_all rfl) (by rfl) (by decide) (by rfl) ?_)))
  k_with "eval ListComp!" => ((
  k_here
  (with_reducible show wpAny _ _ (eval (PySem.Expr.ListComp _ [⟨_, PySem.Expr.Attribute _ (Str.ofString "able") _, _, _⟩] _ _) _) _ _ _)
  k_dflt (refine LCg.ListComp_U (F₀ := by k_asm) (by with_unfolding_all rfl) (by decide) (by rfl) (by decide) (by rfl) ?_)))
  k_with "CompSrc!" => (k_extra "CompSrc")
  k_with "call ref!" => ((
  k_here
  (with_reducible show wpAny _ _ (PySem.call (Value.ref 370) _ _) _ _ _)
  k_dflt (
    refine' call_cls ?k1 ?k2 ?k3 ?k4 ?k5 ?k6 ?_; (case k1 => k_asm); (case k2 => k_asm); (case k3 => k_asm); (case k4 => k_is); (case k5 => k_is); (case k6 => k_is)
    intro x' d' h' F' N' l1 l2; (try k_lt l1); (try k_lt2 l2)
    refine' ini_code ?k1 ?k2 ?k3 ?k4 ?k5 ?kA ?kF ?kK ?k6 ?k7 ?k8 ?k9 ?h0 ?h1 ?h2 ?hcs ?hps ?_ ?c2 ?c3 ?c4
    (case kA => exact rfl); (case kF => exact rfl); (case kK => exact rfl); (case k1 => k_asm); (case k2 => k_asm); (case k3 => k_asm); (case k4 => k_asm); (case k5 => k_asm); (case k6 => k_is); (case k7 => k_is); (case k8 => k_room); (case k9 => exact BindsTo.of_eq rfl)
    (case h0 => exact rfl); (case h1 => exact rfl); (case h2 => exact rfl); (case hcs => intro _; exact rfl); (case hps => intro _; exact rfl); (case c2 => exact rfl); (case c3 => exact rfl); (case c4 => exact rfl)
    intro g' L' h' tk' FG' F' N' B' X' T' l1; (try k_lt l1); obtain ⟨oc', N', hoc'⟩ := N'; (try dsimp only); (try k_lift B'))))
  k_with "wpAt!" => ((ks_step "attributeBase Call"; k_here; k_dflt (refine' ini_node ?q0 ?q1 ?q2 ?q3 ?q4 ?q5 ?q6 ?q7 ?q8 ?q9 ?q10 ?q11 ?q12 ?q13 ?q14 ?q15 ?q16 ?q17 ?q18 ?q19 ?q20 ?q21 ?q22 ?q23 ?q24 ?_; (case q0 => k_asm); (case q1 => k_asm); (case q2 => k_asm); (case q3 => k_asm); (case q4 => k_is); (case q5 => rfl); (case q6 => rfl); (case q7 => k_mem); (case q8 => assumption); (case q9 => k_inst); (case q10 => k_is); (case q11 => rfl); (case q12 => first | rfl | decide +kernel); (case q13 => k_is); (case q14 => k_is); (case q15 => k_is); (case q16 => k_is); (case q17 => decide); (case q18 => rfl); (case q19 => rfl); (case q20 => rfl); (case q21 => decide); (case q22 => rfl); (case q23 => decide +kernel); (case q24 => first | boot_by_name | rfl | kernel_rfl); intro so' h' F' N' l1; (try k_lt l1))))
  have hjl := hj.length
  k_with "SrcTU" => (
    k_dflt (refine' srcTU_same ?c1 ?c2 ?c3 ?c4 ?c5 ?_ ?_
            (case c1 => exact rfl); (case c3 => k_asm); (case c2 => k_asm); (case c4 => k_mem); (case c5 => exact Nat.le_trans hrs (Nat.le_of_ble_eq_true rfl)))
    intro g' v' ys' I' oI' C' oC' D' m' h' tk' E' hv' hC' hx' F' N' off' ne'
    (replace ne' := Apart3.of ne')
    (try dsimp only at N' off'); (try dsimp only); (try k_fold)
    rotate_left
    intro g'
    (try dsimp only)
    rotate_left
    (obtain ⟨a9, us9, xs9, hv9, hma9, hia9, hla9⟩ := hR _ hv'); (subst hv9); (replace N' := news_front N' ?front9 hma9); (case front9 => ((try dsimp only) <;> (repeat (first | exact sub_rfl | refine sub_c ?_)))))
  k_with "SrcTT" => (
    k_dflt (refine' srcTT_some ?c1 ?c2 ?c3 ?c4 ?c5 ?_ ?_
            (case c1 => exact rfl); (case c3 => k_asm); (case c2 => k_asm); (case c4 => k_mem); (case c5 => exact Nat.le_trans hrs (Nat.le_of_ble_eq_true rfl)))
    intro g' v' ys' I' oI' C' oC' D' m' h' tk' E' hv' hC' hx' F' N' off' ne'
    (replace ne' := Apart3.of ne')
    (try dsimp only at N' off'); (try dsimp only); (try k_fold)
    rotate_left
    intro g' ys' hys' hyl'
    (have hyl2 : List.length ys' ≤ 1000 := Nat.le_trans hyl' (Nat.le_trans hrs (Nat.le_of_ble_eq_true rfl))); clear hyl'
    (try dsimp only)
    rotate_left
    (obtain ⟨a9, us9, xs9, hv9, hma9, hia9, hla9⟩ := hR _ hv'); (subst hv9); (replace N' := news_front N' ?front9 hma9); (case front9 => ((try dsimp only) <;> (repeat (first | exact sub_rfl | refine sub_c ?_)))))
  k_with "CompSrc" => (
    k_dflt (refine' srcL_some ?c1 ?c2 ?c3 ?c4 ?c5 ?c6 ?_ ?_
            (case c1 => exact rfl); (case c3 => k_asm); (case c2 => k_asm); (case c4 => k_mem); (case c6 => with_reducible assumption); (case c5 => with_reducible assumption))
    intro g' v' ys' I' oI' C' oC' D' m' h' tk' E' hv' hC' hx' F' N' off' ne'
    (replace ne' := Apart3.of ne')
    (try dsimp only at N' off'); (try dsimp only); (try k_fold)
    rotate_left
    intro g' ys'
    (try dsimp only)
    rotate_left
    (obtain ⟨a9, us9, xs9, hv9, hma9, hia9, hla9⟩ := hR _ hv'); (subst hv9); (replace N' := news_front N' ?front9 hma9); (case front9 => ((try dsimp only) <;> (repeat (first | exact sub_rfl | refine sub_c ?_)))))
  k_with "SrcCR" => (
    k_dflt (refine' ⟨_, ys.length, _, _, _, _, rfl, rfl, ?c2, ?c3, ?c4, ?c5, ?_, ?_⟩
            (case c3 => k_asm); (case c2 => k_asm); (case c4 => assumption); (case c5 => omega))
    intro i' t' I' oI' C' oC' K' oK' D' oD' h' tk' E' hlt' hcell' F' N'
    (try dsimp only at N'); (try dsimp only); (try k_fold)
    rotate_left
    intro D' oD' h' tk' F' N' l1
    (try k_lt l1); (try dsimp only); (try k_fold)
    rotate_left)
  (repeat' (first | (k_unfold; (try dsimp only)) | walk1 | (dsimp only; walk1) | (leave1; (try dsimp only))))
  all_goals (try dsimp only)
  refine' hret _ _ _ _ _ (by k_asm) (cb_drop (by assumption) ?sub) (NewPost.mk ChTab.mk ?own)
  (case sub => lcg_sub)
  have hd9 := allLt_all (l := ((t, tupO [.str (Str.ofString "table") ts, .ref o, .ref rt] 0) :: (rt, tupO rs 0) :: (o, tupO os 0) :: rl)) (by assumption)
  (case own => exact ownNe3 (allNe_lt fun p hp => Nat.lt_trans (hd9 p hp) (by omega)) (allNe_lt hd9) (allNe_lt fun p hp => Nat.lt_trans (hd9 p hp) (by omega)))
end Mine
namespace Mine
open PySem PySem.W PySem.Calls PyProof.Rows PySem.Spec PySem.SeqAt

theorem ints_fun : ∀ {us : List Value} {xs ys : List Int}, IntsAre us xs → IntsAre us ys → xs = ys
  | _, _, _, .nil, h => by cases h; rfl
  | _, _, _, .cons n t h, h' => by cases h' with | cons _ _ q => rw [ints_fun h q]
theorem all_getD : ∀ {xs ys : List Int}, xs.length = ys.length → ((List.range xs.length).all fun j => decide (xs.getD j 0 = ys.getD j 0)) = decide (xs = ys)
  | [], [], _ => by simp
  | x :: xs, y :: ys, h => by
    have ih := all_getD (xs := xs) (ys := ys) (by simpa using h)
    rw [List.length_cons, List.range_succ_eq_map, List.all_cons, List.all_map]
    have e : ((fun j => decide ((x :: xs).getD j 0 = (y :: ys).getD j 0)) ∘ Nat.succ) = fun j => decide (xs.getD j 0 = ys.getD j 0) := by funext j; simp
    rw [e, ih]
    by_cases h1 : x = y <;> by_cases h2 : xs = ys <;> simp [h1, h2]
section
variable {A : Around} {s : Shared}
theorem eqAt_tups {a b : Addr} {us vs : List Value} {xs ys : List Int} (ha : s.heap.IsTuple a us.toArray) (hb : s.heap.IsTuple b vs.toArray) (hi : IntsAre us xs) (hj : IntsAre vs ys) (hu : A.units < cLine) : EqAt A s (.ref a) (.ref b) (decide (xs = ys)) := by
  by_cases hab : a = b
  · subst hab
    obtain ⟨o, ho, _, n, hd⟩ := ha
    obtain ⟨o', ho', _, n', hd'⟩ := hb
    rw [ho] at ho'
    cases ho'
    rw [hd] at hd'
    have e : us = vs := by
      injection hd' with h1 h2
      simpa using h1
    subst e
    rw [decide_eq_true (ints_fun hi hj)]
    exact EqAt.same _
  · have hl1 : us.length = xs.length := hi.length
    have hl2 : vs.length = ys.length := hj.length
    have R := RcAt.tuples (A := A) (e := fun j => decide (xs.getD j 0 = ys.getD j 0)) ha hb hu (fun j h1 h2 => by
      rw [List.size_toArray] at h1 h2
      obtain ⟨t1, q1⟩ := hi.get j (xs.getD j 0) (by rw [List.getD_eq_getElem?_getD, List.getElem?_eq_getElem (by omega)]; rfl)
      obtain ⟨t2, q2⟩ := hj.get j (ys.getD j 0) (by rw [List.getD_eq_getElem?_getD, List.getElem?_eq_getElem (by omega)]; rfl)
      have e1 : us.toArray[j] = .int (xs.getD j 0) t1 := by
        rw [List.getElem_toArray]; rw [List.getElem?_eq_getElem (by omega)] at q1; exact Option.some.inj q1
      have e2 : vs.toArray[j] = .int (ys.getD j 0) t2 := by
        rw [List.getElem_toArray]; rw [List.getElem?_eq_getElem (by omega)] at q2; exact Option.some.inj q2
      rw [e1, e2]
      exact (MeetsSeq.EqGives.int (xs.getD j 0) (ys.getD j 0) t1 t2).at _ _)
    have e : ((List.range (min us.toArray.size vs.toArray.size)).all (fun j => decide (xs.getD j 0 = ys.getD j 0)) && us.toArray.size == vs.toArray.size) = decide (xs = ys) := by
      rw [List.size_toArray, List.size_toArray, hl1, hl2]
      by_cases h : xs.length = ys.length
      · rw [← h, Nat.min_self, all_getD h]; simp
      · have hne : xs ≠ ys := fun q => h (by rw [q])
        rw [decide_eq_false hne, show (xs.length == ys.length) = false from by simpa using h, Bool.and_false]
    rw [e] at R
    exact EqAt.of_refs hab R
end
section
variable {prog : Program} {w : World} {A : Around} {E : Value → Shared → Prop} {s : Shared} {h₀ : Heap} {L : Addr} {news : Led}
open Classical in
theorem in_tupsN {rt v : Addr} {us : List Value} {xs : List Int} {rows : List (Addr × List Int)} {e : Nat} {Q : Value → Shared → Prop} (N : News h₀ L s.heap news) (hm : (rt, tupO (rows.map fun p => Value.ref p.1) e) ∈ news)
    (hr : ∀ p ∈ rows, ∃ vs, (p.1, tupO vs 0) ∈ news ∧ IntsAre vs p.2) (hv : (v, tupO us 0) ∈ news) (hi : IntsAre us xs) (hu : A.in1.units < cLine) (h : Q (.bool (decide (xs ∈ rows.map (·.2)))) s) :
    wpAny (model prog w) A (compareOp .In (.ref v) (.ref rt)) Q E s := by
  let f : Value → Bool := fun y => decide (∃ p ∈ rows, y = .ref p.1 ∧ p.2 = xs)
  refine in_tupleAt f ⟨_, (N _ hm).1, rfl, _, rfl⟩ (fun y hy => ?_) ?_
  · obtain ⟨p, hp, rfl⟩ := List.mem_map.mp (show y ∈ rows.map fun p => Value.ref p.1 by simpa using hy)
    obtain ⟨vs, h1, h2⟩ := hr p hp
    have q := eqAt_tups (A := A.in1) (s := s) ⟨_, (N _ h1).1, rfl, _, rfl⟩ ⟨_, (N _ hv).1, rfl, _, rfl⟩ h2 hi hu
    have e1 : f (.ref p.1) = decide (p.2 = xs) := by
      show decide _ = decide _
      rw [Bool.eq_iff_iff, decide_eq_true_eq, decide_eq_true_eq]
      constructor
      · rintro ⟨p', hp', e', q'⟩
        obtain ⟨vs', h1', h2'⟩ := hr p' hp'
        injection e' with e'
        have a1 := (N _ h1).1
        have a2 := (N _ h1').1
        dsimp only at a1 a2
        rw [e', a2] at a1
        have ev : vs' = vs := by
          have := Option.some.inj a1
          injection this with _ _ b _
          injection b with b _
          simpa using b
        subst ev
        rw [ints_fun h2 h2', q']
      · exact fun q' => ⟨p, hp, rfl, q'⟩
    rw [e1]
    exact q
  · have e2 : (rows.map fun p => Value.ref p.1).toArray.any f = decide (xs ∈ rows.map (·.2)) := by
      rw [Bool.eq_iff_iff, decide_eq_true_eq]
      simp only [List.any_toArray, List.any_eq_true, List.mem_map]
      constructor
      · rintro ⟨y, ⟨p, hp, rfl⟩, hf⟩
        obtain ⟨p', hp', _, q'⟩ := of_decide_eq_true hf
        exact ⟨p', hp', q'⟩
      · rintro ⟨p, hp, q'⟩
        exact ⟨_, ⟨p, hp, rfl⟩, decide_eq_true ⟨p, hp, rfl, q'⟩⟩
    rw [e2]
    exact h
end
end Mine
namespace Mine
open PySem PySem.W PySem.Calls PyProof.Rows PySem.Spec
abbrev tabI (w : World) (x d o rt a b : Addr) (t1 t2 t3 t4 t5 t6 t7 t8 : Tok) : Led :=
  [(x, instObj 370 d), (d, dictOf [ent w "number" t1 (.int (-1) t2), ent w "scope" t3 (.ref o), ent w "strength" t4 (.str (Str.ofString "values") t5), ent w "rows" t6 (.ref rt), ent w "able" t7 (.ref a), ent w "columns" t8 (.ref b)] 6)]

set_option maxHeartbeats 4000000 in
theorem tab_check0 (w : World) (mean : ExcName → Option Value) (mg mb : Str → Option Value) {x d o rt a1 b1 v : Addr} {us : List Value} {xs : List Int} {t1 t2 t3 t4 t5 t6 t7 t8 : Tok}
    (hi : IntsAre us xs) :
    Con w mean mg mb 12 346 [.ref x, .ref v] [(x, instObj 370 d), (d, dictOf [ent w "number" t1 (.int (-1) t2), ent w "scope" t3 (.ref o), ent w "strength" t4 (.str (Str.ofString "values") t5), ent w "rows" t6 (.ref rt), ent w "able" t7 (.ref a1), ent w "columns" t8 (.ref b1)] 6), (rt, tupO [] 0), (v, tupO us 0)]
      (BoolPost (decide (xs ∈ ([] : List (List Int)))) [(x, instObj 370 d), (d, dictOf [ent w "number" t1 (.int (-1) t2), ent w "scope" t3 (.ref o), ent w "strength" t4 (.str (Str.ofString "values") t5), ent w "rows" t6 (.ref rt), ent w "able" t7 (.ref a1), ent w "columns" t8 (.ref b1)] 6), (rt, tupO [] 0), (v, tupO us 0)]) := by
  k_dflt (
  refine' con_of ?k7 ?k8 ?kA ?kB ?_ ?c2 ?c3 ?c4 ?c5;
  (case k7 => k_is); (case k8 => k_is);
  (case kA => exact fun _ => BindsTo.of_eq rfl); (case kB => exact locs rfl); (case c2 => exact rfl); (case c3 => exact rfl); (case c4 => exact rfl); (case c5 => decide))
  intro dp gd un outer base g s B st sz X T hroom hu L' h₁ Q' F N hlt hret
  (try k_lt hlt); (try dsimp only at *); (try k_lift B); (try k_fold)
  k_with_none
  k_with "call builtin:len!" => ((
  k_here
  (with_reducible show wpAny _ _ (PySem.call (Value.builtin _) [Value.ref _]) _ _ _)
  k_dflt (refine' len_tupN ?N ?m ?i ?f ?_; (case N => k_asm); (case m => k_mem); (case i => with_reducible assumption); (case f => omega))
  k_whole))
  k_with "subscriptTail!" => ((
  k_here
  (with_reducible show wpAny _ _ (subscriptTail _ _ (Value.ref _) (Value.int _ _)) _ _ _)
  k_dflt (first
    | (refine' item_tupN ?N ?m ?i ?h0 ?h1 ?f ?_ ?k6; (case N => k_asm); (case m => k_mem); (case i => with_reducible assumption); (case h0 => omega); (case h1 => omega); (case f => omega); (case k6 => with_unfolding_all rfl))
    | ((with_reducible show wpAny _ _ (subscriptTail _ _ (Value.ref _) (Value.int (-1) _)) _ _ _); refine' item_tup_last ?N ?m ?i ?h1 ?_ ?k6; (case N => k_asm); (case m => k_mem); (case i => with_reducible assumption); (case h1 => omega); (case k6 => with_unfolding_all rfl)))
  k_whole
  intro t'))
  k_with "call type:tuple!" => ((
  k_here
  (with_reducible show wpAny _ _ (PySem.call (Value.type _) [Value.ref _]) _ _ _)
  k_dflt (refine' tup_sameN ?N ?m ?_; (case N => k_asm); (case m => k_mem))
  k_whole))
  k_with "pyIter ref!" => ((
  k_here
  (with_reducible show wpAny _ _ (pyIter (Value.ref _)) (fun it s₂ => LoopAtV _ _ _ _ _ _ _ _ _ it s₂) _ _)
  k_dflt (refine' iter_tupUnr ?hh ?F ?N ?m ?_; (case hh => exact rfl); (case F => k_asm); (case N => k_asm); (case m => k_mem))
  k_whole
  intro i' l1
  (try k_lt l1)))
  k_with "TupRest!" => ((with_unfolding_all first | (refine TupRest.succ (fun it' h' tk' hit' F' N' => ?_)) | (refine TupRest.zero (fun h' tk' F' N' => ?_))))
  k_with "compareOp In int ref!" => ((
  k_here
  (with_reducible show wpAny _ _ (compareOp CmpOp.In (Value.int _ _) (Value.ref _)) _ _ _)
  k_dflt (refine in_rangeK (by with_reducible assumption) ?_)
  k_whole))
  k_with "binaryOp Add ref ref!" => ((
  k_here
  k_dflt (refine' add_tupN ?F ?N ?m1 ?m2 ?v ?w ?z ?_; (case F => k_asm); (case N => k_asm); (case m1 => k_mem); (case m2 => k_mem); (case v => ((try simp only [List.length_append, List.length_cons, List.length_nil]); omega)); (case w => ((try simp only [List.length_append, List.length_cons, List.length_nil]); omega)); (case z => ((try simp only [List.length_append, List.length_cons, List.length_nil]); omega)))
  k_whole
  intro D' h' F' N' l1
  (try simp only [List.cons_append, List.nil_append, List.append_assoc] at N'); (try k_lt l1); (try dsimp only); (try k_fold)))
  k_with "compareOp In ref ref" => (
    (with_reducible show wpAny _ _ (compareOp CmpOp.In (Value.ref _) (Value.ref _)) _ _ _)
    k_dflt (refine' in_tupsN (rows := []) ?N ?m ?r ?v ?i ?u ?_; (case N => k_asm); (case m => k_mem); (case r => exact List.forall_mem_nil _); (case v => k_mem); (case i => exact hi); (case u => ktr_units)))
  (repeat' (first | (k_unfold; (try dsimp only)) | walk1 | (dsimp only; walk1) | (leave1; (try dsimp only))))
  all_goals (try dsimp only)
  refine hret _ _ _ _ _ (by k_asm) (cb_drop (by assumption) (by lcg_sub)) (BoolPost.mk ?_)
  rfl

set_option maxHeartbeats 4000000 in
theorem tab_check1 (w : World) (mean : ExcName → Option Value) (mg mb : Str → Option Value) {x d o rt a1 b1 v a : Addr} {us as : List Value} {xs xa : List Int} {t1 t2 t3 t4 t5 t6 t7 t8 : Tok}
    (hi : IntsAre us xs) (ha : IntsAre as xa) :
    Con w mean mg mb 12 346 [.ref x, .ref v] [(x, instObj 370 d), (d, dictOf [ent w "number" t1 (.int (-1) t2), ent w "scope" t3 (.ref o), ent w "strength" t4 (.str (Str.ofString "values") t5), ent w "rows" t6 (.ref rt), ent w "able" t7 (.ref a1), ent w "columns" t8 (.ref b1)] 6), (rt, tupO [.ref a] 0), (a, tupO as 0), (v, tupO us 0)]
      (BoolPost (decide (xs ∈ ([xa] : List (List Int)))) [(x, instObj 370 d), (d, dictOf [ent w "number" t1 (.int (-1) t2), ent w "scope" t3 (.ref o), ent w "strength" t4 (.str (Str.ofString "values") t5), ent w "rows" t6 (.ref rt), ent w "able" t7 (.ref a1), ent w "columns" t8 (.ref b1)] 6), (rt, tupO [.ref a] 0), (a, tupO as 0), (v, tupO us 0)]) := by
  k_dflt (
  refine' con_of ?k7 ?k8 ?kA ?kB ?_ ?c2 ?c3 ?c4 ?c5;
  (case k7 => k_is); (case k8 => k_is);
  (case kA => exact fun _ => BindsTo.of_eq rfl); (case kB => exact locs rfl); (case c2 => exact rfl); (case c3 => exact rfl); (case c4 => exact rfl); (case c5 => decide))
  intro dp gd un outer base g s B st sz X T hroom hu L' h₁ Q' F N hlt hret
  (try k_lt hlt); (try dsimp only at *); (try k_lift B); (try k_fold)
  k_with_none
  k_with "call builtin:len!" => ((
  k_here
  (with_reducible show wpAny _ _ (PySem.call (Value.builtin _) [Value.ref _]) _ _ _)
  k_dflt (refine' len_tupN ?N ?m ?i ?f ?_; (case N => k_asm); (case m => k_mem); (case i => with_reducible assumption); (case f => omega))
  k_whole))
  k_with "subscriptTail!" => ((
  k_here
  (with_reducible show wpAny _ _ (subscriptTail _ _ (Value.ref _) (Value.int _ _)) _ _ _)
  k_dflt (first
    | (refine' item_tupN ?N ?m ?i ?h0 ?h1 ?f ?_ ?k6; (case N => k_asm); (case m => k_mem); (case i => with_reducible assumption); (case h0 => omega); (case h1 => omega); (case f => omega); (case k6 => with_unfolding_all rfl))
    | ((with_reducible show wpAny _ _ (subscriptTail _ _ (Value.ref _) (Value.int (-1) _)) _ _ _); refine' item_tup_last ?N ?m ?i ?h1 ?_ ?k6; (case N => k_asm); (case m => k_mem); (case i => with_reducible assumption); (case h1 => omega); (case k6 => with_unfolding_all rfl)))
  k_whole
  intro t'))
  k_with "call type:tuple!" => ((
  k_here
  (with_reducible show wpAny _ _ (PySem.call (Value.type _) [Value.ref _]) _ _ _)
  k_dflt (refine' tup_sameN ?N ?m ?_; (case N => k_asm); (case m => k_mem))
  k_whole))
  k_with "pyIter ref!" => ((
  k_here
  (with_reducible show wpAny _ _ (pyIter (Value.ref _)) (fun it s₂ => LoopAtV _ _ _ _ _ _ _ _ _ it s₂) _ _)
  k_dflt (refine' iter_tupUnr ?hh ?F ?N ?m ?_; (case hh => exact rfl); (case F => k_asm); (case N => k_asm); (case m => k_mem))
  k_whole
  intro i' l1
  (try k_lt l1)))
  k_with "TupRest!" => ((with_unfolding_all first | (refine TupRest.succ (fun it' h' tk' hit' F' N' => ?_)) | (refine TupRest.zero (fun h' tk' F' N' => ?_))))
  k_with "compareOp In int ref!" => ((
  k_here
  (with_reducible show wpAny _ _ (compareOp CmpOp.In (Value.int _ _) (Value.ref _)) _ _ _)
  k_dflt (refine in_rangeK (by with_reducible assumption) ?_)
  k_whole))
  k_with "binaryOp Add ref ref!" => ((
  k_here
  k_dflt (refine' add_tupN ?F ?N ?m1 ?m2 ?v ?w ?z ?_; (case F => k_asm); (case N => k_asm); (case m1 => k_mem); (case m2 => k_mem); (case v => ((try simp only [List.length_append, List.length_cons, List.length_nil]); omega)); (case w => ((try simp only [List.length_append, List.length_cons, List.length_nil]); omega)); (case z => ((try simp only [List.length_append, List.length_cons, List.length_nil]); omega)))
  k_whole
  intro D' h' F' N' l1
  (try simp only [List.cons_append, List.nil_append, List.append_assoc] at N'); (try k_lt l1); (try dsimp only); (try k_fold)))
  k_with "compareOp In ref ref" => (
    (with_reducible show wpAny _ _ (compareOp CmpOp.In (Value.ref _) (Value.ref _)) _ _ _)
    k_dflt (refine' in_tupsN (rows := [(a, xa)]) ?N ?m ?r ?v ?i ?u ?_; (case N => k_asm); (case m => k_mem); (case r => exact List.forall_mem_cons.mpr ⟨⟨_, by k_mem, by assumption⟩, List.forall_mem_nil _⟩); (case v => k_mem); (case i => exact hi); (case u => ktr_units)))
  (repeat' (first | (k_unfold; (try dsimp only)) | walk1 | (dsimp only; walk1) | (leave1; (try dsimp only))))
  all_goals (try dsimp only)
  refine hret _ _ _ _ _ (by k_asm) (cb_drop (by assumption) (by lcg_sub)) (BoolPost.mk ?_)
  rfl

set_option maxHeartbeats 4000000 in
theorem tab_check2 (w : World) (mean : ExcName → Option Value) (mg mb : Str → Option Value) {x d o rt a1 b1 v a b : Addr} {us as bs : List Value} {xs xa xb : List Int} {t1 t2 t3 t4 t5 t6 t7 t8 : Tok}
    (hi : IntsAre us xs) (ha : IntsAre as xa) (hb : IntsAre bs xb) :
    Con w mean mg mb 12 346 [.ref x, .ref v] [(x, instObj 370 d), (d, dictOf [ent w "number" t1 (.int (-1) t2), ent w "scope" t3 (.ref o), ent w "strength" t4 (.str (Str.ofString "values") t5), ent w "rows" t6 (.ref rt), ent w "able" t7 (.ref a1), ent w "columns" t8 (.ref b1)] 6), (rt, tupO [.ref a, .ref b] 0), (a, tupO as 0), (b, tupO bs 0), (v, tupO us 0)]
      (BoolPost (decide (xs ∈ ([xa, xb] : List (List Int)))) [(x, instObj 370 d), (d, dictOf [ent w "number" t1 (.int (-1) t2), ent w "scope" t3 (.ref o), ent w "strength" t4 (.str (Str.ofString "values") t5), ent w "rows" t6 (.ref rt), ent w "able" t7 (.ref a1), ent w "columns" t8 (.ref b1)] 6), (rt, tupO [.ref a, .ref b] 0), (a, tupO as 0), (b, tupO bs 0), (v, tupO us 0)]) := by
  k_dflt (
  refine' con_of ?k7 ?k8 ?kA ?kB ?_ ?c2 ?c3 ?c4 ?c5;
  (case k7 => k_is); (case k8 => k_is);
  (case kA => exact fun _ => BindsTo.of_eq rfl); (case kB => exact locs rfl); (case c2 => exact rfl); (case c3 => exact rfl); (case c4 => exact rfl); (case c5 => decide))
  intro dp gd un outer base g s B st sz X T hroom hu L' h₁ Q' F N hlt hret
  (try k_lt hlt); (try dsimp only at *); (try k_lift B); (try k_fold)
  k_with_none
  k_with "call builtin:len!" => ((
  k_here
  (with_reducible show wpAny _ _ (PySem.call (Value.builtin _) [Value.ref _]) _ _ _)
  k_dflt (refine' len_tupN ?N ?m ?i ?f ?_; (case N => k_asm); (case m => k_mem); (case i => with_reducible assumption); (case f => omega))
  k_whole))
  k_with "subscriptTail!" => ((
  k_here
  (with_reducible show wpAny _ _ (subscriptTail _ _ (Value.ref _) (Value.int _ _)) _ _ _)
  k_dflt (first
    | (refine' item_tupN ?N ?m ?i ?h0 ?h1 ?f ?_ ?k6; (case N => k_asm); (case m => k_mem); (case i => with_reducible assumption); (case h0 => omega); (case h1 => omega); (case f => omega); (case k6 => with_unfolding_all rfl))
    | ((with_reducible show wpAny _ _ (subscriptTail _ _ (Value.ref _) (Value.int (-1) _)) _ _ _); refine' item_tup_last ?N ?m ?i ?h1 ?_ ?k6; (case N => k_asm); (case m => k_mem); (case i => with_reducible assumption); (case h1 => omega); (case k6 => with_unfolding_all rfl)))
  k_whole
  intro t'))
  k_with "call type:tuple!" => ((
  k_here
  (with_reducible show wpAny _ _ (PySem.call (Value.type _) [Value.ref _]) _ _ _)
  k_dflt (refine' tup_sameN ?N ?m ?_; (case N => k_asm); (case m => k_mem))
  k_whole))
  k_with "pyIter ref!" => ((
  k_here
  (with_reducible show wpAny _ _ (pyIter (Value.ref _)) (fun it s₂ => LoopAtV _ _ _ _ _ _ _ _ _ it s₂) _ _)
  k_dflt (refine' iter_tupUnr ?hh ?F ?N ?m ?_; (case hh => exact rfl); (case F => k_asm); (case N => k_asm); (case m => k_mem))
  k_whole
  intro i' l1
  (try k_lt l1)))
  k_with "TupRest!" => ((with_unfolding_all first | (refine TupRest.succ (fun it' h' tk' hit' F' N' => ?_)) | (refine TupRest.zero (fun h' tk' F' N' => ?_))))
  k_with "compareOp In int ref!" => ((
  k_here
  (with_reducible show wpAny _ _ (compareOp CmpOp.In (Value.int _ _) (Value.ref _)) _ _ _)
  k_dflt (refine in_rangeK (by with_reducible assumption) ?_)
  k_whole))
  k_with "binaryOp Add ref ref!" => ((
  k_here
  k_dflt (refine' add_tupN ?F ?N ?m1 ?m2 ?v ?w ?z ?_; (case F => k_asm); (case N => k_asm); (case m1 => k_mem); (case m2 => k_mem); (case v => ((try simp only [List.length_append, List.length_cons, List.length_nil]); omega)); (case w => ((try simp only [List.length_append, List.length_cons, List.length_nil]); omega)); (case z => ((try simp only [List.length_append, List.length_cons, List.length_nil]); omega)))
  k_whole
  intro D' h' F' N' l1
  (try simp only [List.cons_append, List.nil_append, List.append_assoc] at N'); (try k_lt l1); (try dsimp only); (try k_fold)))
  k_with "compareOp In ref ref" => (
    (with_reducible show wpAny _ _ (compareOp CmpOp.In (Value.ref _) (Value.ref _)) _ _ _)
    k_dflt (refine' in_tupsN (rows := [(a, xa), (b, xb)]) ?N ?m ?r ?v ?i ?u ?_; (case N => k_asm); (case m => k_mem); (case r => exact List.forall_mem_cons.mpr ⟨⟨_, by k_mem, by assumption⟩, List.forall_mem_cons.mpr ⟨⟨_, by k_mem, by assumption⟩, List.forall_mem_nil _⟩⟩); (case v => k_mem); (case i => exact hi); (case u => ktr_units)))
  (repeat' (first | (k_unfold; (try dsimp only)) | walk1 | (dsimp only; walk1) | (leave1; (try dsimp only))))
  all_goals (try dsimp only)
  refine hret _ _ _ _ _ (by k_asm) (cb_drop (by assumption) (by lcg_sub)) (BoolPost.mk ?_)
  rfl

set_option maxHeartbeats 4000000 in
theorem tab_check3 (w : World) (mean : ExcName → Option Value) (mg mb : Str → Option Value) {x d o rt a1 b1 v a b c : Addr} {us as bs cs : List Value} {xs xa xb xc : List Int} {t1 t2 t3 t4 t5 t6 t7 t8 : Tok}
    (hi : IntsAre us xs) (ha : IntsAre as xa) (hb : IntsAre bs xb) (hc : IntsAre cs xc) :
    Con w mean mg mb 12 346 [.ref x, .ref v] [(x, instObj 370 d), (d, dictOf [ent w "number" t1 (.int (-1) t2), ent w "scope" t3 (.ref o), ent w "strength" t4 (.str (Str.ofString "values") t5), ent w "rows" t6 (.ref rt), ent w "able" t7 (.ref a1), ent w "columns" t8 (.ref b1)] 6), (rt, tupO [.ref a, .ref b, .ref c] 0), (a, tupO as 0), (b, tupO bs 0), (c, tupO cs 0), (v, tupO us 0)]
      (BoolPost (decide (xs ∈ ([xa, xb, xc] : List (List Int)))) [(x, instObj 370 d), (d, dictOf [ent w "number" t1 (.int (-1) t2), ent w "scope" t3 (.ref o), ent w "strength" t4 (.str (Str.ofString "values") t5), ent w "rows" t6 (.ref rt), ent w "able" t7 (.ref a1), ent w "columns" t8 (.ref b1)] 6), (rt, tupO [.ref a, .ref b, .ref c] 0), (a, tupO as 0), (b, tupO bs 0), (c, tupO cs 0), (v, tupO us 0)]) := by
  k_dflt (
  refine' con_of ?k7 ?k8 ?kA ?kB ?_ ?c2 ?c3 ?c4 ?c5;
  (case k7 => k_is); (case k8 => k_is);
  (case kA => exact fun _ => BindsTo.of_eq rfl); (case kB => exact locs rfl); (case c2 => exact rfl); (case c3 => exact rfl); (case c4 => exact rfl); (case c5 => decide))
  intro dp gd un outer base g s B st sz X T hroom hu L' h₁ Q' F N hlt hret
  (try k_lt hlt); (try dsimp only at *); (try k_lift B); (try k_fold)
  k_with_none
  k_with "call builtin:len!" => ((
  k_here
  (with_reducible show wpAny _ _ (PySem.call (Value.builtin _) [Value.ref _]) _ _ _)
  k_dflt (refine' len_tupN ?N ?m ?i ?f ?_; (case N => k_asm); (case m => k_mem); (case i => with_reducible assumption); (case f => omega))
  k_whole))
  k_with "subscriptTail!" => ((
  k_here
  (with_reducible show wpAny _ _ (subscriptTail _ _ (Value.ref _) (Value.int _ _)) _ _ _)
  k_dflt (first
    | (refine' item_tupN ?N ?m ?i ?h0 ?h1 ?f ?_ ?k6; (case N => k_asm); (case m => k_mem); (case i => with_reducible assumption); (case h0 => omega); (case h1 => omega); (case f => omega); (case k6 => with_unfolding_all rfl))
    | ((with_reducible show wpAny _ _ (subscriptTail _ _ (Value.ref _) (Value.int (-1) _)) _ _ _); refine' item_tup_last ?N ?m ?i ?h1 ?_ ?k6; (case N => k_asm); (case m => k_mem); (case i => with_reducible assumption); (case h1 => omega); (case k6 => with_unfolding_all rfl)))
  k_whole
  intro t'))
  k_with "call type:tuple!" => ((
  k_here
  (with_reducible show wpAny _ _ (PySem.call (Value.type _) [Value.ref _]) _ _ _)
  k_dflt (refine' tup_sameN ?N ?m ?_; (case N => k_asm); (case m => k_mem))
  k_whole))
  k_with "pyIter ref!" => ((
  k_here
  (with_reducible show wpAny _ _ (pyIter (Value.ref _)) (fun it s₂ => LoopAtV _ _ _ _ _ _ _ _ _ it s₂) _ _)
  k_dflt (refine' iter_tupUnr ?hh ?F ?N ?m ?_; (case hh => exact rfl); (case F => k_asm); (case N => k_asm); (case m => k_mem))
  k_whole
  intro i' l1
  (try k_lt l1)))
  k_with "TupRest!" => ((with_unfolding_all first | (refine TupRest.succ (fun it' h' tk' hit' F' N' => ?_)) | (refine TupRest.zero (fun h' tk' F' N' => ?_))))
  k_with "compareOp In int ref!" => ((
  k_here
  (with_reducible show wpAny _ _ (compareOp CmpOp.In (Value.int _ _) (Value.ref _)) _ _ _)
  k_dflt (refine in_rangeK (by with_reducible assumption) ?_)
  k_whole))
  k_with "binaryOp Add ref ref!" => ((
  k_here
  k_dflt (refine' add_tupN ?F ?N ?m1 ?m2 ?v ?w ?z ?_; (case F => k_asm); (case N => k_asm); (case m1 => k_mem); (case m2 => k_mem); (case v => ((try simp only [List.length_append, List.length_cons, List.length_nil]); omega)); (case w => ((try simp only [List.length_append, List.length_cons, List.length_nil]); omega)); (case z => ((try simp only [List.length_append, List.length_cons, List.length_nil]); omega)))
  k_whole
  intro D' h' F' N' l1
  (try simp only [List.cons_append, List.nil_append, List.append_assoc] at N'); (try k_lt l1); (try dsimp only); (try k_fold)))
  k_with "compareOp In ref ref" => (
    (with_reducible show wpAny _ _ (compareOp CmpOp.In (Value.ref _) (Value.ref _)) _ _ _)
    k_dflt (refine' in_tupsN (rows := [(a, xa), (b, xb), (c, xc)]) ?N ?m ?r ?v ?i ?u ?_; (case N => k_asm); (case m => k_mem); (case r => exact List.forall_mem_cons.mpr ⟨⟨_, by k_mem, by assumption⟩, List.forall_mem_cons.mpr ⟨⟨_, by k_mem, by assumption⟩, List.forall_mem_cons.mpr ⟨⟨_, by k_mem, by assumption⟩, List.forall_mem_nil _⟩⟩⟩); (case v => k_mem); (case i => exact hi); (case u => ktr_units)))
  (repeat' (first | (k_unfold; (try dsimp only)) | walk1 | (dsimp only; walk1) | (leave1; (try dsimp only))))
  all_goals (try dsimp only)
  refine hret _ _ _ _ _ (by k_asm) (cb_drop (by assumption) (by lcg_sub)) (BoolPost.mk ?_)
  rfl

end Mine
namespace Mine
open PySem PySem.W PySem.Calls PyProof.Rows PySem.Spec

set_option maxHeartbeats 4000000 in
theorem tab_keeps0 (w : World) (mean : ExcName → Option Value) (mg mb : Str → Option Value) {t o rt v : Addr} {os us  : List Value} {xs  : List Int} {ts : Tok}
    (hi : IntsAre us xs)  :
    Con w mean mg mb 12 408 [.ref t, .ref v] [(t, tupO [.str (Str.ofString "table") ts, .ref o, .ref rt] 0), (o, tupO os 0), (rt, tupO [] 0), (v, tupO us 0)] (BoolPost (decide (xs ∈ ([] : List (List Int)))) [(t, tupO [.str (Str.ofString "table") ts, .ref o, .ref rt] 0), (o, tupO os 0), (rt, tupO [] 0), (v, tupO us 0)]) := by
  k_dflt (
  refine' con_ofC ?k7 ?k8 ?kA ?kB ?kD ?_ ?c2 ?c3 ?c4;
  (case k7 => k_is); (case k8 => k_is);
  (case kA => exact fun _ => BindsTo.of_eq rfl); (case kB => exact rfl); (case kD => decide +kernel); (case c2 => exact rfl); (case c3 => exact rfl); (case c4 => exact rfl))
  intro dp gd un outer base g s B st sz X T hroom hu L' h₁ tk' cells' Q' F N' Y' hlt hret
  (try k_lt hlt)
  k_cells Y'
  (try simp only [List.cons_append, List.nil_append] at N')
  (try dsimp only at *); (try k_lift B); (try k_fold)
  k_with_none
  k_with "call builtin:len!" => ((
  k_here
  (with_reducible show wpAny _ _ (PySem.call (Value.builtin _) [Value.ref _]) _ _ _)
  k_dflt (refine' len_tupN ?N ?m ?i ?f ?_; (case N => k_asm); (case m => k_mem); (case i => with_reducible assumption); (case f => omega))
  k_whole))
  k_with "subscriptTail!" => ((
  k_here
  (with_reducible show wpAny _ _ (subscriptTail _ _ (Value.ref _) (Value.int _ _)) _ _ _)
  k_dflt (first
    | (refine' item_tupN ?N ?m ?i ?h0 ?h1 ?f ?_ ?k6; (case N => k_asm); (case m => k_mem); (case i => with_reducible assumption); (case h0 => omega); (case h1 => omega); (case f => omega); (case k6 => with_unfolding_all rfl))
    | ((with_reducible show wpAny _ _ (subscriptTail _ _ (Value.ref _) (Value.int (-1) _)) _ _ _); refine' item_tup_last ?N ?m ?i ?h1 ?_ ?k6; (case N => k_asm); (case m => k_mem); (case i => with_reducible assumption); (case h1 => omega); (case k6 => with_unfolding_all rfl)))
  k_whole
  intro t'))
  k_with "call type:tuple!" => ((
  k_here
  (with_reducible show wpAny _ _ (PySem.call (Value.type _) [Value.ref _]) _ _ _)
  k_dflt (refine' tup_sameN ?N ?m ?_; (case N => k_asm); (case m => k_mem))
  k_whole))
  k_with "pyIter ref!" => ((
  k_here
  (with_reducible show wpAny _ _ (pyIter (Value.ref _)) (fun it s₂ => LoopAtV _ _ _ _ _ _ _ _ _ it s₂) _ _)
  k_dflt (refine' iter_tupUnr ?hh ?F ?N ?m ?_; (case hh => exact rfl); (case F => k_asm); (case N => k_asm); (case m => k_mem))
  k_whole
  intro i' l1
  (try k_lt l1)))
  k_with "TupRest!" => ((with_unfolding_all first | (refine TupRest.succ (fun it' h' tk' hit' F' N' => ?_)) | (refine TupRest.zero (fun h' tk' F' N' => ?_))))
  k_with "compareOp In int ref!" => ((
  k_here
  (with_reducible show wpAny _ _ (compareOp CmpOp.In (Value.int _ _) (Value.ref _)) _ _ _)
  k_dflt (refine in_rangeK (by with_reducible assumption) ?_)
  k_whole))
  k_with "binaryOp Add ref ref!" => ((
  k_here
  k_dflt (refine' add_tupN ?F ?N ?m1 ?m2 ?v ?w ?z ?_; (case F => k_asm); (case N => k_asm); (case m1 => k_mem); (case m2 => k_mem); (case v => ((try simp only [List.length_append, List.length_cons, List.length_nil]); omega)); (case w => ((try simp only [List.length_append, List.length_cons, List.length_nil]); omega)); (case z => ((try simp only [List.length_append, List.length_cons, List.length_nil]); omega)))
  k_whole
  intro D' h' F' N' l1
  (try simp only [List.cons_append, List.nil_append, List.append_assoc] at N'); (try k_lt l1); (try dsimp only); (try k_fold)))
  k_with "compareOp In ref ref!" => (k_extra "in")
  k_with "in" => (
    (with_reducible show wpAny _ _ (compareOp CmpOp.In (Value.ref _) (Value.ref _)) _ _ _)
    k_dflt (refine' in_tupsN (rows := []) ?N ?m ?r ?v ?i ?u ?_; (case N => k_asm); (case m => k_mem); (case r => exact List.forall_mem_nil _); (case v => k_mem); (case i => exact hi); (case u => ktr_units)))
  iterate 52 (try (first | (k_unfold; (try dsimp only)) | walk1 | (dsimp only; walk1)))
  all_goals (try dsimp only)
  refine hret _ _ _ _ _ (by k_asm) (cb_drop (by assumption) (by lcg_sub)) (BoolPost.mk ?_)
  rfl

set_option maxHeartbeats 4000000 in
theorem tab_keeps1 (w : World) (mean : ExcName → Option Value) (mg mb : Str → Option Value) {t o rt v a : Addr} {os us as : List Value} {xs xa : List Int} {ts : Tok}
    (hi : IntsAre us xs) (ha : IntsAre as xa) :
    Con w mean mg mb 12 408 [.ref t, .ref v] [(t, tupO [.str (Str.ofString "table") ts, .ref o, .ref rt] 0), (o, tupO os 0), (rt, tupO [.ref a] 0), (a, tupO as 0), (v, tupO us 0)] (BoolPost (decide (xs ∈ ([xa] : List (List Int)))) [(t, tupO [.str (Str.ofString "table") ts, .ref o, .ref rt] 0), (o, tupO os 0), (rt, tupO [.ref a] 0), (a, tupO as 0), (v, tupO us 0)]) := by
  k_dflt (
  refine' con_ofC ?k7 ?k8 ?kA ?kB ?kD ?_ ?c2 ?c3 ?c4;
  (case k7 => k_is); (case k8 => k_is);
  (case kA => exact fun _ => BindsTo.of_eq rfl); (case kB => exact rfl); (case kD => decide +kernel); (case c2 => exact rfl); (case c3 => exact rfl); (case c4 => exact rfl))
  intro dp gd un outer base g s B st sz X T hroom hu L' h₁ tk' cells' Q' F N' Y' hlt hret
  (try k_lt hlt)
  k_cells Y'
  (try simp only [List.cons_append, List.nil_append] at N')
  (try dsimp only at *); (try k_lift B); (try k_fold)
  k_with_none
  k_with "call builtin:len!" => ((
  k_here
  (with_reducible show wpAny _ _ (PySem.call (Value.builtin _) [Value.ref _]) _ _ _)
  k_dflt (refine' len_tupN ?N ?m ?i ?f ?_; (case N => k_asm); (case m => k_mem); (case i => with_reducible assumption); (case f => omega))
  k_whole))
  k_with "subscriptTail!" => ((
  k_here
  (with_reducible show wpAny _ _ (subscriptTail _ _ (Value.ref _) (Value.int _ _)) _ _ _)
  k_dflt (first
    | (refine' item_tupN ?N ?m ?i ?h0 ?h1 ?f ?_ ?k6; (case N => k_asm); (case m => k_mem); (case i => with_reducible assumption); (case h0 => omega); (case h1 => omega); (case f => omega); (case k6 => with_unfolding_all rfl))
    | ((with_reducible show wpAny _ _ (subscriptTail _ _ (Value.ref _) (Value.int (-1) _)) _ _ _); refine' item_tup_last ?N ?m ?i ?h1 ?_ ?k6; (case N => k_asm); (case m => k_mem); (case i => with_reducible assumption); (case h1 => omega); (case k6 => with_unfolding_all rfl)))
  k_whole
  intro t'))
  k_with "call type:tuple!" => ((
  k_here
  (with_reducible show wpAny _ _ (PySem.call (Value.type _) [Value.ref _]) _ _ _)
  k_dflt (refine' tup_sameN ?N ?m ?_; (case N => k_asm); (case m => k_mem))
  k_whole))
  k_with "pyIter ref!" => ((
  k_here
  (with_reducible show wpAny _ _ (pyIter (Value.ref _)) (fun it s₂ => LoopAtV _ _ _ _ _ _ _ _ _ it s₂) _ _)
  k_dflt (refine' iter_tupUnr ?hh ?F ?N ?m ?_; (case hh => exact rfl); (case F => k_asm); (case N => k_asm); (case m => k_mem))
  k_whole
  intro i' l1
  (try k_lt l1)))
  k_with "TupRest!" => ((with_unfolding_all first | (refine TupRest.succ (fun it' h' tk' hit' F' N' => ?_)) | (refine TupRest.zero (fun h' tk' F' N' => ?_))))
  k_with "compareOp In int ref!" => ((
  k_here
  (with_reducible show wpAny _ _ (compareOp CmpOp.In (Value.int _ _) (Value.ref _)) _ _ _)
  k_dflt (refine in_rangeK (by with_reducible assumption) ?_)
  k_whole))
  k_with "binaryOp Add ref ref!" => ((
  k_here
  k_dflt (refine' add_tupN ?F ?N ?m1 ?m2 ?v ?w ?z ?_; (case F => k_asm); (case N => k_asm); (case m1 => k_mem); (case m2 => k_mem); (case v => ((try simp only [List.length_append, List.length_cons, List.length_nil]); omega)); (case w => ((try simp only [List.length_append, List.length_cons, List.length_nil]); omega)); (case z => ((try simp only [List.length_append, List.length_cons, List.length_nil]); omega)))
  k_whole
  intro D' h' F' N' l1
  (try simp only [List.cons_append, List.nil_append, List.append_assoc] at N'); (try k_lt l1); (try dsimp only); (try k_fold)))
  k_with "compareOp In ref ref!" => (k_extra "in")
  k_with "in" => (
    (with_reducible show wpAny _ _ (compareOp CmpOp.In (Value.ref _) (Value.ref _)) _ _ _)
    k_dflt (refine' in_tupsN (rows := [(a, xa)]) ?N ?m ?r ?v ?i ?u ?_; (case N => k_asm); (case m => k_mem); (case r => exact List.forall_mem_cons.mpr ⟨⟨_, by k_mem, by assumption⟩, List.forall_mem_nil _⟩); (case v => k_mem); (case i => exact hi); (case u => ktr_units)))
  iterate 52 (try (first | (k_unfold; (try dsimp only)) | walk1 | (dsimp only; walk1)))
  all_goals (try dsimp only)
  refine hret _ _ _ _ _ (by k_asm) (cb_drop (by assumption) (by lcg_sub)) (BoolPost.mk ?_)
  rfl

set_option maxHeartbeats 4000000 in
theorem tab_keeps2 (w : World) (mean : ExcName → Option Value) (mg mb : Str → Option Value) {t o rt v a b : Addr} {os us as bs : List Value} {xs xa xb : List Int} {ts : Tok}
    (hi : IntsAre us xs) (ha : IntsAre as xa) (hb : IntsAre bs xb) :
    Con w mean mg mb 12 408 [.ref t, .ref v] [(t, tupO [.str (Str.ofString "table") ts, .ref o, .ref rt] 0), (o, tupO os 0), (rt, tupO [.ref a, .ref b] 0), (a, tupO as 0), (b, tupO bs 0), (v, tupO us 0)] (BoolPost (decide (xs ∈ ([xa, xb] : List (List Int)))) [(t, tupO [.str (Str.ofString "table") ts, .ref o, .ref rt] 0), (o, tupO os 0), (rt, tupO [.ref a, .ref b] 0), (a, tupO as 0), (b, tupO bs 0), (v, tupO us 0)]) := by
  k_dflt (
  refine' con_ofC ?k7 ?k8 ?kA ?kB ?kD ?_ ?c2 ?c3 ?c4;
  (case k7 => k_is); (case k8 => k_is);
  (case kA => exact fun _ => BindsTo.of_eq rfl); (case kB => exact rfl); (case kD => decide +kernel); (case c2 => exact rfl); (case c3 => exact rfl); (case c4 => exact rfl))
  intro dp gd un outer base g s B st sz X T hroom hu L' h₁ tk' cells' Q' F N' Y' hlt hret
  (try k_lt hlt)
  k_cells Y'
  (try simp only [List.cons_append, List.nil_append] at N')
  (try dsimp only at *); (try k_lift B); (try k_fold)
  k_with_none
  k_with "call builtin:len!" => ((
  k_here
  (with_reducible show wpAny _ _ (PySem.call (Value.builtin _) [Value.ref _]) _ _ _)
  k_dflt (refine' len_tupN ?N ?m ?i ?f ?_; (case N => k_asm); (case m => k_mem); (case i => with_reducible assumption); (case f => omega))
  k_whole))
  k_with "subscriptTail!" => ((
  k_here
  (with_reducible show wpAny _ _ (subscriptTail _ _ (Value.ref _) (Value.int _ _)) _ _ _)
  k_dflt (first
    | (refine' item_tupN ?N ?m ?i ?h0 ?h1 ?f ?_ ?k6; (case N => k_asm); (case m => k_mem); (case i => with_reducible assumption); (case h0 => omega); (case h1 => omega); (case f => omega); (case k6 => with_unfolding_all rfl))
    | ((with_reducible show wpAny _ _ (subscriptTail _ _ (Value.ref _) (Value.int (-1) _)) _ _ _); refine' item_tup_last ?N ?m ?i ?h1 ?_ ?k6; (case N => k_asm); (case m => k_mem); (case i => with_reducible assumption); (case h1 => omega); (case k6 => with_unfolding_all rfl)))
  k_whole
  intro t'))
  k_with "call type:tuple!" => ((
  k_here
  (with_reducible show wpAny _ _ (PySem.call (Value.type _) [Value.ref _]) _ _ _)
  k_dflt (refine' tup_sameN ?N ?m ?_; (case N => k_asm); (case m => k_mem))
  k_whole))
  k_with "pyIter ref!" => ((
  k_here
  (with_reducible show wpAny _ _ (pyIter (Value.ref _)) (fun it s₂ => LoopAtV _ _ _ _ _ _ _ _ _ it s₂) _ _)
  k_dflt (refine' iter_tupUnr ?hh ?F ?N ?m ?_; (case hh => exact rfl); (case F => k_asm); (case N => k_asm); (case m => k_mem))
  k_whole
  intro i' l1
  (try k_lt l1)))
  k_with "TupRest!" => ((with_unfolding_all first | (refine TupRest.succ (fun it' h' tk' hit' F' N' => ?_)) | (refine TupRest.zero (fun h' tk' F' N' => ?_))))
  k_with "compareOp In int ref!" => ((
  k_here
  (with_reducible show wpAny _ _ (compareOp CmpOp.In (Value.int _ _) (Value.ref _)) _ _ _)
  k_dflt (refine in_rangeK (by with_reducible assumption) ?_)
  k_whole))
  k_with "binaryOp Add ref ref!" => ((
  k_here
  k_dflt (refine' add_tupN ?F ?N ?m1 ?m2 ?v ?w ?z ?_; (case F => k_asm); (case N => k_asm); (case m1 => k_mem); (case m2 => k_mem); (case v => ((try simp only [List.length_append, List.length_cons, List.length_nil]); omega)); (case w => ((try simp only [List.length_append, List.length_cons, List.length_nil]); omega)); (case z => ((try simp only [List.length_append, List.length_cons, List.length_nil]); omega)))
  k_whole
  intro D' h' F' N' l1
  (try simp only [List.cons_append, List.nil_append, List.append_assoc] at N'); (try k_lt l1); (try dsimp only); (try k_fold)))
  k_with "compareOp In ref ref!" => (k_extra "in")
  k_with "in" => (
    (with_reducible show wpAny _ _ (compareOp CmpOp.In (Value.ref _) (Value.ref _)) _ _ _)
    k_dflt (refine' in_tupsN (rows := [(a, xa), (b, xb)]) ?N ?m ?r ?v ?i ?u ?_; (case N => k_asm); (case m => k_mem); (case r => exact List.forall_mem_cons.mpr ⟨⟨_, by k_mem, by assumption⟩, List.forall_mem_cons.mpr ⟨⟨_, by k_mem, by assumption⟩, List.forall_mem_nil _⟩⟩); (case v => k_mem); (case i => exact hi); (case u => ktr_units)))
  iterate 52 (try (first | (k_unfold; (try dsimp only)) | walk1 | (dsimp only; walk1)))
  all_goals (try dsimp only)
  refine hret _ _ _ _ _ (by k_asm) (cb_drop (by assumption) (by lcg_sub)) (BoolPost.mk ?_)
  rfl

set_option maxHeartbeats 4000000 in
theorem tab_keeps3 (w : World) (mean : ExcName → Option Value) (mg mb : Str → Option Value) {t o rt v a b c : Addr} {os us as bs cs : List Value} {xs xa xb xc : List Int} {ts : Tok}
    (hi : IntsAre us xs) (ha : IntsAre as xa) (hb : IntsAre bs xb) (hc : IntsAre cs xc) :
    Con w mean mg mb 12 408 [.ref t, .ref v] [(t, tupO [.str (Str.ofString "table") ts, .ref o, .ref rt] 0), (o, tupO os 0), (rt, tupO [.ref a, .ref b, .ref c] 0), (a, tupO as 0), (b, tupO bs 0), (c, tupO cs 0), (v, tupO us 0)] (BoolPost (decide (xs ∈ ([xa, xb, xc] : List (List Int)))) [(t, tupO [.str (Str.ofString "table") ts, .ref o, .ref rt] 0), (o, tupO os 0), (rt, tupO [.ref a, .ref b, .ref c] 0), (a, tupO as 0), (b, tupO bs 0), (c, tupO cs 0), (v, tupO us 0)]) := by
  k_dflt (
  refine' con_ofC ?k7 ?k8 ?kA ?kB ?kD ?_ ?c2 ?c3 ?c4;
  (case k7 => k_is); (case k8 => k_is);
  (case kA => exact fun _ => BindsTo.of_eq rfl); (case kB => exact rfl); (case kD => decide +kernel); (case c2 => exact rfl); (case c3 => exact rfl); (case c4 => exact rfl))
  intro dp gd un outer base g s B st sz X T hroom hu L' h₁ tk' cells' Q' F N' Y' hlt hret
  (try k_lt hlt)
  k_cells Y'
  (try simp only [List.cons_append, List.nil_append] at N')
  (try dsimp only at *); (try k_lift B); (try k_fold)
  k_with_none
  k_with "call builtin:len!" => ((
  k_here
  (with_reducible show wpAny _ _ (PySem.call (Value.builtin _) [Value.ref _]) _ _ _)
  k_dflt (refine' len_tupN ?N ?m ?i ?f ?_; (case N => k_asm); (case m => k_mem); (case i => with_reducible assumption); (case f => omega))
  k_whole))
  k_with "subscriptTail!" => ((
  k_here
  (with_reducible show wpAny _ _ (subscriptTail _ _ (Value.ref _) (Value.int _ _)) _ _ _)
  k_dflt (first
    | (refine' item_tupN ?N ?m ?i ?h0 ?h1 ?f ?_ ?k6; (case N => k_asm); (case m => k_mem); (case i => with_reducible assumption); (case h0 => omega); (case h1 => omega); (case f => omega); (case k6 => with_unfolding_all rfl))
    | ((with_reducible show wpAny _ _ (subscriptTail _ _ (Value.ref _) (Value.int (-1) _)) _ _ _); refine' item_tup_last ?N ?m ?i ?h1 ?_ ?k6; (case N => k_asm); (case m => k_mem); (case i => with_reducible assumption); (case h1 => omega); (case k6 => with_unfolding_all rfl)))
  k_whole
  intro t'))
  k_with "call type:tuple!" => ((
  k_here
  (with_reducible show wpAny _ _ (PySem.call (Value.type _) [Value.ref _]) _ _ _)
  k_dflt (refine' tup_sameN ?N ?m ?_; (case N => k_asm); (case m => k_mem))
  k_whole))
  k_with "pyIter ref!" => ((
  k_here
  (with_reducible show wpAny _ _ (pyIter (Value.ref _)) (fun it s₂ => LoopAtV _ _ _ _ _ _ _ _ _ it s₂) _ _)
  k_dflt (refine' iter_tupUnr ?hh ?F ?N ?m ?_; (case hh => exact rfl); (case F => k_asm); (case N => k_asm); (case m => k_mem))
  k_whole
  intro i' l1
  (try k_lt l1)))
  k_with "TupRest!" => ((with_unfolding_all first | (refine TupRest.succ (fun it' h' tk' hit' F' N' => ?_)) | (refine TupRest.zero (fun h' tk' F' N' => ?_))))
  k_with "compareOp In int ref!" => ((
  k_here
  (with_reducible show wpAny _ _ (compareOp CmpOp.In (Value.int _ _) (Value.ref _)) _ _ _)
  k_dflt (refine in_rangeK (by with_reducible assumption) ?_)
  k_whole))
  k_with "binaryOp Add ref ref!" => ((
  k_here
  k_dflt (refine' add_tupN ?F ?N ?m1 ?m2 ?v ?w ?z ?_; (case F => k_asm); (case N => k_asm); (case m1 => k_mem); (case m2 => k_mem); (case v => ((try simp only [List.length_append, List.length_cons, List.length_nil]); omega)); (case w => ((try simp only [List.length_append, List.length_cons, List.length_nil]); omega)); (case z => ((try simp only [List.length_append, List.length_cons, List.length_nil]); omega)))
  k_whole
  intro D' h' F' N' l1
  (try simp only [List.cons_append, List.nil_append, List.append_assoc] at N'); (try k_lt l1); (try dsimp only); (try k_fold)))
  k_with "compareOp In ref ref!" => (k_extra "in")
  k_with "in" => (
    (with_reducible show wpAny _ _ (compareOp CmpOp.In (Value.ref _) (Value.ref _)) _ _ _)
    k_dflt (refine' in_tupsN (rows := [(a, xa), (b, xb), (c, xc)]) ?N ?m ?r ?v ?i ?u ?_; (case N => k_asm); (case m => k_mem); (case r => exact List.forall_mem_cons.mpr ⟨⟨_, by k_mem, by assumption⟩, List.forall_mem_cons.mpr ⟨⟨_, by k_mem, by assumption⟩, List.forall_mem_cons.mpr ⟨⟨_, by k_mem, by assumption⟩, List.forall_mem_nil _⟩⟩⟩); (case v => k_mem); (case i => exact hi); (case u => ktr_units)))
  iterate 52 (try (first | (k_unfold; (try dsimp only)) | walk1 | (dsimp only; walk1)))
  all_goals (try dsimp only)
  refine hret _ _ _ _ _ (by k_asm) (cb_drop (by assumption) (by lcg_sub)) (BoolPost.mk ?_)
  rfl

end Mine
namespace Mine
open PySem PySem.W PySem.Calls PyProof.Rows PySem.Spec

set_option maxHeartbeats 8000000 in
theorem values0_tab0 (w : World) (mean : ExcName → Option Value) (mg mb : Str → Option Value) {fa l t sc o rt : Addr} {vs ss : List Value} {ns zs : List Int} {ts : Tok} {n : Int} {tk tl : Tok} {e ne : Nat} {q : Nat}
    (hi : IntsAre vs ns) (hlen : ns.length ≤ 63) (hne : AllNe fa [(l, listOf vs.toArray ne), (t, tupO [.str (Str.ofString "table") ts, .ref o, .ref rt] 0), (rt, tupO [] 0), (sc, tupO ss 0)]) (h0 : 0 ≤ n) (hn : n < 8000) (hs : IntsAre ss zs) (hsl : zs.length = q) (h1 : 1 ≤ q) (h3 : q ≤ 8) :
    Con w mean mg mb 12 413 [.ref fa, .ref t, .ref sc, .int 0 tl] ((fa, feedO l n tk e) :: [(l, listOf vs.toArray ne), (t, tupO [.str (Str.ofString "table") ts, .ref o, .ref rt] 0), (rt, tupO [] 0), (sc, tupO ss 0)])
      (fun nn r => ∃ o' own, nn = (fa, o') :: (own ++ [(l, listOf vs.toArray ne), (t, tupO [.str (Str.ofString "table") ts, .ref o, .ref rt] 0), (rt, tupO [] 0), (sc, tupO ss 0)]) ∧ (FeedPost l n (n + 8) o' ∧ ValP q own r) ∧ OwnNe own ((fa, feedO l n tk e) :: [(l, listOf vs.toArray ne), (t, tupO [.str (Str.ofString "table") ts, .ref o, .ref rt] 0), (rt, tupO [] 0), (sc, tupO ss 0)])) := by
  k_dflt (
  refine' con_ofC ?k7 ?k8 ?kA ?kB ?kD ?_ ?c2 ?c3 ?c4;
  (case k7 => k_is); (case k8 => k_is);
  (case kA => exact fun _ => BindsTo.of_eq rfl); (case kB => exact rfl); (case kD => decide +kernel); (case c2 => exact rfl); (case c3 => exact rfl); (case c4 => exact rfl))
  intro dp gd un outer base g s B st sz X T hroom hu L' h₁ tk' cells' Q' F N' Y' hlt hret
  (try k_lt hlt)
  k_cells Y'
  (try simp only [List.cons_append, List.nil_append] at N')
  (try dsimp only at *); (try k_lift B); (try k_fold)
  k_with_none
  k_with "call builtin:len!" => ((
  k_here
  (with_reducible show wpAny _ _ (PySem.call (Value.builtin _) [Value.ref _]) _ _ _)
  k_dflt (refine' len_tupN ?N ?m ?i ?f ?_; (case N => k_asm); (case m => k_mem); (case i => with_reducible assumption); (case f => omega))
  k_whole))
  k_with "subscriptTail!" => ((
  k_here
  (with_reducible show wpAny _ _ (subscriptTail _ _ (Value.ref _) (Value.int _ _)) _ _ _)
  k_dflt (first
    | (refine' item_tupN ?N ?m ?i ?h0 ?h1 ?f ?_ ?k6; (case N => k_asm); (case m => k_mem); (case i => with_reducible assumption); (case h0 => omega); (case h1 => omega); (case f => omega); (case k6 => with_unfolding_all rfl))
    | ((with_reducible show wpAny _ _ (subscriptTail _ _ (Value.ref _) (Value.int (-1) _)) _ _ _); refine' item_tup_last ?N ?m ?i ?h1 ?_ ?k6; (case N => k_asm); (case m => k_mem); (case i => with_reducible assumption); (case h1 => omega); (case k6 => with_unfolding_all rfl)))
  k_whole
  intro t'))
  k_with "call type:tuple!" => ((
  k_here
  (with_reducible show wpAny _ _ (PySem.call (Value.type _) [Value.ref _]) _ _ _)
  k_dflt (refine' tup_sameN ?N ?m ?_; (case N => k_asm); (case m => k_mem))
  k_whole))
  k_with "pyIter ref!" => ((
  k_here
  (with_reducible show wpAny _ _ (pyIter (Value.ref _)) (fun it s₂ => LoopAtV _ _ _ _ _ _ _ _ _ it s₂) _ _)
  k_dflt (refine' iter_tupUnr ?hh ?F ?N ?m ?_; (case hh => exact rfl); (case F => k_asm); (case N => k_asm); (case m => k_mem))
  k_whole
  intro i' l1
  (try k_lt l1)))
  k_with "TupRest!" => ((with_unfolding_all first | (refine TupRest.succ (fun it' h' tk' hit' F' N' => ?_)) | (refine TupRest.zero (fun h' tk' F' N' => ?_))))
  k_with "compareOp In int ref!" => ((
  k_here
  (with_reducible show wpAny _ _ (compareOp CmpOp.In (Value.int _ _) (Value.ref _)) _ _ _)
  k_dflt (refine in_rangeK (by with_reducible assumption) ?_)
  k_whole))
  k_with "binaryOp Add ref ref!" => ((
  k_here
  k_dflt (refine' add_tupN ?F ?N ?m1 ?m2 ?v ?w ?z ?_; (case F => k_asm); (case N => k_asm); (case m1 => k_mem); (case m2 => k_mem); (case v => ((try simp only [List.length_append, List.length_cons, List.length_nil]); omega)); (case w => ((try simp only [List.length_append, List.length_cons, List.length_nil]); omega)); (case z => ((try simp only [List.length_append, List.length_cons, List.length_nil]); omega)))
  k_whole
  intro D' h' F' N' l1
  (try simp only [List.cons_append, List.nil_append, List.append_assoc] at N'); (try k_lt l1); (try dsimp only); (try k_fold)))
  k_with "CompRest!" => ((with_unfolding_all first
  | (refine LCg.CompRest.succ ?_; intro v' I' oI' C' oC' D' m' h' tk' E' hv' hC' hx' F' N' off' ne'; (first | lcg_open hv' | (obtain ⟨t9', hv9'⟩ := hv'; subst hv9')); replace ne' := Apart3.of ne')
  | refine LCg.CompRest.zero ?_))
  k_with "FinE!" => (((unfold LCg.FinE); intro D' h' tk' F' N' o1'; (try simp only [List.nil_append, List.cons_append] at N'); (try dsimp only)))
  k_with "FinA!" => (((unfold LCg.FinA); intro D' h' tk' F' N' o1'; (try simp only [List.nil_append, List.cons_append] at N'); (try dsimp only)))
  k_with "call ref!" => ((
  k_here
  (with_reducible show wpAny _ _ (PySem.call (Value.ref 391) _ _) _ _ _)
  k_dflt (
    refine wpAny_call ?_
    refine' row_use ?c5 ?c3 ?c1 ?c2 ?c4 ?c6 ?c7 ?c8 ?hc ?hI ?hne ?hn0 ?hcl ?hm0 ?hm1 ?hm ?hm2 ?hm3 ?hm4 ?c9 ?c10 ?c11 ?c12 ?c13 ?_
    (case c1 => exact rfl); (case c3 => k_asm); (case c2 => k_asm); (case c4 => k_asm); (case c5 => k_asm); (case c6 => k_asm); (case c7 => k_updF); (case c8 => k_mem)
    (case hc => with_reducible assumption); (case hI => with_reducible assumption); (case hne => first | exact AllNe.ne (by with_reducible assumption) (by k_mem) | with_reducible assumption | omega); (case hn0 => with_reducible assumption); (case hcl => exact Nat.le_of_ble_eq_true rfl)
    (case hm0 => first | with_reducible assumption | exact Int.natCast_nonneg _ | exact many_lo (by with_reducible assumption) | omega); (case hm1 => first | with_reducible assumption | exact many_hi (by with_reducible assumption) | exact many_nat (by with_reducible assumption) (by with_reducible assumption) | omega)
    (case hm => decide); (case hm2 => decide); (case hm3 => decide); (case hm4 => decide)
    (case c9 => exact rfl); (case c10 => exact rfl); (case c11 => first | exact rfl | assumption); (case c12 => ktr_room); (case c13 => ktr_units)
    k_whole
    intro a9' us9' xs9' n9' tk9' e9' h9' u9' F9' N9' c9' o9' q9' l9' i9'
    (try dsimp only at N9')
    (try dsimp only)
    (try k_fold))))
  k_with "compareOp NotEq ref ref!" => ((
  k_here
  (with_reducible show wpAny _ _ (compareOp CmpOp.NotEq (Value.ref _) (Value.ref _)) _ _ _)
  k_dflt (refine' ne_same ?d ?u ?_
          (case u => ktr_units)
          (case d => (repeat' (first | exact Same.int | exact Same.str (by decide +kernel) | exact SameAll.nil | exact SameAll.ints (by with_reducible assumption) (by with_reducible assumption) | with_reducible refine SameAll.appI (by with_reducible assumption) ?_ | with_reducible refine SameAll.cons ?_ ?_ | refine Same.tup (by k_asm) (by k_mem) (by k_mem) ?_)); done))
  k_whole))
  have hI : FeedIn vs ns n := ⟨hi, hlen, h0, Int.lt_trans hn (by decide)⟩
  have hfd := @Fd.start n
  clear hi hlen h0
  (repeat' (first | (k_unfold; (try dsimp only)) | walk1 | (dsimp only; walk1) | (leave1; (try dsimp only))))
  refine' hret _ _ _ _ _ (by k_asm) (cb_drop (by assumption) ?sub) ⟨_, _, rfl, ⟨Fd.post8 (by with_reducible assumption) (Nat.le_refl _), _, _, _, rfl, rfl, IntsIn.are (by with_reducible assumption), len_nat (by with_reducible assumption) (by with_reducible assumption)⟩, ?ne⟩
  (case sub => lcg_sub)
  (case ne => exact ownNe_one (List.forall_mem_cons.mpr ⟨AllNe.ne (by with_reducible assumption) (by k_mem), List.forall_mem_cons.mpr ⟨AllNe.ne (by with_reducible assumption) (by k_mem), List.forall_mem_cons.mpr ⟨AllNe.ne (by with_reducible assumption) (by k_mem), List.forall_mem_cons.mpr ⟨AllNe.ne (by with_reducible assumption) (by k_mem), List.forall_mem_cons.mpr ⟨AllNe.ne (by with_reducible assumption) (by k_mem), List.forall_mem_nil _⟩⟩⟩⟩⟩))
end Mine
namespace Mine
open PySem PySem.W PySem.Calls PyProof.Rows PySem.Spec

set_option maxHeartbeats 8000000 in
theorem values0_tab1 (w : World) (mean : ExcName → Option Value) (mg mb : Str → Option Value) {fa t sc o rt a : Addr} {ss as : List Value} {zs xa : List Int} {tl ts : Tok}
    (hs : IntsAre ss zs) (hsl : zs.length ≤ 8) (ha : IntsAre as xa) :
    Con w mean mg mb 12 413 [.ref fa, .ref t, .ref sc, .int 0 tl] [(t, tupO [.str (Str.ofString "table") ts, .ref o, .ref rt] 0), (sc, tupO ss 0), (rt, tupO [.ref a] 0), (a, tupO as 0)] (NewPost (fun own r => own = [] ∧ r = .ref a) [(t, tupO [.str (Str.ofString "table") ts, .ref o, .ref rt] 0), (sc, tupO ss 0), (rt, tupO [.ref a] 0), (a, tupO as 0)]) := by
  k_dflt (
  refine' con_ofC ?k7 ?k8 ?kA ?kB ?kD ?_ ?c2 ?c3 ?c4;
  (case k7 => k_is); (case k8 => k_is);
  (case kA => exact fun _ => BindsTo.of_eq rfl); (case kB => exact rfl); (case kD => decide +kernel); (case c2 => exact rfl); (case c3 => exact rfl); (case c4 => exact rfl))
  intro dp gd un outer base g s B st sz X T hroom hu L' h₁ tk' cells' Q' F N' Y' hlt hret
  (try k_lt hlt)
  k_cells Y'
  (try simp only [List.cons_append, List.nil_append] at N')
  (try dsimp only at *); (try k_lift B); (try k_fold)
  k_with_none
  k_with "call builtin:len!" => ((
  k_here
  (with_reducible show wpAny _ _ (PySem.call (Value.builtin _) [Value.ref _]) _ _ _)
  k_dflt (refine' len_tupN ?N ?m ?i ?f ?_; (case N => k_asm); (case m => k_mem); (case i => with_reducible assumption); (case f => omega))
  k_whole))
  k_with "subscriptTail!" => ((
  k_here
  (with_reducible show wpAny _ _ (subscriptTail _ _ (Value.ref _) (Value.int _ _)) _ _ _)
  k_dflt (first
    | (refine' item_tupN ?N ?m ?i ?h0 ?h1 ?f ?_ ?k6; (case N => k_asm); (case m => k_mem); (case i => with_reducible assumption); (case h0 => omega); (case h1 => omega); (case f => omega); (case k6 => with_unfolding_all rfl))
    | ((with_reducible show wpAny _ _ (subscriptTail _ _ (Value.ref _) (Value.int (-1) _)) _ _ _); refine' item_tup_last ?N ?m ?i ?h1 ?_ ?k6; (case N => k_asm); (case m => k_mem); (case i => with_reducible assumption); (case h1 => omega); (case k6 => with_unfolding_all rfl)))
  k_whole
  intro t'))
  k_with "call type:tuple!" => ((
  k_here
  (with_reducible show wpAny _ _ (PySem.call (Value.type _) [Value.ref _]) _ _ _)
  k_dflt (refine' tup_sameN ?N ?m ?_; (case N => k_asm); (case m => k_mem))
  k_whole))
  k_with "pyIter ref!" => ((
  k_here
  (with_reducible show wpAny _ _ (pyIter (Value.ref _)) (fun it s₂ => LoopAtV _ _ _ _ _ _ _ _ _ it s₂) _ _)
  k_dflt (refine' iter_tupUnr ?hh ?F ?N ?m ?_; (case hh => exact rfl); (case F => k_asm); (case N => k_asm); (case m => k_mem))
  k_whole
  intro i' l1
  (try k_lt l1)))
  k_with "TupRest!" => ((with_unfolding_all first | (refine TupRest.succ (fun it' h' tk' hit' F' N' => ?_)) | (refine TupRest.zero (fun h' tk' F' N' => ?_))))
  k_with "compareOp In int ref!" => ((
  k_here
  (with_reducible show wpAny _ _ (compareOp CmpOp.In (Value.int _ _) (Value.ref _)) _ _ _)
  k_dflt (refine in_rangeK (by with_reducible assumption) ?_)
  k_whole))
  k_with "binaryOp Add ref ref!" => ((
  k_here
  k_dflt (refine' add_tupN ?F ?N ?m1 ?m2 ?v ?w ?z ?_; (case F => k_asm); (case N => k_asm); (case m1 => k_mem); (case m2 => k_mem); (case v => ((try simp only [List.length_append, List.length_cons, List.length_nil]); omega)); (case w => ((try simp only [List.length_append, List.length_cons, List.length_nil]); omega)); (case z => ((try simp only [List.length_append, List.length_cons, List.length_nil]); omega)))
  k_whole
  intro D' h' F' N' l1
  (try simp only [List.cons_append, List.nil_append, List.append_assoc] at N'); (try k_lt l1); (try dsimp only); (try k_fold)))
  k_with "CompRest!" => ((with_unfolding_all first
  | (refine LCg.CompRest.succ ?_; intro v' I' oI' C' oC' D' m' h' tk' E' hv' hC' hx' F' N' off' ne'; (first | lcg_open hv' | (obtain ⟨t9', hv9'⟩ := hv'; subst hv9')); replace ne' := Apart3.of ne')
  | refine LCg.CompRest.zero ?_))
  k_with "FinE!" => (((unfold LCg.FinE); intro D' h' tk' F' N' o1'; (try simp only [List.nil_append, List.cons_append] at N'); (try dsimp only)))
  k_with "FinA!" => (((unfold LCg.FinA); intro D' h' tk' F' N' o1'; (try simp only [List.nil_append, List.cons_append] at N'); (try dsimp only)))
  k_with "compareOp NotEq ref ref!" => ((
  k_here
  (with_reducible show wpAny _ _ (compareOp CmpOp.NotEq (Value.ref _) (Value.ref _)) _ _ _)
  k_dflt (refine' ne_nonempty ?N ?m1 ?m2 ?d ?u ?_
          (case N => k_asm); (case m1 => k_mem); (case m2 => k_mem); (case u => ktr_units)
          (case d => (repeat' (first | exact SameAll.nil | exact SameAll.ints (by with_reducible assumption) (by with_reducible assumption) | with_reducible refine SameAll.cons ?_ ?_ | refine Same.tup (by k_asm) (by k_mem) (by k_mem) ?_)); done))
  k_whole))
  (repeat' (first | (k_unfold; (try dsimp only)) | walk1 | (dsimp only; walk1) | (leave1; (try dsimp only))))
  all_goals (try dsimp only)
  refine' hret _ _ _ _ _ (by k_asm) (cb_drop (by assumption) ?sub) (NewPost.mk (own := []) ⟨rfl, rfl⟩ OwnNe.nil)
  (case sub => lcg_sub)

set_option maxHeartbeats 8000000 in
theorem values0_tab2 (w : World) (mean : ExcName → Option Value) (mg mb : Str → Option Value) {fa t sc o rt a b : Addr} {ss as bs : List Value} {zs xa xb : List Int} {tl ts : Tok}
    (hs : IntsAre ss zs) (hsl : zs.length ≤ 8) (ha : IntsAre as xa) (hb : IntsAre bs xb) :
    Con w mean mg mb 12 413 [.ref fa, .ref t, .ref sc, .int 0 tl] [(t, tupO [.str (Str.ofString "table") ts, .ref o, .ref rt] 0), (sc, tupO ss 0), (rt, tupO [.ref a, .ref b] 0), (a, tupO as 0), (b, tupO bs 0)] (NewPost (fun own r => own = [] ∧ r = .ref b) [(t, tupO [.str (Str.ofString "table") ts, .ref o, .ref rt] 0), (sc, tupO ss 0), (rt, tupO [.ref a, .ref b] 0), (a, tupO as 0), (b, tupO bs 0)]) := by
  k_dflt (
  refine' con_ofC ?k7 ?k8 ?kA ?kB ?kD ?_ ?c2 ?c3 ?c4;
  (case k7 => k_is); (case k8 => k_is);
  (case kA => exact fun _ => BindsTo.of_eq rfl); (case kB => exact rfl); (case kD => decide +kernel); (case c2 => exact rfl); (case c3 => exact rfl); (case c4 => exact rfl))
  intro dp gd un outer base g s B st sz X T hroom hu L' h₁ tk' cells' Q' F N' Y' hlt hret
  (try k_lt hlt)
  k_cells Y'
  (try simp only [List.cons_append, List.nil_append] at N')
  (try dsimp only at *); (try k_lift B); (try k_fold)
  k_with_none
  k_with "call builtin:len!" => ((
  k_here
  (with_reducible show wpAny _ _ (PySem.call (Value.builtin _) [Value.ref _]) _ _ _)
  k_dflt (refine' len_tupN ?N ?m ?i ?f ?_; (case N => k_asm); (case m => k_mem); (case i => with_reducible assumption); (case f => omega))
  k_whole))
  k_with "subscriptTail!" => ((
  k_here
  (with_reducible show wpAny _ _ (subscriptTail _ _ (Value.ref _) (Value.int _ _)) _ _ _)
  k_dflt (first
    | (refine' item_tupN ?N ?m ?i ?h0 ?h1 ?f ?_ ?k6; (case N => k_asm); (case m => k_mem); (case i => with_reducible assumption); (case h0 => omega); (case h1 => omega); (case f => omega); (case k6 => with_unfolding_all rfl))
    | ((with_reducible show wpAny _ _ (subscriptTail _ _ (Value.ref _) (Value.int (-1) _)) _ _ _); refine' item_tup_last ?N ?m ?i ?h1 ?_ ?k6; (case N => k_asm); (case m => k_mem); (case i => with_reducible assumption); (case h1 => omega); (case k6 => with_unfolding_all rfl)))
  k_whole
  intro t'))
  k_with "call type:tuple!" => ((
  k_here
  (with_reducible show wpAny _ _ (PySem.call (Value.type _) [Value.ref _]) _ _ _)
  k_dflt (refine' tup_sameN ?N ?m ?_; (case N => k_asm); (case m => k_mem))
  k_whole))
  k_with "pyIter ref!" => ((
  k_here
  (with_reducible show wpAny _ _ (pyIter (Value.ref _)) (fun it s₂ => LoopAtV _ _ _ _ _ _ _ _ _ it s₂) _ _)
  k_dflt (refine' iter_tupUnr ?hh ?F ?N ?m ?_; (case hh => exact rfl); (case F => k_asm); (case N => k_asm); (case m => k_mem))
  k_whole
  intro i' l1
  (try k_lt l1)))
  k_with "TupRest!" => ((with_unfolding_all first | (refine TupRest.succ (fun it' h' tk' hit' F' N' => ?_)) | (refine TupRest.zero (fun h' tk' F' N' => ?_))))
  k_with "compareOp In int ref!" => ((
  k_here
  (with_reducible show wpAny _ _ (compareOp CmpOp.In (Value.int _ _) (Value.ref _)) _ _ _)
  k_dflt (refine in_rangeK (by with_reducible assumption) ?_)
  k_whole))
  k_with "binaryOp Add ref ref!" => ((
  k_here
  k_dflt (refine' add_tupN ?F ?N ?m1 ?m2 ?v ?w ?z ?_; (case F => k_asm); (case N => k_asm); (case m1 => k_mem); (case m2 => k_mem); (case v => ((try simp only [List.length_append, List.length_cons, List.length_nil]); omega)); (case w => ((try simp only [List.length_append, List.length_cons, List.length_nil]); omega)); (case z => ((try simp only [List.length_append, List.length_cons, List.length_nil]); omega)))
  k_whole
  intro D' h' F' N' l1
  (try simp only [List.cons_append, List.nil_append, List.append_assoc] at N'); (try k_lt l1); (try dsimp only); (try k_fold)))
  k_with "CompRest!" => ((with_unfolding_all first
  | (refine LCg.CompRest.succ ?_; intro v' I' oI' C' oC' D' m' h' tk' E' hv' hC' hx' F' N' off' ne'; (first | lcg_open hv' | (obtain ⟨t9', hv9'⟩ := hv'; subst hv9')); replace ne' := Apart3.of ne')
  | refine LCg.CompRest.zero ?_))
  k_with "FinE!" => (((unfold LCg.FinE); intro D' h' tk' F' N' o1'; (try simp only [List.nil_append, List.cons_append] at N'); (try dsimp only)))
  k_with "FinA!" => (((unfold LCg.FinA); intro D' h' tk' F' N' o1'; (try simp only [List.nil_append, List.cons_append] at N'); (try dsimp only)))
  k_with "compareOp NotEq ref ref!" => ((
  k_here
  (with_reducible show wpAny _ _ (compareOp CmpOp.NotEq (Value.ref _) (Value.ref _)) _ _ _)
  k_dflt (refine' ne_nonempty ?N ?m1 ?m2 ?d ?u ?_
          (case N => k_asm); (case m1 => k_mem); (case m2 => k_mem); (case u => ktr_units)
          (case d => (repeat' (first | exact SameAll.nil | exact SameAll.ints (by with_reducible assumption) (by with_reducible assumption) | with_reducible refine SameAll.cons ?_ ?_ | refine Same.tup (by k_asm) (by k_mem) (by k_mem) ?_)); done))
  k_whole))
  (repeat' (first | (k_unfold; (try dsimp only)) | walk1 | (dsimp only; walk1) | (leave1; (try dsimp only))))
  all_goals (try dsimp only)
  refine' hret _ _ _ _ _ (by k_asm) (cb_drop (by assumption) ?sub) (NewPost.mk (own := []) ⟨rfl, rfl⟩ OwnNe.nil)
  (case sub => lcg_sub)

set_option maxHeartbeats 8000000 in
theorem values0_tab3 (w : World) (mean : ExcName → Option Value) (mg mb : Str → Option Value) {fa t sc o rt a b c : Addr} {ss as bs cs : List Value} {zs xa xb xc : List Int} {tl ts : Tok}
    (hs : IntsAre ss zs) (hsl : zs.length ≤ 8) (ha : IntsAre as xa) (hb : IntsAre bs xb) (hc : IntsAre cs xc) :
    Con w mean mg mb 12 413 [.ref fa, .ref t, .ref sc, .int 0 tl] [(t, tupO [.str (Str.ofString "table") ts, .ref o, .ref rt] 0), (sc, tupO ss 0), (rt, tupO [.ref a, .ref b, .ref c] 0), (a, tupO as 0), (b, tupO bs 0), (c, tupO cs 0)] (NewPost (fun own r => own = [] ∧ r = .ref c) [(t, tupO [.str (Str.ofString "table") ts, .ref o, .ref rt] 0), (sc, tupO ss 0), (rt, tupO [.ref a, .ref b, .ref c] 0), (a, tupO as 0), (b, tupO bs 0), (c, tupO cs 0)]) := by
  k_dflt (
  refine' con_ofC ?k7 ?k8 ?kA ?kB ?kD ?_ ?c2 ?c3 ?c4;
  (case k7 => k_is); (case k8 => k_is);
  (case kA => exact fun _ => BindsTo.of_eq rfl); (case kB => exact rfl); (case kD => decide +kernel); (case c2 => exact rfl); (case c3 => exact rfl); (case c4 => exact rfl))
  intro dp gd un outer base g s B st sz X T hroom hu L' h₁ tk' cells' Q' F N' Y' hlt hret
  (try k_lt hlt)
  k_cells Y'
  (try simp only [List.cons_append, List.nil_append] at N')
  (try dsimp only at *); (try k_lift B); (try k_fold)
  k_with_none
  k_with "call builtin:len!" => ((
  k_here
  (with_reducible show wpAny _ _ (PySem.call (Value.builtin _) [Value.ref _]) _ _ _)
  k_dflt (refine' len_tupN ?N ?m ?i ?f ?_; (case N => k_asm); (case m => k_mem); (case i => with_reducible assumption); (case f => omega))
  k_whole))
  k_with "subscriptTail!" => ((
  k_here
  (with_reducible show wpAny _ _ (subscriptTail _ _ (Value.ref _) (Value.int _ _)) _ _ _)
  k_dflt (first
    | (refine' item_tupN ?N ?m ?i ?h0 ?h1 ?f ?_ ?k6; (case N => k_asm); (case m => k_mem); (case i => with_reducible assumption); (case h0 => omega); (case h1 => omega); (case f => omega); (case k6 => with_unfolding_all rfl))
    | ((with_reducible show wpAny _ _ (subscriptTail _ _ (Value.ref _) (Value.int (-1) _)) _ _ _); refine' item_tup_last ?N ?m ?i ?h1 ?_ ?k6; (case N => k_asm); (case m => k_mem); (case i => with_reducible assumption); (case h1 => omega); (case k6 => with_unfolding_all rfl)))
  k_whole
  intro t'))
  k_with "call type:tuple!" => ((
  k_here
  (with_reducible show wpAny _ _ (PySem.call (Value.type _) [Value.ref _]) _ _ _)
  k_dflt (refine' tup_sameN ?N ?m ?_; (case N => k_asm); (case m => k_mem))
  k_whole))
  k_with "pyIter ref!" => ((
  k_here
  (with_reducible show wpAny _ _ (pyIter (Value.ref _)) (fun it s₂ => LoopAtV _ _ _ _ _ _ _ _ _ it s₂) _ _)
  k_dflt (refine' iter_tupUnr ?hh ?F ?N ?m ?_; (case hh => exact rfl); (case F => k_asm); (case N => k_asm); (case m => k_mem))
  k_whole
  intro i' l1
  (try k_lt l1)))
  k_with "TupRest!" => ((with_unfolding_all first | (refine TupRest.succ (fun it' h' tk' hit' F' N' => ?_)) | (refine TupRest.zero (fun h' tk' F' N' => ?_))))
  k_with "compareOp In int ref!" => ((
  k_here
  (with_reducible show wpAny _ _ (compareOp CmpOp.In (Value.int _ _) (Value.ref _)) _ _ _)
  k_dflt (refine in_rangeK (by with_reducible assumption) ?_)
  k_whole))
  k_with "binaryOp Add ref ref!" => ((
  k_here
  k_dflt (refine' add_tupN ?F ?N ?m1 ?m2 ?v ?w ?z ?_; (case F => k_asm); (case N => k_asm); (case m1 => k_mem); (case m2 => k_mem); (case v => ((try simp only [List.length_append, List.length_cons, List.length_nil]); omega)); (case w => ((try simp only [List.length_append, List.length_cons, List.length_nil]); omega)); (case z => ((try simp only [List.length_append, List.length_cons, List.length_nil]); omega)))
  k_whole
  intro D' h' F' N' l1
  (try simp only [List.cons_append, List.nil_append, List.append_assoc] at N'); (try k_lt l1); (try dsimp only); (try k_fold)))
  k_with "CompRest!" => ((with_unfolding_all first
  | (refine LCg.CompRest.succ ?_; intro v' I' oI' C' oC' D' m' h' tk' E' hv' hC' hx' F' N' off' ne'; (first | lcg_open hv' | (obtain ⟨t9', hv9'⟩ := hv'; subst hv9')); replace ne' := Apart3.of ne')
  | refine LCg.CompRest.zero ?_))
  k_with "FinE!" => (((unfold LCg.FinE); intro D' h' tk' F' N' o1'; (try simp only [List.nil_append, List.cons_append] at N'); (try dsimp only)))
  k_with "FinA!" => (((unfold LCg.FinA); intro D' h' tk' F' N' o1'; (try simp only [List.nil_append, List.cons_append] at N'); (try dsimp only)))
  k_with "compareOp NotEq ref ref!" => ((
  k_here
  (with_reducible show wpAny _ _ (compareOp CmpOp.NotEq (Value.ref _) (Value.ref _)) _ _ _)
  k_dflt (refine' ne_nonempty ?N ?m1 ?m2 ?d ?u ?_
          (case N => k_asm); (case m1 => k_mem); (case m2 => k_mem); (case u => ktr_units)
          (case d => (repeat' (first | exact SameAll.nil | exact SameAll.ints (by with_reducible assumption) (by with_reducible assumption) | with_reducible refine SameAll.cons ?_ ?_ | refine Same.tup (by k_asm) (by k_mem) (by k_mem) ?_)); done))
  k_whole))
  (repeat' (first | (k_unfold; (try dsimp only)) | walk1 | (dsimp only; walk1) | (leave1; (try dsimp only))))
  all_goals (try dsimp only)
  refine' hret _ _ _ _ _ (by k_asm) (cb_drop (by assumption) ?sub) (NewPost.mk (own := []) ⟨rfl, rfl⟩ OwnNe.nil)
  (case sub => lcg_sub)

end Mine
namespace Mine
open PySem PySem.W PySem.Calls PyProof.Rows PySem.Spec

set_option maxHeartbeats 4000000 in
theorem choice_inv (w : World) (mean : ExcName → Option Value) (mg mb : Str → Option Value) {t o q : Addr} {os qs : List Value} {ys zs : List Int} {ts : Tok}
    (hj : IntsAre os ys) (hk : IntsAre qs zs) (h3 : 1 ≤ ys.length) (h8 : ys.length ≤ 3) (h9 : zs.length = ys.length) :
    Con w mean mg mb 6 379 [.ref t] [(t, tupO [.str (Str.ofString "inverse") ts, .ref o, .ref q] 0), (o, tupO os 0), (q, tupO qs 0)] (NewPost (ChInv w o q os qs) [(t, tupO [.str (Str.ofString "inverse") ts, .ref o, .ref q] 0), (o, tupO os 0), (q, tupO qs 0)]) := by
  k_dflt (
  refine' con_of ?k7 ?k8 ?kA ?kB ?_ ?c2 ?c3 ?c4 ?c5;
  (case k7 => k_is); (case k8 => k_is);
  (case kA => exact fun _ => BindsTo.of_eq rfl); (case kB => exact locs rfl); (case c2 => exact rfl); (case c3 => exact rfl); (case c4 => exact rfl); (case c5 => decide))
  intro dp gd un outer base g s B st sz X T hroom hu L' h₁ Q' F N hlt hret
  (try k_lt hlt); (try dsimp only at *); (try k_lift B); (try k_fold)
  k_with_none
  k_with "call builtin:len!" => ((
  k_here
  (with_reducible show wpAny _ _ (PySem.call (Value.builtin _) [Value.ref _]) _ _ _)
  k_dflt (refine' len_tupN ?N ?m ?i ?f ?_; (case N => k_asm); (case m => k_mem); (case i => with_reducible assumption); (case f => omega))
  k_whole))
  k_with "subscriptTail!" => ((
  k_here
  (with_reducible show wpAny _ _ (subscriptTail _ _ (Value.ref _) (Value.int _ _)) _ _ _)
  k_dflt (first
    | (refine' item_tupN ?N ?m ?i ?h0 ?h1 ?f ?_ ?k6; (case N => k_asm); (case m => k_mem); (case i => with_reducible assumption); (case h0 => omega); (case h1 => omega); (case f => omega); (case k6 => with_unfolding_all rfl))
    | ((with_reducible show wpAny _ _ (subscriptTail _ _ (Value.ref _) (Value.int (-1) _)) _ _ _); refine' item_tup_last ?N ?m ?i ?h1 ?_ ?k6; (case N => k_asm); (case m => k_mem); (case i => with_reducible assumption); (case h1 => omega); (case k6 => with_unfolding_all rfl)))
  k_whole
  intro t'))
  k_with "call type:tuple!" => ((
  k_here
  (with_reducible show wpAny _ _ (PySem.call (Value.type _) [Value.ref _]) _ _ _)
  k_dflt (refine' tup_sameN ?N ?m ?_; (case N => k_asm); (case m => k_mem))
  k_whole))
  k_with "pyIter ref!" => ((
  k_here
  (with_reducible show wpAny _ _ (pyIter (Value.ref _)) (fun it s₂ => LoopAtV _ _ _ _ _ _ _ _ _ it s₂) _ _)
  k_dflt (refine' iter_tupUnr ?hh ?F ?N ?m ?_; (case hh => exact rfl); (case F => k_asm); (case N => k_asm); (case m => k_mem))
  k_whole
  intro i' l1
  (try k_lt l1)))
  k_with "TupRest!" => ((with_unfolding_all first | (refine TupRest.succ (fun it' h' tk' hit' F' N' => ?_)) | (refine TupRest.zero (fun h' tk' F' N' => ?_))))
  k_with "compareOp In int ref!" => ((
  k_here
  (with_reducible show wpAny _ _ (compareOp CmpOp.In (Value.int _ _) (Value.ref _)) _ _ _)
  k_dflt (refine in_rangeK (by with_reducible assumption) ?_)
  k_whole))
  k_with "binaryOp Add ref ref!" => ((
  k_here
  k_dflt (refine' add_tupN ?F ?N ?m1 ?m2 ?v ?w ?z ?_; (case F => k_asm); (case N => k_asm); (case m1 => k_mem); (case m2 => k_mem); (case v => ((try simp only [List.length_append, List.length_cons, List.length_nil]); omega)); (case w => ((try simp only [List.length_append, List.length_cons, List.length_nil]); omega)); (case z => ((try simp only [List.length_append, List.length_cons, List.length_nil]); omega)))
  k_whole
  intro D' h' F' N' l1
  (try simp only [List.cons_append, List.nil_append, List.append_assoc] at N'); (try k_lt l1); (try dsimp only); (try k_fold)))
  k_with "wpAt!" => (k_dflt (ks_step "execs cons"; refine ks_wpAt_execs_cons ?_))
  k_with "wpAt!" => (k_dflt (ks_step "exec Expr"; refine ks_wpAt_Expr_any ?_))
  k_with "wpAt!" => (k_dflt (ks_step "eval Call"; refine ks_wpAt_MethodCall ?_))
  have hkl := hk.length
  have hjl := hj.length
  (repeat' (first | (k_unfold; (try dsimp only)) | walk1 | (dsimp only; walk1) | (leave1; (try dsimp only))))
  all_goals (try dsimp only)
  refine' hret _ _ _ _ _ (by k_asm) (cb_drop (by assumption) ?sub) (NewPost.mk ChInv.mk ?own)
  (case sub => lcg_sub)
  (case own => exact ownNe3 (by simp only [AllNe, and_true]; (repeat' refine And.intro ?_ ?_) <;> omega) (by simp only [AllNe, and_true]; (repeat' refine And.intro ?_ ?_) <;> omega) (by simp only [AllNe, and_true]; (repeat' refine And.intro ?_ ?_) <;> omega))
end Mine
namespace Mine
open PySem PySem.W PySem.Calls PyProof.Rows PySem.Spec PyProof.Rows.LCg
open PySem.Sem (wp)

theorem meets_enumT (t : Addr) (us : List Value) (n : Nat) :
    Meets (Builtin.«enumerate.__new__» ⟨[.type "enumerate", .ref t], []⟩) (fun _ R s => s.heap.get? t = some (tupO us n) ∧
      R (.ok (.ret (.ref (s.heap.push (titO t 0)).objs.size)))
        { s with heap := (s.heap.push (titO t 0)).push { cls := .type "enumerate", data := .fields #[.none, .bool false, .ref s.heap.objs.size, rawInt 0, .none, .none] } }) :=
  .of_wp fun prog w A R s h => by
    obtain ⟨hp, g, d, tk, os⟩ := s; obtain ⟨ht, h⟩ := h
    have hsub := PySem.sub_enumerate
    have hT : Heap.IsTuple (Shared.heap ⟨hp, g, d, tk, os⟩) t us.toArray := ⟨_, ht, rfl, n, rfl⟩
    wp_walk using AutoSeq1.wpAny_loadPart' ht
    refine wpAny_stack_any fun st => wpAny_pure ?_
    split
    · rename_i c _ _ _ _ _
      cases (c == Value.type "enumerate")
      · wp_walk using AutoSeq1.wpAny_loadPart' ht, wpAny_pyIter_tuple hT
        exact ⟨_, rfl, h⟩
      · wp_walk using AutoSeq1.wpAny_loadPart' ht, wpAny_pyIter_tuple hT
        exact ⟨_, rfl, h⟩
    · wp_walk using AutoSeq1.wpAny_loadPart' ht, wpAny_pyIter_tuple hT
      exact ⟨_, rfl, h⟩

section
variable {prog : Program} {w : World} {A : Around} {E : Value → Shared → Prop} {s : Shared} {h₀ : Heap} {L : Addr} {m : Str → Option Value} {news : Led}
theorem call_enumT {t : Addr} {us : List Value} {n : Nat} {Q : Value → Shared → Prop} (ht : s.heap.get? t = some (tupO us n))
    (h : ∀ h', IsEnum h' (s.heap.objs.size + 1) s.heap.objs.size 0 .none → h'.get? s.heap.objs.size = some (titO t 0) → h'.objs.size = s.heap.objs.size + 2 →
      (∀ b o, s.heap.get? b = some o → h'.get? b = some o) → Q (.ref (s.heap.objs.size + 1)) { s with heap := h' }) :
    wpAny (model prog w) A (call (.type "enumerate") [.ref t]) Q E s := by
  refine callType_new F.called_enumerate (by decide) (F.typeCall_enumerate_1 _) (F.newCall_enumerate_1 _) (fun obj => F.args_object_init_2 obj _) F.entry_enumerate_new
    (meets_enumT t us n) ⟨ht, ?_⟩
  have hz : (s.heap.push (titO t 0)).objs.size = s.heap.objs.size + 1 := Heap.size_push ..
  show _ ∧ _
  rw [hz]
  have he : IsEnum ((s.heap.push (titO t 0)).push { cls := .type "enumerate", data := .fields #[.none, .bool false, .ref s.heap.objs.size, rawInt 0, .none, .none] }) (s.heap.objs.size + 1) s.heap.objs.size 0 .none := by
    have := Heap.get?_push_size (s.heap.push (titO t 0)) (o := { cls := .type "enumerate", data := .fields #[.none, .bool false, .ref s.heap.objs.size, rawInt 0, .none, .none] }) rfl
    rw [hz] at this; exact this
  refine ⟨⟨_, he, rfl⟩, h _ he ?_ (by rw [Heap.size_push, hz]) fun b o x => Heap.get?_push_of_some _ (Heap.get?_push_of_some _ x)⟩
  exact Heap.get?_push_of_some _ (Heap.get?_push_size _ rfl)

theorem drawsT (hh : A.handled = none) (it t : Addr) (hne : t ≠ it) (us : List Value) (n : Nat) :
    Draws prog w A it [it, t] us.length (fun i v => us[i]? = some v) (fun i h => h.get? it = some (titO t i) ∧ h.get? t = some (tupO us n)) where
  live := fun _ _ st => ⟨_, st.1⟩
  frame := fun _ _ _ st hk => ⟨hk it (by simp) _ st.1, hk t (by simp) _ st.2⟩
  item := fun i s Q E hi st hQ => by
    refine nextT_item st.1 st.2 (x := us[i]) (by simp [hi]) fun h' hit' hs' => ?_
    exact hQ _ h' s.toks (by simp [hi]) ⟨hit', hs'.extBut _ _ hne st.2⟩ hs'
  done := fun s Q E st hE => nextT_end hh st.1 st.2 (by simp) hE
end
end Mine
namespace Mine
open PySem PySem.W PySem.Calls PyProof.Rows PySem.Spec PyProof.Rows.LCg
open PySem.Sem (wp)

/-- the pairs that a block over a counted row made -/
def PairsLed (R : Nat → Value → Value → Value → Prop) : List Value → Nat → List Value → Led → Prop
  | [], _, ps, led => ps = [] ∧ led = []
  | v :: us, i, ps, led => ∃ p a b ps' led', ps = .ref p :: ps' ∧ led = (p, tupO [a, b] 0) :: led' ∧ R i v a b ∧ PairsLed R us (i + 1) ps' led'
theorem PairsLed.snoc {R : Nat → Value → Value → Value → Prop} {v a b : Value} {p : Addr} : ∀ {us : List Value} {j : Nat} {ps : List Value} {led : Led}, PairsLed R us j ps led → R (j + us.length) v a b →
    PairsLed R (us ++ [v]) j (ps ++ [.ref p]) (led ++ [(p, tupO [a, b] 0)])
  | [], j, _, _, ⟨e1, e2⟩, r => by subst e1 e2; exact ⟨p, a, b, [], [], rfl, rfl, r, rfl, rfl⟩
  | u :: us, j, _, _, ⟨q, c, d, ps', led', e1, e2, r', k⟩, r => by
    subst e1 e2
    exact ⟨q, c, d, _, _, rfl, rfl, r', PairsLed.snoc k (by rw [List.length_cons] at r; rw [show j + 1 + us.length = j + (us.length + 1) by omega]; exact r)⟩

inductive PairEnd (h₀ : Heap) (L : Addr) (m : Str → Option Value) (s : Shared) (C : Addr) (oC : Obj) (keep : Led) (R : Value → Value → Prop) (y : Value) (s' : Shared) : Prop
  | mk (h' : Heap) (tk : Nat) (pr : Addr) (a b : Value) : s' = { s with heap := h', toks := tk } → y = .ref pr → Fr h₀ L h' m → News h₀ L h' ((pr, tupO [a, b] 0) :: (C, oC) :: keep) → R a b → PairEnd h₀ L m s C oC keep R y s'
theorem PairEnd.intro {h₀ : Heap} {L : Addr} {m : Str → Option Value} {s : Shared} {C : Addr} {oC : Obj} {keep : Led} {R : Value → Value → Prop} {pr : Addr} {a b : Value} {h' : Heap} {tk : Nat} (F : Fr h₀ L h' m) (N : News h₀ L h' ((pr, tupO [a, b] 0) :: (C, oC) :: keep)) (r : R a b) :
    PairEnd h₀ L m s C oC keep R (.ref pr) { s with heap := h', toks := tk } := ⟨h', tk, pr, a, b, rfl, rfl, F, N, r⟩

inductive SrcEn (prog : Program) (w : World) (A : Around) (h₀ : Heap) (L : Addr) (m : Str → Option Value) (env : Env) (elt : PySem.Expr) (x x₂ y : Str) (scope : Scope) (cl : List (Str × Addr)) (Q : Flow → Shared → Prop) (xv : Value) (s₁ : Shared) : Prop
  | mk (it ax : Addr) (us : List Value) (ne : Nat) (news : Led) (R : Nat → Value → Value → Value → Prop) : xv = .ref (it + 1) → A.handled = none → Fr h₀ L s₁.heap m → IsEnum s₁.heap (it + 1) it 0 .none → s₁.heap.get? it = some (titO ax 0) → s₁.heap.objs.size = it + 2 → News h₀ L s₁.heap news → (ax, tupO us ne) ∈ news →
    (∀ p ∈ news, p.1 < it) → us.length ≤ 1000 → L < it → (∀ a, it ≤ a → h₀.get? a = none) →
    (∀ i v t C oC m₂ keep h tk (E' : Value → Shared → Prop), us[i]? = some v → NsObj oC m₂ → m₂ x = some (.int ((i : Nat) : Int) t) → m₂ x₂ = some v → Fr h₀ L h m → News h₀ L h ((C, oC) :: keep) →
      wpAny (model prog w) A (eval elt (compEnvC scope cl C env)) (PairEnd h₀ L m { s₁ with heap := h, toks := tk } C oC keep (R i v)) E' { s₁ with heap := h, toks := tk }) →
    (∀ D h tk ps led, PairsLed R us 0 ps led → Fr h₀ L h (fun z => if z = y then some (.ref D) else m z) → News h₀ L h ((D, lst ps) :: (led ++ news)) → Q .next { s₁ with heap := h, toks := tk }) →
    SrcEn prog w A h₀ L m env elt x x₂ y scope cl Q xv s₁

inductive EnInv (h₀ : Heap) (L : Addr) (m : Str → Option Value) (s₁ : Shared) (it ax : Addr) (us : List Value) (news : Led) (R : Nat → Value → Value → Value → Prop) (k : Nat) (s' : Shared) : Prop
  | mk (h' : Heap) (tk i : Nat) (ps : List Value) (led : Led) (m' : Str → Option Value) (old : Value) : s' = { s₁ with heap := h', toks := tk } → i ≤ us.length → k = us.length + 1 - i → ps.length = i → PairsLed R (us.take i) 0 ps led → IsEnum h' (it + 1) it ((i : Nat) : Int) old →
    h'.get? it = some (titO ax i) → Fr h₀ L h' m → h'.Ns (it + 3) m' → News h₀ L h' ((it + 2, lst ps) :: (led ++ news)) → (∀ p ∈ led, p.1 ≠ it ∧ p.1 ≠ it + 1 ∧ p.1 ≠ it + 2 ∧ p.1 ≠ it + 3) → EnInv h₀ L m s₁ it ax us news R k s'
theorem apartE {a it : Nat} (h : a < it) : (a ≠ it) ∧ (a ≠ it + 1) ∧ (a ≠ it + 2) ∧ (a ≠ it + 3) := by refine ⟨?_, ?_, ?_, ?_⟩ <;> omega
theorem apartF (it : Nat) : (it + 1 ≠ it) ∧ (it + 2 ≠ it) ∧ (it + 3 ≠ it) ∧ (it + 2 ≠ it + 1) ∧ (it + 3 ≠ it + 1) ∧ (it + 3 ≠ it + 2) := by refine ⟨?_, ?_, ?_, ?_, ?_, ?_⟩ <;> omega
theorem ne_cls {h : Heap} {a b : Addr} {o o' : Obj} (e : h.get? a = some o) (e' : h.get? b = some o') (hc : o.cls ≠ o'.cls) : a ≠ b := fun q => by
  subst q; rw [e] at e'; cases e'; exact hc rfl
theorem ne_dat {h : Heap} {a b : Addr} {o o' : Obj} {xs : Array Value} {n : Nat} {es : Array DictEntry} {k : Nat} (e : h.get? a = some o) (e' : h.get? b = some o') (hc : o.data = .seq xs n) (hd : o'.data = .dict es k) : a ≠ b := fun q => by
  subst q; rw [e] at e'; cases e'; rw [hc] at hd; cases hd

section
variable {prog : Program} {w : World} {A : Around} {E : Value → Shared → Prop} {s : Shared} {h₀ : Heap} {L : Addr} {m : Str → Option Value} {env : Env}
theorem assign_enum {elt iter : PySem.Expr} {x x₂ y : Str} {px px₂ tp py : Pos} {tk} {scope : Scope} {cl : List (Str × Addr)} {pos spos : Pos} {Q : Flow → Shared → Prop} (_F₀ : Fr h₀ L s.heap m) (hLe : env.locals = L)
    (hsw : swapsWith (.ListComp elt [⟨.Tuple [.Name x px, .Name x₂ px₂] tk tp, iter, [], 0⟩] scope pos) (some (.Name y py)) spos.line env = pure true)
    (hclos : closureFor scope env = pure cl) (hcell : ∀ z ∈ scope.names, z.2 ≠ .cell) (hkind : scope.kind = .function)
    (hnames : ∀ z ∈ scope.names, z.2 = .local → scope.names.lookup z.1 = some .local) (hx : scope.names.lookup x = some .local) (hx₂ : scope.names.lookup x₂ = some .local) (hxx : x ≠ x₂)
    (hy : env.kindOf y = some .local) (hp : (env.scope.kind == .class || (env.scope.kind == .module && env.locals != env.globals)) = false)
    (h : wpAny (model prog w) A (eval iter env) (SrcEn prog w A h₀ L m env elt x x₂ y scope cl Q) E s)
    (hs : ∀ x, foldedSetIterable iter env x = pure x := by intro _; rfl) :
    wpAny (model prog w) A (exec (.Assign [.Name y py] (.ListComp elt [⟨.Tuple [.Name x px, .Name x₂ px₂] tk tp, iter, [], 0⟩] scope pos) spos) env) Q E s := by
  subst hLe
  rw [exec_Assign_Name_used _ _ _ _ hsw]
  refine wpAny_bind (wpAny_standAt (wpAny_bind ?_))
  show wpAny _ A (do let _ ← comprehension (.ListComp elt [⟨.Tuple [.Name x px, .Name x₂ px₂] tk tp, iter, [], 0⟩] scope pos) scope env _ (newList []) false (eval iter env) (some (assign (.Name y py) env))) _ _ s
  refine wpAny_bind (wpAny_mono (wpAny_comprehension_free (use := some (assign (.Name y py) env)) (Q := fun _ s' => Q .next s') rfl hs hclos hkind hnames
    (wpAny_mono h (fun xv s₁ h₁ => ?_) fun _ _ e => e)) (fun _ s' hq => wpAny_pure (wpAny_pure hq)) fun _ _ e => e)
  obtain ⟨it, ax, us, ne, news, R, rfl, hh, F, he, hi, hz, N, hm, hlt, hsz, hL, H0, turn, done⟩ := h₁
  refine wpAny_pyIter_enum he ?_
  refine wpAny_newObj_type (wpAny_newFunctionEnv hcell (by intro y hy; simp at hy) (fun h₁ hns₁ hsb₁ => ?_) hkind)
  dsimp only at hns₁ hsb₁ ⊢
  generalize hH2 : s₁.heap.push { cls := .type "list", dict := none, data := .seq ([] : List Value).toArray } = H2 at hns₁ hsb₁ ⊢
  have hC : H2.objs.size = it + 3 := by rw [← hH2, Heap.size_push, hz]
  rw [hC] at hns₁ hsb₁ ⊢
  rw [hz]
  have old : ∀ b o, s₁.heap.get? b = some o → h₁.get? b = some o := fun b o e =>
    hsb₁.extBut b o (Nat.ne_of_lt (Nat.lt_succ_of_lt (by have := Heap.lt_size e; rw [hz] at this; exact this))) (Heap.get?_push_of_some _ (hH2 ▸ Heap.get?_push_of_some _ e))
  have hacc : h₁.get? (it + 2) = some (lst []) := hsb₁.extBut _ _ (Nat.ne_of_lt (Nat.lt_succ_self _)) (Heap.get?_push_of_some _ (hH2 ▸ by rw [← hz]; exact Heap.get?_push_size _ rfl))
  have nn : ∀ p ∈ news, p.1 ≠ it ∧ p.1 ≠ it + 1 ∧ p.1 ≠ it + 2 ∧ p.1 ≠ it + 3 := fun p hp => apartE (hlt p hp)
  have lI := apartE hL
  have aF := apartF it
  have hax : ax ≠ it := (nn _ hm).1
  have loop : ∀ s₃ : Shared, s₃ = { s₁ with heap := h₁, toks := s₁.toks + ([] : List (Str × Value)).length } →
      codeAny (model prog w) A (.compLoop (.ListComp elt [⟨.Tuple [.Name x px, .Name x₂ px₂] tk tp, iter, [], 0⟩] scope pos) 0 (.ref (it + 1)) (.ref (it + 2)) (compEnvC scope cl (it + 3) env))
        (compPost (model prog w) A E (some (assign (.Name y py) env)) (fun _ s' => Q .next s') (.ref (it + 2)) (it + 3)) s₃ := by
    rintro s₃ rfl
    refine LCp.codeAny_compLoop_pair
      (EnInv h₀ env.locals m s₁ it ax us news R) ?_ (us.length + 1)
      ⟨h₁, _, 0, [], [], _, _, rfl, Nat.zero_le _, rfl, rfl, ⟨rfl, rfl⟩, old _ _ he, old _ _ hi, F.keeps old, hns₁, fun p hp => ?_, fun _ hp => nomatch hp⟩
    · rintro k s' ⟨h', tk', i, ps, led, m', old', rfl, hil, rfl, hpl, hPL, he', hi', F', hn', N', hoff⟩
      have hall : ∀ p ∈ led ++ news, p.1 ≠ it ∧ p.1 ≠ it + 1 ∧ p.1 ≠ it + 2 ∧ p.1 ≠ it + 3 := fun p hp => (List.mem_append.mp hp).elim (hoff p) (nn p)
      have Dr := drawsT (prog := prog) (w := w) (A := A.in1) hh it ax hax us ne
      have hat' : h'.get? ax = some (tupO us ne) := (N' _ (List.mem_cons_of_mem _ (List.mem_append_right _ hm))).1
      by_cases hlt' : i < us.length
      · refine wpAny_pyNext_enum_itemD Dr he' ⟨hi', hat'⟩ hlt' (Nat.succ_ne_self it) (by simp [Ne.symm (nn _ hm).2.1]) fun v h₂ tk₂ hPv ho₂ hst₂ hT₂ hz₂ hk₂ => ?_
        refine wpAny_letOwnedTupleGo_enum ho₂ fun h₃ he₃ hs₃ => ?_
        have hTe : h'.objs.size ≠ it + 1 := Nat.ne_of_gt (Heap.lt_size he')
        have ht₃ : IsTup h₃ h'.objs.size #[.int ((i : Nat) : Int) tk₂, v] := ⟨_, hs₃.extBut _ _ hTe hT₂, rfl, _, rfl⟩
        refine assign_Tuple_tuple hh ht₃ rfl rfl fun h₅ he₅ => ?_
        have k5 : ∀ b o, b ≠ it + 1 → b ≠ it → h'.get? b = some o → h₅.get? b = some o := fun b o h1 h2 e => by
          have := hs₃.extBut _ _ h1 (hk₂ b o h1 h2 e)
          exact he₅ b o (Nat.ne_of_lt (Heap.lt_size this)) this
        have he5 : IsEnum h₅ (it + 1) it ((i + 1 : Nat) : Int) v := by
          have := he₅ _ _ (Nat.ne_of_lt (Heap.lt_size he₃)) he₃
          show h₅.get? (it + 1) = _
          rw [this]; simp
        have hi5 : h₅.get? it = some (titO ax (i + 1)) := by
          have := hs₃.extBut _ _ (Nat.succ_ne_self it).symm hst₂.1
          exact he₅ _ _ (Nat.ne_of_lt (Heap.lt_size this)) this
        have hn5 : h₅.Ns (it + 3) m' := hn'.at' fun o e => k5 _ o aF.2.2.2.2.1 aF.2.2.1 e
        refine assignInOrder_cons (wpAny_assign_Name (wpAny_storeName_local (lookup_relabel_local hx) hn5 (fun h₆ hn₆ hs₆ => ?_) (by simp [compEnvC, relabel, hkind])))
        refine assignInOrder_cons (wpAny_assign_Name (wpAny_storeName_local (lookup_relabel_local hx₂) hn₆ (fun h₇ hn₇ hs₇ => ?_) (by simp [compEnvC, relabel, hkind])))
        refine assignInOrder_nil ?_
        have k7 : ∀ b o, b ≠ it + 3 → h₅.get? b = some o → h₇.get? b = some o := fun b o h1 e => hs₇.extBut b o h1 (hs₆.extBut b o h1 e)
        have he7 := k7 _ _ aF.2.2.2.2.1.symm he5
        have hi7 := k7 _ _ aF.2.2.1.symm hi5
        obtain ⟨oC, heC, hoC⟩ := ns_obj hn₇
        have F₅ : Fr h₀ env.locals h₅ m := by
          obtain ⟨oL, es, ep, g1, g2, g3, g4⟩ := F'.ns
          refine ⟨⟨oL, es, ep, k5 _ _ lI.2.1 lI.1 g1, g2, g3, g4⟩, fun b o e => ?_, F'.above⟩
          exact k5 b o (fun q => by rw [q, H0 _ (Nat.le_succ _)] at e; cases e) (fun q => by rw [q, H0 _ (Nat.le_refl _)] at e; cases e) (F'.keep b o e)
        have F₇ : Fr h₀ env.locals h₇ m := (F₅.change hs₆ lI.2.2.2.symm (H0 _ (Nat.le_add_right _ _))).change hs₇ lI.2.2.2.symm (H0 _ (Nat.le_add_right _ _))
        have N₇ : News h₀ env.locals h₇ ((it + 3, oC) :: (it + 1, _) :: (it, titO ax (i + 1)) :: (it + 2, lst ps) :: (led ++ news)) := fun p hp => by
          rcases List.mem_cons.mp hp with rfl | hp
          · exact ⟨heC, lI.2.2.2.symm, H0 _ (Nat.le_add_right _ _)⟩
          · rcases List.mem_cons.mp hp with rfl | hp
            · exact ⟨he7, lI.2.1.symm, H0 _ (Nat.le_succ _)⟩
            · rcases List.mem_cons.mp hp with rfl | hp
              · exact ⟨hi7, lI.1.symm, H0 _ (Nat.le_refl _)⟩
              · have q : p.1 ≠ it ∧ p.1 ≠ it + 1 ∧ p.1 ≠ it + 3 := by
                  rcases List.mem_cons.mp hp with rfl | hp
                  · exact ⟨aF.2.1, aF.2.2.2.1, aF.2.2.2.2.2.symm⟩
                  · exact ⟨(hall p hp).1, (hall p hp).2.1, (hall p hp).2.2.2⟩
                exact ⟨k7 _ _ q.2.2 (k5 _ _ q.2.1 q.1 (N' p hp).1), (N' p hp).2⟩
        refine wpAny_mono (turn i v tk₂ (it + 3) oC _ _ h₇ _ _ hPv hoC (by simp [hxx]) (by simp) F₇ N₇) (fun yv s₄ h₄ => ?_) fun _ _ e => e
        obtain ⟨h₄, tk₄, pr, a, b, rfl, rfl, F₄, N₄, r⟩ := h₄
        have zp := (N₄ _ (.head _)).1
        have zC := (N₄ _ (.tail _ (.head _))).1
        have ze := (N₄ _ (.tail _ (.tail _ (.head _)))).1
        have zi := (N₄ _ (.tail _ (.tail _ (.tail _ (.head _))))).1
        have zD := (N₄ _ (.tail _ (.tail _ (.tail _ (.tail _ (.head _)))))).1
        have zn : ∀ p ∈ led ++ news, h₄.get? p.1 = some p.2 := fun p hp => (N₄ p (.tail _ (.tail _ (.tail _ (.tail _ (.tail _ hp)))))).1
        have hpr : pr ≠ it ∧ pr ≠ it + 1 ∧ pr ≠ it + 2 ∧ pr ≠ it + 3 := by
          refine ⟨ne_cls zp zi (show Value.type "tuple" ≠ Value.type "tuple_iterator" by decide), ne_cls zp ze (show Value.type "tuple" ≠ Value.type "enumerate" by decide), ne_cls zp zD (show Value.type "tuple" ≠ Value.type "list" by decide), ?_⟩
          obtain ⟨es, ep, hd, _⟩ := hoC
          exact ne_dat zp zC rfl hd
        refine append_at (hsz := by show ps.toArray.size ≤ sizeLine; rw [List.size_toArray, hpl]; exact Nat.le_trans (show i ≤ 1000 by omega) (by decide)) zD fun h₈ hs₈ hD₈ => ?_
        refine ⟨us.length + 1 - (i + 1), by omega, h₈, tk₄, i + 1, ps ++ [.ref pr], led ++ [(pr, tupO [a, b] 0)], _, _, rfl, hlt', rfl, by rw [List.length_append, List.length_singleton, hpl], ?_, hs₈.extBut _ _ aF.2.2.2.1.symm ze, hs₈.extBut _ _ aF.2.1.symm zi,
          F₄.change hs₈ lI.2.2.1.symm (H0 _ (Nat.le_add_right _ _)), (hoC.ns zC).sameBut hs₈ aF.2.2.2.2.2, fun p hp => ?_, fun p hp => ?_⟩
        · rw [List.take_add_one, hPv]
          exact hPL.snoc (by rw [List.length_take, Nat.min_eq_left hil, Nat.zero_add]; exact r)
        · rcases List.mem_cons.mp hp with rfl | hp
          · exact ⟨hD₈.trans (congrArg some (lst_snoc ps (.ref pr))), lI.2.2.1.symm, H0 _ (Nat.le_add_right _ _)⟩
          · have hp' : p = (pr, tupO [a, b] 0) ∨ p ∈ led ++ news := by
              rcases List.mem_append.mp hp with hp | hp
              · rcases List.mem_append.mp hp with hp | hp
                · exact .inr (List.mem_append_left _ hp)
                · exact .inl (List.mem_singleton.mp hp)
              · exact .inr (List.mem_append_right _ hp)
            rcases hp' with rfl | hp'
            · exact ⟨hs₈.extBut _ _ hpr.2.2.1 zp, (N₄ _ (.head _)).2⟩
            · exact ⟨hs₈.extBut _ _ (hall p hp').2.2.1 (zn p hp'), (N' p (.tail _ hp')).2⟩
        · rcases List.mem_append.mp hp with hp | hp
          · exact hoff p hp
          · rw [List.mem_singleton.mp hp]; exact hpr
      · obtain rfl : i = us.length := Nat.le_antisymm hil (Nat.not_lt.mp hlt')
        refine wpAny_pyNext_enum_endD Dr he' ⟨hi', hat'⟩ fun h₂ hx₂' => ?_
        have F₂ : Fr h₀ env.locals h₂ m := fr_but F' (fun b o hb e => hx₂' b o (by simpa using hb) e) lI.1 (H0 _ (Nat.le_refl _))
        show wpAny _ A (assign (.Name y py) env (.ref (it + 2))) _ _ _
        refine wpAny_assign_Name (wpAny_storeName_local hy F₂.ns (fun h₃ hn₃ hs₃ => ?_) hp)
        have hL₀ : h₀.get? env.locals = none := Heap.get?_none_of_le F'.above
        have F₃ : Fr h₀ env.locals h₃ (fun z => if z = y then some (.ref (it + 2)) else m z) := ⟨hn₃, fun b o e => hs₃.extBut b o (fun q => by rw [q, hL₀] at e; cases e) (F₂.keep b o e), F₂.above⟩
        refine ⟨m', (hn'.at' fun o e => hx₂' _ o aF.2.2.1 e).sameBut hs₃ lI.2.2.2.symm, fun h'' hs'' => done (it + 2) h'' _ ps led (by rw [List.take_length] at hPL; exact hPL) (F₃.change hs'' lI.2.2.2.symm (H0 _ (Nat.le_add_right _ _))) (fun p hp => ?_)⟩
        have q : p.1 ≠ it ∧ p.1 ≠ it + 3 := by
          rcases List.mem_cons.mp hp with rfl | hp
          · exact ⟨aF.2.1, aF.2.2.2.2.2.symm⟩
          · exact ⟨(hall p hp).1, (hall p hp).2.2.2⟩
        exact ⟨hs''.extBut _ _ q.2 (hs₃.extBut _ _ (N' p hp).2.1 (hx₂' _ _ q.1 (N' p hp).1)), (N' p hp).2⟩
    · rcases List.mem_cons.mp hp with rfl | hp
      · exact ⟨hacc, lI.2.2.1.symm, H0 _ (Nat.le_add_right _ _)⟩
      · exact ⟨old _ _ (N p hp).1, (N p hp).2⟩
  exact codeAny_compStart_list (loop _ rfl) (wpAny_pyIter_enum (old _ _ he) (loop _ rfl))
end
end Mine
namespace Mine
open PySem PySem.W PySem.Calls PyProof.Rows PySem.Spec PyProof.Rows.LCg

theorem PairsLed.one {R : Nat → Value → Value → Value → Prop} {u : Value} {j : Nat} {ps : List Value} {led : Led} (h : PairsLed R [u] j ps led) : ∃ p a b, ps = [.ref p] ∧ led = [(p, tupO [a, b] 0)] ∧ R j u a b := by
  obtain ⟨p, a, b, ps', led', e1, e2, r, e3, e4⟩ := h
  subst e3 e4; exact ⟨p, a, b, e1, e2, r⟩
theorem PairsLed.two {R : Nat → Value → Value → Value → Prop} {u v : Value} {j : Nat} {ps : List Value} {led : Led} (h : PairsLed R [u, v] j ps led) :
    ∃ p q a b c d, ps = [.ref p, .ref q] ∧ led = [(p, tupO [a, b] 0), (q, tupO [c, d] 0)] ∧ R j u a b ∧ R (j + 1) v c d := by
  obtain ⟨p, a, b, ps', led', e1, e2, r, k⟩ := h
  obtain ⟨q, c, d, e3, e4, r'⟩ := PairsLed.one k
  subst e3 e4; exact ⟨p, q, a, b, c, d, e1, e2, r, r'⟩
theorem PairsLed.three {R : Nat → Value → Value → Value → Prop} {u v x : Value} {j : Nat} {ps : List Value} {led : Led} (h : PairsLed R [u, v, x] j ps led) :
    ∃ p q o a b c d e f, ps = [.ref p, .ref q, .ref o] ∧ led = [(p, tupO [a, b] 0), (q, tupO [c, d] 0), (o, tupO [e, f] 0)] ∧ R j u a b ∧ R (j + 1) v c d ∧ R (j + 2) x e f := by
  obtain ⟨p, a, b, ps', led', e1, e2, r, k⟩ := h
  obtain ⟨q, o, c, d, e, f, e3, e4, r', r''⟩ := PairsLed.two k
  subst e3 e4; exact ⟨p, q, o, a, b, c, d, e, f, e1, e2, r, r', r''⟩
def R1 (i : Nat) (v a b : Value) : Prop := (∃ t, a = .int (((i : Nat) : Int) + 1) t) ∧ b = v
def R2 (i : Nat) (v a b : Value) : Prop := a = v ∧ ∃ t, b = .int (((i : Nat) : Int) + 1) t

section
variable {prog : Program} {w : World} {A : Around} {E : Value → Shared → Prop} {s : Shared} {h₀ : Heap} {L : Addr} {m : Str → Option Value} {env : Env}
theorem enum_src (R : Nat → Value → Value → Value → Prop) {elt : PySem.Expr} {x x₂ y : Str} {scope : Scope} {cl : List (Str × Addr)} {Q : Flow → Shared → Prop} {ax : Addr} {us : List Value} {ne : Nat} {news : Led}
    (hh : A.handled = none) (F : Fr h₀ L s.heap m) (N : News h₀ L s.heap news) (hm : (ax, tupO us ne) ∈ news) (hsz : us.length ≤ 1000)
    (turn : ∀ i v t C oC m₂ keep h tk (E' : Value → Shared → Prop), us[i]? = some v → NsObj oC m₂ → m₂ x = some (.int ((i : Nat) : Int) t) → m₂ x₂ = some v → Fr h₀ L h m → News h₀ L h ((C, oC) :: keep) →
      wpAny (model prog w) A (eval elt (compEnvC scope cl C env)) (PairEnd h₀ L m { s with heap := h, toks := tk } C oC keep (R i v)) E' { s with heap := h, toks := tk })
    (done : ∀ D h tk ps led, PairsLed R us 0 ps led → Fr h₀ L h (fun z => if z = y then some (.ref D) else m z) → News h₀ L h ((D, lst ps) :: (led ++ news)) → Q .next { s with heap := h, toks := tk }) :
    wpAny (model prog w) A (call (.type "enumerate") [.ref ax]) (SrcEn prog w A h₀ L m env elt x x₂ y scope cl Q) E s := by
  refine call_enumT (N _ hm).1 fun h' he hi hz hk => ?_
  refine ⟨s.heap.objs.size, ax, us, ne, news, R, rfl, hh, F.keeps hk, he, hi, hz, fun p hp => ⟨hk _ _ (N p hp).1, (N p hp).2⟩, hm, fun p hp => Heap.lt_size (N p hp).1, hsz, F.ns.lt, fun a ha => ?_, turn, done⟩
  cases e : h₀.get? a with
  | none => rfl
  | some o' => exact absurd (Heap.lt_size (F.keep a o' e)) (Nat.not_lt.mpr ha)
end
end Mine
namespace Mine
open PySem PySem.W PySem.Calls PyProof.Rows PySem.Spec PyProof.Rows.LCg SeqAt

/-- refs to pairs of ints -/
inductive PairsOf (news : Led) : List Value → List (Int × Int) → Prop
  | nil : PairsOf news [] []
  | cons {p : Addr} {a b : Int} {t u : Tok} {vs : List Value} {ks : List (Int × Int)} : (p, tupO [.int a t, .int b u] 0) ∈ news → PairsOf news vs ks → PairsOf news (.ref p :: vs) ((a, b) :: ks)
theorem PairsOf.length {news : Led} {vs : List Value} {ks : List (Int × Int)} (h : PairsOf news vs ks) : vs.length = ks.length := by
  induction h with
  | nil => rfl
  | cons _ _ ih => simp [ih]
theorem PairsOf.get {news : Led} {vs : List Value} {ks : List (Int × Int)} (h : PairsOf news vs ks) : ∀ i, i < ks.length → ∃ p t u, vs.getD i Value.none = .ref p ∧ (p, tupO [.int (ks.getD i (0, 0)).1 t, .int (ks.getD i (0, 0)).2 u] 0) ∈ news := by
  induction h with
  | nil => intro i hi; cases hi
  | @cons p a b t u vs ks hm _ ih =>
    intro i hi
    cases i with
    | zero => exact ⟨p, t, u, rfl, hm⟩
    | succ i => simpa using ih i (by simpa using hi)
theorem PairsOf.of_map {news : Led} {vs : List Value} {ks : List (Int × Int)} (h : PairsOf news vs ks) : ∀ ix : List Nat, (∀ i ∈ ix, i < ks.length) → PairsOf news (ix.map fun i => vs.getD i Value.none) (ix.map fun i => ks.getD i (0, 0))
  | [], _ => .nil
  | i :: ix, hx => by
    obtain ⟨p, t, u, e, hm⟩ := h.get i (hx i (.head _))
    simp only [List.map_cons]
    rw [e]
    exact .cons hm (of_map h ix fun j hj => hx j (.tail _ hj))
theorem PairsOf.weak {news news' : Led} {vs : List Value} {ks : List (Int × Int)} (h : PairsOf news vs ks) (hs : ∀ p ∈ news, p ∈ news') : PairsOf news' vs ks := by
  induction h with
  | nil => exact .nil
  | cons hm _ ih => exact .cons (hs _ hm) ih

def runT {α : Type} : KasT α → (Nat → Nat → Bool) → α
  | .ret a, _ => a
  | .ask i j k, f => runT (k (f i j)) f
def okT : KasT (Array Nat) → Nat → Bool
  | .ret p, n => (p.toList.all fun i => decide (i < n)) && decide (p.toList.length = n)
  | .ask i j k, n => decide (i < n) && decide (j < n) && okT (k true) n && okT (k false) n
theorem okT_run {n : Nat} {f : Nat → Nat → Bool} : ∀ (t : KasT (Array Nat)), okT t n = true → ∀ i ∈ (runT t f).toList, i < n
  | .ret p, h, i, hi => by
    simp only [okT, Bool.and_eq_true, List.all_eq_true, decide_eq_true_eq] at h
    exact h.1 i hi
  | .ask a b k, h, i, hi => by
    simp only [okT, Bool.and_eq_true] at h
    cases e : f a b with
    | true => exact okT_run (k true) h.1.2 i (by simpa [runT, e] using hi)
    | false => exact okT_run (k false) h.2 i (by simpa [runT, e] using hi)
theorem okT_len {n : Nat} {f : Nat → Nat → Bool} : ∀ (t : KasT (Array Nat)), okT t n = true → (runT t f).toList.length = n
  | .ret p, h => by
    simp only [okT, Bool.and_eq_true, decide_eq_true_eq] at h
    exact h.2
  | .ask a b k, h => by
    simp only [okT, Bool.and_eq_true] at h
    cases e : f a b with
    | true => have q := okT_len (f := f) (k true) h.1.2; simpa [runT, e] using q
    | false => have q := okT_len (f := f) (k false) h.2; simpa [runT, e] using q
theorem okT_wp {n : Nat} {f : Nat → Nat → Bool} {cmp : Nat → Nat → (Bool → Shared → Prop) → Shared → Prop} {G : Array Nat → Shared → Prop} {s : Shared} (hask : ∀ i j (C : Bool → Shared → Prop), i < n → j < n → C (f i j) s → cmp i j C s) :
    ∀ (t : KasT (Array Nat)), okT t n = true → G (runT t f) s → t.kasWp cmp G s
  | .ret p, _, h => h
  | .ask a b k, ok, h => by
    simp only [okT, Bool.and_eq_true, decide_eq_true_eq] at ok
    refine hask a b _ ok.1.1.1 ok.1.1.2 ?_
    have h' : G (runT (k (f a b)) f) s := h
    cases e : f a b with
    | true => rw [e] at h'; exact okT_wp hask (k true) ok.1.2 h'
    | false => rw [e] at h'; exact okT_wp hask (k false) ok.2 h'
def lexB (x y : Int × Int) : Bool := if x.1 = y.1 then decide (x.2 < y.2) else decide (x.1 < y.1)
def lexF (ks : List (Int × Int)) (i j : Nat) : Bool := lexB (ks.getD i (0, 0)) (ks.getD j (0, 0))
def sortP (ks : List (Int × Int)) : List (Int × Int) := if ks.length < 2 then ks else (runT (kas_sort ks.length) (lexF ks)).toList.map fun i => ks.getD i (0, 0)
theorem ok_two : okT (kas_sort 2) 2 = true := by decide +kernel
theorem ok_three : okT (kas_sort 3) 3 = true := by decide +kernel
theorem sortP_len (ks : List (Int × Int)) (h : ks.length ≤ 3) : (sortP ks).length = ks.length := by
  unfold sortP
  split
  · rfl
  · rw [List.length_map]
    rcases (show ks.length = 2 ∨ ks.length = 3 by omega) with e | e
    · rw [e]; exact okT_len _ ok_two
    · rw [e]; exact okT_len _ ok_three

section
variable {prog : Program} {w : World} {A : Around} {E : Value → Shared → Prop} {s : Shared} {h₀ : Heap} {L : Addr} {m : Str → Option Value} {news : Led}
theorem ask_pair {vs : List Value} {ks : List (Int × Int)} {i j : Nat} {C : Bool → Shared → Prop} (N : News h₀ L s.heap news) (P : PairsOf news vs ks) (hi : i < ks.length) (hj : j < ks.length) (h : C (lexF ks i j) s) : kas_ask prog w A (tuples' true) vs i j C s := by
  obtain ⟨p, t, u, e, hm⟩ := P.get i hi
  obtain ⟨q, t', u', e', hm'⟩ := P.get j hj
  unfold kas_ask
  rw [e, e']
  unfold lexF lexB at h
  generalize (ks.getD i (0, 0)).1 = a at *
  generalize (ks.getD i (0, 0)).2 = b at *
  generalize (ks.getD j (0, 0)).1 = c at *
  generalize (ks.getD j (0, 0)).2 = d at *
  refine kat_lt (N.get hm) rfl (N.get hm') rfl ?_
  show KatLex _ _ _ _ _ _ [(Value.int a t, Value.int c t'), (Value.int b u, Value.int d u')] 0 s
  refine kat_cons (wpAny_eqBool_int (kat_go (fun h1 => ?_) fun h1 => ?_))
  · rw [if_pos (by simpa using h1)] at h
    refine kat_yes (kat_cons (wpAny_eqBool_int (kat_go (fun h2 => kat_yes (kat_nil ?_)) fun h2 => kat_no ?_)))
    · have hbd : b = d := by simpa using h2
      rw [decide_eq_false (by omega)] at h
      exact h
    · show wpAny _ _ (oneLt' false _ _) _ _ _
      exact kat_one _ _ (lt_int h)
  · rw [if_neg (by simpa using h1)] at h
    refine kat_no ?_
    show wpAny _ _ (oneLt' true _ _) _ _ _
    exact oneLt_int h

theorem tups_of {vs : List Value} {ks : List (Int × Int)} (N : News h₀ L s.heap news) (P : PairsOf news vs ks) : ∃ fs, KatTups s.heap vs fs ∧ fs.length = ks.length ∧ ∀ v ∈ fs, ∃ (a : Int) (t : Tok), v = .int a t := by
  induction P with
  | nil => exact ⟨[], .nil, rfl, fun _ h => nomatch h⟩
  | @cons p a b t u vs ks hm _ ih =>
    obtain ⟨fs, k, hl, hv⟩ := ih
    refine ⟨.int a t :: fs, .cons (N.get hm) rfl rfl rfl k, by simp [hl], fun v hv' => ?_⟩
    rcases List.mem_cons.mp hv' with rfl | hv'
    · exact ⟨a, t, rfl⟩
    · exact hv v hv'

theorem sorted_pairs {l : Addr} {vs : List Value} {ks : List (Int × Int)} {e : Nat} {Q : Value → Shared → Prop} (F : Fr h₀ L s.heap m) (N : News h₀ L s.heap news) (hl : (l, listOf vs.toArray e) ∈ news) (P : PairsOf news vs ks) (h2 : 2 ≤ ks.length) (h64 : ks.length < 64)
    (ok : okT (kas_sort ks.length) ks.length = true)
    (h : ∀ D c out h', Fr h₀ L h' m → News h₀ L h' ((D, listOf (List.toArray out) c) :: news) → PairsOf news out (sortP ks) → Q (.ref D) { s with heap := h' }) : wpAny (model prog w) A (call (.builtin "sorted") [.ref l]) Q E s := by
  have hvl := P.length
  refine kat_sorted (vs := vs) F N ⟨_, (N _ hl).1, rfl, _, rfl⟩ (by omega) (by omega) fun D e1 h' F' N' l1 => ?_
  have N0 : News h₀ L h' news := fun p hp => N' p (.tail _ hp)
  obtain ⟨fs, kt, hfl, hfi⟩ := tups_of (s := { s with heap := h' }) N0 P
  refine kat_kind (T := .type "int") kt (by omega) (fun v hv => ?_) rfl ?_
  · obtain ⟨a, t, rfl⟩ := hfi v hv
    exact Looks.of_pure rfl
  rw [hvl]
  refine okT_wp (f := lexF ks) (n := ks.length) (fun i j C hi hj hc => ask_pair (s := { s with heap := h' }) N0 P hi hj hc) _ ok ?_
  refine KasFin.intro (s := { s with heap := h' }) F' N' (UpdF.head fun p hp => Nat.ne_of_lt (l1 p hp)) fun h'' c F'' N'' => h D c _ h'' F'' N'' ?_
  unfold sortP
  rw [if_neg (by omega)]
  exact P.of_map _ (okT_run _ ok)

theorem eqAt_pairs {vs ws : List Value} {ks js : List (Int × Int)} (N : News h₀ L s.heap news) (P : PairsOf news vs ks) (R : PairsOf news ws js) (i : Nat) (hi : i < ks.length) (hj : i < js.length) (hu : A.units < cLine) :
    EqAt A s (vs.getD i Value.none) (ws.getD i Value.none) (decide (ks.getD i (0, 0) = js.getD i (0, 0))) := by
  obtain ⟨p, t, u, e, hm⟩ := P.get i hi
  obtain ⟨q, t', u', e', hm'⟩ := R.get i hj
  rw [e, e']
  have r := eqAt_tups (A := A) (s := s) (xs := [(ks.getD i (0, 0)).1, (ks.getD i (0, 0)).2]) (ys := [(js.getD i (0, 0)).1, (js.getD i (0, 0)).2]) ⟨_, (N _ hm).1, rfl, _, rfl⟩ ⟨_, (N _ hm').1, rfl, _, rfl⟩ (.cons _ _ (.cons _ _ .nil)) (.cons _ _ (.cons _ _ .nil)) hu
  have e2 : decide ([(ks.getD i (0, 0)).1, (ks.getD i (0, 0)).2] = [(js.getD i (0, 0)).1, (js.getD i (0, 0)).2]) = decide (ks.getD i (0, 0) = js.getD i (0, 0)) := by
    rw [Bool.eq_iff_iff, decide_eq_true_eq, decide_eq_true_eq]
    constructor
    · intro h; simp only [List.cons.injEq, and_true] at h; exact Prod.ext h.1 h.2
    · intro h; rw [h]
  rw [e2] at r
  exact r

theorem eq_pairs {a b : Addr} {vs ws : List Value} {ks js : List (Int × Int)} {e1 e2 : Nat} {Q : Value → Shared → Prop} (N : News h₀ L s.heap news) (h1 : (a, listOf vs.toArray e1) ∈ news) (h2 : (b, listOf ws.toArray e2) ∈ news)
    (P : PairsOf news vs ks) (R : PairsOf news ws js) (hl : ks.length = js.length) (hu : A.units + 64 < cLine) (h : Q (.bool (decide (ks = js))) s) : wpAny (model prog w) A (compareOp .Eq (.ref a) (.ref b)) Q E s := by
  have l1 := P.length
  have l2 := R.length
  refine eq_listAt (e := fun i => decide (ks.getD i (0, 0) = js.getD i (0, 0))) ⟨_, (N _ h1).1, rfl, _, rfl⟩ ⟨_, (N _ h2).1, rfl, _, rfl⟩ (by simp; omega) (by omega) (fun j hj hj' => ?_) ?_
  · have hj1 : j < vs.length := by simpa using hj
    have hj2 : j < ws.length := by simpa using hj'
    have q := eqAt_pairs (A := A.in1) N P R j (by omega) (by omega) (by show A.units + 1 < cLine; omega)
    have g1 : vs.getD j Value.none = vs[j] := by simp [hj1]
    have g2 : ws.getD j Value.none = ws[j] := by simp [hj2]
    rw [g1, g2] at q
    simpa using q
  · have e : ((List.range vs.toArray.size).all fun i => decide (ks.getD i (0, 0) = js.getD i (0, 0))) = decide (ks = js) := by
      rw [Bool.eq_iff_iff, List.all_eq_true, decide_eq_true_eq]
      constructor
      · intro q
        refine List.ext_getElem hl fun i a1 a2 => ?_
        have := q i (by simp; omega)
        simpa [a1, a2] using this
      · intro q i _; subst q; simp
    rw [e]; exact h
end
end Mine
namespace Mine
open PySem PySem.W PySem.Calls PyProof.Rows PySem.Spec PyProof.Rows.LCg SeqAt

section
variable {prog : Program} {w : World} {A : Around} {E : Value → Shared → Prop} {s : Shared} {h₀ : Heap} {L : Addr} {m : Str → Option Value} {news : Led}
theorem lsort_one {a : Addr} {v : Value} {n : Nat} {P : PySem.Fin → Shared → Prop} (ho : s.heap.get? a = some (seqObj "list" [v].toArray n))
    (h : ∀ h', (∃ e, h'.get? a = some (seqObj "list" [v].toArray e)) → (∀ b o, b ≠ a → s.heap.get? b = some o → h'.get? b = some o) → P (.done (.ret .none)) { s with heap := h' }) :
    wpAny (model prog w) A (Builtin.«list.sort» ⟨[.ref a], []⟩) P E s := by
  rw [list_sort_plain]
  have ha : a < s.heap.objs.size := Heap.lt_size ho
  refine wpAny_bind (listItems_at ho rfl (wpAny_bind (listUpdate_at ho rfl ?_ (show 1 ≤ sizeLine by decide) (Nat.zero_le _))))
  obtain ⟨e1, ho1⟩ : ∃ e1, (s.heap.update a (Obj.mapSeq fun _ => (#[] : Array Value))).get? a = some (seqObj "list" #[] e1) := ⟨_, get?_update_seq ho (fun _ => #[])⟩
  refine wpAny_bind (seqEpoch_at ho1 rfl (wpAny_bind (wpAny_newTuple (wpAny_bind (wpAny_newList (wpAny_holding ?_) (Nat.zero_le _))) (show 1 ≤ sizeLine by decide))))
  have ho6 : (((s.heap.update a (Obj.mapSeq fun _ => (#[] : Array Value))).push (seqObj "tuple" [v].toArray 0)).push (seqObj "list" #[] 0)).get? a = some (seqObj "list" #[] e1) :=
    Heap.get?_push_of_some _ (Heap.get?_push_of_some _ ho1)
  have hk : ∀ b o, b ≠ a → s.heap.get? b = some o → (((s.heap.update a (Obj.mapSeq fun _ => (#[] : Array Value))).push (seqObj "tuple" [v].toArray 0)).push (seqObj "list" #[] 0)).get? b = some o := fun b o hb e =>
    Heap.get?_push_of_some _ (Heap.get?_push_of_some _ ((Heap.SameBut.update s.heap a _).extBut b o hb e))
  show wpAny (model prog w) A _ P E { s with heap := ((s.heap.update a (Obj.mapSeq fun _ => (#[] : Array Value))).push (seqObj "tuple" [v].toArray 0)).push (seqObj "list" #[] 0) }
  generalize ((s.heap.update a (Obj.mapSeq fun _ => (#[] : Array Value))).push (seqObj "tuple" [v].toArray 0)).push (seqObj "list" #[] 0) = hp at *
  dsimp only
  have hlt : [v].toArray.size < 2 := show 1 < 2 by decide
  rw [if_pos hlt, if_pos hlt]
  refine wpAny_bind (wpAny_pure ?_)
  rw [StateT.run_pure]
  refine wpAny_bind (wpAny_pure ?_)
  dsimp only
  have hz : Array.map (fun x : Keyed => x.2) (arrOf (SortSt.mk' general' ([v].toArray.zip [v].toArray) #[] 7 none)) = [v].toArray := by
    rw [show arrOf (SortSt.mk' general' ([v].toArray.zip [v].toArray) #[] 7 none) = [v].toArray.zip [v].toArray from rfl]
    simp
  refine wpAny_bind (seqEpoch_at ho6 rfl ?_)
  rw [hz]
  refine wpAny_bind (listUpdate_at ho6 rfl ?_ (Nat.zero_le _) (show 1 ≤ sizeLine + 1 by decide))
  simp only [bne_self_eq_false, Bool.false_eq_true, if_false]
  refine wpAny_pure (h _ ⟨_, get?_update_seq ho6 fun _ => [v].toArray⟩ fun b o hb e => (Heap.SameBut.update hp a _).extBut b o hb (hk b o hb e))

theorem sorted_one {l : Addr} {v : Value} {ks : List (Int × Int)} {e : Nat} {Q : Value → Shared → Prop} (F : Fr h₀ L s.heap m) (N : News h₀ L s.heap news) (hl : (l, listOf [v].toArray e) ∈ news) (P : PairsOf news [v] ks)
    (h : ∀ D c out h', Fr h₀ L h' m → News h₀ L h' ((D, listOf (List.toArray out) c) :: news) → PairsOf news out (sortP ks) → Q (.ref D) { s with heap := h' }) : wpAny (model prog w) A (call (.builtin "sorted") [.ref l]) Q E s := by
  have hks : ks.length = 1 := P.length.symm
  have hL : s.heap.IsList l [v].toArray := ⟨_, (N _ hl).1, rfl, _, rfl⟩
  refine Calls.call_function_entry kind_sorted plain_sorted entry_sorted (args_sorted1 _) ?_
  unfold Builtin.«sorted»
  refine wpAny_bind (m := checkCount "sorted" 1 1 _) (wpAny_pure ?_)
  refine wpAny_bind (collect_list hL ?_ (show 1 ≤ sizeLine by decide))
  refine wpAny_bind (wpAny_newList ?_ (show 1 ≤ sizeLine by decide))
  have hsz : ((s.heap.push (seqObj "list" #[] 0)).update s.heap.objs.size (Obj.mapSeq (· ++ [v].toArray))).objs.size = s.heap.objs.size + 1 := by
    rw [Heap.size_update, size_push']
  have hoL : (((s.heap.push (seqObj "list" #[] 0)).update s.heap.objs.size (Obj.mapSeq (· ++ [v].toArray))).push (seqObj "list" [v].toArray 0)).get? (s.heap.objs.size + 1) = some (seqObj "list" [v].toArray 0) := by
    rw [← hsz]; exact Heap.get?_push_size _ rfl
  have keep : ∀ b o, s.heap.get? b = some o → (((s.heap.push (seqObj "list" #[] 0)).update s.heap.objs.size (Obj.mapSeq (· ++ [v].toArray))).push (seqObj "list" [v].toArray 0)).get? b = some o := fun b o q => by
    have hlt : b < s.heap.objs.size := Heap.lt_size q
    exact Heap.get?_push_of_some _ ((Heap.SameBut.update _ s.heap.objs.size _).extBut b o (Nat.ne_of_lt hlt) (Heap.get?_push_of_some _ q))
  have hLs : L < s.heap.objs.size := F.ns.lt
  show wpAny _ _ _ _ _ { s with heap := ((s.heap.push (seqObj "list" #[] 0)).update s.heap.objs.size (Obj.mapSeq (· ++ [v].toArray))).push (seqObj "list" [v].toArray 0) }
  rw [hsz]
  generalize ((s.heap.push (seqObj "list" #[] 0)).update s.heap.objs.size (Obj.mapSeq (· ++ [v].toArray))).push (seqObj "list" [v].toArray 0) = hp at *
  refine wpAny_bind (wpAny_holding (wpAny_call_entry slot_list_sort ⟨_, hoL, rfl⟩ entry_list_sort (lsort_one (s := { s with heap := hp }) hoL fun h' ⟨c, hc⟩ hk => ?_) (args_list_sort _)))
  refine ⟨_, rfl, wpAny_pure ⟨_, rfl, ?_⟩⟩
  have old : ∀ b o, s.heap.get? b = some o → h'.get? b = some o := fun b o q => hk b o (Nat.ne_of_lt (Nat.lt_succ_of_lt (Heap.lt_size q))) (keep b o q)
  refine h (s.heap.objs.size + 1) c [v] h' (F.kept old) (fun p hp => ?_) (by unfold sortP; rw [if_pos (by omega)]; exact P)
  rcases List.mem_cons.mp hp with rfl | hp
  · exact ⟨hc, Nat.ne_of_gt (Nat.lt_succ_of_lt hLs), by
      cases q : h₀.get? (s.heap.objs.size + 1) with
      | none => rfl
      | some o => exact absurd (Heap.lt_size (F.keep _ _ q)) (Nat.not_lt.mpr (Nat.le_succ _))⟩
  · exact ⟨old _ _ (N p hp).1, (N p hp).2⟩
end
end Mine
namespace Mine
open PySem PySem.W

def nxt (t : KasT (Array Nat)) (c : Bool) : KasT (Array Nat) := match t with | .ret p => .ret p | .ask _ _ k => k c
def isAsk (t : KasT (Array Nat)) (i j : Nat) : Bool := match t with | .ret _ => false | .ask a b _ => decide (a = i) && decide (b = j)
def isRet (t : KasT (Array Nat)) (l : List Nat) : Bool := match t with | .ret p => decide (p.toList = l) | .ask _ _ _ => false
theorem run_ask {t : KasT (Array Nat)} {i j : Nat} {f : Nat → Nat → Bool} {c : Bool} {l : List Nat} (h1 : isAsk t i j = true) (h : f i j = c) (k : (runT (nxt t c) f).toList = l) : (runT t f).toList = l := by
  cases t with
  | ret p => cases h1
  | ask a b kk =>
    simp only [isAsk, Bool.and_eq_true, decide_eq_true_eq] at h1
    obtain ⟨rfl, rfl⟩ := h1
    show (runT (kk (f a b)) f).toList = l
    rw [h]; exact k
theorem run_ret {t : KasT (Array Nat)} {l : List Nat} {f : Nat → Nat → Bool} (h : isRet t l = true) : (runT t f).toList = l := by
  cases t with
  | ret p =>
    show p.toList = l
    simpa [isRet] using h
  | ask a b k => cases h
theorem run2T {f : Nat → Nat → Bool} (a : f 1 0 = true) : (runT (kas_sort 2) f).toList = [1, 0] := run_ask (by decide +kernel) a (run_ret (by decide +kernel))
theorem run2F {f : Nat → Nat → Bool} (a : f 1 0 = false) : (runT (kas_sort 2) f).toList = [0, 1] := run_ask (by decide +kernel) a (run_ret (by decide +kernel))
theorem run210 {f : Nat → Nat → Bool} (a : f 1 0 = true) (b : f 2 1 = true) : (runT (kas_sort 3) f).toList = [2, 1, 0] := run_ask (by decide +kernel) a (run_ask (by decide +kernel) b (run_ret (by decide +kernel)))
theorem run120 {f : Nat → Nat → Bool} (a : f 1 0 = true) (b : f 2 1 = false) (c : f 1 2 = true) (d : f 2 0 = true) : (runT (kas_sort 3) f).toList = [1, 2, 0] :=
  run_ask (by decide +kernel) a (run_ask (by decide +kernel) b (run_ask (by decide +kernel) c (run_ask (by decide +kernel) d (run_ask (by decide +kernel) d (run_ask (by decide +kernel) b (run_ret (by decide +kernel)))))))
theorem run102 {f : Nat → Nat → Bool} (a : f 1 0 = true) (b : f 2 1 = false) (c : f 1 2 = true) (d : f 2 0 = false) : (runT (kas_sort 3) f).toList = [1, 0, 2] :=
  run_ask (by decide +kernel) a (run_ask (by decide +kernel) b (run_ask (by decide +kernel) c (run_ask (by decide +kernel) d (run_ret (by decide +kernel)))))
theorem run012 {f : Nat → Nat → Bool} (a : f 1 0 = false) (b : f 2 1 = false) : (runT (kas_sort 3) f).toList = [0, 1, 2] := run_ask (by decide +kernel) a (run_ask (by decide +kernel) b (run_ret (by decide +kernel)))
theorem run201 {f : Nat → Nat → Bool} (a : f 1 0 = false) (b : f 2 1 = true) (c : f 0 1 = true) (d : f 2 0 = true) : (runT (kas_sort 3) f).toList = [2, 0, 1] :=
  run_ask (by decide +kernel) a (run_ask (by decide +kernel) b (run_ask (by decide +kernel) c (run_ask (by decide +kernel) b (run_ask (by decide +kernel) d (run_ret (by decide +kernel))))))
theorem run021 {f : Nat → Nat → Bool} (a : f 1 0 = false) (b : f 2 1 = true) (c : f 0 1 = true) (d : f 2 0 = false) : (runT (kas_sort 3) f).toList = [0, 2, 1] :=
  run_ask (by decide +kernel) a (run_ask (by decide +kernel) b (run_ask (by decide +kernel) c (run_ask (by decide +kernel) b (run_ask (by decide +kernel) d (run_ret (by decide +kernel))))))

theorem lex_lt {a b i j : Int} (h : a < b) : lexB (a, i) (b, j) = true := by unfold lexB; rw [if_neg (by show ¬ a = b; omega)]; simpa using h
theorem lex_gt {a b i j : Int} (h : b < a) : lexB (a, i) (b, j) = false := by unfold lexB; rw [if_neg (by show ¬ a = b; omega)]; simp; omega
theorem lex_ge {a b i j : Int} (h : ¬ a < b) (hij : ¬ i < j) : lexB (a, i) (b, j) = false := by
  unfold lexB
  by_cases e : a = b
  · rw [if_pos e]; simpa using hij
  · rw [if_neg e]; simpa using h
theorem lex_le {a b i j : Int} (h : a ≤ b) (hij : i < j) : lexB (a, i) (b, j) = true := by
  unfold lexB
  by_cases e : a = b
  · rw [if_pos e]; simpa using hij
  · rw [if_neg e]; simp; omega
theorem sortP2 {x y : Int × Int} {l : List Nat} (h : (runT (kas_sort 2) (lexF [x, y])).toList = l) : sortP [x, y] = l.map fun i => [x, y].getD i (0, 0) := by subst h; rfl
theorem sortP3 {x y z : Int × Int} {l : List Nat} (h : (runT (kas_sort 3) (lexF [x, y, z])).toList = l) : sortP [x, y, z] = l.map fun i => [x, y, z].getD i (0, 0) := by subst h; rfl

def inv1 (p a : Int) : Bool := decide ((p = 1 ↔ a = 1) ∧ 1 ≤ p ∧ p ≤ 1 ∧ 1 ≤ a ∧ a ≤ 1)
def inv2 (p q a b : Int) : Bool := decide (((p = 1 ↔ a = 1) ∧ (p = 2 ↔ b = 1) ∧ (q = 1 ↔ a = 2) ∧ (q = 2 ↔ b = 2)) ∧ (1 ≤ p ∧ p ≤ 2) ∧ (1 ≤ q ∧ q ≤ 2) ∧ (1 ≤ a ∧ a ≤ 2) ∧ (1 ≤ b ∧ b ≤ 2))
def inv3 (p q r a b c : Int) : Bool := decide (((p = 1 ↔ a = 1) ∧ (p = 2 ↔ b = 1) ∧ (p = 3 ↔ c = 1) ∧ (q = 1 ↔ a = 2) ∧ (q = 2 ↔ b = 2) ∧ (q = 3 ↔ c = 2) ∧ (r = 1 ↔ a = 3) ∧ (r = 2 ↔ b = 3) ∧ (r = 3 ↔ c = 3)) ∧
  (1 ≤ p ∧ p ≤ 3) ∧ (1 ≤ q ∧ q ≤ 3) ∧ (1 ≤ r ∧ r ≤ 3) ∧ (1 ≤ a ∧ a ≤ 3) ∧ (1 ≤ b ∧ b ≤ 3) ∧ (1 ≤ c ∧ c ≤ 3))

theorem law1 (p a : Int) : decide (sortP [(1, p)] = sortP [(a, 1)]) = inv1 p a := by
  show decide ([((1 : Int), p)] = [(a, (1 : Int))]) = _
  rw [Bool.eq_iff_iff, inv1, decide_eq_true_eq, decide_eq_true_eq]
  simp only [List.cons.injEq, Prod.mk.injEq, and_true]
  omega
theorem two_ord (p q : Int) : sortP [(1, p), (2, q)] = [(1, p), (2, q)] := sortP2 (run2F ((show lexB (2, q) (1, p) = false from lex_gt (by decide))))
/-- no two of the partners are alike -/
theorem part_ne {p q a b : Int} {i j : Int} (hij : i ≠ j) (h1 : p = i ↔ a = q) (h2 : p = j ↔ b = q) : ¬ (a = q ∧ b = q) := fun h => hij ((h1.mpr h.1).symm.trans (h2.mpr h.2))
theorem law2 (p q a b : Int) : decide (sortP [(1, p), (2, q)] = sortP [(a, 1), (b, 2)]) = inv2 p q a b := by
  rw [two_ord, Bool.eq_iff_iff, inv2, decide_eq_true_eq, decide_eq_true_eq]
  have k : ((p = 1 ↔ a = 1) ∧ (p = 2 ↔ b = 1) ∧ (q = 1 ↔ a = 2) ∧ (q = 2 ↔ b = 2)) ∧ (1 ≤ p ∧ p ≤ 2) ∧ (1 ≤ q ∧ q ≤ 2) ∧ (1 ≤ a ∧ a ≤ 2) ∧ (1 ≤ b ∧ b ≤ 2) ↔ ((a = 1 ∧ b = 2 ∧ p = 1 ∧ q = 2) ∨ (b = 1 ∧ a = 2 ∧ p = 2 ∧ q = 1)) := by
    constructor
    · rintro ⟨⟨i1, i2, i3, i4⟩, -, -, ra, rb⟩
      rcases (show a = 1 ∨ a = 2 by clear i1 i2 i3 i4 rb; omega) with rfl | rfl <;> rcases (show b = 1 ∨ b = 2 by clear i1 i2 i3 i4 ra; omega) with rfl | rfl
      · exact absurd ⟨rfl, rfl⟩ (part_ne (by decide) i1 i2)
      · exact .inl ⟨rfl, rfl, i1.mpr rfl, i4.mpr rfl⟩
      · exact .inr ⟨rfl, rfl, i2.mpr rfl, i3.mpr rfl⟩
      · exact absurd ⟨rfl, rfl⟩ (part_ne (by decide) i3 i4)
    · rintro (⟨rfl, rfl, rfl, rfl⟩ | ⟨rfl, rfl, rfl, rfl⟩) <;> decide
  rw [k]
  by_cases h : b < a
  · rw [sortP2 (run2T (show lexB (b, 2) (a, 1) = true from lex_lt h))]
    show [((1 : Int), p), (2, q)] = [(b, (2 : Int)), (a, 1)] ↔ _
    simp only [List.cons.injEq, Prod.mk.injEq, and_true]
    constructor
    · rintro ⟨⟨rfl, rfl⟩, rfl, rfl⟩; exact .inr ⟨rfl, rfl, rfl, rfl⟩
    · rintro (⟨rfl, rfl, -, -⟩ | ⟨rfl, rfl, rfl, rfl⟩)
      · exact absurd h (by decide)
      · exact ⟨⟨rfl, rfl⟩, rfl, rfl⟩
  · rw [sortP2 (run2F (show lexB (b, 2) (a, 1) = false from lex_ge h (by decide)))]
    show [((1 : Int), p), (2, q)] = [(a, (1 : Int)), (b, 2)] ↔ _
    simp only [List.cons.injEq, Prod.mk.injEq, and_true]
    constructor
    · rintro ⟨⟨rfl, rfl⟩, rfl, rfl⟩; exact .inl ⟨rfl, rfl, rfl, rfl⟩
    · rintro (⟨rfl, rfl, rfl, rfl⟩ | ⟨rfl, rfl, -, -⟩)
      · exact ⟨⟨rfl, rfl⟩, rfl, rfl⟩
      · exact absurd (by decide) h
theorem three_ord (p q r : Int) : sortP [(1, p), (2, q), (3, r)] = [(1, p), (2, q), (3, r)] :=
  sortP3 (run012 (show lexB (2, q) (1, p) = false from lex_gt (by decide)) (show lexB (3, r) (2, q) = false from lex_gt (by decide)))
theorem leaf3 (p q r x y z i j k : Int) : ([((1 : Int), p), (2, q), (3, r)] = [(x, i), (y, j), (z, k)]) ↔ (x = 1 ∧ y = 2 ∧ z = 3 ∧ p = i ∧ q = j ∧ r = k) := by
  simp only [List.cons.injEq, Prod.mk.injEq, and_true]
  constructor
  · rintro ⟨⟨rfl, rfl⟩, ⟨rfl, rfl⟩, rfl, rfl⟩; exact ⟨rfl, rfl, rfl, rfl, rfl, rfl⟩
  · rintro ⟨rfl, rfl, rfl, rfl, rfl, rfl⟩; exact ⟨⟨rfl, rfl⟩, ⟨rfl, rfl⟩, rfl, rfl⟩
theorem three {a : Int} (h : 1 ≤ a ∧ a ≤ 3) : a = 1 ∨ a = 2 ∨ a = 3 := by omega
/-- the partners of 1, 2, 3 by name -/
def In3 (p q r a b c : Int) : Prop := ((p = 1 ↔ a = 1) ∧ (p = 2 ↔ b = 1) ∧ (p = 3 ↔ c = 1) ∧ (q = 1 ↔ a = 2) ∧ (q = 2 ↔ b = 2) ∧ (q = 3 ↔ c = 2) ∧ (r = 1 ↔ a = 3) ∧ (r = 2 ↔ b = 3) ∧ (r = 3 ↔ c = 3)) ∧
  (1 ≤ p ∧ p ≤ 3) ∧ (1 ≤ q ∧ q ≤ 3) ∧ (1 ≤ r ∧ r ≤ 3) ∧ (1 ≤ a ∧ a ≤ 3) ∧ (1 ≤ b ∧ b ≤ 3) ∧ (1 ≤ c ∧ c ≤ 3)
def one3 (p q r a b c : Int) : Prop := (a = 1 ∧ b = 2 ∧ c = 3 ∧ p = 1 ∧ q = 2 ∧ r = 3) ∨ (a = 1 ∧ c = 2 ∧ b = 3 ∧ p = 1 ∧ q = 3 ∧ r = 2) ∨ (b = 1 ∧ a = 2 ∧ c = 3 ∧ p = 2 ∧ q = 1 ∧ r = 3) ∨
  (b = 1 ∧ c = 2 ∧ a = 3 ∧ p = 2 ∧ q = 3 ∧ r = 1) ∨ (c = 1 ∧ a = 2 ∧ b = 3 ∧ p = 3 ∧ q = 1 ∧ r = 2) ∨ (c = 1 ∧ b = 2 ∧ a = 3 ∧ p = 3 ∧ q = 2 ∧ r = 1)
theorem two_ne {p q a b : Int} {i j : Int} (h1 : p = i ↔ a = q) (h2 : p = j ↔ b = q) (hij : decide (i = j) = false) (ha : decide (a = q) = true) (hb : decide (b = q) = true) {P : Prop} : P :=
  absurd ⟨of_decide_eq_true ha, of_decide_eq_true hb⟩ (part_ne (of_decide_eq_false hij) h1 h2)
theorem in3_iff {p q r a b c : Int} : In3 p q r a b c ↔ one3 p q r a b c := by
  constructor
  · rintro ⟨⟨i1, i2, i3, i4, i5, i6, i7, i8, i9⟩, -, -, -, ra, rb, rc⟩
    rcases three ra with rfl | rfl | rfl <;> rcases three rb with rfl | rfl | rfl <;> first
      | exact two_ne i1 i2 rfl rfl rfl
      | exact two_ne i4 i5 rfl rfl rfl
      | exact two_ne i7 i8 rfl rfl rfl
      | (rcases three rc with rfl | rfl | rfl <;> first
          | exact two_ne i1 i3 rfl rfl rfl
          | exact two_ne i4 i6 rfl rfl rfl
          | exact two_ne i7 i9 rfl rfl rfl
          | exact two_ne i2 i3 rfl rfl rfl
          | exact two_ne i5 i6 rfl rfl rfl
          | exact two_ne i8 i9 rfl rfl rfl
          | exact .inl ⟨rfl, rfl, rfl, i1.mpr rfl, i5.mpr rfl, i9.mpr rfl⟩
          | exact .inr (.inl ⟨rfl, rfl, rfl, i1.mpr rfl, i6.mpr rfl, i8.mpr rfl⟩)
          | exact .inr (.inr (.inl ⟨rfl, rfl, rfl, i2.mpr rfl, i4.mpr rfl, i9.mpr rfl⟩))
          | exact .inr (.inr (.inr (.inl ⟨rfl, rfl, rfl, i2.mpr rfl, i6.mpr rfl, i7.mpr rfl⟩)))
          | exact .inr (.inr (.inr (.inr (.inl ⟨rfl, rfl, rfl, i3.mpr rfl, i4.mpr rfl, i8.mpr rfl⟩))))
          | exact .inr (.inr (.inr (.inr (.inr ⟨rfl, rfl, rfl, i3.mpr rfl, i5.mpr rfl, i7.mpr rfl⟩)))))
  · unfold In3
    rintro (⟨rfl, rfl, rfl, rfl, rfl, rfl⟩ | ⟨rfl, rfl, rfl, rfl, rfl, rfl⟩ | ⟨rfl, rfl, rfl, rfl, rfl, rfl⟩ | ⟨rfl, rfl, rfl, rfl, rfl, rfl⟩ | ⟨rfl, rfl, rfl, rfl, rfl, rfl⟩ | ⟨rfl, rfl, rfl, rfl, rfl, rfl⟩) <;> decide
/-- the order of three told by what sorting found -/
theorem ord3 {a b c : Int} : (b < a ∧ c < b ∧ sortP [(a, 1), (b, 2), (c, 3)] = [(c, 3), (b, 2), (a, 1)]) ∨ (b < a ∧ ¬ c < b ∧ c < a ∧ sortP [(a, 1), (b, 2), (c, 3)] = [(b, 2), (c, 3), (a, 1)]) ∨
    (b < a ∧ ¬ c < a ∧ sortP [(a, 1), (b, 2), (c, 3)] = [(b, 2), (a, 1), (c, 3)]) ∨ (¬ b < a ∧ c < b ∧ c < a ∧ sortP [(a, 1), (b, 2), (c, 3)] = [(c, 3), (a, 1), (b, 2)]) ∨
    (¬ b < a ∧ c < b ∧ ¬ c < a ∧ sortP [(a, 1), (b, 2), (c, 3)] = [(a, 1), (c, 3), (b, 2)]) ∨ (¬ b < a ∧ ¬ c < b ∧ sortP [(a, 1), (b, 2), (c, 3)] = [(a, 1), (b, 2), (c, 3)]) := by
  by_cases h1 : b < a
  · by_cases h2 : c < b
    · exact .inl ⟨h1, h2, sortP3 (run210 (lex_lt h1) (lex_lt h2))⟩
    · by_cases h3 : c < a
      · exact .inr (.inl ⟨h1, h2, h3, sortP3 (run120 (lex_lt h1) (lex_ge h2 (by decide)) (lex_le (Int.not_lt.mp h2) (by decide)) (lex_lt h3))⟩)
      · exact .inr (.inr (.inl ⟨h1, h3, sortP3 (run102 (lex_lt h1) (lex_ge h2 (by decide)) (lex_le (Int.not_lt.mp h2) (by decide)) (lex_ge h3 (by decide)))⟩))
  · by_cases h2 : c < b
    · by_cases h3 : c < a
      · exact .inr (.inr (.inr (.inl ⟨h1, h2, h3, sortP3 (run201 (lex_ge h1 (by decide)) (lex_lt h2) (lex_le (Int.not_lt.mp h1) (by decide)) (lex_lt h3))⟩)))
      · exact .inr (.inr (.inr (.inr (.inl ⟨h1, h2, h3, sortP3 (run021 (lex_ge h1 (by decide)) (lex_lt h2) (lex_le (Int.not_lt.mp h1) (by decide)) (lex_ge h3 (by decide)))⟩))))
    · exact .inr (.inr (.inr (.inr (.inr ⟨h1, h2, sortP3 (run012 (lex_ge h1 (by decide)) (lex_ge h2 (by decide)))⟩))))
theorem law3 (p q r a b c : Int) : decide (sortP [(1, p), (2, q), (3, r)] = sortP [(a, 1), (b, 2), (c, 3)]) = inv3 p q r a b c := by
  rw [three_ord, Bool.eq_iff_iff, inv3, decide_eq_true_eq, decide_eq_true_eq]
  refine Iff.trans ?_ in3_iff.symm
  rcases @ord3 a b c with ⟨h1, h2, e⟩ | ⟨h1, h2, h3, e⟩ | ⟨h1, h3, e⟩ | ⟨h1, h2, h3, e⟩ | ⟨h1, h2, h3, e⟩ | ⟨h1, h2, e⟩ <;> rw [e, leaf3] <;> constructor
  all_goals first
    | (rintro ⟨rfl, rfl, rfl, rfl, rfl, rfl⟩; unfold one3; decide)
    | (rintro (⟨rfl, rfl, rfl, rfl, rfl, rfl⟩ | ⟨rfl, rfl, rfl, rfl, rfl, rfl⟩ | ⟨rfl, rfl, rfl, rfl, rfl, rfl⟩ | ⟨rfl, rfl, rfl, rfl, rfl, rfl⟩ | ⟨rfl, rfl, rfl, rfl, rfl, rfl⟩ | ⟨rfl, rfl, rfl, rfl, rfl, rfl⟩) <;> first
        | exact ⟨rfl, rfl, rfl, rfl, rfl, rfl⟩
        | exact absurd h1 (by decide)
        | exact absurd h2 (by decide)
        | exact absurd h3 (by decide))
end Mine
namespace Mine
open PySem PySem.W PySem.Calls PyProof.Rows PySem.Spec PyProof.Rows.LCg

set_option maxHeartbeats 4000000 in
theorem inv_check1 (w : World) (mean : ExcName → Option Value) (mg mb : Str → Option Value) {x d sc o q v : Addr} {o1 p1 q1 : Int} {a1 b1 c1 : Tok} {t1 t2 t3 t4 t5 t6 t7 : Tok} :
    Con w mean mg mb 12 161 [.ref x, .ref v] [(x, instObj 171 d), (d, dictOf [ent w "number" t1 (.int (-1) t2), ent w "scope" t3 (.ref sc), ent w "strength" t4 (.str (Str.ofString "weak") t5), ent w "fs" t6 (.ref o), ent w "gs" t7 (.ref q)] 5),
       (o, tupO [.int o1 a1] 0), (v, tupO [.int p1 b1, .int q1 c1] 0)]
      (BoolPost (inv1 p1 q1) [(x, instObj 171 d), (d, dictOf [ent w "number" t1 (.int (-1) t2), ent w "scope" t3 (.ref sc), ent w "strength" t4 (.str (Str.ofString "weak") t5), ent w "fs" t6 (.ref o), ent w "gs" t7 (.ref q)] 5),
       (o, tupO [.int o1 a1] 0), (v, tupO [.int p1 b1, .int q1 c1] 0)]) := by
  k_dflt (
  refine' con_of ?k7 ?k8 ?kA ?kB ?_ ?c2 ?c3 ?c4 ?c5;
  (case k7 => k_is); (case k8 => k_is);
  (case kA => exact fun _ => BindsTo.of_eq rfl); (case kB => exact locs rfl); (case c2 => exact rfl); (case c3 => exact rfl); (case c4 => exact rfl); (case c5 => decide))
  intro dp gd un outer base g s B st sz X T hroom hu L' h₁ Q' F N hlt hret
  (try k_lt hlt); (try dsimp only at *); (try k_lift B); (try k_fold)
  k_with_none
  k_with "exec Assign cons ListComp!" => ((
  k_here
  lcp_look; lcg_calm
  k_dflt (refine assign_enum (_F₀ := by k_asm) (by rfl) (by with_unfolding_all rfl) (by with_unfolding_all rfl) (by decide) (by rfl) (by decide) (by rfl) (by rfl) (by decide) (by rfl) (by rfl) ?_)))
  k_with "call type:enumerate!" => ((
  k_here
  k_dflt (
    first
    | ((with_reducible show wpAny _ _ (PySem.call _ _) (SrcEn _ _ _ _ _ _ _ (PySem.Expr.Tuple (PySem.Expr.BinOp _ _ _ _ :: _) _ _) _ _ _ _ _ _) _ _)
       refine' enum_src R1 ?hh ?F ?N ?m ?z ?_ ?_)
    | refine' enum_src R2 ?hh ?F ?N ?m ?z ?_ ?_
    (case hh => exact rfl); (case F => k_asm); (case N => k_asm); (case m => k_mem); (case z => exact Nat.le_of_ble_eq_true rfl))
  intro i' v' t' C' oC' m' keep' h' tk' E' hv' hC' hx' hx2' F' N'
  (try dsimp only); (try k_fold)
  rotate_left
  intro D' h' tk' ps' led' hPL' F' N'
  (first
    | (obtain ⟨p', a', b', e1', e2', r'⟩ := PairsLed.one hPL'; subst e1' e2'; (first | (obtain ⟨⟨s', hr1'⟩, hr2'⟩ := r'; subst hr1'; subst hr2') | (obtain ⟨hr1', ⟨s', hr2'⟩⟩ := r'; subst hr1'; subst hr2')))
    | (obtain ⟨p', q', a', b', c', d', e1', e2', r', r2'⟩ := PairsLed.two hPL'; subst e1' e2'; (first | (obtain ⟨⟨s', hr1'⟩, hr2'⟩ := r'; subst hr1'; subst hr2') | (obtain ⟨hr1', ⟨s', hr2'⟩⟩ := r'; subst hr1'; subst hr2')); (first | (obtain ⟨⟨s', hr1'⟩, hr2'⟩ := r2'; subst hr1'; subst hr2') | (obtain ⟨hr1', ⟨s', hr2'⟩⟩ := r2'; subst hr1'; subst hr2')))
    | (obtain ⟨p', q', o', a', b', c', d', e', f', e1', e2', r', r2', r3'⟩ := PairsLed.three hPL'; subst e1' e2'; (first | (obtain ⟨⟨s', hr1'⟩, hr2'⟩ := r'; subst hr1'; subst hr2') | (obtain ⟨hr1', ⟨s', hr2'⟩⟩ := r'; subst hr1'; subst hr2')); (first | (obtain ⟨⟨s', hr1'⟩, hr2'⟩ := r2'; subst hr1'; subst hr2') | (obtain ⟨hr1', ⟨s', hr2'⟩⟩ := r2'; subst hr1'; subst hr2')); (first | (obtain ⟨⟨s', hr1'⟩, hr2'⟩ := r3'; subst hr1'; subst hr2') | (obtain ⟨hr1', ⟨s', hr2'⟩⟩ := r3'; subst hr1'; subst hr2'))))
  (try simp only [List.cons_append, List.nil_append] at N')
  (try dsimp only); (try k_fold)
  clear hPL'
  rotate_left))
  k_with "PairEnd!" => ((
  k_dflt (first
    | refine PairEnd.intro (by k_asm) (by k_asm) (show R1 _ _ _ _ from ⟨⟨_, rfl⟩, rfl⟩)
    | refine PairEnd.intro (by k_asm) (by k_asm) (show R2 _ _ _ _ from ⟨rfl, ⟨_, rfl⟩⟩))))
  k_with "call builtin:sorted!" => ((
  k_here
  (with_reducible show wpAny _ _ (PySem.call (Value.builtin _) [Value.ref _]) _ _ _)
  k_dflt (first
    | (refine' sorted_pairs ?F ?N ?l ?P ?z ?y ?ok ?_; (case F => k_asm); (case N => k_asm); (case l => k_mem); (case P => first | (refine' PairsOf.cons ?aa (PairsOf.cons ?ab (PairsOf.cons ?ac PairsOf.nil)); (case aa => k_mem); (case ab => k_mem); (case ac => k_mem)) | (refine' PairsOf.cons ?aa (PairsOf.cons ?ab PairsOf.nil); (case aa => k_mem); (case ab => k_mem)) | (refine' PairsOf.cons ?aa PairsOf.nil; (case aa => k_mem))); (case z => exact Nat.le_of_ble_eq_true rfl); (case y => exact Nat.le_of_ble_eq_true rfl); (case ok => first | exact ok_two | exact ok_three))
    | (refine' sorted_one ?F ?N ?l ?P ?_; (case F => k_asm); (case N => k_asm); (case l => k_mem); (case P => first | (refine' PairsOf.cons ?aa (PairsOf.cons ?ab (PairsOf.cons ?ac PairsOf.nil)); (case aa => k_mem); (case ab => k_mem); (case ac => k_mem)) | (refine' PairsOf.cons ?aa (PairsOf.cons ?ab PairsOf.nil); (case aa => k_mem); (case ab => k_mem)) | (refine' PairsOf.cons ?aa PairsOf.nil; (case aa => k_mem)))))
  k_whole
  intro D' c' out' h' F' N' hP'
  (try dsimp only); (try k_fold)))
  k_with "compareOp Eq ref ref!" => ((
  k_here
  (with_reducible show wpAny _ _ (compareOp CmpOp.Eq (Value.ref _) (Value.ref _)) _ _ _)
  k_dflt (refine' eq_pairs ?N ?m1 ?m2 (PairsOf.weak ?p1 ?s1) (PairsOf.weak ?p2 ?s2) ?l ?u ?_; (case N => k_asm); (case m1 => k_mem); (case m2 => k_mem); (case p1 => with_reducible assumption); (case p2 => with_reducible assumption); (case s1 => lcg_sub); (case s2 => lcg_sub); (case l => (rw [sortP_len _ (Nat.le_of_ble_eq_true rfl), sortP_len _ (Nat.le_of_ble_eq_true rfl)]; rfl)); (case u => ktr_units))
  k_whole))
  k_with "last subscriptTail!" => (k_extra "cut")
  k_with "subscriptTail!" => (k_extra "cut")
  k_with "cut" => (
    (with_reducible show wpAny _ _ (subscriptTail _ (PySem.Expr.Slice _ _ _ _) (Value.ref _) (Value.ref _)) _ _ _)
    k_dflt (first
      | (refine' slice_tupN 0 1 ?F ?N ?m (.inl ⟨rfl, rfl⟩) (.inr ⟨_, _, rfl, rfl⟩) ?hab ?hbn ?hsz ?hnf ?hs ?_
         (case F => k_asm); (case N => k_asm); (case m => k_mem); (case hab => decide); (case hbn => exact Nat.le_of_ble_eq_true rfl); (case hsz => exact Nat.le_of_ble_eq_true rfl); (case hnf => exact fun q => nomatch q.2); (case hs => with_unfolding_all rfl))
      | (refine' slice_tupN 1 2 ?F ?N ?m (.inr ⟨_, _, rfl, rfl⟩) (.inl ⟨rfl, ?hi⟩) ?hab ?hbn ?hsz ?hnf ?hs ?_
         (case F => k_asm); (case N => k_asm); (case m => k_mem); (case hi => exact rfl); (case hab => decide); (case hbn => exact Nat.le_of_ble_eq_true rfl); (case hsz => exact Nat.le_of_ble_eq_true rfl); (case hnf => exact fun q => nomatch q.1); (case hs => with_unfolding_all rfl)))
    k_whole
    intro D' h' F' N' l1
    (try k_lt l1)
    (try simp only [List.drop_succ_cons, List.drop_zero, List.take_succ_cons, List.take_zero, Nat.reduceSub] at N')
    (try dsimp only); (try k_fold))
  (repeat' (first | (k_unfold; (try dsimp only)) | walk1 | (dsimp only; walk1) | (leave1; (try dsimp only))))
  all_goals (try dsimp only)
  refine hret _ _ _ _ _ (by k_asm) (cb_drop (by assumption) (by lcg_sub)) (BoolPost.mk ?_)
  exact law1 _ _

set_option maxHeartbeats 4000000 in
theorem inv_check2 (w : World) (mean : ExcName → Option Value) (mg mb : Str → Option Value) {x d sc o q v : Addr} {o1 o2 p1 p2 q1 q2 : Int} {a1 a2 b1 b2 c1 c2 : Tok} {t1 t2 t3 t4 t5 t6 t7 : Tok} :
    Con w mean mg mb 12 161 [.ref x, .ref v] [(x, instObj 171 d), (d, dictOf [ent w "number" t1 (.int (-1) t2), ent w "scope" t3 (.ref sc), ent w "strength" t4 (.str (Str.ofString "weak") t5), ent w "fs" t6 (.ref o), ent w "gs" t7 (.ref q)] 5),
       (o, tupO [.int o1 a1, .int o2 a2] 0), (v, tupO [.int p1 b1, .int p2 b2, .int q1 c1, .int q2 c2] 0)]
      (BoolPost (inv2 p1 p2 q1 q2) [(x, instObj 171 d), (d, dictOf [ent w "number" t1 (.int (-1) t2), ent w "scope" t3 (.ref sc), ent w "strength" t4 (.str (Str.ofString "weak") t5), ent w "fs" t6 (.ref o), ent w "gs" t7 (.ref q)] 5),
       (o, tupO [.int o1 a1, .int o2 a2] 0), (v, tupO [.int p1 b1, .int p2 b2, .int q1 c1, .int q2 c2] 0)]) := by
  k_dflt (
  refine' con_of ?k7 ?k8 ?kA ?kB ?_ ?c2 ?c3 ?c4 ?c5;
  (case k7 => k_is); (case k8 => k_is);
  (case kA => exact fun _ => BindsTo.of_eq rfl); (case kB => exact locs rfl); (case c2 => exact rfl); (case c3 => exact rfl); (case c4 => exact rfl); (case c5 => decide))
  intro dp gd un outer base g s B st sz X T hroom hu L' h₁ Q' F N hlt hret
  (try k_lt hlt); (try dsimp only at *); (try k_lift B); (try k_fold)
  k_with_none
  k_with "exec Assign cons ListComp!" => ((
  k_here
  lcp_look; lcg_calm
  k_dflt (refine assign_enum (_F₀ := by k_asm) (by rfl) (by with_unfolding_all rfl) (by with_unfolding_all rfl) (by decide) (by rfl) (by decide) (by rfl) (by rfl) (by decide) (by rfl) (by rfl) ?_)))
  k_with "call type:enumerate!" => ((
  k_here
  k_dflt (
    first
    | ((with_reducible show wpAny _ _ (PySem.call _ _) (SrcEn _ _ _ _ _ _ _ (PySem.Expr.Tuple (PySem.Expr.BinOp _ _ _ _ :: _) _ _) _ _ _ _ _ _) _ _)
       refine' enum_src R1 ?hh ?F ?N ?m ?z ?_ ?_)
    | refine' enum_src R2 ?hh ?F ?N ?m ?z ?_ ?_
    (case hh => exact rfl); (case F => k_asm); (case N => k_asm); (case m => k_mem); (case z => exact Nat.le_of_ble_eq_true rfl))
  intro i' v' t' C' oC' m' keep' h' tk' E' hv' hC' hx' hx2' F' N'
  (try dsimp only); (try k_fold)
  rotate_left
  intro D' h' tk' ps' led' hPL' F' N'
  (first
    | (obtain ⟨p', a', b', e1', e2', r'⟩ := PairsLed.one hPL'; subst e1' e2'; (first | (obtain ⟨⟨s', hr1'⟩, hr2'⟩ := r'; subst hr1'; subst hr2') | (obtain ⟨hr1', ⟨s', hr2'⟩⟩ := r'; subst hr1'; subst hr2')))
    | (obtain ⟨p', q', a', b', c', d', e1', e2', r', r2'⟩ := PairsLed.two hPL'; subst e1' e2'; (first | (obtain ⟨⟨s', hr1'⟩, hr2'⟩ := r'; subst hr1'; subst hr2') | (obtain ⟨hr1', ⟨s', hr2'⟩⟩ := r'; subst hr1'; subst hr2')); (first | (obtain ⟨⟨s', hr1'⟩, hr2'⟩ := r2'; subst hr1'; subst hr2') | (obtain ⟨hr1', ⟨s', hr2'⟩⟩ := r2'; subst hr1'; subst hr2')))
    | (obtain ⟨p', q', o', a', b', c', d', e', f', e1', e2', r', r2', r3'⟩ := PairsLed.three hPL'; subst e1' e2'; (first | (obtain ⟨⟨s', hr1'⟩, hr2'⟩ := r'; subst hr1'; subst hr2') | (obtain ⟨hr1', ⟨s', hr2'⟩⟩ := r'; subst hr1'; subst hr2')); (first | (obtain ⟨⟨s', hr1'⟩, hr2'⟩ := r2'; subst hr1'; subst hr2') | (obtain ⟨hr1', ⟨s', hr2'⟩⟩ := r2'; subst hr1'; subst hr2')); (first | (obtain ⟨⟨s', hr1'⟩, hr2'⟩ := r3'; subst hr1'; subst hr2') | (obtain ⟨hr1', ⟨s', hr2'⟩⟩ := r3'; subst hr1'; subst hr2'))))
  (try simp only [List.cons_append, List.nil_append] at N')
  (try dsimp only); (try k_fold)
  clear hPL'
  rotate_left))
  k_with "PairEnd!" => ((
  k_dflt (first
    | refine PairEnd.intro (by k_asm) (by k_asm) (show R1 _ _ _ _ from ⟨⟨_, rfl⟩, rfl⟩)
    | refine PairEnd.intro (by k_asm) (by k_asm) (show R2 _ _ _ _ from ⟨rfl, ⟨_, rfl⟩⟩))))
  k_with "call builtin:sorted!" => ((
  k_here
  (with_reducible show wpAny _ _ (PySem.call (Value.builtin _) [Value.ref _]) _ _ _)
  k_dflt (first
    | (refine' sorted_pairs ?F ?N ?l ?P ?z ?y ?ok ?_; (case F => k_asm); (case N => k_asm); (case l => k_mem); (case P => first | (refine' PairsOf.cons ?aa (PairsOf.cons ?ab (PairsOf.cons ?ac PairsOf.nil)); (case aa => k_mem); (case ab => k_mem); (case ac => k_mem)) | (refine' PairsOf.cons ?aa (PairsOf.cons ?ab PairsOf.nil); (case aa => k_mem); (case ab => k_mem)) | (refine' PairsOf.cons ?aa PairsOf.nil; (case aa => k_mem))); (case z => exact Nat.le_of_ble_eq_true rfl); (case y => exact Nat.le_of_ble_eq_true rfl); (case ok => first | exact ok_two | exact ok_three))
    | (refine' sorted_one ?F ?N ?l ?P ?_; (case F => k_asm); (case N => k_asm); (case l => k_mem); (case P => first | (refine' PairsOf.cons ?aa (PairsOf.cons ?ab (PairsOf.cons ?ac PairsOf.nil)); (case aa => k_mem); (case ab => k_mem); (case ac => k_mem)) | (refine' PairsOf.cons ?aa (PairsOf.cons ?ab PairsOf.nil); (case aa => k_mem); (case ab => k_mem)) | (refine' PairsOf.cons ?aa PairsOf.nil; (case aa => k_mem)))))
  k_whole
  intro D' c' out' h' F' N' hP'
  (try dsimp only); (try k_fold)))
  k_with "compareOp Eq ref ref!" => ((
  k_here
  (with_reducible show wpAny _ _ (compareOp CmpOp.Eq (Value.ref _) (Value.ref _)) _ _ _)
  k_dflt (refine' eq_pairs ?N ?m1 ?m2 (PairsOf.weak ?p1 ?s1) (PairsOf.weak ?p2 ?s2) ?l ?u ?_; (case N => k_asm); (case m1 => k_mem); (case m2 => k_mem); (case p1 => with_reducible assumption); (case p2 => with_reducible assumption); (case s1 => lcg_sub); (case s2 => lcg_sub); (case l => (rw [sortP_len _ (Nat.le_of_ble_eq_true rfl), sortP_len _ (Nat.le_of_ble_eq_true rfl)]; rfl)); (case u => ktr_units))
  k_whole))
  k_with "last subscriptTail!" => (k_extra "cut")
  k_with "subscriptTail!" => (k_extra "cut")
  k_with "cut" => (
    (with_reducible show wpAny _ _ (subscriptTail _ (PySem.Expr.Slice _ _ _ _) (Value.ref _) (Value.ref _)) _ _ _)
    k_dflt (first
      | (refine' slice_tupN 0 2 ?F ?N ?m (.inl ⟨rfl, rfl⟩) (.inr ⟨_, _, rfl, rfl⟩) ?hab ?hbn ?hsz ?hnf ?hs ?_
         (case F => k_asm); (case N => k_asm); (case m => k_mem); (case hab => decide); (case hbn => exact Nat.le_of_ble_eq_true rfl); (case hsz => exact Nat.le_of_ble_eq_true rfl); (case hnf => exact fun q => nomatch q.2); (case hs => with_unfolding_all rfl))
      | (refine' slice_tupN 2 4 ?F ?N ?m (.inr ⟨_, _, rfl, rfl⟩) (.inl ⟨rfl, ?hi⟩) ?hab ?hbn ?hsz ?hnf ?hs ?_
         (case F => k_asm); (case N => k_asm); (case m => k_mem); (case hi => exact rfl); (case hab => decide); (case hbn => exact Nat.le_of_ble_eq_true rfl); (case hsz => exact Nat.le_of_ble_eq_true rfl); (case hnf => exact fun q => nomatch q.1); (case hs => with_unfolding_all rfl)))
    k_whole
    intro D' h' F' N' l1
    (try k_lt l1)
    (try simp only [List.drop_succ_cons, List.drop_zero, List.take_succ_cons, List.take_zero, Nat.reduceSub] at N')
    (try dsimp only); (try k_fold))
  (repeat' (first | (k_unfold; (try dsimp only)) | walk1 | (dsimp only; walk1) | (leave1; (try dsimp only))))
  all_goals (try dsimp only)
  refine hret _ _ _ _ _ (by k_asm) (cb_drop (by assumption) (by lcg_sub)) (BoolPost.mk ?_)
  exact law2 _ _ _ _

set_option maxHeartbeats 4000000 in
theorem inv_check3 (w : World) (mean : ExcName → Option Value) (mg mb : Str → Option Value) {x d sc o q v : Addr} {o1 o2 o3 p1 p2 p3 q1 q2 q3 : Int} {a1 a2 a3 b1 b2 b3 c1 c2 c3 : Tok} {t1 t2 t3 t4 t5 t6 t7 : Tok} :
    Con w mean mg mb 12 161 [.ref x, .ref v] [(x, instObj 171 d), (d, dictOf [ent w "number" t1 (.int (-1) t2), ent w "scope" t3 (.ref sc), ent w "strength" t4 (.str (Str.ofString "weak") t5), ent w "fs" t6 (.ref o), ent w "gs" t7 (.ref q)] 5),
       (o, tupO [.int o1 a1, .int o2 a2, .int o3 a3] 0), (v, tupO [.int p1 b1, .int p2 b2, .int p3 b3, .int q1 c1, .int q2 c2, .int q3 c3] 0)]
      (BoolPost (inv3 p1 p2 p3 q1 q2 q3) [(x, instObj 171 d), (d, dictOf [ent w "number" t1 (.int (-1) t2), ent w "scope" t3 (.ref sc), ent w "strength" t4 (.str (Str.ofString "weak") t5), ent w "fs" t6 (.ref o), ent w "gs" t7 (.ref q)] 5),
       (o, tupO [.int o1 a1, .int o2 a2, .int o3 a3] 0), (v, tupO [.int p1 b1, .int p2 b2, .int p3 b3, .int q1 c1, .int q2 c2, .int q3 c3] 0)]) := by
  k_dflt (
  refine' con_of ?k7 ?k8 ?kA ?kB ?_ ?c2 ?c3 ?c4 ?c5;
  (case k7 => k_is); (case k8 => k_is);
  (case kA => exact fun _ => BindsTo.of_eq rfl); (case kB => exact locs rfl); (case c2 => exact rfl); (case c3 => exact rfl); (case c4 => exact rfl); (case c5 => decide))
  intro dp gd un outer base g s B st sz X T hroom hu L' h₁ Q' F N hlt hret
  (try k_lt hlt); (try dsimp only at *); (try k_lift B); (try k_fold)
  k_with_none
  k_with "exec Assign cons ListComp!" => ((
  k_here
  lcp_look; lcg_calm
  k_dflt (refine assign_enum (_F₀ := by k_asm) (by rfl) (by with_unfolding_all rfl) (by with_unfolding_all rfl) (by decide) (by rfl) (by decide) (by rfl) (by rfl) (by decide) (by rfl) (by rfl) ?_)))
  k_with "call type:enumerate!" => ((
  k_here
  k_dflt (
    first
    | ((with_reducible show wpAny _ _ (PySem.call _ _) (SrcEn _ _ _ _ _ _ _ (PySem.Expr.Tuple (PySem.Expr.BinOp _ _ _ _ :: _) _ _) _ _ _ _ _ _) _ _)
       refine' enum_src R1 ?hh ?F ?N ?m ?z ?_ ?_)
    | refine' enum_src R2 ?hh ?F ?N ?m ?z ?_ ?_
    (case hh => exact rfl); (case F => k_asm); (case N => k_asm); (case m => k_mem); (case z => exact Nat.le_of_ble_eq_true rfl))
  intro i' v' t' C' oC' m' keep' h' tk' E' hv' hC' hx' hx2' F' N'
  (try dsimp only); (try k_fold)
  rotate_left
  intro D' h' tk' ps' led' hPL' F' N'
  (first
    | (obtain ⟨p', a', b', e1', e2', r'⟩ := PairsLed.one hPL'; subst e1' e2'; (first | (obtain ⟨⟨s', hr1'⟩, hr2'⟩ := r'; subst hr1'; subst hr2') | (obtain ⟨hr1', ⟨s', hr2'⟩⟩ := r'; subst hr1'; subst hr2')))
    | (obtain ⟨p', q', a', b', c', d', e1', e2', r', r2'⟩ := PairsLed.two hPL'; subst e1' e2'; (first | (obtain ⟨⟨s', hr1'⟩, hr2'⟩ := r'; subst hr1'; subst hr2') | (obtain ⟨hr1', ⟨s', hr2'⟩⟩ := r'; subst hr1'; subst hr2')); (first | (obtain ⟨⟨s', hr1'⟩, hr2'⟩ := r2'; subst hr1'; subst hr2') | (obtain ⟨hr1', ⟨s', hr2'⟩⟩ := r2'; subst hr1'; subst hr2')))
    | (obtain ⟨p', q', o', a', b', c', d', e', f', e1', e2', r', r2', r3'⟩ := PairsLed.three hPL'; subst e1' e2'; (first | (obtain ⟨⟨s', hr1'⟩, hr2'⟩ := r'; subst hr1'; subst hr2') | (obtain ⟨hr1', ⟨s', hr2'⟩⟩ := r'; subst hr1'; subst hr2')); (first | (obtain ⟨⟨s', hr1'⟩, hr2'⟩ := r2'; subst hr1'; subst hr2') | (obtain ⟨hr1', ⟨s', hr2'⟩⟩ := r2'; subst hr1'; subst hr2')); (first | (obtain ⟨⟨s', hr1'⟩, hr2'⟩ := r3'; subst hr1'; subst hr2') | (obtain ⟨hr1', ⟨s', hr2'⟩⟩ := r3'; subst hr1'; subst hr2'))))
  (try simp only [List.cons_append, List.nil_append] at N')
  (try dsimp only); (try k_fold)
  clear hPL'
  rotate_left))
  k_with "PairEnd!" => ((
  k_dflt (first
    | refine PairEnd.intro (by k_asm) (by k_asm) (show R1 _ _ _ _ from ⟨⟨_, rfl⟩, rfl⟩)
    | refine PairEnd.intro (by k_asm) (by k_asm) (show R2 _ _ _ _ from ⟨rfl, ⟨_, rfl⟩⟩))))
  k_with "call builtin:sorted!" => ((
  k_here
  (with_reducible show wpAny _ _ (PySem.call (Value.builtin _) [Value.ref _]) _ _ _)
  k_dflt (first
    | (refine' sorted_pairs ?F ?N ?l ?P ?z ?y ?ok ?_; (case F => k_asm); (case N => k_asm); (case l => k_mem); (case P => first | (refine' PairsOf.cons ?aa (PairsOf.cons ?ab (PairsOf.cons ?ac PairsOf.nil)); (case aa => k_mem); (case ab => k_mem); (case ac => k_mem)) | (refine' PairsOf.cons ?aa (PairsOf.cons ?ab PairsOf.nil); (case aa => k_mem); (case ab => k_mem)) | (refine' PairsOf.cons ?aa PairsOf.nil; (case aa => k_mem))); (case z => exact Nat.le_of_ble_eq_true rfl); (case y => exact Nat.le_of_ble_eq_true rfl); (case ok => first | exact ok_two | exact ok_three))
    | (refine' sorted_one ?F ?N ?l ?P ?_; (case F => k_asm); (case N => k_asm); (case l => k_mem); (case P => first | (refine' PairsOf.cons ?aa (PairsOf.cons ?ab (PairsOf.cons ?ac PairsOf.nil)); (case aa => k_mem); (case ab => k_mem); (case ac => k_mem)) | (refine' PairsOf.cons ?aa (PairsOf.cons ?ab PairsOf.nil); (case aa => k_mem); (case ab => k_mem)) | (refine' PairsOf.cons ?aa PairsOf.nil; (case aa => k_mem)))))
  k_whole
  intro D' c' out' h' F' N' hP'
  (try dsimp only); (try k_fold)))
  k_with "compareOp Eq ref ref!" => ((
  k_here
  (with_reducible show wpAny _ _ (compareOp CmpOp.Eq (Value.ref _) (Value.ref _)) _ _ _)
  k_dflt (refine' eq_pairs ?N ?m1 ?m2 (PairsOf.weak ?p1 ?s1) (PairsOf.weak ?p2 ?s2) ?l ?u ?_; (case N => k_asm); (case m1 => k_mem); (case m2 => k_mem); (case p1 => with_reducible assumption); (case p2 => with_reducible assumption); (case s1 => lcg_sub); (case s2 => lcg_sub); (case l => (rw [sortP_len _ (Nat.le_of_ble_eq_true rfl), sortP_len _ (Nat.le_of_ble_eq_true rfl)]; rfl)); (case u => ktr_units))
  k_whole))
  k_with "last subscriptTail!" => (k_extra "cut")
  k_with "subscriptTail!" => (k_extra "cut")
  k_with "cut" => (
    (with_reducible show wpAny _ _ (subscriptTail _ (PySem.Expr.Slice _ _ _ _) (Value.ref _) (Value.ref _)) _ _ _)
    k_dflt (first
      | (refine' slice_tupN 0 3 ?F ?N ?m (.inl ⟨rfl, rfl⟩) (.inr ⟨_, _, rfl, rfl⟩) ?hab ?hbn ?hsz ?hnf ?hs ?_
         (case F => k_asm); (case N => k_asm); (case m => k_mem); (case hab => decide); (case hbn => exact Nat.le_of_ble_eq_true rfl); (case hsz => exact Nat.le_of_ble_eq_true rfl); (case hnf => exact fun q => nomatch q.2); (case hs => with_unfolding_all rfl))
      | (refine' slice_tupN 3 6 ?F ?N ?m (.inr ⟨_, _, rfl, rfl⟩) (.inl ⟨rfl, ?hi⟩) ?hab ?hbn ?hsz ?hnf ?hs ?_
         (case F => k_asm); (case N => k_asm); (case m => k_mem); (case hi => exact rfl); (case hab => decide); (case hbn => exact Nat.le_of_ble_eq_true rfl); (case hsz => exact Nat.le_of_ble_eq_true rfl); (case hnf => exact fun q => nomatch q.1); (case hs => with_unfolding_all rfl)))
    k_whole
    intro D' h' F' N' l1
    (try k_lt l1)
    (try simp only [List.drop_succ_cons, List.drop_zero, List.take_succ_cons, List.take_zero, Nat.reduceSub] at N')
    (try dsimp only); (try k_fold))
  (repeat' (first | (k_unfold; (try dsimp only)) | walk1 | (dsimp only; walk1) | (leave1; (try dsimp only))))
  all_goals (try dsimp only)
  refine hret _ _ _ _ _ (by k_asm) (cb_drop (by assumption) (by lcg_sub)) (BoolPost.mk ?_)
  exact law3 _ _ _ _ _ _

end Mine
namespace Mine
open PySem PySem.W

theorem ne_t {a b c d : Int} (h : ((a == c) != (b == d)) = true) : ¬ (a = c ↔ b = d) := by
  intro e
  by_cases q : a = c
  · have q2 := e.mp q; subst q q2; simp at h
  · have q2 : ¬ b = d := fun x => q (e.mpr x)
    rw [beq_eq_false_iff_ne.mpr q, beq_eq_false_iff_ne.mpr q2] at h; cases h
theorem ne_f {a b c d : Int} (h : ((a == c) != (b == d)) = false) : a = c ↔ b = d := by
  by_cases q : a = c <;> by_cases q2 : b = d <;> simp_all
theorem filt_nil {f : Int → Bool} {xs : List Int} : xs.filter f = [] ↔ ∀ x ∈ xs, f x = false := by
  rw [List.filter_eq_nil_iff]
  exact ⟨fun h x hx => by simpa using h x hx, fun h x hx => by simp [h x hx]⟩
end Mine
namespace Mine
open PySem PySem.W PySem.Calls PyProof.Rows PySem.Spec PyProof.Rows.LCg

section
variable {prog : Program} {w : World} {A : Around} {E : Value → Shared → Prop} {s : Shared} {h₀ : Heap} {L : Addr} {m : Str → Option Value} {env : Env}
theorem ints_snoc {us : List Value} {xs : List Int} {k : Int} {t : Tok} (h : IntsAre us xs) : IntsAre (us ++ [.int k t]) (xs ++ [k]) := by
  induction h with
  | nil => exact .cons _ _ .nil
  | cons n u _ ih => exact .cons n u ih
theorem srcTT_filt (f : Int → Bool) {ct elt : PySem.Expr} {x : Str} {scope : Scope} {cl : List (Str × Addr)} {Q : Value → Shared → Prop} {ax : Addr} {us : List Value} {xs : List Int} {e : Nat} {news : Led}
    (hh : A.handled = none) (F : Fr h₀ L s.heap m) (N : News h₀ L s.heap news) (hm : (ax, tupO us e) ∈ news) (hi : IntsAre us xs) (hsz : us.length ≤ 1000)
    (turn : ∀ (_g : Heap) k t ys I oI C oC D m₂ h tk (E' : Value → Shared → Prop), NsObj oC m₂ → m₂ x = some (.int k t) → Fr h₀ L h m → News h₀ L h ((I, oI) :: (C, oC) :: (D, lst ys) :: news) → Off3 I C D news → ((@Ne Nat I C) ∧ (@Ne Nat I D) ∧ (@Ne Nat C D)) →
      wpAny (model prog w) A (isTrue ct (compEnvC scope cl C env) (eval ct (compEnvC scope cl C env))) (fun ok s' => if ok = true then
        wpAny (model prog w) A (eval elt (compEnvC scope cl C env)) (CompEnd h₀ L m { s with heap := h, toks := tk } I oI C oC D (lst ys) (fun nw => (ax, tupO us e) ∈ nw) (fun y nw => nw = news ∧ (∃ t', y = .int k t') ∧ f k = true)) E' s'
        else CompEnd h₀ L m { s with heap := h, toks := tk } I oI C oC D (lst ys) (fun nw => (ax, tupO us e) ∈ nw) (fun _ nw => nw = news ∧ f k = false) Value.none s') E' { s with heap := h, toks := tk })
    (done : ∀ (g : Heap) ys zs, IntsAre ys zs → zs = xs.filter f → FinE h₀ L m { s with heap := g } Q ys news) :
    SrcTT prog w A h₀ L m env ct elt x scope cl Q (.ref ax) s := by
  have hl := hi.length
  refine ⟨ax, us, e, news, rfl, hh, F, N, hm, Nat.le_trans hsz (by decide), fun g => ?_⟩
  refine compRestT_inv (s := { s with heap := g }) (n := us.length) (fun i ys nw => nw = news ∧ IntsAre ys ((xs.take i).filter f)) ?_ ?_ us.length 0 [] news (by omega) ⟨rfl, .nil⟩
  · rintro i ys nw v I oI C oC D m₂ h tk E' hlt ⟨rfl, hy⟩ hP hC hx F' N' off ne
    obtain ⟨t, e2⟩ := hi.get i (xs[i]'(by omega)) (List.getElem?_eq_getElem (by omega))
    rw [e2] at hP
    cases hP
    have ht : xs.take (i + 1) = xs.take i ++ [xs[i]'(by omega)] := by rw [List.take_add_one, List.getElem?_eq_getElem (by omega)]; rfl
    refine wpAny_mono (turn g (xs[i]'(by omega)) t ys I oI C oC D m₂ h tk E' hC hx F' N' off ne) (fun ok s₂ hz => ?_) fun _ _ e => e
    cases ok with
    | true =>
      simp only [if_true] at hz ⊢
      refine wpAny_mono hz (fun y s₃ hz => ?_) fun _ _ e => e
      obtain ⟨h', tk₃, news', rfl, F₃, N₃, off₃, hS, rfl, ⟨t', rfl⟩, hf⟩ := hz
      refine ⟨h', tk₃, _, rfl, F₃, N₃, off₃, hS, rfl, ?_⟩
      rw [ht, List.filter_append, List.filter_cons, hf]
      exact ints_snoc hy
    | false =>
      simp only [Bool.false_eq_true, if_false] at hz ⊢
      obtain ⟨h', tk₃, news', rfl, F₃, N₃, off₃, hS, rfl, hf⟩ := hz
      refine ⟨h', tk₃, _, rfl, F₃, N₃, off₃, hS, rfl, ?_⟩
      rw [ht, List.filter_append, List.filter_cons, hf]
      simpa using hy
  · rintro ys nw ⟨rfl, hy⟩
    rw [hl, List.take_length] at hy
    exact done g ys _ hy rfl
end
end Mine
namespace Mine
open PySem PySem.W PySem.Calls PyProof.Rows PySem.Spec PyProof.Rows.LCg
/-- two places agree: v[i] is j + 1 just when v[many + j] is i + 1 -/
def okP (m : Nat) (xs : List Int) (i j : Nat) : Prop := xs.getD ((0 : Int) + (i : Int)).toNat 0 = (0 : Int) + (j : Int) + 1 ↔ xs.getD ((m : Int) + ((0 : Int) + (j : Int))).toNat 0 = (0 : Int) + (i : Int) + 1
def invK (m : Nat) (xs : List Int) : Prop := (∀ i, i < m → ∀ j, j < m → okP m xs i j) ∧ ∀ x ∈ xs, 1 ≤ x ∧ x ≤ (m : Int)
noncomputable def invB (m : Nat) (xs : List Int) : Bool := @decide (invK m xs) (Classical.propDecidable _)
theorem invB_no {m i j : Nat} {xs : List Int} (hi : i < m) (hj : j < m) (h : ((xs.getD ((0 : Int) + (i : Int)).toNat 0 == (0 : Int) + (j : Int) + 1) != (xs.getD ((m : Int) + ((0 : Int) + (j : Int))).toNat 0 == (0 : Int) + (i : Int) + 1)) = true) : false = invB m xs :=
  (@decide_eq_false _ (Classical.propDecidable _) fun e => ne_t h (e.1 i hi j hj)).symm
theorem invB_yes {m : Nat} {xs zs : List Int} (hz : zs = xs.filter fun k => decide (¬ (1 ≤ k ∧ k ≤ (m : Int)))) (h : ∀ i, i < m → ∀ j, j < m → okP m xs i j) : decide (zs = []) = invB m xs := by
  subst hz
  rw [Bool.eq_iff_iff, invB, decide_eq_true_eq, @decide_eq_true_eq _ (Classical.propDecidable _), filt_nil]
  simp only [decide_eq_false_iff_not, Decidable.not_not]
  exact ⟨fun x => ⟨h, x⟩, fun x => x.2⟩
theorem lt1 {P : Nat → Prop} : (∀ i, i < 1 → P i) ↔ P 0 := ⟨fun h => h 0 (by decide), fun h i q => (Nat.lt_one_iff.mp q) ▸ h⟩
theorem lt2 {P : Nat → Prop} : (∀ i, i < 2 → P i) ↔ P 0 ∧ P 1 := ⟨fun h => ⟨h 0 (by decide), h 1 (by decide)⟩, fun h i q => by
  rcases (show i = 0 ∨ i = 1 by omega) with rfl | rfl
  · exact h.1
  · exact h.2⟩
theorem lt3 {P : Nat → Prop} : (∀ i, i < 3 → P i) ↔ P 0 ∧ P 1 ∧ P 2 := ⟨fun h => ⟨h 0 (by decide), h 1 (by decide), h 2 (by decide)⟩, fun h i q => by
  rcases (show i = 0 ∨ i = 1 ∨ i = 2 by omega) with rfl | rfl | rfl
  · exact h.1
  · exact h.2.1
  · exact h.2.2⟩
theorem all_cons {P : Int → Prop} {x : Int} {xs : List Int} : (∀ y ∈ x :: xs, P y) ↔ P x ∧ ∀ y ∈ xs, P y := List.forall_mem_cons
theorem all_one {P : Int → Prop} {x : Int} : (∀ y ∈ [x], P y) ↔ P x := List.forall_mem_singleton
theorem invB_iff {m : Nat} {xs : List Int} {b : Prop} [Decidable b] (h : invK m xs ↔ b) : invB m xs = decide b := by
  rw [Bool.eq_iff_iff, invB, @decide_eq_true_eq _ (Classical.propDecidable _), decide_eq_true_eq]; exact h
theorem invB1 {p a : Int} : invB 1 [p, a] = inv1 p a := invB_iff ((and_congr (lt1.trans lt1) (all_cons.trans (and_congr Iff.rfl all_one))).trans (show ((p = 1 ↔ a = 1) ∧ (1 ≤ p ∧ p ≤ 1) ∧ (1 ≤ a ∧ a ≤ 1)) ↔ _ from and_congr Iff.rfl and_assoc))
theorem invB2 {p q a b : Int} : invB 2 [p, q, a, b] = inv2 p q a b := invB_iff ((and_congr (lt2.trans (and_congr lt2 lt2)) (all_cons.trans (and_congr Iff.rfl (all_cons.trans (and_congr Iff.rfl (all_cons.trans (and_congr Iff.rfl all_one))))))).trans
  (show (((p = 1 ↔ a = 1) ∧ (p = 2 ↔ b = 1)) ∧ (q = 1 ↔ a = 2) ∧ (q = 2 ↔ b = 2)) ∧ ((1 ≤ p ∧ p ≤ 2) ∧ (1 ≤ q ∧ q ≤ 2) ∧ (1 ≤ a ∧ a ≤ 2) ∧ (1 ≤ b ∧ b ≤ 2)) ↔ _ from and_congr and_assoc Iff.rfl))
theorem invB3 {p q r a b c : Int} : invB 3 [p, q, r, a, b, c] = inv3 p q r a b c := invB_iff ((and_congr (lt3.trans (and_congr lt3 (and_congr lt3 lt3))) (all_cons.trans (and_congr Iff.rfl (all_cons.trans (and_congr Iff.rfl (all_cons.trans (and_congr Iff.rfl (all_cons.trans (and_congr Iff.rfl (all_cons.trans (and_congr Iff.rfl all_one))))))))))).trans
  (show (((p = 1 ↔ a = 1) ∧ (p = 2 ↔ b = 1) ∧ (p = 3 ↔ c = 1)) ∧ ((q = 1 ↔ a = 2) ∧ (q = 2 ↔ b = 2) ∧ (q = 3 ↔ c = 2)) ∧ ((r = 1 ↔ a = 3) ∧ (r = 2 ↔ b = 3) ∧ (r = 3 ↔ c = 3))) ∧ ((1 ≤ p ∧ p ≤ 3) ∧ (1 ≤ q ∧ q ≤ 3) ∧ (1 ≤ r ∧ r ≤ 3) ∧ (1 ≤ a ∧ a ≤ 3) ∧ (1 ≤ b ∧ b ≤ 3) ∧ (1 ≤ c ∧ c ≤ 3)) ↔ _ from
    and_congr (and_assoc.trans (and_congr Iff.rfl (and_assoc.trans (and_congr Iff.rfl (and_congr Iff.rfl (and_assoc.trans (and_congr Iff.rfl (and_assoc)))))))) Iff.rfl))
def OutJ (m : Nat) (xs : List Int) (v : Addr) (nx : Led) (i : Nat) (f : Str → Option Value) (news : Led) : Prop := f (Str.ofString "v") = some (.ref v) ∧ news = nx ∧ ∀ i', i' < i → ∀ j, j < m → okP m xs i' j
def InnJ (m : Nat) (xs : List Int) (v : Addr) (nx : Led) (i : Nat) (j : Nat) (f : Str → Option Value) (news : Led) : Prop := f (Str.ofString "v") = some (.ref v) ∧ (∃ t, f (Str.ofString "i") = some (.int ((0 : Int) + (i : Int)) t)) ∧ news = nx ∧ ∀ j', j' < j → okP m xs i j'
theorem below_succ {P : Nat → Prop} {i : Nat} (h : ∀ i', i' < i → P i') (hi : P i) : ∀ i', i' < i + 1 → P i' := fun i' q => by
  rcases Nat.lt_or_eq_of_le (Nat.le_of_lt_succ q) with q | q
  · exact h i' q
  · subst q; exact hi

set_option maxHeartbeats 4000000 in
theorem inv_keeps_any (w : World) (mean : ExcName → Option Value) (mg mb : Str → Option Value) {t o q v : Addr} {ts : Tok} {os us : List Value} {ys xs : List Int} (hj : IntsAre os ys) (h3 : 1 ≤ ys.length) (h8 : ys.length ≤ 3) (hi : IntsAre us xs) (hl : xs.length = ys.length + ys.length) :
    Con w mean mg mb 12 408 [.ref t, .ref v] [(t, tupO [.str (Str.ofString "inverse") ts, .ref o, .ref q] 0), (o, tupO os 0), (v, tupO us 0)] (BoolPost (invB ys.length xs) [(t, tupO [.str (Str.ofString "inverse") ts, .ref o, .ref q] 0), (o, tupO os 0), (v, tupO us 0)]) := by
  k_dflt (
  refine' con_ofC ?k7 ?k8 ?kA ?kB ?kD ?_ ?c2 ?c3 ?c4;
  (case k7 => k_is); (case k8 => k_is);
  (case kA => exact fun _ => BindsTo.of_eq rfl); (case kB => exact rfl); (case kD => decide +kernel); (case c2 => exact rfl); (case c3 => exact rfl); (case c4 => exact rfl))
  intro dp gd un outer base g s B st sz X T hroom hu L' h₁ tk' cells' Q' F N' Y' hlt hret
  (try k_lt hlt)
  k_cells Y'
  (try simp only [List.cons_append, List.nil_append] at N')
  (try dsimp only at *); (try k_lift B); (try k_fold)
  k_with_none
  k_with "CompRest!" => ((with_unfolding_all first
  | (refine LCg.CompRest.succ ?_; intro v' I' oI' C' oC' D' m' h' tk' E' hv' hC' hx' F' N' off' ne'; (first | lcg_open hv' | (obtain ⟨t9', hv9'⟩ := hv'; subst hv9')); replace ne' := Apart3.of ne')
  | refine LCg.CompRest.zero ?_))
  k_with "FinE!" => (((unfold LCg.FinE); intro D' h' tk' F' N' o1'; (try simp only [List.nil_append, List.cons_append] at N'); (try dsimp only)))
  k_with "FinA!" => (((unfold LCg.FinA); intro D' h' tk' F' N' o1'; (try simp only [List.nil_append, List.cons_append] at N'); (try dsimp only)))
  k_with "call builtin:len!" => ((
  k_here
  (with_reducible show wpAny _ _ (PySem.call (Value.builtin _) [Value.ref _]) _ _ _)
  k_dflt (refine' len_tupN ?N ?m ?i ?f ?_; (case N => k_asm); (case m => k_mem); (case i => with_reducible assumption); (case f => omega))
  k_whole))
  k_with "subscriptTail!" => ((
  k_here
  (with_reducible show wpAny _ _ (subscriptTail _ _ (Value.ref _) (Value.int _ _)) _ _ _)
  k_dflt (first
    | (refine' item_tupN ?N ?m ?i ?h0 ?h1 ?f ?_ ?k6; (case N => k_asm); (case m => k_mem); (case i => with_reducible assumption); (case h0 => omega); (case h1 => omega); (case f => omega); (case k6 => with_unfolding_all rfl))
    | ((with_reducible show wpAny _ _ (subscriptTail _ _ (Value.ref _) (Value.int (-1) _)) _ _ _); refine' item_tup_last ?N ?m ?i ?h1 ?_ ?k6; (case N => k_asm); (case m => k_mem); (case i => with_reducible assumption); (case h1 => omega); (case k6 => with_unfolding_all rfl)))
  k_whole
  intro t'))
  k_with "call type:tuple!" => ((
  k_here
  (with_reducible show wpAny _ _ (PySem.call (Value.type _) [Value.ref _]) _ _ _)
  k_dflt (refine' tup_sameN ?N ?m ?_; (case N => k_asm); (case m => k_mem))
  k_whole))
  k_with "pyIter ref!" => ((
  k_here
  (with_reducible show wpAny _ _ (pyIter (Value.ref _)) (fun it s₂ => LoopAtV _ _ _ _ _ _ _ _ _ it s₂) _ _)
  k_dflt (refine' iter_tupUnr ?hh ?F ?N ?m ?_; (case hh => exact rfl); (case F => k_asm); (case N => k_asm); (case m => k_mem))
  k_whole
  intro i' l1
  (try k_lt l1)))
  k_with "TupRest!" => ((with_unfolding_all first | (refine TupRest.succ (fun it' h' tk' hit' F' N' => ?_)) | (refine TupRest.zero (fun h' tk' F' N' => ?_))))
  k_with "compareOp In int ref!" => ((
  k_here
  (with_reducible show wpAny _ _ (compareOp CmpOp.In (Value.int _ _) (Value.ref _)) _ _ _)
  k_dflt (refine in_rangeK (by with_reducible assumption) ?_)
  k_whole))
  k_with "binaryOp Add ref ref!" => ((
  k_here
  k_dflt (refine' add_tupN ?F ?N ?m1 ?m2 ?v ?w ?z ?_; (case F => k_asm); (case N => k_asm); (case m1 => k_mem); (case m2 => k_mem); (case v => ((try simp only [List.length_append, List.length_cons, List.length_nil]); omega)); (case w => ((try simp only [List.length_append, List.length_cons, List.length_nil]); omega)); (case z => ((try simp only [List.length_append, List.length_cons, List.length_nil]); omega)))
  k_whole
  intro D' h' F' N' l1
  (try simp only [List.cons_append, List.nil_append, List.append_assoc] at N'); (try k_lt l1); (try dsimp only); (try k_fold)))
  k_with "CompEnd!" => ((
  k_dflt (first
    | (refine' LCg.CompEnd.intro ?F ?N _ ?sub ?off ?S ⟨rfl, ⟨_, rfl⟩, ?f⟩; (case F => k_asm); (case N => k_asm); (case sub => lcg_sub); (case off => with_reducible assumption); (case S => k_mem); (case f => simp <;> omega))
    | (refine' LCg.CompEnd.intro ?F ?N _ ?sub ?off ?S ⟨rfl, ?f⟩; (case F => k_asm); (case N => k_asm); (case sub => lcg_sub); (case off => with_reducible assumption); (case S => k_mem); (case f => simp <;> omega)))))
  k_with "eval ListComp!" => ((
  k_here
  lct_look; lcg_calm
  k_dflt (refine listComp_tupT (_F₀ := by k_asm) (by with_unfolding_all rfl) (by decide) (by rfl) (by decide) (by rfl) ?_)))
  k_with "compareOp Eq ref ref!" => ((
  k_here
  (with_reducible show wpAny _ _ (compareOp CmpOp.Eq (Value.ref _) (Value.ref _)) _ _ _)
  k_dflt (refine' eq_intsN ?N ?m1 ?m2 ?i1 ?i2 ?u ?_; (case N => k_asm); (case m1 => k_mem); (case m2 => k_mem); (case i1 => first | (with_reducible assumption) | exact .nil); (case i2 => first | (with_reducible assumption) | exact .nil); (case u => ktr_units))
  k_whole))
  k_with "call type:range!" => ((
  k_here
  k_dflt (refine' range1_rows ?F ?N ?_; (case F => k_asm); (case N => k_asm))
  k_whole
  intro _ _ _ _ _ _ _ _ _))
  k_with "RangeRest!" => (k_extra "RangeRest")
  k_with "UnrEnd!" => (k_extra "UnrEnd")
  k_with "pyIter ref!" => (k_extra "pyIter ref")
  k_with "pyIter ref" => (
    (with_reducible show wpAny _ _ (pyIter (Value.ref _)) (fun it s₂ => LoopAtV _ _ _ _ _ _ _ _ _ it s₂) _ _)
    k_dflt (refine' iter_rangeUnr (n := ys.length) ?hh ?r ?sm ?sz ?F ?N ?_; (case hh => exact rfl); (case r => assumption); (case F => k_asm); (case N => k_asm); (case sm => (refine small_one ?_ ?_ ?_ ?_ <;> omega)); (case sz => (rw [rangeSize_nat]; omega)))
    k_whole
    intro I' l1
    (try k_lt l1))
  k_with "RangeRest" => (
    (with_reducible show RangeRest _ _ _ _ _ _ (Str.ofString "i") _ _ _ _ _ _ _ _ _ _)
    k_dflt (
    refine' range_inv (OutJ ys.length xs v _) ?_ ?_ _ _ _ _ ?e0 ⟨?hf, rfl, ?h0⟩
    (case e0 => exact Nat.zero_add _); (case hf => exact rfl); (case h0 => exact fun _ q => absurd q (Nat.not_lt_zero _))
    intro i2 m2 nx2 t2' h' tk' hlti hJ F' N'
    obtain ⟨hv2, hnx2, hoki⟩ := hJ
    subst hnx2
    (replace F' := Fr.know F' (x := Str.ofString "v") ((if_neg (by decide)).trans hv2))
    skip
    (try dsimp only); (try k_fold)
    rotate_left
    intro m2 nx2 h' tk' hJ F' N'
    obtain ⟨hv2, hnx2, hoki⟩ := hJ
    subst hnx2
    (replace F' := Fr.know F' (x := Str.ofString "v") hv2)
    skip
    (try dsimp only); (try k_fold)
    rotate_left))
  k_with "RangeRest" => (
    (with_reducible show RangeRest _ _ _ _ _ _ (Str.ofString "j") _ _ _ _ _ _ _ _ _ _)
    k_dflt (
    refine' range_inv (InnJ ys.length xs v _ i2) ?_ ?_ _ _ _ _ ?e0 ⟨?hf, ?hf2, rfl, ?h0⟩
    (case e0 => exact Nat.zero_add _); (case hf => exact rfl); (case h0 => exact fun _ q => absurd q (Nat.not_lt_zero _)); (case hf2 => exact ⟨_, rfl⟩)
    intro j2 m2 nx2 t2' h' tk' hltj hJ F' N'
    obtain ⟨hv2, ⟨ti2, hi2⟩, hnx2, hokj⟩ := hJ
    subst hnx2
    (replace F' := Fr.know F' (x := Str.ofString "v") ((if_neg (by decide)).trans hv2))
    (replace F' := Fr.know F' (x := Str.ofString "i") ((if_neg (by decide)).trans ((if_neg (by decide)).trans hi2)))
    (try dsimp only); (try k_fold)
    rotate_left
    intro m2 nx2 h' tk' hJ F' N'
    obtain ⟨hv2, ⟨ti2, hi2⟩, hnx2, hokj⟩ := hJ
    subst hnx2
    (replace F' := Fr.know F' (x := Str.ofString "v") hv2)
    (replace F' := Fr.know F' (x := Str.ofString "i") ((if_neg (by decide)).trans hi2))
    (try dsimp only); (try k_fold)
    rotate_left))
  k_with "UnrEnd" => (
    (with_reducible show UnrEnd _ _ _ _ _ (InnJ _ _ _ _ _ _) _)
    k_dflt (
    refine' UnrEnd.intro ?F ?N _ ?sub ?off ⟨?hf, ⟨_, ?hi⟩, rfl, below_succ hokj (ne_f ?hk)⟩
    (case F => k_asm); (case N => k_asm); (case hf => exact rfl); (case hi => exact rfl); (case hk => with_reducible assumption)
    (case sub => lcg_sub); (case off => k_all)))
  k_with "UnrEnd" => (
    (with_reducible show UnrEnd _ _ _ _ _ (OutJ _ _ _ _ _) _)
    k_dflt (
    refine' UnrEnd.intro ?F ?N _ ?sub ?off ⟨?hf, rfl, below_succ hoki hokj⟩
    (case F => k_asm); (case N => k_asm); (case hf => exact rfl)
    (case sub => lcg_sub); (case off => k_all)))
  k_with "SrcTT" => (
    k_dflt (refine' srcTT_filt (fun k => decide (¬ (1 ≤ k ∧ k ≤ (ys.length : Int)))) (us := us) (xs := xs) ?c1 ?c2 ?c3 ?c4 ?c6 ?c5 ?_ ?_
            (case c1 => exact rfl); (case c2 => k_asm); (case c3 => k_asm); (case c4 => k_mem); (case c6 => assumption); (case c5 => (rw [hi.length]; omega)))
    intro g' k' t' ys' I' oI' C' oC' D' m' h' tk' E' hC' hx' F' N' off' ne'
    (replace ne' := Apart3.of ne')
    (try dsimp only at N' off'); (try dsimp only); (try k_fold)
    rotate_left
    intro g' ys' zs' hz' hzf'
    (try dsimp only)
    rotate_left)
  (repeat' (first | (k_unfold; (try dsimp only)) | walk1 | (dsimp only; walk1) | (leave1; (try dsimp only))))
  all_goals (try dsimp only)
  all_goals (repeat (k_unfold; (try dsimp only)))
  all_goals (refine hret _ _ _ _ _ (by k_asm) (cb_drop (by assumption) (by lcg_sub)) (BoolPost.mk ?_))
  · exact invB_no hlti hltj (by assumption)
  · exact invB_yes hzf' hoki
end Mine
namespace Mine
open PySem PySem.W PySem.Calls PyProof.Rows PySem.Spec

set_option maxHeartbeats 8000000 in
theorem values0_inv (w : World) (mean : ExcName → Option Value) (mg mb : Str → Option Value) {fa t sc : Addr} {ss : List Value} {zs : List Int} {tl : Tok} {o p : Addr} {ts : Tok} {q : Nat}
    (hs : IntsAre ss zs) (h1 : 1 ≤ q) (h3 : q ≤ 3) (hsl : zs.length = q + q) :
    Con w mean mg mb 12 413 [.ref fa, .ref t, .ref sc, .int 0 tl] [(t, tupO [.str (Str.ofString "inverse") ts, .ref o, .ref p] 0), (sc, tupO ss 0)] (NewPost (ValP (q + q)) [(t, tupO [.str (Str.ofString "inverse") ts, .ref o, .ref p] 0), (sc, tupO ss 0)]) := by
  k_dflt (
  refine' con_ofC ?k7 ?k8 ?kA ?kB ?kD ?_ ?c2 ?c3 ?c4;
  (case k7 => k_is); (case k8 => k_is);
  (case kA => exact fun _ => BindsTo.of_eq rfl); (case kB => exact rfl); (case kD => decide +kernel); (case c2 => exact rfl); (case c3 => exact rfl); (case c4 => exact rfl))
  intro dp gd un outer base g s B st sz X T hroom hu L' h₁ tk' cells' Q' F N' Y' hlt hret
  (try k_lt hlt)
  k_cells Y'
  (try simp only [List.cons_append, List.nil_append] at N')
  (try dsimp only at *); (try k_lift B); (try k_fold)
  k_with_none
  k_with "call builtin:len!" => ((
  k_here
  (with_reducible show wpAny _ _ (PySem.call (Value.builtin _) [Value.ref _]) _ _ _)
  k_dflt (refine' len_tupN ?N ?m ?i ?f ?_; (case N => k_asm); (case m => k_mem); (case i => with_reducible assumption); (case f => omega))
  k_whole))
  k_with "subscriptTail!" => ((
  k_here
  (with_reducible show wpAny _ _ (subscriptTail _ _ (Value.ref _) (Value.int _ _)) _ _ _)
  k_dflt (first
    | (refine' item_tupN ?N ?m ?i ?h0 ?h1 ?f ?_ ?k6; (case N => k_asm); (case m => k_mem); (case i => with_reducible assumption); (case h0 => omega); (case h1 => omega); (case f => omega); (case k6 => with_unfolding_all rfl))
    | ((with_reducible show wpAny _ _ (subscriptTail _ _ (Value.ref _) (Value.int (-1) _)) _ _ _); refine' item_tup_last ?N ?m ?i ?h1 ?_ ?k6; (case N => k_asm); (case m => k_mem); (case i => with_reducible assumption); (case h1 => omega); (case k6 => with_unfolding_all rfl)))
  k_whole
  intro t'))
  k_with "call type:tuple!" => ((
  k_here
  (with_reducible show wpAny _ _ (PySem.call (Value.type _) [Value.ref _]) _ _ _)
  k_dflt (refine' tup_sameN ?N ?m ?_; (case N => k_asm); (case m => k_mem))
  k_whole))
  k_with "pyIter ref!" => ((
  k_here
  (with_reducible show wpAny _ _ (pyIter (Value.ref _)) (fun it s₂ => LoopAtV _ _ _ _ _ _ _ _ _ it s₂) _ _)
  k_dflt (refine' iter_tupUnr ?hh ?F ?N ?m ?_; (case hh => exact rfl); (case F => k_asm); (case N => k_asm); (case m => k_mem))
  k_whole
  intro i' l1
  (try k_lt l1)))
  k_with "TupRest!" => ((with_unfolding_all first | (refine TupRest.succ (fun it' h' tk' hit' F' N' => ?_)) | (refine TupRest.zero (fun h' tk' F' N' => ?_))))
  k_with "compareOp In int ref!" => ((
  k_here
  (with_reducible show wpAny _ _ (compareOp CmpOp.In (Value.int _ _) (Value.ref _)) _ _ _)
  k_dflt (refine in_rangeK (by with_reducible assumption) ?_)
  k_whole))
  k_with "binaryOp Add ref ref!" => ((
  k_here
  k_dflt (refine' add_tupN ?F ?N ?m1 ?m2 ?v ?w ?z ?_; (case F => k_asm); (case N => k_asm); (case m1 => k_mem); (case m2 => k_mem); (case v => ((try simp only [List.length_append, List.length_cons, List.length_nil]); omega)); (case w => ((try simp only [List.length_append, List.length_cons, List.length_nil]); omega)); (case z => ((try simp only [List.length_append, List.length_cons, List.length_nil]); omega)))
  k_whole
  intro D' h' F' N' l1
  (try simp only [List.cons_append, List.nil_append, List.append_assoc] at N'); (try k_lt l1); (try dsimp only); (try k_fold)))
  k_with "CompRest!" => ((with_unfolding_all first
  | (refine LCg.CompRest.succ ?_; intro v' I' oI' C' oC' D' m' h' tk' E' hv' hC' hx' F' N' off' ne'; (first | lcg_open hv' | (obtain ⟨t9', hv9'⟩ := hv'; subst hv9')); replace ne' := Apart3.of ne')
  | refine LCg.CompRest.zero ?_))
  k_with "FinE!" => (((unfold LCg.FinE); intro D' h' tk' F' N' o1'; (try simp only [List.nil_append, List.cons_append] at N'); (try dsimp only)))
  k_with "FinA!" => (((unfold LCg.FinA); intro D' h' tk' F' N' o1'; (try simp only [List.nil_append, List.cons_append] at N'); (try dsimp only)))
  k_with "call ref!" => ((
  k_here
  (with_reducible show wpAny _ _ (PySem.call (Value.ref 391) _ _) _ _ _)
  k_dflt (
    refine wpAny_call ?_
    refine' row_use ?c5 ?c3 ?c1 ?c2 ?c4 ?c6 ?c7 ?c8 ?hc ?hI ?hne ?hn0 ?hcl ?hm0 ?hm1 ?hm ?hm2 ?hm3 ?hm4 ?c9 ?c10 ?c11 ?c12 ?c13 ?_
    (case c1 => exact rfl); (case c3 => k_asm); (case c2 => k_asm); (case c4 => k_asm); (case c5 => k_asm); (case c6 => k_asm); (case c7 => k_updF); (case c8 => k_mem)
    (case hc => with_reducible assumption); (case hI => with_reducible assumption); (case hne => first | exact AllNe.ne (by with_reducible assumption) (by k_mem) | with_reducible assumption | omega); (case hn0 => with_reducible assumption); (case hcl => exact Nat.le_of_ble_eq_true rfl)
    (case hm0 => first | with_reducible assumption | exact Int.natCast_nonneg _ | exact many_lo (by with_reducible assumption) | omega); (case hm1 => first | with_reducible assumption | exact many_hi (by with_reducible assumption) | exact many_nat (by with_reducible assumption) (by with_reducible assumption) | omega)
    (case hm => decide); (case hm2 => decide); (case hm3 => decide); (case hm4 => decide)
    (case c9 => exact rfl); (case c10 => exact rfl); (case c11 => first | exact rfl | assumption); (case c12 => ktr_room); (case c13 => ktr_units)
    k_whole
    intro a9' us9' xs9' n9' tk9' e9' h9' u9' F9' N9' c9' o9' q9' l9' i9'
    (try dsimp only at N9')
    (try dsimp only)
    (try k_fold))))
  k_with "call type:tuple!" => ((
  k_here
  (with_reducible show wpAny _ _ (PySem.call (Value.type "tuple") [Value.ref _]) _ _ _)
  k_dflt (refine' tup_ofN ?F ?N ?m ?z ?_; (case F => k_asm); (case N => k_asm); (case m => k_mem); (case z => first | ((try simp only [List.length_append, List.length_cons, List.length_nil]); omega) | (rw [IntsAre.length (by with_reducible assumption)]; simp only [List.length_append, List.length_map, rangeKs_length, List.length_cons, List.length_nil]; omega)))
  k_whole
  intro D' h' F' N' l1
  (try k_lt l1); (try dsimp only); (try k_fold)))
  k_with "binaryOp Mult ref int!" => ((
  k_here
  (with_reducible show wpAny _ _ (binaryOp Operator.Mult (Value.ref _) (Value.int _ _)) _ _ _)
  k_dflt (refine' mul_listN ?F ?N ?m ?i ?h1 ?h2 ?hx ?_ ?hlo; (case F => k_asm); (case N => k_asm); (case m => k_mem); (case i => first | (with_reducible assumption) | exact .cons _ _ .nil)
          (case h1 => (try simp only [List.length_map, rangeKs_length, List.length_cons, List.length_nil]); omega); (case h2 => (try simp only [List.length_map, rangeKs_length, List.length_cons, List.length_nil]); omega); (case hx => omega); (case hlo => omega))
  k_whole
  intro D' h' F' N' l1 hmul hmlen
  (have hml2 := hmul.length); (try simp only [Int.reduceToNat] at hmul hml2 hmlen N'); (try simp only [List.length_map, rangeKs_length, List.length_cons, List.length_nil] at hmlen)
  (try k_lt l1); (try dsimp only); (try k_fold)))
  k_with "binaryOp FloorDiv int int!" => (k_extra "fdiv")
  have hfd : Int.fdiv (zs.length : Int) 2 = (q : Int) := by rw [hsl, Int.fdiv_eq_ediv_of_nonneg _ (by decide)]; omega
  k_with "fdiv" => (
    k_dflt (refine floordiv_int (by decide) ?_)
    rw [hfd]
    (try dsimp only))
  iterate 132 (try (first | (k_unfold; (try dsimp only)) | walk1 | (dsimp only; walk1)))
  refine' hret _ _ _ _ _ (by k_asm) (cb_drop (by assumption) ?sub) (NewPost.mk (own := [(_, tupO _ 0)]) ⟨_, _, _, rfl, rfl, ?are, ?len⟩ ?own)
  (case sub => lcg_sub)
  (case are => with_reducible assumption)
  (case len => omega)
  (case own => exact ownNe_one (List.forall_mem_cons.mpr ⟨by k_ne, List.forall_mem_cons.mpr ⟨by k_ne, List.forall_mem_nil _⟩⟩))
end Mine
namespace Mine
open PySem PySem.W PySem.Calls PyProof.Rows PySem.Spec
def GetM (w : World) (x : Addr) (nm : Str) (f : Addr) (R : Led) : Prop := ∀ (A : Around) (E : Value → Shared → Prop) (Q : Value × List Value → Shared → Prop) (s : Shared) (pl : Sem Bool) (h₀ : Heap) (L : Addr) (m : Str → Option Value),
  Fr h₀ L s.heap m → (kheap w.params).In h₀ → News h₀ L s.heap R → Q (.ref f, [.ref x]) s → wpAny (model PySem.Challenge.rw_nz0027_01.row.prog w) A (getMethod (.ref x) nm pl) Q E s
def GetA (w : World) (x : Addr) (nm : Str) (v : Addr) (R : Led) : Prop := ∀ (A : Around) (E : Value → Shared → Prop) (Q : Value → Shared → Prop) (s : Shared) (b : Bool) (h₀ : Heap) (L : Addr) (m : Str → Option Value),
  Fr h₀ L s.heap m → (kheap w.params).In h₀ → News h₀ L s.heap R → (∀ t, Q (.ref v) { s with toks := t }) → wpAny (model PySem.Challenge.rw_nz0027_01.row.prog w) A (getAttr (.ref x) nm b) Q E s
theorem getM_elem_told {w : World} {x d sc : Addr} {i z : Int} {ti tz : Tok} {o : Addr} {t1 t2 t3 t4 t5 t6 t7 t8 : Tok} {R : Led} (hx : (x, instObj 248 d) ∈ R) (hd : (d, dictOf [ent w "number" t1 (.int (-1) t2), ent w "scope" t3 (.ref sc), ent w "strength" t4 (.str (Str.ofString "values") t5), ent w "index" t6 (.int i ti), ent w "cells" t7 (.ref o), ent w "z" t8 (.int z tz)] 6) ∈ R) : GetM w x (Str.ofString "told") 196 R := by
  intro A E Q s pl h₀ L m F X N0 H
  have N : News h₀ L s.heap [(x, instObj 248 d), (d, dictOf [ent w "number" t1 (.int (-1) t2), ent w "scope" t3 (.ref sc), ent w "strength" t4 (.str (Str.ofString "values") t5), ent w "index" t6 (.int i ti), ent w "cells" t7 (.ref o), ent w "z" t8 (.int z tz)] 6)] := List.forall_mem_cons.mpr ⟨N0 _ hx, List.forall_mem_singleton.mpr (N0 _ hd)⟩
  clear N0
  walk1
  exact H
theorem getM_elem_check {w : World} {x d sc : Addr} {i z : Int} {ti tz : Tok} {o : Addr} {t1 t2 t3 t4 t5 t6 t7 t8 : Tok} {R : Led} (hx : (x, instObj 248 d) ∈ R) (hd : (d, dictOf [ent w "number" t1 (.int (-1) t2), ent w "scope" t3 (.ref sc), ent w "strength" t4 (.str (Str.ofString "values") t5), ent w "index" t6 (.int i ti), ent w "cells" t7 (.ref o), ent w "z" t8 (.int z tz)] 6) ∈ R) : GetM w x (Str.ofString "check") 203 R := by
  intro A E Q s pl h₀ L m F X N0 H
  have N : News h₀ L s.heap [(x, instObj 248 d), (d, dictOf [ent w "number" t1 (.int (-1) t2), ent w "scope" t3 (.ref sc), ent w "strength" t4 (.str (Str.ofString "values") t5), ent w "index" t6 (.int i ti), ent w "cells" t7 (.ref o), ent w "z" t8 (.int z tz)] 6)] := List.forall_mem_cons.mpr ⟨N0 _ hx, List.forall_mem_singleton.mpr (N0 _ hd)⟩
  clear N0
  walk1
  exact H
theorem getA_elem {w : World} {x d sc : Addr} {i z : Int} {ti tz : Tok} {o : Addr} {t1 t2 t3 t4 t5 t6 t7 t8 : Tok} {R : Led} (hx : (x, instObj 248 d) ∈ R) (hd : (d, dictOf [ent w "number" t1 (.int (-1) t2), ent w "scope" t3 (.ref sc), ent w "strength" t4 (.str (Str.ofString "values") t5), ent w "index" t6 (.int i ti), ent w "cells" t7 (.ref o), ent w "z" t8 (.int z tz)] 6) ∈ R) : GetA w x (Str.ofString "scope") sc R := by
  intro A E Q s pl h₀ L m F X N0 H
  have N : News h₀ L s.heap [(x, instObj 248 d), (d, dictOf [ent w "number" t1 (.int (-1) t2), ent w "scope" t3 (.ref sc), ent w "strength" t4 (.str (Str.ofString "values") t5), ent w "index" t6 (.int i ti), ent w "cells" t7 (.ref o), ent w "z" t8 (.int z tz)] 6)] := List.forall_mem_cons.mpr ⟨N0 _ hx, List.forall_mem_singleton.mpr (N0 _ hd)⟩
  clear N0
  walk1
  exact H _
set_option maxHeartbeats 4000000 in
theorem told_elem (w : World) (mean : ExcName → Option Value) (mg mb : Str → Option Value) {x d sc : Addr} {i z : Int} {ti tz : Tok} {o : Addr} {t1 t2 t3 t4 t5 t6 t7 t8 : Tok} :
    Con w mean mg mb 4 196 [.ref x] [(x, instObj 248 d), (d, dictOf [ent w "number" t1 (.int (-1) t2), ent w "scope" t3 (.ref sc), ent w "strength" t4 (.str (Str.ofString "values") t5), ent w "index" t6 (.int i ti), ent w "cells" t7 (.ref o), ent w "z" t8 (.int z tz)] 6)] (NewPost (fun own r => ∃ a ts, own = [(a, tupO [.str (Str.ofString "element") ts, .int i ti, .ref o, .int z tz] 0)] ∧ r = .ref a) [(x, instObj 248 d), (d, dictOf [ent w "number" t1 (.int (-1) t2), ent w "scope" t3 (.ref sc), ent w "strength" t4 (.str (Str.ofString "values") t5), ent w "index" t6 (.int i ti), ent w "cells" t7 (.ref o), ent w "z" t8 (.int z tz)] 6)]) := by
  k_dflt (
  refine' con_of ?k7 ?k8 ?kA ?kB ?_ ?c2 ?c3 ?c4 ?c5;
  (case k7 => k_is); (case k8 => k_is);
  (case kA => exact fun _ => BindsTo.of_eq rfl); (case kB => exact locs rfl); (case c2 => exact rfl); (case c3 => exact rfl); (case c4 => exact rfl); (case c5 => decide))
  intro dp gd un outer base g s B st sz X T hroom hu L' h₁ Q' F N hlt hret
  (try k_lt hlt); (try dsimp only at *); (try k_lift B); (try k_fold)
  k_with_none
  (repeat' (first | (k_unfold; (try dsimp only)) | walk1 | (dsimp only; walk1) | (leave1; (try dsimp only))))
  all_goals (try dsimp only)
  refine' hret _ _ _ _ _ (by k_asm) (cb_drop (by assumption) ?sub) (NewPost.mk (own := [(_, tupO _ 0)]) ⟨_, _, rfl, rfl⟩ ?own)
  (case sub => lcg_sub)
  (case own => exact ownNe_one (List.forall_mem_cons.mpr ⟨by k_ne, List.forall_mem_singleton.mpr (by k_ne)⟩))
theorem getM_elof_told {w : World} {x d sc : Addr} {i z : Int} {ti tz : Tok} {o : Addr} {t1 t2 t3 t4 t5 t6 t7 t8 : Tok} {R : Led} (hx : (x, instObj 311 d) ∈ R) (hd : (d, dictOf [ent w "number" t1 (.int (-1) t2), ent w "scope" t3 (.ref sc), ent w "strength" t4 (.str (Str.ofString "values") t5), ent w "index" t6 (.int i ti), ent w "numbers" t7 (.ref o), ent w "z" t8 (.int z tz)] 6) ∈ R) : GetM w x (Str.ofString "told") 273 R := by
  intro A E Q s pl h₀ L m F X N0 H
  have N : News h₀ L s.heap [(x, instObj 311 d), (d, dictOf [ent w "number" t1 (.int (-1) t2), ent w "scope" t3 (.ref sc), ent w "strength" t4 (.str (Str.ofString "values") t5), ent w "index" t6 (.int i ti), ent w "numbers" t7 (.ref o), ent w "z" t8 (.int z tz)] 6)] := List.forall_mem_cons.mpr ⟨N0 _ hx, List.forall_mem_singleton.mpr (N0 _ hd)⟩
  clear N0
  walk1
  exact H
theorem getM_elof_check {w : World} {x d sc : Addr} {i z : Int} {ti tz : Tok} {o : Addr} {t1 t2 t3 t4 t5 t6 t7 t8 : Tok} {R : Led} (hx : (x, instObj 311 d) ∈ R) (hd : (d, dictOf [ent w "number" t1 (.int (-1) t2), ent w "scope" t3 (.ref sc), ent w "strength" t4 (.str (Str.ofString "values") t5), ent w "index" t6 (.int i ti), ent w "numbers" t7 (.ref o), ent w "z" t8 (.int z tz)] 6) ∈ R) : GetM w x (Str.ofString "check") 280 R := by
  intro A E Q s pl h₀ L m F X N0 H
  have N : News h₀ L s.heap [(x, instObj 311 d), (d, dictOf [ent w "number" t1 (.int (-1) t2), ent w "scope" t3 (.ref sc), ent w "strength" t4 (.str (Str.ofString "values") t5), ent w "index" t6 (.int i ti), ent w "numbers" t7 (.ref o), ent w "z" t8 (.int z tz)] 6)] := List.forall_mem_cons.mpr ⟨N0 _ hx, List.forall_mem_singleton.mpr (N0 _ hd)⟩
  clear N0
  walk1
  exact H
theorem getA_elof {w : World} {x d sc : Addr} {i z : Int} {ti tz : Tok} {o : Addr} {t1 t2 t3 t4 t5 t6 t7 t8 : Tok} {R : Led} (hx : (x, instObj 311 d) ∈ R) (hd : (d, dictOf [ent w "number" t1 (.int (-1) t2), ent w "scope" t3 (.ref sc), ent w "strength" t4 (.str (Str.ofString "values") t5), ent w "index" t6 (.int i ti), ent w "numbers" t7 (.ref o), ent w "z" t8 (.int z tz)] 6) ∈ R) : GetA w x (Str.ofString "scope") sc R := by
  intro A E Q s pl h₀ L m F X N0 H
  have N : News h₀ L s.heap [(x, instObj 311 d), (d, dictOf [ent w "number" t1 (.int (-1) t2), ent w "scope" t3 (.ref sc), ent w "strength" t4 (.str (Str.ofString "values") t5), ent w "index" t6 (.int i ti), ent w "numbers" t7 (.ref o), ent w "z" t8 (.int z tz)] 6)] := List.forall_mem_cons.mpr ⟨N0 _ hx, List.forall_mem_singleton.mpr (N0 _ hd)⟩
  clear N0
  walk1
  exact H _
set_option maxHeartbeats 4000000 in
theorem told_elof (w : World) (mean : ExcName → Option Value) (mg mb : Str → Option Value) {x d sc : Addr} {i z : Int} {ti tz : Tok} {o : Addr} {t1 t2 t3 t4 t5 t6 t7 t8 : Tok} :
    Con w mean mg mb 4 273 [.ref x] [(x, instObj 311 d), (d, dictOf [ent w "number" t1 (.int (-1) t2), ent w "scope" t3 (.ref sc), ent w "strength" t4 (.str (Str.ofString "values") t5), ent w "index" t6 (.int i ti), ent w "numbers" t7 (.ref o), ent w "z" t8 (.int z tz)] 6)] (NewPost (fun own r => ∃ a ts, own = [(a, tupO [.str (Str.ofString "element_of") ts, .int i ti, .ref o, .int z tz] 0)] ∧ r = .ref a) [(x, instObj 311 d), (d, dictOf [ent w "number" t1 (.int (-1) t2), ent w "scope" t3 (.ref sc), ent w "strength" t4 (.str (Str.ofString "values") t5), ent w "index" t6 (.int i ti), ent w "numbers" t7 (.ref o), ent w "z" t8 (.int z tz)] 6)]) := by
  k_dflt (
  refine' con_of ?k7 ?k8 ?kA ?kB ?_ ?c2 ?c3 ?c4 ?c5;
  (case k7 => k_is); (case k8 => k_is);
  (case kA => exact fun _ => BindsTo.of_eq rfl); (case kB => exact locs rfl); (case c2 => exact rfl); (case c3 => exact rfl); (case c4 => exact rfl); (case c5 => decide))
  intro dp gd un outer base g s B st sz X T hroom hu L' h₁ Q' F N hlt hret
  (try k_lt hlt); (try dsimp only at *); (try k_lift B); (try k_fold)
  k_with_none
  (repeat' (first | (k_unfold; (try dsimp only)) | walk1 | (dsimp only; walk1) | (leave1; (try dsimp only))))
  all_goals (try dsimp only)
  refine' hret _ _ _ _ _ (by k_asm) (cb_drop (by assumption) ?sub) (NewPost.mk (own := [(_, tupO _ 0)]) ⟨_, _, rfl, rfl⟩ ?own)
  (case sub => lcg_sub)
  (case own => exact ownNe_one (List.forall_mem_cons.mpr ⟨by k_ne, List.forall_mem_singleton.mpr (by k_ne)⟩))
theorem getM_inv_told {w : World} {x d sc : Addr} {o q : Addr} {t1 t2 t3 t4 t5 t6 t7 : Tok} {R : Led} (hx : (x, instObj 171 d) ∈ R) (hd : (d, dictOf [ent w "number" t1 (.int (-1) t2), ent w "scope" t3 (.ref sc), ent w "strength" t4 (.str (Str.ofString "weak") t5), ent w "fs" t6 (.ref o), ent w "gs" t7 (.ref q)] 5) ∈ R) : GetM w x (Str.ofString "told") 168 R := by
  intro A E Q s pl h₀ L m F X N0 H
  have N : News h₀ L s.heap [(x, instObj 171 d), (d, dictOf [ent w "number" t1 (.int (-1) t2), ent w "scope" t3 (.ref sc), ent w "strength" t4 (.str (Str.ofString "weak") t5), ent w "fs" t6 (.ref o), ent w "gs" t7 (.ref q)] 5)] := List.forall_mem_cons.mpr ⟨N0 _ hx, List.forall_mem_singleton.mpr (N0 _ hd)⟩
  clear N0
  walk1
  exact H
theorem getM_inv_check {w : World} {x d sc : Addr} {o q : Addr} {t1 t2 t3 t4 t5 t6 t7 : Tok} {R : Led} (hx : (x, instObj 171 d) ∈ R) (hd : (d, dictOf [ent w "number" t1 (.int (-1) t2), ent w "scope" t3 (.ref sc), ent w "strength" t4 (.str (Str.ofString "weak") t5), ent w "fs" t6 (.ref o), ent w "gs" t7 (.ref q)] 5) ∈ R) : GetM w x (Str.ofString "check") 161 R := by
  intro A E Q s pl h₀ L m F X N0 H
  have N : News h₀ L s.heap [(x, instObj 171 d), (d, dictOf [ent w "number" t1 (.int (-1) t2), ent w "scope" t3 (.ref sc), ent w "strength" t4 (.str (Str.ofString "weak") t5), ent w "fs" t6 (.ref o), ent w "gs" t7 (.ref q)] 5)] := List.forall_mem_cons.mpr ⟨N0 _ hx, List.forall_mem_singleton.mpr (N0 _ hd)⟩
  clear N0
  walk1
  exact H
theorem getA_inv {w : World} {x d sc : Addr} {o q : Addr} {t1 t2 t3 t4 t5 t6 t7 : Tok} {R : Led} (hx : (x, instObj 171 d) ∈ R) (hd : (d, dictOf [ent w "number" t1 (.int (-1) t2), ent w "scope" t3 (.ref sc), ent w "strength" t4 (.str (Str.ofString "weak") t5), ent w "fs" t6 (.ref o), ent w "gs" t7 (.ref q)] 5) ∈ R) : GetA w x (Str.ofString "scope") sc R := by
  intro A E Q s pl h₀ L m F X N0 H
  have N : News h₀ L s.heap [(x, instObj 171 d), (d, dictOf [ent w "number" t1 (.int (-1) t2), ent w "scope" t3 (.ref sc), ent w "strength" t4 (.str (Str.ofString "weak") t5), ent w "fs" t6 (.ref o), ent w "gs" t7 (.ref q)] 5)] := List.forall_mem_cons.mpr ⟨N0 _ hx, List.forall_mem_singleton.mpr (N0 _ hd)⟩
  clear N0
  walk1
  exact H _
set_option maxHeartbeats 4000000 in
theorem told_inv (w : World) (mean : ExcName → Option Value) (mg mb : Str → Option Value) {x d sc : Addr} {o q : Addr} {t1 t2 t3 t4 t5 t6 t7 : Tok} :
    Con w mean mg mb 4 168 [.ref x] [(x, instObj 171 d), (d, dictOf [ent w "number" t1 (.int (-1) t2), ent w "scope" t3 (.ref sc), ent w "strength" t4 (.str (Str.ofString "weak") t5), ent w "fs" t6 (.ref o), ent w "gs" t7 (.ref q)] 5)] (NewPost (fun own r => ∃ a ts, own = [(a, tupO [.str (Str.ofString "inverse") ts, .ref o, .ref q] 0)] ∧ r = .ref a) [(x, instObj 171 d), (d, dictOf [ent w "number" t1 (.int (-1) t2), ent w "scope" t3 (.ref sc), ent w "strength" t4 (.str (Str.ofString "weak") t5), ent w "fs" t6 (.ref o), ent w "gs" t7 (.ref q)] 5)]) := by
  k_dflt (
  refine' con_of ?k7 ?k8 ?kA ?kB ?_ ?c2 ?c3 ?c4 ?c5;
  (case k7 => k_is); (case k8 => k_is);
  (case kA => exact fun _ => BindsTo.of_eq rfl); (case kB => exact locs rfl); (case c2 => exact rfl); (case c3 => exact rfl); (case c4 => exact rfl); (case c5 => decide))
  intro dp gd un outer base g s B st sz X T hroom hu L' h₁ Q' F N hlt hret
  (try k_lt hlt); (try dsimp only at *); (try k_lift B); (try k_fold)
  k_with_none
  (repeat' (first | (k_unfold; (try dsimp only)) | walk1 | (dsimp only; walk1) | (leave1; (try dsimp only))))
  all_goals (try dsimp only)
  refine' hret _ _ _ _ _ (by k_asm) (cb_drop (by assumption) ?sub) (NewPost.mk (own := [(_, tupO _ 0)]) ⟨_, _, rfl, rfl⟩ ?own)
  (case sub => lcg_sub)
  (case own => exact ownNe_one (List.forall_mem_cons.mpr ⟨by k_ne, List.forall_mem_singleton.mpr (by k_ne)⟩))
theorem getM_circ_told {w : World} {x d sc : Addr}  {t1 t2 t3 t4 t5 : Tok} {R : Led} (hx : (x, instObj 124 d) ∈ R) (hd : (d, dictOf [ent w "number" t1 (.int (-1) t2), ent w "scope" t3 (.ref sc), ent w "strength" t4 (.str (Str.ofString "weak") t5)] 3) ∈ R) : GetM w x (Str.ofString "told") 121 R := by
  intro A E Q s pl h₀ L m F X N0 H
  have N : News h₀ L s.heap [(x, instObj 124 d), (d, dictOf [ent w "number" t1 (.int (-1) t2), ent w "scope" t3 (.ref sc), ent w "strength" t4 (.str (Str.ofString "weak") t5)] 3)] := List.forall_mem_cons.mpr ⟨N0 _ hx, List.forall_mem_singleton.mpr (N0 _ hd)⟩
  clear N0
  walk1
  exact H
theorem getM_circ_check {w : World} {x d sc : Addr}  {t1 t2 t3 t4 t5 : Tok} {R : Led} (hx : (x, instObj 124 d) ∈ R) (hd : (d, dictOf [ent w "number" t1 (.int (-1) t2), ent w "scope" t3 (.ref sc), ent w "strength" t4 (.str (Str.ofString "weak") t5)] 3) ∈ R) : GetM w x (Str.ofString "check") 114 R := by
  intro A E Q s pl h₀ L m F X N0 H
  have N : News h₀ L s.heap [(x, instObj 124 d), (d, dictOf [ent w "number" t1 (.int (-1) t2), ent w "scope" t3 (.ref sc), ent w "strength" t4 (.str (Str.ofString "weak") t5)] 3)] := List.forall_mem_cons.mpr ⟨N0 _ hx, List.forall_mem_singleton.mpr (N0 _ hd)⟩
  clear N0
  walk1
  exact H
theorem getA_circ {w : World} {x d sc : Addr}  {t1 t2 t3 t4 t5 : Tok} {R : Led} (hx : (x, instObj 124 d) ∈ R) (hd : (d, dictOf [ent w "number" t1 (.int (-1) t2), ent w "scope" t3 (.ref sc), ent w "strength" t4 (.str (Str.ofString "weak") t5)] 3) ∈ R) : GetA w x (Str.ofString "scope") sc R := by
  intro A E Q s pl h₀ L m F X N0 H
  have N : News h₀ L s.heap [(x, instObj 124 d), (d, dictOf [ent w "number" t1 (.int (-1) t2), ent w "scope" t3 (.ref sc), ent w "strength" t4 (.str (Str.ofString "weak") t5)] 3)] := List.forall_mem_cons.mpr ⟨N0 _ hx, List.forall_mem_singleton.mpr (N0 _ hd)⟩
  clear N0
  walk1
  exact H _
set_option maxHeartbeats 4000000 in
theorem told_circ (w : World) (mean : ExcName → Option Value) (mg mb : Str → Option Value) {x d sc : Addr}  {t1 t2 t3 t4 t5 : Tok} :
    Con w mean mg mb 4 121 [.ref x] [(x, instObj 124 d), (d, dictOf [ent w "number" t1 (.int (-1) t2), ent w "scope" t3 (.ref sc), ent w "strength" t4 (.str (Str.ofString "weak") t5)] 3)] (NewPost (fun own r => ∃ a ts, own = [(a, tupO [.str (Str.ofString "circuit") ts, .ref sc] 0)] ∧ r = .ref a) [(x, instObj 124 d), (d, dictOf [ent w "number" t1 (.int (-1) t2), ent w "scope" t3 (.ref sc), ent w "strength" t4 (.str (Str.ofString "weak") t5)] 3)]) := by
  k_dflt (
  refine' con_of ?k7 ?k8 ?kA ?kB ?_ ?c2 ?c3 ?c4 ?c5;
  (case k7 => k_is); (case k8 => k_is);
  (case kA => exact fun _ => BindsTo.of_eq rfl); (case kB => exact locs rfl); (case c2 => exact rfl); (case c3 => exact rfl); (case c4 => exact rfl); (case c5 => decide))
  intro dp gd un outer base g s B st sz X T hroom hu L' h₁ Q' F N hlt hret
  (try k_lt hlt); (try dsimp only at *); (try k_lift B); (try k_fold)
  k_with_none
  (repeat' (first | (k_unfold; (try dsimp only)) | walk1 | (dsimp only; walk1) | (leave1; (try dsimp only))))
  all_goals (try dsimp only)
  refine' hret _ _ _ _ _ (by k_asm) (cb_drop (by assumption) ?sub) (NewPost.mk (own := [(_, tupO _ 0)]) ⟨_, _, rfl, rfl⟩ ?own)
  (case sub => lcg_sub)
  (case own => exact ownNe_one (List.forall_mem_cons.mpr ⟨by k_ne, List.forall_mem_singleton.mpr (by k_ne)⟩))
theorem getM_tab_told {w : World} {x d sc : Addr} {rt a b : Addr} {t1 t2 t3 t4 t5 t6 t7 t8 : Tok} {R : Led} (hx : (x, instObj 370 d) ∈ R) (hd : (d, dictOf [ent w "number" t1 (.int (-1) t2), ent w "scope" t3 (.ref sc), ent w "strength" t4 (.str (Str.ofString "values") t5), ent w "rows" t6 (.ref rt), ent w "able" t7 (.ref a), ent w "columns" t8 (.ref b)] 6) ∈ R) : GetM w x (Str.ofString "told") 339 R := by
  intro A E Q s pl h₀ L m F X N0 H
  have N : News h₀ L s.heap [(x, instObj 370 d), (d, dictOf [ent w "number" t1 (.int (-1) t2), ent w "scope" t3 (.ref sc), ent w "strength" t4 (.str (Str.ofString "values") t5), ent w "rows" t6 (.ref rt), ent w "able" t7 (.ref a), ent w "columns" t8 (.ref b)] 6)] := List.forall_mem_cons.mpr ⟨N0 _ hx, List.forall_mem_singleton.mpr (N0 _ hd)⟩
  clear N0
  walk1
  exact H
theorem getM_tab_check {w : World} {x d sc : Addr} {rt a b : Addr} {t1 t2 t3 t4 t5 t6 t7 t8 : Tok} {R : Led} (hx : (x, instObj 370 d) ∈ R) (hd : (d, dictOf [ent w "number" t1 (.int (-1) t2), ent w "scope" t3 (.ref sc), ent w "strength" t4 (.str (Str.ofString "values") t5), ent w "rows" t6 (.ref rt), ent w "able" t7 (.ref a), ent w "columns" t8 (.ref b)] 6) ∈ R) : GetM w x (Str.ofString "check") 346 R := by
  intro A E Q s pl h₀ L m F X N0 H
  have N : News h₀ L s.heap [(x, instObj 370 d), (d, dictOf [ent w "number" t1 (.int (-1) t2), ent w "scope" t3 (.ref sc), ent w "strength" t4 (.str (Str.ofString "values") t5), ent w "rows" t6 (.ref rt), ent w "able" t7 (.ref a), ent w "columns" t8 (.ref b)] 6)] := List.forall_mem_cons.mpr ⟨N0 _ hx, List.forall_mem_singleton.mpr (N0 _ hd)⟩
  clear N0
  walk1
  exact H
theorem getA_tab {w : World} {x d sc : Addr} {rt a b : Addr} {t1 t2 t3 t4 t5 t6 t7 t8 : Tok} {R : Led} (hx : (x, instObj 370 d) ∈ R) (hd : (d, dictOf [ent w "number" t1 (.int (-1) t2), ent w "scope" t3 (.ref sc), ent w "strength" t4 (.str (Str.ofString "values") t5), ent w "rows" t6 (.ref rt), ent w "able" t7 (.ref a), ent w "columns" t8 (.ref b)] 6) ∈ R) : GetA w x (Str.ofString "scope") sc R := by
  intro A E Q s pl h₀ L m F X N0 H
  have N : News h₀ L s.heap [(x, instObj 370 d), (d, dictOf [ent w "number" t1 (.int (-1) t2), ent w "scope" t3 (.ref sc), ent w "strength" t4 (.str (Str.ofString "values") t5), ent w "rows" t6 (.ref rt), ent w "able" t7 (.ref a), ent w "columns" t8 (.ref b)] 6)] := List.forall_mem_cons.mpr ⟨N0 _ hx, List.forall_mem_singleton.mpr (N0 _ hd)⟩
  clear N0
  walk1
  exact H _
set_option maxHeartbeats 4000000 in
theorem told_tab (w : World) (mean : ExcName → Option Value) (mg mb : Str → Option Value) {x d sc : Addr} {rt a b : Addr} {t1 t2 t3 t4 t5 t6 t7 t8 : Tok} :
    Con w mean mg mb 4 339 [.ref x] [(x, instObj 370 d), (d, dictOf [ent w "number" t1 (.int (-1) t2), ent w "scope" t3 (.ref sc), ent w "strength" t4 (.str (Str.ofString "values") t5), ent w "rows" t6 (.ref rt), ent w "able" t7 (.ref a), ent w "columns" t8 (.ref b)] 6)] (NewPost (fun own r => ∃ a ts, own = [(a, tupO [.str (Str.ofString "table") ts, .ref sc, .ref rt] 0)] ∧ r = .ref a) [(x, instObj 370 d), (d, dictOf [ent w "number" t1 (.int (-1) t2), ent w "scope" t3 (.ref sc), ent w "strength" t4 (.str (Str.ofString "values") t5), ent w "rows" t6 (.ref rt), ent w "able" t7 (.ref a), ent w "columns" t8 (.ref b)] 6)]) := by
  k_dflt (
  refine' con_of ?k7 ?k8 ?kA ?kB ?_ ?c2 ?c3 ?c4 ?c5;
  (case k7 => k_is); (case k8 => k_is);
  (case kA => exact fun _ => BindsTo.of_eq rfl); (case kB => exact locs rfl); (case c2 => exact rfl); (case c3 => exact rfl); (case c4 => exact rfl); (case c5 => decide))
  intro dp gd un outer base g s B st sz X T hroom hu L' h₁ Q' F N hlt hret
  (try k_lt hlt); (try dsimp only at *); (try k_lift B); (try k_fold)
  k_with_none
  (repeat' (first | (k_unfold; (try dsimp only)) | walk1 | (dsimp only; walk1) | (leave1; (try dsimp only))))
  all_goals (try dsimp only)
  refine' hret _ _ _ _ _ (by k_asm) (cb_drop (by assumption) ?sub) (NewPost.mk (own := [(_, tupO _ 0)]) ⟨_, _, rfl, rfl⟩ ?own)
  (case sub => lcg_sub)
  (case own => exact ownNe_one (List.forall_mem_cons.mpr ⟨by k_ne, List.forall_mem_singleton.mpr (by k_ne)⟩))

theorem Con.room {w : World} {mean : ExcName → Option Value} {mg mb : Str → Option Value} {k k' : Nat} {f : Addr} {args : List Value} {news : Led} {Post : Led → Value → Prop} (C : Con w mean mg mb k f args news Post) (h : k ≤ k') : Con w mean mg mb k' f args news Post :=
  fun A base g outer s R hh B st sz X T N hroom hu hret => C A base g outer s R hh B st sz X T N (Nat.lt_of_le_of_lt (Nat.add_le_add_left h _) hroom) (Nat.lt_of_le_of_lt (Nat.add_le_add_left (Nat.mul_le_mul_left 8 h) _) hu) hret
/-- the values of a lap: a tuple of q ints that stands in what was made or in what was there -/
def ValQ (R : Led) (q : Nat) (own : Led) (r : Value) : Prop := ∃ v us xs, r = .ref v ∧ (v, tupO us 0) ∈ own ++ R ∧ IntsAre us xs ∧ xs.length = q
structure Made (w : World) (mean : ExcName → Option Value) (mg mb : Str → Option Value) (t sc x : Addr) (R : Led) (q : Nat) (fn : List Int → Bool) : Prop where
  told : ∃ f need, ∃ tup : Tok → List Value, keepIn (kheap w.params) (.ref f) = true ∧ GetM w x (Str.ofString "told") f R ∧ (∀ p ∈ need, p ∈ R) ∧ Con w mean mg mb 4 f [.ref x] need (NewPost (fun own r => ∃ a ts, own = [(a, tupO (tup ts) 0)] ∧ r = .ref a) need) ∧
    ∀ (a : Addr) (ts : Tok) (h₀ : Heap) (L : Addr) (h : Heap), News h₀ L h ((a, tupO (tup ts) 0) :: R) → Same h 9 (.ref a) (.ref t)
  scope : ∃ v, GetA w x (Str.ofString "scope") v R ∧ ∀ (h₀ : Heap) (L : Addr) (h : Heap), News h₀ L h R → Same h 9 (.ref v) (.ref sc)
  val : ∀ (lap : Int) (tl : Tok) (fa l : Addr) (vs : List Value) (ns : List Int) (n : Int) (tk : Tok) (e ne : Nat), IntsAre vs ns → ns.length ≤ 63 → AllNe fa ((l, listOf vs.toArray ne) :: R) → 0 ≤ n → n < 8000 →
    ∃ need, (∀ p ∈ need, p ∈ (l, listOf vs.toArray ne) :: R) ∧ Con w mean mg mb 12 413 [.ref fa, .ref t, .ref sc, .int lap tl] ((fa, feedO l n tk e) :: need)
      (fun nn r => ∃ o' own, nn = (fa, o') :: (own ++ need) ∧ (FeedPost l n (n + 8) o' ∧ ValQ R q own r) ∧ OwnNe own ((fa, feedO l n tk e) :: need))
  check : ∃ f, keepIn (kheap w.params) (.ref f) = true ∧ GetM w x (Str.ofString "check") f R ∧ ∀ (v : Addr) (us : List Value) (xs : List Int), IntsAre us xs → xs.length = q → ∃ need, (∀ p ∈ need, p ∈ (v, tupO us 0) :: R) ∧ Con w mean mg mb 12 f [.ref x, .ref v] need (BoolPost (fn xs) need)
  keeps : ∀ (v : Addr) (us : List Value) (xs : List Int), IntsAre us xs → xs.length = q → ∃ need, (∀ p ∈ need, p ∈ (v, tupO us 0) :: R) ∧ Con w mean mg mb 12 408 [.ref t, .ref v] need (BoolPost (fn xs) need)
def Kind (w : World) (mean : ExcName → Option Value) (mg mb : Str → Option Value) (t sc : Addr) (R : Led) : Prop := ∃ need, ∃ P : Led → Value → Prop, (∀ p ∈ need, p ∈ R) ∧ Con w mean mg mb 20 379 [.ref t] need (NewPost P need) ∧
  ∀ own r, P own r → ∃ x q fn, r = .ref x ∧ Made w mean mg mb t sc x (own ++ R) q fn
theorem kind_at {w : World} {mean : ExcName → Option Value} {mg mb : Str → Option Value} {t sc : Addr} {R : Led} {h h' : Heap} (T : Top kview (looseW kview []) mean mg mb h) (X : (kheap w.params).In h') (hK : ∀ (w : World) (mean : ExcName → Option Value) (mg mb : Str → Option Value), Kind w mean mg mb t sc R) : Kind w mean mg mb t sc R := hK _ _ _ _
theorem sub_t {l l' l'' : Led} (h : ∀ q ∈ l, q ∈ l') (h' : ∀ q ∈ l', q ∈ l'') : ∀ q ∈ l, q ∈ l'' := fun q hq => h' q (h q hq)
theorem news_pick {h₀ h : Heap} {L : Addr} {own rest R : Led} {p : Addr × Obj} (N : News h₀ L h (own ++ rest)) (hR : ∀ q ∈ R, q ∈ rest) (hm : p ∈ own ++ R) : News h₀ L h (p :: rest) := fun q hq => by
  rcases List.mem_cons.mp hq with rfl | hq
  · rcases List.mem_append.mp hm with hm | hm
    · exact N _ (List.mem_append_left _ hm)
    · exact N _ (List.mem_append_right _ (hR _ hm))
  · exact N _ (List.mem_append_right _ hq)
theorem allNe_all {a : Addr} {l : Led} (h : AllNe a l) : ∀ p ∈ l, p.1 ≠ a := fun p hp => AllNe.ne' h (b := p.1) (o := p.2) hp
theorem updF_off {d I : Addr} {o : Obj} {l : Led} {g : Obj → Led} (U : UpdF d o l g) (h : ∀ p ∈ l, p.1 < I) : ∀ o', ∀ p ∈ g o', p.1 ≠ I := fun o' p hp => by
  obtain ⟨pre, post, rfl, hg, _, _⟩ := U.split
  rw [hg] at hp
  rcases List.mem_append.mp hp with hp | hp
  · exact Nat.ne_of_lt (h p (by simp [hp]))
  · rcases List.mem_cons.mp hp with rfl | hp
    · exact Nat.ne_of_lt (h (d, o) (by simp))
    · exact Nat.ne_of_lt (h p (by simp [hp]))
theorem news_told {h₀ h : Heap} {L i fa l : Addr} {it f lo : Obj} {p : Addr × Obj} {R : Led} (N : News h₀ L h ((p :: R) ++ [(i, it), (fa, f), (l, lo)])) : News h₀ L h (p :: (i, it) :: (fa, f) :: (l, lo) :: R) := fun q hq => N q (by
  simp only [List.mem_cons, List.mem_append, List.not_mem_nil, or_false] at hq ⊢
  rcases hq with h | h | h | h | h <;> simp [h])
theorem news_made {h₀ h : Heap} {L : Addr} {a b c d : Addr × Obj} {own R : Led} (N : News h₀ L h (own ++ (a :: b :: c :: d :: R))) : News h₀ L h (a :: b :: c :: d :: (own ++ R)) := fun q hq => N q (by
  simp only [List.mem_cons, List.mem_append] at hq ⊢
  rcases hq with h | h | h | h | h | h <;> simp [h])
theorem allNe_app {a : Addr} : ∀ {l r : Led}, AllNe a l → AllNe a r → AllNe a (l ++ r)
  | [], _, _, h => h
  | _ :: _, _, h, h' => ⟨h.1, allNe_app h.2 h'⟩
theorem allNe_mk {a b : Addr} {o : Obj} {R : Led} (h : @Ne Nat a b) (h' : AllNe a R) : AllNe a ((b, o) :: R) := ⟨h, h'⟩
theorem news_sub {h₀ h : Heap} {L : Addr} {l l' : Led} (N : News h₀ L h l') (hs : ∀ q ∈ l, q ∈ l') : News h₀ L h l := fun p hp => N p (hs p hp)
theorem allNe_own {own all : Led} {a : Addr} {o : Obj} (h : OwnNe own all) (hm : (a, o) ∈ all) : AllNe a own := allNe_of fun q hq => Ne.symm (h q hq (a, o) hm)
theorem ne_sameN {prog : Program} {w : World} {A : Around} {E : Value → Shared → Prop} {s : Shared} {h₀ : Heap} {L : Addr} {news R : Led} {a b : Value} {Q : Value → Shared → Prop} (N : News h₀ L s.heap news) (hs : ∀ p ∈ R, p ∈ news) (hS : ∀ (h₀ : Heap) (L : Addr) (h : Heap), News h₀ L h R → Same h 9 a b) (hu : A.units + 64 < cLine) (h : Q (.bool false) s) :
    wpAny (model prog w) A (compareOp .NotEq a b) Q E s := ne_same (hS _ _ _ fun p hp => N p (hs p hp)) hu h
end Mine
namespace Mine
open PySem PySem.W PySem.Calls PyProof.Rows PySem.Spec
section
variable {w : World} {mean : ExcName → Option Value} {mg mb : Str → Option Value} {k : Nat} {f : Addr} {args : List Value} {news need R : Led} {Post Post' P : Led → Value → Prop}
theorem Con.reform (C : Con w mean mg mb k f args news Post) (h : ∀ n r, Post n r → ∃ n₂, (∀ p ∈ n₂, p ∈ n) ∧ Post' n₂ r) : Con w mean mg mb k f args news Post' :=
  fun A base g outer s R hh B st sz X T N hroom hu hret => C A base g outer s R hh B st sz X T N hroom hu fun n r h' tk' a b P => by
    obtain ⟨n₂, hs, P'⟩ := h n r P
    exact hret n₂ r h' tk' a (fun p hp => b p (hs p hp)) P'
theorem Con.bool {b b' : Bool} (e : b' = b) (C : Con w mean mg mb k f args news (BoolPost b need)) : Con w mean mg mb k f args news (BoolPost b' need) := e ▸ C
/-- the statement of `val` at one lap -/
def ValAt (w : World) (mean : ExcName → Option Value) (mg mb : Str → Option Value) (t sc : Addr) (R : Led) (q : Nat) (lap : Int) (tl : Tok) : Prop :=
  ∀ (fa l : Addr) (vs : List Value) (ns : List Int) (n : Int) (tk : Tok) (e ne : Nat), IntsAre vs ns → ns.length ≤ 63 → AllNe fa ((l, listOf vs.toArray ne) :: R) → 0 ≤ n → n < 8000 →
    ∃ need, (∀ p ∈ need, p ∈ (l, listOf vs.toArray ne) :: R) ∧ Con w mean mg mb 12 413 [.ref fa, .ref t, .ref sc, .int lap tl] ((fa, feedO l n tk e) :: need)
      (fun nn r => ∃ o' own, nn = (fa, o') :: (own ++ need) ∧ (FeedPost l n (n + 8) o' ∧ ValQ R q own r) ∧ OwnNe own ((fa, feedO l n tk e) :: need))
theorem val0_new {t sc : Addr} {q : Nat} {tl : Tok} (hn : ∀ p ∈ need, p ∈ R) (hP : ∀ own r, P own r → ValQ R q own r) (C : ∀ fa, Con w mean mg mb 12 413 [.ref fa, .ref t, .ref sc, .int 0 tl] need (NewPost P need)) : ValAt w mean mg mb t sc R q 0 tl := by
  intro fa l vs ns n tk e ne hi hlen hfa h0 h8
  have hne : ∀ p ∈ need, p.1 ≠ fa := fun p hp => allNe_all hfa.2 p (hn p hp)
  refine ⟨need, fun p hp => List.mem_cons_of_mem _ (hn p hp), Con.reform (Con.sub (Con.frame (C fa) [(fa, feedO l n tk e)] fun p hp hq => ?_) fun p hp => ?_) ?_⟩
  · rw [List.mem_singleton.mp hp] at hq
    obtain ⟨z, hz, e⟩ := List.mem_map.mp hq
    exact hne z hz e
  · rcases List.mem_append.mp hp with hp | hp
    · exact List.mem_cons_of_mem _ hp
    · rw [List.mem_singleton.mp hp]; exact List.mem_cons_self
  · rintro nn r ⟨n', rfl, ⟨own, rfl, hp, hO⟩, hd⟩
    refine ⟨(fa, feedO l n tk e) :: (own ++ need), fun p hp => ?_, feedO l n tk e, own, rfl, ⟨⟨_, _, _, rfl, Int.le_refl _, by omega⟩, hP _ _ hp⟩, fun a ha b hb => ?_⟩
    · rcases List.mem_cons.mp hp with rfl | hp
      · exact List.mem_append_right _ (List.mem_singleton.mpr rfl)
      · exact List.mem_append_left _ hp
    · rcases List.mem_cons.mp hb with rfl | hb
      · exact hd a (List.mem_append_left _ ha) _ (List.mem_singleton.mpr rfl)
      · exact hO a ha b hb
theorem valP_q {q : Nat} {own : Led} {r : Value} (h : ValP q own r) : ValQ R q own r := by
  obtain ⟨a, us, xs, rfl, rfl, hi, hl⟩ := h
  exact ⟨a, us, xs, rfl, List.mem_append_left _ (List.mem_singleton.mpr rfl), hi, hl⟩
theorem val_made {t sc : Addr} {q : Nat} {nm : Str} {ts : Tok} {rest ss : List Value} {zs : List Int} (ht : (t, tupO (.str nm ts :: rest) 0) ∈ R) (hsc : (sc, tupO ss 0) ∈ R) (hs : IntsAre ss zs) (hsl : zs.length = q) (h1 : 1 ≤ q) (h3 : q ≤ 8)
    (V0 : ∀ tl, ValAt w mean mg mb t sc R q 0 tl) (lap : Int) (tl : Tok) : ValAt w mean mg mb t sc R q lap tl := by
  by_cases hl : lap = 0
  · subst hl; exact V0 tl
  · intro fa l vs ns n tk e ne hi hlen hfa h0 h8
    refine ⟨[(l, listOf vs.toArray ne), (t, tupO (.str nm ts :: rest) 0), (sc, tupO ss 0)], ?_, Con.room (Con.mono (values_any w mean mg mb hi hlen ⟨hfa.1, AllNe.ne hfa.2 ht, AllNe.ne hfa.2 hsc, trivial⟩ h0 h8 hs hsl h1 h3 hl) ?_) (by decide)⟩
    · exact sub_v List.mem_cons_self (sub_v (List.mem_cons_of_mem _ ht) (sub_v (List.mem_cons_of_mem _ hsc) sub_nil))
    · rintro nn r ⟨o', own, rfl, ⟨hf, hv⟩, hO⟩
      exact ⟨o', own, rfl, ⟨hf, valP_q hv⟩, hO⟩
end
theorem inv_check_any (w : World) (mean : ExcName → Option Value) (mg mb : Str → Option Value) {x d sc o q v : Addr} {t1 t2 t3 t4 t5 t6 t7 : Tok} {os us : List Value} {ys xs : List Int} (hj : IntsAre os ys) (h3 : 1 ≤ ys.length) (h8 : ys.length ≤ 3) (hi : IntsAre us xs) (hl : xs.length = ys.length + ys.length) :
    Con w mean mg mb 12 161 [.ref x, .ref v] [(x, instObj 171 d), (d, dictOf [ent w "number" t1 (.int (-1) t2), ent w "scope" t3 (.ref sc), ent w "strength" t4 (.str (Str.ofString "weak") t5), ent w "fs" t6 (.ref o), ent w "gs" t7 (.ref q)] 5), (o, tupO os 0), (v, tupO us 0)] (BoolPost (invB ys.length xs) [(x, instObj 171 d), (d, dictOf [ent w "number" t1 (.int (-1) t2), ent w "scope" t3 (.ref sc), ent w "strength" t4 (.str (Str.ofString "weak") t5), ent w "fs" t6 (.ref o), ent w "gs" t7 (.ref q)] 5), (o, tupO os 0), (v, tupO us 0)]) := by
  rcases (show ys.length = 1 ∨ ys.length = 2 ∨ ys.length = 3 by omega) with hm | hm | hm
  · obtain ⟨o1, a1, e1, e2⟩ := ints_len1 hj hm
    obtain ⟨p1, b1, p2, b2, e3, e4⟩ := ints_len2 hi (by omega)
    subst e1; subst e2; subst e3; subst e4
    exact Con.bool (show invB _ _ = _ from invB1) (inv_check1 w mean mg mb)
  · obtain ⟨o1, a1, o2, a2, e1, e2⟩ := ints_len2 hj hm
    obtain ⟨p1, b1, p2, b2, p3, b3, p4, b4, e3, e4⟩ := ints_len4 hi (by omega)
    subst e1; subst e2; subst e3; subst e4
    exact Con.bool (show invB _ _ = _ from invB2) (inv_check2 w mean mg mb)
  · obtain ⟨o1, a1, o2, a2, o3, a3, e1, e2⟩ := ints_len3 hj hm
    obtain ⟨p1, b1, p2, b2, p3, b3, p4, b4, p5, b5, p6, b6, e3, e4⟩ := ints_len6 hi (by omega)
    subst e1; subst e2; subst e3; subst e4
    exact Con.bool (show invB _ _ = _ from invB3) (inv_check3 w mean mg mb)
theorem kind_elem (w : World) (mean : ExcName → Option Value) (mg mb : Str → Option Value) {t o sc : Addr} {i z : Int} {ti tz ts : Tok} {os : List Value} {ys : List Int} (hj : IntsIn 0 6 os ys) (h3 : 1 ≤ ys.length) (h8 : ys.length ≤ 3) : Kind w mean mg mb t sc [(t, tupO [.str (Str.ofString "element") ts, .int i ti, .ref o, .int z tz] 0), (sc, tupO (.int i ti :: (os ++ [.int z tz])) 0), (o, tupO os 0)] := by
  have hj1 := hj.1
  have hs : IntsAre (.int i ti :: (os ++ [.int z tz])) (i :: (ys ++ [z])) := .cons _ _ (hj1.append (.cons _ _ .nil))
  have hsl : (i :: (ys ++ [z])).length = ys.length + 2 := by simp
  refine ⟨_, _, ?_, Con.room (choice_elem w mean mg mb (t := t) (o := o) (i := i) (z := z) (ti := ti) (tz := tz) (ts := ts) hj1 h3 h8) (by decide), ?_⟩
  · exact sub_v (by k_mem) (sub_v (by k_mem) (sub_nil))
  intro own r h
  cases h with
  | @mk x d sc2 t1 t2 t3 t4 t5 t6 t7 t8 =>
  refine ⟨_, (ys.length + 2), elemF, rfl, ?_⟩
  simp only [List.cons_append, List.nil_append]
  exact {
    told := ⟨196, _, fun ts => [.str (Str.ofString "element") ts, .int i ti, .ref o, .int z tz], by kernel_rfl, getM_elem_told (x := x) (d := d) (sc := sc2) (i := i) (z := z) (ti := ti) (tz := tz) (o := o) (t1 := t1) (t2 := t2) (t3 := t3) (t4 := t4) (t5 := t5) (t6 := t6) (t7 := t7) (t8 := t8) (by k_mem) (by k_mem), sub_v (by k_mem) (sub_v (by k_mem) (sub_nil)), told_elem w mean mg mb (x := x) (d := d) (sc := sc2) (i := i) (z := z) (ti := ti) (tz := tz) (o := o) (t1 := t1) (t2 := t2) (t3 := t3) (t4 := t4) (t5 := t5) (t6 := t6) (t7 := t7) (t8 := t8), fun a ts h₀ L h N => Same.tup N (by k_mem) (by k_mem) (SameAll.cons (Same.str (by decide +kernel)) (SameAll.cons Same.int (SameAll.cons (Same.tup N (by k_mem) (by k_mem) (SameAll.ints hj1 hj1)) (SameAll.cons Same.int SameAll.nil))))⟩
    scope := ⟨_, getA_elem (x := x) (d := d) (sc := sc2) (i := i) (z := z) (ti := ti) (tz := tz) (o := o) (t1 := t1) (t2 := t2) (t3 := t3) (t4 := t4) (t5 := t5) (t6 := t6) (t7 := t7) (t8 := t8) (by k_mem) (by k_mem), fun h₀ L h N => Same.tup N (by k_mem) (by k_mem) (SameAll.ints hs hs)⟩
    val := fun lap tl => val_made (by k_mem) (by k_mem) hs hsl (by omega) (by omega) (fun tl => val0_new (by exact sub_v (by k_mem) (sub_v (by k_mem) (sub_nil))) (fun _ _ h => valP_q h) (fun fa => values0_elem w mean mg mb (t := t) (sc := sc) (o := o) (i := i) (z := z) (ti := ti) (tz := tz) (ts := ts) (q := ys.length) hs h3 h8 hsl)) lap tl
    check := ⟨203, by kernel_rfl, getM_elem_check (x := x) (d := d) (sc := sc2) (i := i) (z := z) (ti := ti) (tz := tz) (o := o) (t1 := t1) (t2 := t2) (t3 := t3) (t4 := t4) (t5 := t5) (t6 := t6) (t7 := t7) (t8 := t8) (by k_mem) (by k_mem), fun v us xs hi hl => ⟨_, sub_v (by k_mem) (sub_nil), Con.room (elem_check w mean mg mb hi (by omega) (by omega)) (by decide)⟩⟩
    keeps := fun v us xs hi hl => ⟨_, sub_v (by k_mem) (sub_v (by k_mem) (sub_v (by k_mem) (sub_nil))), Con.room (elem_keeps w mean mg mb (t := t) (o := o) (i := i) (z := z) (ti := ti) (tz := tz) (ts := ts) hi hj1 (by omega) h3 h8) (by decide)⟩ }
theorem kind_elof (w : World) (mean : ExcName → Option Value) (mg mb : Str → Option Value) {t o sc : Addr} {i z : Int} {ti tz ts : Tok} {os : List Value} {ys : List Int} (hj : IntsIn (-1) 3 os ys) (h3 : 1 ≤ ys.length) (h8 : ys.length ≤ 3) : Kind w mean mg mb t sc [(t, tupO [.str (Str.ofString "element_of") ts, .int i ti, .ref o, .int z tz] 0), (sc, tupO [.int i ti, .int z tz] 0), (o, tupO os 0)] := by
  have hj1 := hj.1
  have hs : IntsAre [.int i ti, .int z tz] [i, z] := .cons _ _ (.cons _ _ .nil)
  have hsl : [i, z].length = 2 := rfl
  refine ⟨_, _, ?_, Con.room (choice_elof w mean mg mb (t := t) (o := o) (i := i) (z := z) (ti := ti) (tz := tz) (ts := ts) hj1 h3 h8) (by decide), ?_⟩
  · exact sub_v (by k_mem) (sub_v (by k_mem) (sub_nil))
  intro own r h
  cases h with
  | @mk x d sc2 t1 t2 t3 t4 t5 t6 t7 t8 =>
  refine ⟨_, 2, (elofF ys), rfl, ?_⟩
  simp only [List.cons_append, List.nil_append]
  exact {
    told := ⟨273, _, fun ts => [.str (Str.ofString "element_of") ts, .int i ti, .ref o, .int z tz], by kernel_rfl, getM_elof_told (x := x) (d := d) (sc := sc2) (i := i) (z := z) (ti := ti) (tz := tz) (o := o) (t1 := t1) (t2 := t2) (t3 := t3) (t4 := t4) (t5 := t5) (t6 := t6) (t7 := t7) (t8 := t8) (by k_mem) (by k_mem), sub_v (by k_mem) (sub_v (by k_mem) (sub_nil)), told_elof w mean mg mb (x := x) (d := d) (sc := sc2) (i := i) (z := z) (ti := ti) (tz := tz) (o := o) (t1 := t1) (t2 := t2) (t3 := t3) (t4 := t4) (t5 := t5) (t6 := t6) (t7 := t7) (t8 := t8), fun a ts h₀ L h N => Same.tup N (by k_mem) (by k_mem) (SameAll.cons (Same.str (by decide +kernel)) (SameAll.cons Same.int (SameAll.cons (Same.tup N (by k_mem) (by k_mem) (SameAll.ints hj1 hj1)) (SameAll.cons Same.int SameAll.nil))))⟩
    scope := ⟨_, getA_elof (x := x) (d := d) (sc := sc2) (i := i) (z := z) (ti := ti) (tz := tz) (o := o) (t1 := t1) (t2 := t2) (t3 := t3) (t4 := t4) (t5 := t5) (t6 := t6) (t7 := t7) (t8 := t8) (by k_mem) (by k_mem), fun h₀ L h N => Same.tup N (by k_mem) (by k_mem) (SameAll.ints hs hs)⟩
    val := fun lap tl => val_made (by k_mem) (by k_mem) hs hsl (by omega) (by omega) (fun tl => val0_new (by exact sub_v (by k_mem) (sub_v (by k_mem) (sub_v (by k_mem) (sub_nil)))) (fun _ _ h => valP_q h) (fun fa => values0_elof w mean mg mb (t := t) (sc := sc) (o := o) (i := i) (z := z) (ti := ti) (tz := tz) (ts := ts) hs hj1 h3 h8 hsl)) lap tl
    check := ⟨280, by kernel_rfl, getM_elof_check (x := x) (d := d) (sc := sc2) (i := i) (z := z) (ti := ti) (tz := tz) (o := o) (t1 := t1) (t2 := t2) (t3 := t3) (t4 := t4) (t5 := t5) (t6 := t6) (t7 := t7) (t8 := t8) (by k_mem) (by k_mem), fun v us xs hi hl => ⟨_, sub_v (by k_mem) (sub_v (by k_mem) (sub_v (by k_mem) (sub_v (by k_mem) (sub_nil)))), Con.room (elof_check w mean mg mb (x := x) (d := d) (sc := sc2) (o := o) (i := i) (z := z) (ti := ti) (tz := tz) (t1 := t1) (t2 := t2) (t3 := t3) (t4 := t4) (t5 := t5) (t6 := t6) (t7 := t7) (t8 := t8) hi hj1 (by omega) h3 h8) (by decide)⟩⟩
    keeps := fun v us xs hi hl => ⟨_, sub_v (by k_mem) (sub_v (by k_mem) (sub_v (by k_mem) (sub_nil))), Con.room (elof_keeps w mean mg mb (t := t) (o := o) (i := i) (z := z) (ti := ti) (tz := tz) (ts := ts) hi hj1 (by omega) h3 h8) (by decide)⟩ }
theorem kind_circ (w : World) (mean : ExcName → Option Value) (mg mb : Str → Option Value) {t sc : Addr} {ts : Tok} {os : List Value} {ys : List Int} (hj : IntsIn 0 6 os ys) (h3 : 1 ≤ ys.length) (h8 : ys.length ≤ 3) : Kind w mean mg mb t sc [(t, tupO [.str (Str.ofString "circuit") ts, .ref sc] 0), (sc, tupO os 0)] := by
  have hj1 := hj.1
  have hs := hj.1
  have hsl : ys.length = ys.length := rfl
  refine ⟨_, _, ?_, Con.room (choice_circ w mean mg mb (t := t) (o := sc) (ts := ts) hj1 h3 h8) (by decide), ?_⟩
  · exact sub_v (by k_mem) (sub_v (by k_mem) (sub_nil))
  intro own r h
  cases h with
  | @mk x d t1 t2 t3 t4 t5 =>
  refine ⟨_, ys.length, ringF, rfl, ?_⟩
  simp only [List.cons_append, List.nil_append]
  exact {
    told := ⟨121, _, fun ts => [.str (Str.ofString "circuit") ts, .ref sc], by kernel_rfl, getM_circ_told (x := x) (d := d) (sc := sc) (t1 := t1) (t2 := t2) (t3 := t3) (t4 := t4) (t5 := t5) (by k_mem) (by k_mem), sub_v (by k_mem) (sub_v (by k_mem) (sub_nil)), told_circ w mean mg mb (x := x) (d := d) (sc := sc) (t1 := t1) (t2 := t2) (t3 := t3) (t4 := t4) (t5 := t5), fun a ts h₀ L h N => Same.tup N (by k_mem) (by k_mem) (SameAll.cons (Same.str (by decide +kernel)) (SameAll.cons (Same.tup N (by k_mem) (by k_mem) (SameAll.ints hj1 hj1)) SameAll.nil))⟩
    scope := ⟨_, getA_circ (x := x) (d := d) (sc := sc) (t1 := t1) (t2 := t2) (t3 := t3) (t4 := t4) (t5 := t5) (by k_mem) (by k_mem), fun h₀ L h N => Same.tup N (by k_mem) (by k_mem) (SameAll.ints hs hs)⟩
    val := fun lap tl => val_made (by k_mem) (by k_mem) hs hsl (by omega) (by omega) (fun tl => val0_new (by exact sub_v (by k_mem) (sub_v (by k_mem) (sub_nil))) (fun _ _ h => valP_q h) (fun fa => values0_circ w mean mg mb (t := t) (sc := sc) (o := sc) (ts := ts) (q := ys.length) hs h3 h8 hsl)) lap tl
    check := ⟨114, by kernel_rfl, getM_circ_check (x := x) (d := d) (sc := sc) (t1 := t1) (t2 := t2) (t3 := t3) (t4 := t4) (t5 := t5) (by k_mem) (by k_mem), fun v us xs hi hl => ⟨_, sub_v (by k_mem) (sub_nil), Con.room (circ_check w mean mg mb hi (by omega) (by omega)) (by decide)⟩⟩
    keeps := fun v us xs hi hl => ⟨_, sub_v (by k_mem) (sub_v (by k_mem) (sub_v (by k_mem) (sub_nil))), Con.room (circ_keeps w mean mg mb (t := t) (o := sc) (ts := ts) (os := os) hi (by omega) (by omega)) (by decide)⟩ }
theorem kind_tab0 (w : World) (mean : ExcName → Option Value) (mg mb : Str → Option Value) {t sc rt  : Addr} {ts : Tok} {os  : List Value} {ys  : List Int} (hj : IntsIn 0 6 os ys) (h3 : 1 ≤ ys.length) (h8 : ys.length ≤ 3) : Kind w mean mg mb t sc [(t, tupO [.str (Str.ofString "table") ts, .ref sc, .ref rt] 0), (rt, tupO [] 0), (sc, tupO os 0)] := by
  have hj1 := hj.1
  have hs := hj.1
  have hsl : ys.length = ys.length := rfl
  refine ⟨_, _, ?_, Con.room (choice_tab w mean mg mb (t := t) (o := sc) (rt := rt) (rs := []) (rl := []) (ts := ts) hj1 h3 h8 (Nat.le_of_ble_eq_true rfl) (List.forall_mem_nil _)) (by decide), ?_⟩
  · exact sub_v (by k_mem) (sub_v (by k_mem) (sub_v (by k_mem) (sub_nil)))
  intro own r h
  cases h with
  | @mk x d rt2 a2 b2 t1 t2 t3 t4 t5 t6 t7 t8 =>
  refine ⟨_, ys.length, (fun xs => decide (xs ∈ [])), rfl, ?_⟩
  simp only [List.cons_append, List.nil_append]
  exact {
    told := ⟨339, _, fun ts => [.str (Str.ofString "table") ts, .ref sc, .ref rt2], by kernel_rfl, getM_tab_told (x := x) (d := d) (sc := sc) (rt := rt2) (a := a2) (b := b2) (t1 := t1) (t2 := t2) (t3 := t3) (t4 := t4) (t5 := t5) (t6 := t6) (t7 := t7) (t8 := t8) (by k_mem) (by k_mem), sub_v (by k_mem) (sub_v (by k_mem) (sub_nil)), told_tab w mean mg mb (x := x) (d := d) (sc := sc) (rt := rt2) (a := a2) (b := b2) (t1 := t1) (t2 := t2) (t3 := t3) (t4 := t4) (t5 := t5) (t6 := t6) (t7 := t7) (t8 := t8), fun a ts h₀ L h N => Same.tup N (by k_mem) (by k_mem) (SameAll.cons (Same.str (by decide +kernel)) (SameAll.cons (Same.tup N (by k_mem) (by k_mem) (SameAll.ints hj1 hj1)) (SameAll.cons (Same.tup N (by k_mem) (by k_mem) (SameAll.nil)) SameAll.nil)))⟩
    scope := ⟨_, getA_tab (x := x) (d := d) (sc := sc) (rt := rt2) (a := a2) (b := b2) (t1 := t1) (t2 := t2) (t3 := t3) (t4 := t4) (t5 := t5) (t6 := t6) (t7 := t7) (t8 := t8) (by k_mem) (by k_mem), fun h₀ L h N => Same.tup N (by k_mem) (by k_mem) (SameAll.ints hs hs)⟩
    val := fun lap tl => val_made (by k_mem) (by k_mem) hs hsl (by omega) (by omega) (fun tl => by
      intro fa l vs ns n tk e ne hi hlen hfa h0 h8
      refine ⟨[(l, listOf vs.toArray ne), (t, tupO [.str (Str.ofString "table") ts, .ref sc, .ref rt] 0), (rt, tupO [] 0), (sc, tupO os 0)], sub_v List.mem_cons_self (sub_v (by k_mem) (sub_v (by k_mem) (sub_v (by k_mem) sub_nil))), Con.mono (values0_tab0 w mean mg mb (o := sc) (q := ys.length) hi hlen ⟨hfa.1, AllNe.ne (b := t) hfa.2 (by k_mem), AllNe.ne (b := rt) hfa.2 (by k_mem), AllNe.ne (b := sc) hfa.2 (by k_mem), trivial⟩ h0 h8 hs hsl h3 (by omega)) ?_⟩
      rintro nn r ⟨o', own, rfl, ⟨hf, hv⟩, hO⟩
      exact ⟨o', own, rfl, ⟨hf, valP_q hv⟩, hO⟩) lap tl
    check := ⟨346, by kernel_rfl, getM_tab_check (x := x) (d := d) (sc := sc) (rt := rt2) (a := a2) (b := b2) (t1 := t1) (t2 := t2) (t3 := t3) (t4 := t4) (t5 := t5) (t6 := t6) (t7 := t7) (t8 := t8) (by k_mem) (by k_mem), fun v us xs hi hl => ⟨_, sub_v (by k_mem) (sub_v (by k_mem) (sub_v (by k_mem) (sub_v (by k_mem) (sub_nil)))), Con.room (tab_check0 w mean mg mb (x := x) (d := d) (o := sc) (rt := rt2) (a1 := a2) (b1 := b2)  (t1 := t1) (t2 := t2) (t3 := t3) (t4 := t4) (t5 := t5) (t6 := t6) (t7 := t7) (t8 := t8) hi ) (by decide)⟩⟩
    keeps := fun v us xs hi hl => ⟨_, sub_v (by k_mem) (sub_v (by k_mem) (sub_v (by k_mem) (sub_v (by k_mem) (sub_nil)))), Con.room (tab_keeps0 w mean mg mb (t := t) (o := sc) (rt := rt) (ts := ts) (os := os)  hi ) (by decide)⟩ }
theorem kind_tab1 (w : World) (mean : ExcName → Option Value) (mg mb : Str → Option Value) {t sc rt a : Addr} {ts : Tok} {os as : List Value} {ys xa : List Int} (hj : IntsIn 0 6 os ys) (h3 : 1 ≤ ys.length) (h8 : ys.length ≤ 3) (ha : IntsIn 0 3 as xa) (hal : xa.length = ys.length) : Kind w mean mg mb t sc [(t, tupO [.str (Str.ofString "table") ts, .ref sc, .ref rt] 0), (rt, tupO [.ref a] 0), (sc, tupO os 0), (a, tupO as 0)] := by
  have hj1 := hj.1
  have hs := hj.1
  have hsl : ys.length = ys.length := rfl
  have ha1 := ha.1
  refine ⟨_, _, ?_, Con.room (choice_tab w mean mg mb (t := t) (o := sc) (rt := rt) (rs := [.ref a]) (rl := [(a, tupO as 0)]) (ts := ts) hj1 h3 h8 (Nat.le_of_ble_eq_true rfl) (List.forall_mem_cons.mpr ⟨⟨a, as, xa, rfl, by k_mem, ha1, hal⟩, List.forall_mem_nil _⟩)) (by decide), ?_⟩
  · exact sub_v (by k_mem) (sub_v (by k_mem) (sub_v (by k_mem) (sub_v (by k_mem) (sub_nil))))
  intro own r h
  cases h with
  | @mk x d rt2 a2 b2 t1 t2 t3 t4 t5 t6 t7 t8 =>
  refine ⟨_, ys.length, (fun xs => decide (xs ∈ [xa])), rfl, ?_⟩
  simp only [List.cons_append, List.nil_append]
  exact {
    told := ⟨339, _, fun ts => [.str (Str.ofString "table") ts, .ref sc, .ref rt2], by kernel_rfl, getM_tab_told (x := x) (d := d) (sc := sc) (rt := rt2) (a := a2) (b := b2) (t1 := t1) (t2 := t2) (t3 := t3) (t4 := t4) (t5 := t5) (t6 := t6) (t7 := t7) (t8 := t8) (by k_mem) (by k_mem), sub_v (by k_mem) (sub_v (by k_mem) (sub_nil)), told_tab w mean mg mb (x := x) (d := d) (sc := sc) (rt := rt2) (a := a2) (b := b2) (t1 := t1) (t2 := t2) (t3 := t3) (t4 := t4) (t5 := t5) (t6 := t6) (t7 := t7) (t8 := t8), fun a ts h₀ L h N => Same.tup N (by k_mem) (by k_mem) (SameAll.cons (Same.str (by decide +kernel)) (SameAll.cons (Same.tup N (by k_mem) (by k_mem) (SameAll.ints hj1 hj1)) (SameAll.cons (Same.tup N (by k_mem) (by k_mem) (SameAll.cons (Same.tup N (by k_mem) (by k_mem) (SameAll.ints ha1 ha1)) (SameAll.nil))) SameAll.nil)))⟩
    scope := ⟨_, getA_tab (x := x) (d := d) (sc := sc) (rt := rt2) (a := a2) (b := b2) (t1 := t1) (t2 := t2) (t3 := t3) (t4 := t4) (t5 := t5) (t6 := t6) (t7 := t7) (t8 := t8) (by k_mem) (by k_mem), fun h₀ L h N => Same.tup N (by k_mem) (by k_mem) (SameAll.ints hs hs)⟩
    val := fun lap tl => val_made (by k_mem) (by k_mem) hs hsl (by omega) (by omega) (fun tl => val0_new (by exact sub_v (by k_mem) (sub_v (by k_mem) (sub_v (by k_mem) (sub_v (by k_mem) (sub_nil))))) (fun own r h => ⟨a, as, xa, h.2, List.mem_append_right _ (by k_mem), ha1, hal⟩) (fun fa => values0_tab1 w mean mg mb (t := t) (sc := sc) (o := sc) (rt := rt) (ts := ts) (a := a) hs (by omega) ha1)) lap tl
    check := ⟨346, by kernel_rfl, getM_tab_check (x := x) (d := d) (sc := sc) (rt := rt2) (a := a2) (b := b2) (t1 := t1) (t2 := t2) (t3 := t3) (t4 := t4) (t5 := t5) (t6 := t6) (t7 := t7) (t8 := t8) (by k_mem) (by k_mem), fun v us xs hi hl => ⟨_, sub_v (by k_mem) (sub_v (by k_mem) (sub_v (by k_mem) (sub_v (by k_mem) (sub_v (by k_mem) (sub_nil))))), Con.room (tab_check1 w mean mg mb (x := x) (d := d) (o := sc) (rt := rt2) (a1 := a2) (b1 := b2) (a := a) (t1 := t1) (t2 := t2) (t3 := t3) (t4 := t4) (t5 := t5) (t6 := t6) (t7 := t7) (t8 := t8) hi ha1) (by decide)⟩⟩
    keeps := fun v us xs hi hl => ⟨_, sub_v (by k_mem) (sub_v (by k_mem) (sub_v (by k_mem) (sub_v (by k_mem) (sub_v (by k_mem) (sub_nil))))), Con.room (tab_keeps1 w mean mg mb (t := t) (o := sc) (rt := rt) (ts := ts) (os := os) (a := a) hi ha1) (by decide)⟩ }
theorem kind_tab2 (w : World) (mean : ExcName → Option Value) (mg mb : Str → Option Value) {t sc rt a b : Addr} {ts : Tok} {os as bs : List Value} {ys xa xb : List Int} (hj : IntsIn 0 6 os ys) (h3 : 1 ≤ ys.length) (h8 : ys.length ≤ 3) (ha : IntsIn 0 3 as xa) (hal : xa.length = ys.length) (hb : IntsIn 0 3 bs xb) (hbl : xb.length = ys.length) : Kind w mean mg mb t sc [(t, tupO [.str (Str.ofString "table") ts, .ref sc, .ref rt] 0), (rt, tupO [.ref a, .ref b] 0), (sc, tupO os 0), (a, tupO as 0), (b, tupO bs 0)] := by
  have hj1 := hj.1
  have hs := hj.1
  have hsl : ys.length = ys.length := rfl
  have ha1 := ha.1
  have hb1 := hb.1
  refine ⟨_, _, ?_, Con.room (choice_tab w mean mg mb (t := t) (o := sc) (rt := rt) (rs := [.ref a, .ref b]) (rl := [(a, tupO as 0), (b, tupO bs 0)]) (ts := ts) hj1 h3 h8 (Nat.le_of_ble_eq_true rfl) (List.forall_mem_cons.mpr ⟨⟨a, as, xa, rfl, by k_mem, ha1, hal⟩, List.forall_mem_cons.mpr ⟨⟨b, bs, xb, rfl, by k_mem, hb1, hbl⟩, List.forall_mem_nil _⟩⟩)) (by decide), ?_⟩
  · exact sub_v (by k_mem) (sub_v (by k_mem) (sub_v (by k_mem) (sub_v (by k_mem) (sub_v (by k_mem) (sub_nil)))))
  intro own r h
  cases h with
  | @mk x d rt2 a2 b2 t1 t2 t3 t4 t5 t6 t7 t8 =>
  refine ⟨_, ys.length, (fun xs => decide (xs ∈ [xa, xb])), rfl, ?_⟩
  simp only [List.cons_append, List.nil_append]
  exact {
    told := ⟨339, _, fun ts => [.str (Str.ofString "table") ts, .ref sc, .ref rt2], by kernel_rfl, getM_tab_told (x := x) (d := d) (sc := sc) (rt := rt2) (a := a2) (b := b2) (t1 := t1) (t2 := t2) (t3 := t3) (t4 := t4) (t5 := t5) (t6 := t6) (t7 := t7) (t8 := t8) (by k_mem) (by k_mem), sub_v (by k_mem) (sub_v (by k_mem) (sub_nil)), told_tab w mean mg mb (x := x) (d := d) (sc := sc) (rt := rt2) (a := a2) (b := b2) (t1 := t1) (t2 := t2) (t3 := t3) (t4 := t4) (t5 := t5) (t6 := t6) (t7 := t7) (t8 := t8), fun a ts h₀ L h N => Same.tup N (by k_mem) (by k_mem) (SameAll.cons (Same.str (by decide +kernel)) (SameAll.cons (Same.tup N (by k_mem) (by k_mem) (SameAll.ints hj1 hj1)) (SameAll.cons (Same.tup N (by k_mem) (by k_mem) (SameAll.cons (Same.tup N (by k_mem) (by k_mem) (SameAll.ints ha1 ha1)) (SameAll.cons (Same.tup N (by k_mem) (by k_mem) (SameAll.ints hb1 hb1)) (SameAll.nil)))) SameAll.nil)))⟩
    scope := ⟨_, getA_tab (x := x) (d := d) (sc := sc) (rt := rt2) (a := a2) (b := b2) (t1 := t1) (t2 := t2) (t3 := t3) (t4 := t4) (t5 := t5) (t6 := t6) (t7 := t7) (t8 := t8) (by k_mem) (by k_mem), fun h₀ L h N => Same.tup N (by k_mem) (by k_mem) (SameAll.ints hs hs)⟩
    val := fun lap tl => val_made (by k_mem) (by k_mem) hs hsl (by omega) (by omega) (fun tl => val0_new (by exact sub_v (by k_mem) (sub_v (by k_mem) (sub_v (by k_mem) (sub_v (by k_mem) (sub_v (by k_mem) (sub_nil)))))) (fun own r h => ⟨b, bs, xb, h.2, List.mem_append_right _ (by k_mem), hb1, hbl⟩) (fun fa => values0_tab2 w mean mg mb (t := t) (sc := sc) (o := sc) (rt := rt) (ts := ts) (a := a) (b := b) hs (by omega) ha1 hb1)) lap tl
    check := ⟨346, by kernel_rfl, getM_tab_check (x := x) (d := d) (sc := sc) (rt := rt2) (a := a2) (b := b2) (t1 := t1) (t2 := t2) (t3 := t3) (t4 := t4) (t5 := t5) (t6 := t6) (t7 := t7) (t8 := t8) (by k_mem) (by k_mem), fun v us xs hi hl => ⟨_, sub_v (by k_mem) (sub_v (by k_mem) (sub_v (by k_mem) (sub_v (by k_mem) (sub_v (by k_mem) (sub_v (by k_mem) (sub_nil)))))), Con.room (tab_check2 w mean mg mb (x := x) (d := d) (o := sc) (rt := rt2) (a1 := a2) (b1 := b2) (a := a) (b := b) (t1 := t1) (t2 := t2) (t3 := t3) (t4 := t4) (t5 := t5) (t6 := t6) (t7 := t7) (t8 := t8) hi ha1 hb1) (by decide)⟩⟩
    keeps := fun v us xs hi hl => ⟨_, sub_v (by k_mem) (sub_v (by k_mem) (sub_v (by k_mem) (sub_v (by k_mem) (sub_v (by k_mem) (sub_v (by k_mem) (sub_nil)))))), Con.room (tab_keeps2 w mean mg mb (t := t) (o := sc) (rt := rt) (ts := ts) (os := os) (a := a) (b := b) hi ha1 hb1) (by decide)⟩ }
theorem kind_tab3 (w : World) (mean : ExcName → Option Value) (mg mb : Str → Option Value) {t sc rt a b c : Addr} {ts : Tok} {os as bs cs : List Value} {ys xa xb xc : List Int} (hj : IntsIn 0 6 os ys) (h3 : 1 ≤ ys.length) (h8 : ys.length ≤ 3) (ha : IntsIn 0 3 as xa) (hal : xa.length = ys.length) (hb : IntsIn 0 3 bs xb) (hbl : xb.length = ys.length) (hc : IntsIn 0 3 cs xc) (hcl : xc.length = ys.length) : Kind w mean mg mb t sc [(t, tupO [.str (Str.ofString "table") ts, .ref sc, .ref rt] 0), (rt, tupO [.ref a, .ref b, .ref c] 0), (sc, tupO os 0), (a, tupO as 0), (b, tupO bs 0), (c, tupO cs 0)] := by
  have hj1 := hj.1
  have hs := hj.1
  have hsl : ys.length = ys.length := rfl
  have ha1 := ha.1
  have hb1 := hb.1
  have hc1 := hc.1
  refine ⟨_, _, ?_, Con.room (choice_tab w mean mg mb (t := t) (o := sc) (rt := rt) (rs := [.ref a, .ref b, .ref c]) (rl := [(a, tupO as 0), (b, tupO bs 0), (c, tupO cs 0)]) (ts := ts) hj1 h3 h8 (Nat.le_of_ble_eq_true rfl) (List.forall_mem_cons.mpr ⟨⟨a, as, xa, rfl, by k_mem, ha1, hal⟩, List.forall_mem_cons.mpr ⟨⟨b, bs, xb, rfl, by k_mem, hb1, hbl⟩, List.forall_mem_cons.mpr ⟨⟨c, cs, xc, rfl, by k_mem, hc1, hcl⟩, List.forall_mem_nil _⟩⟩⟩)) (by decide), ?_⟩
  · exact sub_v (by k_mem) (sub_v (by k_mem) (sub_v (by k_mem) (sub_v (by k_mem) (sub_v (by k_mem) (sub_v (by k_mem) (sub_nil))))))
  intro own r h
  cases h with
  | @mk x d rt2 a2 b2 t1 t2 t3 t4 t5 t6 t7 t8 =>
  refine ⟨_, ys.length, (fun xs => decide (xs ∈ [xa, xb, xc])), rfl, ?_⟩
  simp only [List.cons_append, List.nil_append]
  exact {
    told := ⟨339, _, fun ts => [.str (Str.ofString "table") ts, .ref sc, .ref rt2], by kernel_rfl, getM_tab_told (x := x) (d := d) (sc := sc) (rt := rt2) (a := a2) (b := b2) (t1 := t1) (t2 := t2) (t3 := t3) (t4 := t4) (t5 := t5) (t6 := t6) (t7 := t7) (t8 := t8) (by k_mem) (by k_mem), sub_v (by k_mem) (sub_v (by k_mem) (sub_nil)), told_tab w mean mg mb (x := x) (d := d) (sc := sc) (rt := rt2) (a := a2) (b := b2) (t1 := t1) (t2 := t2) (t3 := t3) (t4 := t4) (t5 := t5) (t6 := t6) (t7 := t7) (t8 := t8), fun a ts h₀ L h N => Same.tup N (by k_mem) (by k_mem) (SameAll.cons (Same.str (by decide +kernel)) (SameAll.cons (Same.tup N (by k_mem) (by k_mem) (SameAll.ints hj1 hj1)) (SameAll.cons (Same.tup N (by k_mem) (by k_mem) (SameAll.cons (Same.tup N (by k_mem) (by k_mem) (SameAll.ints ha1 ha1)) (SameAll.cons (Same.tup N (by k_mem) (by k_mem) (SameAll.ints hb1 hb1)) (SameAll.cons (Same.tup N (by k_mem) (by k_mem) (SameAll.ints hc1 hc1)) (SameAll.nil))))) SameAll.nil)))⟩
    scope := ⟨_, getA_tab (x := x) (d := d) (sc := sc) (rt := rt2) (a := a2) (b := b2) (t1 := t1) (t2 := t2) (t3 := t3) (t4 := t4) (t5 := t5) (t6 := t6) (t7 := t7) (t8 := t8) (by k_mem) (by k_mem), fun h₀ L h N => Same.tup N (by k_mem) (by k_mem) (SameAll.ints hs hs)⟩
    val := fun lap tl => val_made (by k_mem) (by k_mem) hs hsl (by omega) (by omega) (fun tl => val0_new (by exact sub_v (by k_mem) (sub_v (by k_mem) (sub_v (by k_mem) (sub_v (by k_mem) (sub_v (by k_mem) (sub_v (by k_mem) (sub_nil))))))) (fun own r h => ⟨c, cs, xc, h.2, List.mem_append_right _ (by k_mem), hc1, hcl⟩) (fun fa => values0_tab3 w mean mg mb (t := t) (sc := sc) (o := sc) (rt := rt) (ts := ts) (a := a) (b := b) (c := c) hs (by omega) ha1 hb1 hc1)) lap tl
    check := ⟨346, by kernel_rfl, getM_tab_check (x := x) (d := d) (sc := sc) (rt := rt2) (a := a2) (b := b2) (t1 := t1) (t2 := t2) (t3 := t3) (t4 := t4) (t5 := t5) (t6 := t6) (t7 := t7) (t8 := t8) (by k_mem) (by k_mem), fun v us xs hi hl => ⟨_, sub_v (by k_mem) (sub_v (by k_mem) (sub_v (by k_mem) (sub_v (by k_mem) (sub_v (by k_mem) (sub_v (by k_mem) (sub_v (by k_mem) (sub_nil))))))), Con.room (tab_check3 w mean mg mb (x := x) (d := d) (o := sc) (rt := rt2) (a1 := a2) (b1 := b2) (a := a) (b := b) (c := c) (t1 := t1) (t2 := t2) (t3 := t3) (t4 := t4) (t5 := t5) (t6 := t6) (t7 := t7) (t8 := t8) hi ha1 hb1 hc1) (by decide)⟩⟩
    keeps := fun v us xs hi hl => ⟨_, sub_v (by k_mem) (sub_v (by k_mem) (sub_v (by k_mem) (sub_v (by k_mem) (sub_v (by k_mem) (sub_v (by k_mem) (sub_v (by k_mem) (sub_nil))))))), Con.room (tab_keeps3 w mean mg mb (t := t) (o := sc) (rt := rt) (ts := ts) (os := os) (a := a) (b := b) (c := c) hi ha1 hb1 hc1) (by decide)⟩ }
theorem kind_inv (w : World) (mean : ExcName → Option Value) (mg mb : Str → Option Value) {t sc o q : Addr} {ts : Tok} {os qs : List Value} {ys zs : List Int} (hj : IntsIn 0 6 os ys) (h3 : 1 ≤ ys.length) (h8 : ys.length ≤ 3) (hk : IntsIn 0 6 qs zs) (hkl : zs.length = ys.length) : Kind w mean mg mb t sc [(t, tupO [.str (Str.ofString "inverse") ts, .ref o, .ref q] 0), (sc, tupO (os ++ qs) 0), (o, tupO os 0), (q, tupO qs 0)] := by
  have hj1 := hj.1
  have hk1 := hk.1
  have hs := hj1.append hk1
  have hsl : (ys ++ zs).length = ys.length + ys.length := by rw [List.length_append, hkl]
  refine ⟨_, _, ?_, Con.room (choice_inv w mean mg mb (t := t) (o := o) (q := q) (ts := ts) hj1 hk1 h3 h8 hkl) (by decide), ?_⟩
  · exact sub_v (by k_mem) (sub_v (by k_mem) (sub_v (by k_mem) (sub_nil)))
  intro own r h
  cases h with
  | @mk x d sc2 t1 t2 t3 t4 t5 t6 t7 =>
  refine ⟨_, (ys.length + ys.length), (invB ys.length), rfl, ?_⟩
  simp only [List.cons_append, List.nil_append]
  exact {
    told := ⟨168, _, fun ts => [.str (Str.ofString "inverse") ts, .ref o, .ref q], by kernel_rfl, getM_inv_told (x := x) (d := d) (sc := sc2) (o := o) (q := q) (t1 := t1) (t2 := t2) (t3 := t3) (t4 := t4) (t5 := t5) (t6 := t6) (t7 := t7) (by k_mem) (by k_mem), sub_v (by k_mem) (sub_v (by k_mem) (sub_nil)), told_inv w mean mg mb (x := x) (d := d) (sc := sc2) (o := o) (q := q) (t1 := t1) (t2 := t2) (t3 := t3) (t4 := t4) (t5 := t5) (t6 := t6) (t7 := t7), fun a ts h₀ L h N => Same.tup N (by k_mem) (by k_mem) (SameAll.cons (Same.str (by decide +kernel)) (SameAll.cons (Same.tup N (by k_mem) (by k_mem) (SameAll.ints hj1 hj1)) (SameAll.cons (Same.tup N (by k_mem) (by k_mem) (SameAll.ints hk1 hk1)) SameAll.nil)))⟩
    scope := ⟨_, getA_inv (x := x) (d := d) (sc := sc2) (o := o) (q := q) (t1 := t1) (t2 := t2) (t3 := t3) (t4 := t4) (t5 := t5) (t6 := t6) (t7 := t7) (by k_mem) (by k_mem), fun h₀ L h N => Same.tup N (by k_mem) (by k_mem) (SameAll.ints hs hs)⟩
    val := fun lap tl => val_made (by k_mem) (by k_mem) hs hsl (by omega) (by omega) (fun tl => val0_new (by exact sub_v (by k_mem) (sub_v (by k_mem) (sub_nil))) (fun _ _ h => valP_q h) (fun fa => values0_inv w mean mg mb (t := t) (sc := sc) (o := o) (p := q) (ts := ts) (q := ys.length) hs h3 h8 hsl)) lap tl
    check := ⟨161, by kernel_rfl, getM_inv_check (x := x) (d := d) (sc := sc2) (o := o) (q := q) (t1 := t1) (t2 := t2) (t3 := t3) (t4 := t4) (t5 := t5) (t6 := t6) (t7 := t7) (by k_mem) (by k_mem), fun v us xs hi hl => ⟨_, sub_v (by k_mem) (sub_v (by k_mem) (sub_v (by k_mem) (sub_v (by k_mem) (sub_nil)))), Con.room (inv_check_any w mean mg mb (x := x) (d := d) (sc := sc2) (o := o) (q := q) (t1 := t1) (t2 := t2) (t3 := t3) (t4 := t4) (t5 := t5) (t6 := t6) (t7 := t7) hj1 h3 h8 hi hl) (by decide)⟩⟩
    keeps := fun v us xs hi hl => ⟨_, sub_v (by k_mem) (sub_v (by k_mem) (sub_v (by k_mem) (sub_nil))), Con.room (inv_keeps_any w mean mg mb (t := t) (o := o) (q := q) (ts := ts) hj1 h3 h8 hi hl) (by decide)⟩ }
theorem told_kind {own : Led} {r : Value} (h : ToldP own r) : ∃ p t sc R, own = (p, tupO [.ref t, .ref sc] 0) :: R ∧ r = .ref p ∧ ∀ (w : World) (mean : ExcName → Option Value) (mg mb : Str → Option Value), Kind w mean mg mb t sc R := by
  cases h with
  | elem hj h3 h8 => exact ⟨_, _, _, _, rfl, rfl, fun w mean mg mb => kind_elem w mean mg mb hj h3 h8⟩
  | elof hj h3 h8 => exact ⟨_, _, _, _, rfl, rfl, fun w mean mg mb => kind_elof w mean mg mb hj h3 h8⟩
  | tab0 hj h3 h8 => exact ⟨_, _, _, _, rfl, rfl, fun w mean mg mb => kind_tab0 w mean mg mb hj h3 h8⟩
  | tab1 hj h3 h8 ha hal => exact ⟨_, _, _, _, rfl, rfl, fun w mean mg mb => kind_tab1 w mean mg mb hj h3 h8 ha hal⟩
  | tab2 hj h3 h8 ha hal hb hbl => exact ⟨_, _, _, _, rfl, rfl, fun w mean mg mb => kind_tab2 w mean mg mb hj h3 h8 ha hal hb hbl⟩
  | tab3 hj h3 h8 ha hal hb hbl hc hcl => exact ⟨_, _, _, _, rfl, rfl, fun w mean mg mb => kind_tab3 w mean mg mb hj h3 h8 ha hal hb hbl hc hcl⟩
  | inv hj h3 h8 hk hkl => exact ⟨_, _, _, _, rfl, rfl, fun w mean mg mb => kind_inv w mean mg mb hj h3 h8 hk hkl⟩
  | circ hj h3 h8 => exact ⟨_, _, _, _, rfl, rfl, fun w mean mg mb => kind_circ w mean mg mb hj h3 h8⟩
end Mine
namespace Mine
open PySem PySem.W PySem.Calls PyProof.Rows PySem.Spec

/-- what the law needs of a made thing, each piece by name -/
structure MadeAt (w : World) (mean : ExcName → Option Value) (mg mb : Str → Option Value) (t sc x : Addr) (R : Led) (q : Nat) (fn : List Int → Bool) (f1 : Addr) (tup : Tok → List Value) (v1 f2 : Addr) : Prop where
  k1 : keepIn (kheap w.params) (.ref f1) = true
  g1 : GetM w x (Str.ofString "told") f1 R
  told : ∃ need, (∀ p ∈ need, p ∈ R) ∧ Con w mean mg mb 4 f1 [.ref x] need (NewPost (fun own r => ∃ a ts, own = [(a, tupO (tup ts) 0)] ∧ r = .ref a) need)
  same1 : ∀ (a : Addr) (ts : Tok) (h₀ : Heap) (L : Addr) (h : Heap), News h₀ L h ((a, tupO (tup ts) 0) :: R) → Same h 9 (.ref a) (.ref t)
  a1 : GetA w x (Str.ofString "scope") v1 R
  same2 : ∀ (h₀ : Heap) (L : Addr) (h : Heap), News h₀ L h R → Same h 9 (.ref v1) (.ref sc)
  k2 : keepIn (kheap w.params) (.ref f2) = true
  g2 : GetM w x (Str.ofString "check") f2 R
  check : ∀ (v : Addr) (us : List Value) (xs : List Int), IntsAre us xs → xs.length = q → ∃ need, (∀ p ∈ need, p ∈ (v, tupO us 0) :: R) ∧ Con w mean mg mb 12 f2 [.ref x, .ref v] need (BoolPost (fn xs) need)
  rest : Made w mean mg mb t sc x R q fn
theorem Made.at {w : World} {mean : ExcName → Option Value} {mg mb : Str → Option Value} {t sc x : Addr} {R : Led} {q : Nat} {fn : List Int → Bool} (hM : Made w mean mg mb t sc x R q fn) : ∃ f1 tup v1 f2, MadeAt w mean mg mb t sc x R q fn f1 tup v1 f2 := by
  obtain ⟨f1, need, tup, a, b, c, d, e⟩ := hM.told
  obtain ⟨v1, a1, b1⟩ := hM.scope
  obtain ⟨f2, a2, b2, c2⟩ := hM.check
  exact ⟨f1, tup, v1, f2, a, b, ⟨need, c, d⟩, e, a1, b1, a2, b2, c2, hM⟩

section
variable {w : World} {mean : ExcName → Option Value} {mg mb : Str → Option Value} {A A₀ : Around} {base h₀ : Heap} {outer : List Env} {env : Env} {L : Addr} {m : Str → Option Value} {s : Shared} {R : Result → Shared → Prop}
theorem told_use {fa l i : Addr} {it : Obj} {vs : List Value} {ns : List Int} {n : Int} {tk : Tok} {e ne k : Nat}
    (N : News h₀ L s.heap [(i, it), (fa, feedO l n tk e), (l, listOf vs.toArray ne)]) (F : Fr h₀ L s.heap m) (hh : A.handled = none) (B : Below A₀ base outer h₀) (X : (kheap w.params).In h₀) (T : Top kview (looseW kview []) mean mg mb h₀)
    (U : UpdF fa (feedO l n tk e) [(i, it), (fa, feedO l n tk e), (l, listOf vs.toArray ne)] (fun o => [(i, it), (fa, o), (l, listOf vs.toArray ne)])) (hi : IntsAre vs ns) (hlen : ns.length ≤ 63) (h0 : 0 ≤ n) (hn : n ≤ 100 * (k : Int)) (hk : k < 4) (hfl : @Ne Nat fa l)
    (hA : A.frames = some (env :: outer)) (hf : env.frame = some L) (hke : env.scope.kind = .function) (hroom : A.depth + 4 < recursionLimit) (hu : A.units + 8 * 4 < cLine)
    (ret : ∀ p t sc Rl n' tk1 e' h' tk', Fr h₀ L h' m → News h₀ L h' ((p, tupO [.ref t, .ref sc] 0) :: (i, it) :: (fa, feedO l n' tk1 e') :: (l, listOf vs.toArray ne) :: Rl) → AllNe fa ((l, listOf vs.toArray ne) :: Rl) → 0 ≤ n' → n' ≤ 100 * (k : Int) + 40 → Kind w mean mg mb t sc Rl →
      R (.ok (.ret (.ref p))) { s with heap := h', toks := tk' }) : codeAny (model PySem.Challenge.rw_nz0027_01.row.prog w) A (.call (.ref 396) ⟨[.ref fa], []⟩) R s := by
  refine con_upd (told_con w mean mg mb ⟨hi, hlen, h0, by omega⟩ (by omega) hfl) hh B F X N T U (List.forall_mem_singleton.mpr (.tail _ (.tail _ (.head _)))) hA hf hke hroom hu ?_
  rintro o' own r h' tk' F' N' hO ⟨⟨n', tk1, e', rfl, h1, h2⟩, hT⟩
  obtain ⟨p, t, sc, Rl, rfl, rfl, hK⟩ := told_kind hT
  exact ret p t sc Rl n' tk1 e' h' tk' F' (news_told N') (allNe_mk (o := listOf vs.toArray ne) hfl (allNe_own (o := feedO l n tk e) hO.tail (.tail _ (.head _)))) (by omega) (by omega) (hK w mean mg mb)
theorem choice_use {t sc fa l : Addr} {a b : Addr × Obj} {fo lo : Obj} {Rl : Led} (K : Kind w mean mg mb t sc Rl)
    (N : News h₀ L s.heap (a :: b :: (fa, fo) :: (l, lo) :: Rl)) (F : Fr h₀ L s.heap m) (hh : A.handled = none) (B : Below A₀ base outer h₀) (X : (kheap w.params).In h₀) (T : Top kview (looseW kview []) mean mg mb h₀) (hfl : AllNe fa ((l, lo) :: Rl))
    (hA : A.frames = some (env :: outer)) (hf : env.frame = some L) (hke : env.scope.kind = .function) (hroom : A.depth + 20 < recursionLimit) (hu : A.units + 8 * 20 < cLine)
    (ret : ∀ x q fn f1 tup v1 f2 R2 h' tk', Fr h₀ L h' m → News h₀ L h' (a :: b :: (fa, fo) :: (l, lo) :: R2) → AllNe fa ((l, lo) :: R2) → MadeAt w mean mg mb t sc x R2 q fn f1 tup v1 f2 → R (.ok (.ret (.ref x))) { s with heap := h', toks := tk' }) :
    codeAny (model PySem.Challenge.rw_nz0027_01.row.prog w) A (.call (.ref 379) ⟨[.ref t], []⟩) R s := by
  obtain ⟨need, P, hsub, C, hM⟩ := K
  refine con_new C hh B F X N T (fun p hp => .tail _ (.tail _ (.tail _ (.tail _ (hsub p hp))))) hA hf hke hroom hu ?_
  intro own r h' tk' F' N' hO hP
  obtain ⟨x, q, fn, rfl, hM⟩ := hM own r hP
  obtain ⟨f1, tup, v1, f2, hM⟩ := hM.at
  exact ret x q fn f1 tup v1 f2 (own ++ Rl) h' tk' F' (news_made N') ⟨hfl.1, allNe_app (allNe_own (o := fo) hO (.tail _ (.tail _ (.head _)))) hfl.2⟩ hM
variable {t sc x : Addr} {R2 all : Led} {q : Nat} {fn : List Int → Bool} {f1 : Addr} {tup : Tok → List Value} {v1 f2 : Addr}
theorem toldm_use (hM : MadeAt w mean mg mb t sc x R2 q fn f1 tup v1 f2)
    (N : News h₀ L s.heap all) (F : Fr h₀ L s.heap m) (hh : A.handled = none) (B : Below A₀ base outer h₀) (X : (kheap w.params).In h₀) (T : Top kview (looseW kview []) mean mg mb h₀) (hs : ∀ p ∈ R2, p ∈ all)
    (hA : A.frames = some (env :: outer)) (hf : env.frame = some L) (hke : env.scope.kind = .function) (hroom : A.depth + 4 < recursionLimit) (hu : A.units + 8 * 4 < cLine)
    (ret : ∀ a ts h' tk', Fr h₀ L h' m → News h₀ L h' ((a, tupO (tup ts) 0) :: all) → R (.ok (.ret (.ref a))) { s with heap := h', toks := tk' }) :
    codeAny (model PySem.Challenge.rw_nz0027_01.row.prog w) A (.call (.ref f1) ⟨[.ref x], []⟩) R s := by
  obtain ⟨need, hsub, C⟩ := hM.told
  refine con_new C hh B F X N T (fun p hp => hs p (hsub p hp)) hA hf hke hroom hu ?_
  rintro own r h' tk' F' N' _ ⟨a, ts, rfl, rfl⟩
  exact ret a ts h' tk' F' N'
theorem check_use {v : Addr} {us : List Value} {xs : List Int} (hM : MadeAt w mean mg mb t sc x R2 q fn f1 tup v1 f2) (hi : IntsAre us xs) (hl : xs.length = q)
    (N : News h₀ L s.heap all) (F : Fr h₀ L s.heap m) (hh : A.handled = none) (B : Below A₀ base outer h₀) (X : (kheap w.params).In h₀) (T : Top kview (looseW kview []) mean mg mb h₀) (hs : ∀ p ∈ (v, tupO us 0) :: R2, p ∈ all)
    (hA : A.frames = some (env :: outer)) (hf : env.frame = some L) (hke : env.scope.kind = .function) (hroom : A.depth + 12 < recursionLimit) (hu : A.units + 8 * 12 < cLine)
    (ret : ∀ h' tk', Fr h₀ L h' m → News h₀ L h' all → R (.ok (.ret (.bool (fn xs)))) { s with heap := h', toks := tk' }) :
    codeAny (model PySem.Challenge.rw_nz0027_01.row.prog w) A (.call (.ref f2) ⟨[.ref x, .ref v], []⟩) R s := by
  obtain ⟨need, hsub, C⟩ := hM.check v us xs hi hl
  exact bool_use C N F hh B X T (fun p hp => hs p (hsub p hp)) hA hf hke hroom hu ret
theorem keeps_use {v : Addr} {us : List Value} {xs : List Int} (hM : MadeAt w mean mg mb t sc x R2 q fn f1 tup v1 f2) (hi : IntsAre us xs) (hl : xs.length = q)
    (N : News h₀ L s.heap all) (F : Fr h₀ L s.heap m) (hh : A.handled = none) (B : Below A₀ base outer h₀) (X : (kheap w.params).In h₀) (T : Top kview (looseW kview []) mean mg mb h₀) (hs : ∀ p ∈ (v, tupO us 0) :: R2, p ∈ all)
    (hA : A.frames = some (env :: outer)) (hf : env.frame = some L) (hke : env.scope.kind = .function) (hroom : A.depth + 12 < recursionLimit) (hu : A.units + 8 * 12 < cLine)
    (ret : ∀ h' tk', Fr h₀ L h' m → News h₀ L h' all → R (.ok (.ret (.bool (fn xs)))) { s with heap := h', toks := tk' }) :
    codeAny (model PySem.Challenge.rw_nz0027_01.row.prog w) A (.call (.ref 408) ⟨[.ref t, .ref v], []⟩) R s := by
  obtain ⟨need, hsub, C⟩ := hM.rest.keeps v us xs hi hl
  exact bool_use C N F hh B X T (fun p hp => hs p (hsub p hp)) hA hf hke hroom hu ret
theorem val_use {fa l : Addr} {vs : List Value} {ns : List Int} {n lap : Int} {tk tl : Tok} {e ne : Nat} {u : Obj → Led} (hM : MadeAt w mean mg mb t sc x R2 q fn f1 tup v1 f2) (hi : IntsAre vs ns) (hlen : ns.length ≤ 63) (hfl : AllNe fa ((l, listOf vs.toArray ne) :: R2)) (h0 : 0 ≤ n) (hn : n < 8000)
    (N : News h₀ L s.heap all) (F : Fr h₀ L s.heap m) (hh : A.handled = none) (B : Below A₀ base outer h₀) (X : (kheap w.params).In h₀) (T : Top kview (looseW kview []) mean mg mb h₀) (U : UpdF fa (feedO l n tk e) all u) (hl : (l, listOf vs.toArray ne) ∈ all) (hs : ∀ p ∈ R2, p ∈ all) (hsu : ∀ o, ∀ p ∈ R2, p ∈ u o)
    (hA : A.frames = some (env :: outer)) (hf : env.frame = some L) (hke : env.scope.kind = .function) (hroom : A.depth + 12 < recursionLimit) (hu : A.units + 8 * 12 < cLine)
    (ret : ∀ v us xs n' tk1 e' h' tk', Fr h₀ L h' m → News h₀ L h' ((v, tupO us 0) :: u (feedO l n' tk1 e')) → IntsAre us xs → xs.length = q → n ≤ n' → n' ≤ n + 8 → R (.ok (.ret (.ref v))) { s with heap := h', toks := tk' }) :
    codeAny (model PySem.Challenge.rw_nz0027_01.row.prog w) A (.call (.ref 413) ⟨[.ref fa, .ref t, .ref sc, .int lap tl], []⟩) R s := by
  obtain ⟨need, hsub, C⟩ := hM.rest.val lap tl fa l vs ns n tk e ne hi hlen hfl h0 hn
  refine con_upd C hh B F X N T U (fun p hp => by
    rcases List.mem_cons.mp (hsub p hp) with rfl | hp
    · exact hl
    · exact hs p hp) hA hf hke hroom hu ?_
  rintro o' own r h' tk' F' N' _ ⟨⟨n', tk1, e', rfl, h1, h2⟩, v, us, xs, rfl, hmem, hx, hxl⟩
  exact ret v us xs n' tk1 e' h' tk' F' (news_pick N' (R := R2) (hsu _) hmem) hx hxl h1 h2
end

/-- the outer loop of the law -/
def LawJ (fa l : Addr) (vs : List Value) (ne i : Nat) (m : Str → Option Value) (nx : Led) : Prop :=
  m (Str.ofString "feed") = some (.ref fa) ∧ ∃ n tk e, nx = [(fa, feedO l n tk e), (l, listOf (List.toArray vs) ne)] ∧ 0 ≤ n ∧ n ≤ 100 * (i : Int)
/-- the inner loop -/
def LapJ (fa l t sc x : Addr) (g : Obj → Led) (n0 : Int) (i : Nat) (m : Str → Option Value) (nx : Led) : Prop :=
  (m (Str.ofString "feed") = some (.ref fa) ∧ m (Str.ofString "told") = some (.ref t) ∧ m (Str.ofString "scope") = some (.ref sc) ∧ m (Str.ofString "made") = some (.ref x)) ∧ ∃ n tk e, nx = g (feedO l n tk e) ∧ 0 ≤ n ∧ n ≤ n0 + 10 * (i : Int)
section
variable {prog : Program} {w : World} {A : Around} {E : Value → Shared → Prop} {s : Shared} {env : Env} {h₀ : Heap} {x : Str} {body : List Stmt} {Q : Flow → Shared → Prop} {I : Addr} {a : Int} {nn : Nat} {m : Str → Option Value} {news : Led}
theorem law_loop {fa l : Addr} {vs : List Value} {tk : Tok} {e ne : Nat} (hf : m (Str.ofString "feed") = some (.ref fa)) (hx : Str.ofString "feed" ≠ x) (h1 : (fa, feedO l 0 tk e) ∈ news) (h2 : (l, listOf vs.toArray ne) ∈ news) {ns : List Int} (hi : IntsAre vs ns) (hlen : ns.length ≤ 63) (hfl : @Ne Nat fa l)
    (turn : ∀ (i : Nat) (m : Str → Option Value) (t' : Tok) (h : Heap) (tk' : Nat) (n : Int) (tk : Tok) (e : Nat), i < nn → IntsAre vs ns → ns.length ≤ 63 → (@Ne Nat fa l) → 0 ≤ n → n ≤ 100 * (i : Int) → Fr h₀ env.locals h (fun y => if y = Str.ofString "feed" then some (.ref fa) else if y = x then some (.int (a + (i : Int)) t') else m y) → News h₀ env.locals h [(I, itR (a + ((i + 1 : Nat) : Int)) ((nn : Int) - ((i + 1 : Nat) : Int))), (fa, feedO l n tk e), (l, listOf vs.toArray ne)] →
      wpAny (model prog w) A (execs body env) (UnrPost h₀ env.locals { s with heap := h, toks := tk' } I (itR (a + ((i + 1 : Nat) : Int)) ((nn : Int) - ((i + 1 : Nat) : Int))) (LawJ fa l vs ne (i + 1)) Q) E { s with heap := h, toks := tk' })
    (done : ∀ (m : Str → Option Value) (news : Led) (h : Heap) (tk' : Nat), Fr h₀ env.locals h m → News h₀ env.locals h news → Q .next { s with heap := h, toks := tk' }) :
    RangeRest prog w A E h₀ env x body Q s I a nn nn 0 m news := by
  refine range_sub (nx := [(fa, feedO l 0 tk e), (l, listOf vs.toArray ne)]) (List.forall_mem_cons.mpr ⟨h1, List.forall_mem_singleton.mpr h2⟩) (range_inv (LawJ fa l vs ne) ?_ (fun m news h tk' _ => done m news h tk') nn 0 m _ (Nat.zero_add _) ⟨hf, 0, tk, e, rfl, Int.le_refl _, by simp⟩)
  rintro i m news t' h tk' hlt ⟨hf, n, tk, e, rfl, h0, h100⟩ F N
  exact turn i m t' h tk' n tk e hlt hi hlen hfl h0 h100 (Fr.know F ((if_neg hx).trans hf)) N
theorem lap_loop {g : Obj → Led} {fa l t sc xx : Addr} {n : Int} {tk : Tok} {e : Nat} (hI : ∀ p ∈ news, p.1 < I) (h0 : 0 ≤ n)
    (hm : m (Str.ofString "feed") = some (.ref fa) ∧ m (Str.ofString "told") = some (.ref t) ∧ m (Str.ofString "scope") = some (.ref sc) ∧ m (Str.ofString "made") = some (.ref xx)) (U : UpdF fa (feedO l n tk e) news g) (hg : g (feedO l n tk e) = news)
    (hx1 : Str.ofString "feed" ≠ x) (hx2 : Str.ofString "told" ≠ x) (hx3 : Str.ofString "scope" ≠ x) (hx4 : Str.ofString "made" ≠ x)
    (turn : ∀ (i : Nat) (m : Str → Option Value) (t' : Tok) (h : Heap) (tk' : Nat) (n2 : Int) (tk2 : Tok) (e2 : Nat), i < nn → (∀ o', ∀ p ∈ g o', p.1 ≠ I) → 0 ≤ n2 → n2 ≤ n + 10 * (i : Int) →
      Fr h₀ env.locals h (fun y => if y = Str.ofString "made" then some (.ref xx) else if y = Str.ofString "scope" then some (.ref sc) else if y = Str.ofString "told" then some (.ref t) else if y = Str.ofString "feed" then some (.ref fa) else if y = x then some (.int (a + (i : Int)) t') else m y) →
      News h₀ env.locals h ((I, itR (a + ((i + 1 : Nat) : Int)) ((nn : Int) - ((i + 1 : Nat) : Int))) :: g (feedO l n2 tk2 e2)) →
      wpAny (model prog w) A (execs body env) (UnrPost h₀ env.locals { s with heap := h, toks := tk' } I (itR (a + ((i + 1 : Nat) : Int)) ((nn : Int) - ((i + 1 : Nat) : Int))) (LapJ fa l t sc xx g n (i + 1)) Q) E { s with heap := h, toks := tk' })
    (done : ∀ (m : Str → Option Value) (h : Heap) (tk' : Nat) (n2 : Int) (tk2 : Tok) (e2 : Nat), 0 ≤ n2 → n2 ≤ n + 10 * (nn : Int) → Fr h₀ env.locals h (fun y => if y = Str.ofString "feed" then some (.ref fa) else m y) → News h₀ env.locals h (g (feedO l n2 tk2 e2)) → Q .next { s with heap := h, toks := tk' }) :
    RangeRest prog w A E h₀ env x body Q s I a nn nn 0 m news := by
  have off := updF_off U hI
  refine range_inv (LapJ fa l t sc xx g n) ?_ ?_ nn 0 m news (Nat.zero_add _) ⟨hm, n, tk, e, hg.symm, h0, by simp⟩
  · rintro i m news t' h tk' hlt ⟨⟨m1, m2, m3, m4⟩, n2, tk2, e2, rfl, ha, hb⟩ F N
    exact turn i m t' h tk' n2 tk2 e2 hlt off ha hb (Fr.know (Fr.know (Fr.know (Fr.know F ((if_neg hx1).trans m1)) ((if_neg (by decide)).trans ((if_neg hx2).trans m2))) ((if_neg (by decide)).trans ((if_neg (by decide)).trans ((if_neg hx3).trans m3)))) ((if_neg (by decide)).trans ((if_neg (by decide)).trans ((if_neg (by decide)).trans ((if_neg hx4).trans m4))))) N
  · rintro m news h tk' ⟨⟨m1, _⟩, n2, tk2, e2, rfl, ha, hb⟩ F N
    exact done m h tk' n2 tk2 e2 ha hb (Fr.know F m1) N
end
end Mine
namespace Mine
open PySem PySem.W PySem.Calls PyProof.Rows PySem.Spec
local macro_rules | `(tactic| k_ne) => `(tactic| (
  (try dsimp only)
  (with_reducible show _ ≠ _)
  first
  | (with_reducible assumption)
  | exact Ne.symm (by with_reducible assumption)
  | (refine' held_ne ?N ?m1 ?m2 ?c; (case N => k_asm); (case m1 => k_mem); (case m2 => k_mem); (case c => first | exact ty_ne (by decide) | exact ty_ref | exact Ne.symm ty_ref))))
local macro_rules | `(tactic| k_updF) => `(tactic| first
  | (refine' UpdF.head ?a; (case a => exact allNe_all (by with_reducible assumption)))
  | (refine' UpdF.tail ?a ?b; (case a => k_ne); (case b => k_updF)))

set_option maxHeartbeats 40000000 in
theorem law_holds : PySem.Challenge.rw_nz0027_01.Holds := by
  w_on
  o_law
  refine holds_open (q := kview) (loose := []) (Xt := xt0) (XP := XL kview []) (Yf := Hook.obs (kHook kheap kaddrs addrs_ok)) (Ya := Hook.val (kHook kheap kaddrs addrs_ok)) (YP := Hook.says (kHook kheap kaddrs addrs_ok)) (N := 5930) left_at (Hook.of (kHook kheap kaddrs addrs_ok)) (Hook.keeps (kHook kheap kaddrs addrs_ok)) (fun s e => xl_of s (Bool.and_eq_true_iff.mp e).1) XL.keeps (by rfl) (by rfl) (by rfl) (fun s e => recFacts_of (Bool.and_eq_true_iff.mp e).2) (by rfl) (by first | assumption | decide +kernel) (by decide +kernel) ⟨rfl, rfl, rfl, rfl, rfl, by decide +kernel⟩ ?hw ?hc
  (case hw => w_witness2)
  rename_i hsaid
  clear hsaid
  w_strict (
  k_go0
  k_with_none
  k_with "RangeRest!" => (
    (with_reducible show RangeRest _ _ _ _ _ _ (Str.ofString "turn") _ _ _ _ _ _ _ _ _ _)
    k_dflt (
    refine' law_loop ?hf ?hx ?h1 ?h2 ?hi ?hl ?hne ?_ ?_
    (case h1 => k_mem); (case h2 => k_mem); (case hf => exact rfl); (case hx => decide); (case hi => with_reducible assumption); (case hl => omega); (case hne => omega)
    intro i m t' h' tk' n tk0 e0 hlt hi hlen hfl h0 h100 F' N'
    (try dsimp only); (try k_fold)
    rotate_left
    intro m nx h' tk' F' N'
    (try dsimp only); (try k_fold)
    rotate_left))
  k_with "call ref!" => (
    (with_reducible show wpAny _ _ (PySem.call (Value.ref 396) _ _) _ _ _)
    k_dflt (
    refine wpAny_call ?_
    refine' told_use ?c5 ?c3 ?c1 ?c2 ?c4 ?c6 ?U hi hlen ?h0 ?hn ?hk hfl ?c9 ?c10 ?c11 ?c12 ?c13 ?_
    (case c1 => exact rfl); (case c3 => k_asm); (case c2 => k_asm); (case c4 => k_asm); (case c5 => k_asm); (case c6 => k_asm); (case U => k_updF); (case h0 => with_reducible assumption); (case hn => with_reducible assumption); (case hk => with_reducible assumption)
    (case c9 => exact rfl); (case c10 => exact rfl); (case c11 => first | exact rfl | assumption); (case c12 => ktr_room); (case c13 => ktr_units)
    k_whole
    intro p t sc R n' tk1' e' h' tk' F' N' hRfl h0' h100' hK
    (try dsimp only); (try k_fold)))
  k_with "call ref!" => (
    (with_reducible show wpAny _ _ (PySem.call (Value.ref 379) _ _) _ _ _)
    k_dflt (
    refine wpAny_call ?_
    refine' choice_use hK ?c5 ?c3 ?c1 ?c2 ?c4 ?c6 hRfl ?c9 ?c10 ?c11 ?c12 ?c13 ?_
    (case c1 => exact rfl); (case c3 => k_asm); (case c2 => k_asm); (case c4 => k_asm); (case c5 => k_asm); (case c6 => k_asm); skip
    (case c9 => exact rfl); (case c10 => exact rfl); (case c11 => first | exact rfl | assumption); (case c12 => ktr_room); (case c13 => ktr_units)
    k_whole
    intro x q fn f1 tup v1 f2 R2 h' tk' F' N' hRfl2 hM
    (try dsimp only); (try k_fold)))
  k_with "call ref!" => (
    (with_reducible show wpAny _ _ (PySem.call (Value.ref f1) _ _) _ _ _)
    k_dflt (
    refine wpAny_call ?_
    refine' toldm_use hM ?c5 ?c3 ?c1 ?c2 ?c4 ?c6 ?S ?c9 ?c10 ?c11 ?c12 ?c13 ?_
    (case c1 => exact rfl); (case c3 => k_asm); (case c2 => k_asm); (case c4 => k_asm); (case c5 => k_asm); (case c6 => k_asm); (case S => (repeat (first | exact sub_rfl | refine sub_c ?_)))
    (case c9 => exact rfl); (case c10 => exact rfl); (case c11 => first | exact rfl | assumption); (case c12 => ktr_room); (case c13 => ktr_units)
    k_whole
    intro a1 ts1 h' tk' F' N'
    (try dsimp only); (try k_fold)))
  k_with "call ref!" => (
    (with_reducible show wpAny _ _ (PySem.call (Value.ref 413) _ _) _ _ _)
    k_dflt (
    refine wpAny_call ?_
    refine' val_use hM hi hlen hRfl2 ?h0 ?hn ?c5 ?c3 ?c1 ?c2 ?c4 ?c6 ?U ?l ?S ?V ?c9 ?c10 ?c11 ?c12 ?c13 ?_
    (case c1 => exact rfl); (case c3 => k_asm); (case c2 => k_asm); (case c4 => k_asm); (case c5 => k_asm); (case c6 => k_asm); (case U => k_updF); (case h0 => with_reducible assumption); (case hn => omega); (case l => k_mem); (case S => (repeat (first | exact sub_rfl | refine sub_c ?_))); (case V => (intro o9'; (try dsimp only); (repeat (first | exact sub_rfl | refine sub_c ?_))))
    (case c9 => exact rfl); (case c10 => exact rfl); (case c11 => first | exact rfl | assumption); (case c12 => ktr_room); (case c13 => ktr_units)
    k_whole
    intro va us xs n3 tk3 e3 h' tk' F' N' hxs hxl hn1 hn2
    (try dsimp only at N'); (try dsimp only); (try k_fold)))
  k_with "call ref!" => (
    (with_reducible show wpAny _ _ (PySem.call (Value.ref f2) _ _) _ _ _)
    k_dflt (
    refine wpAny_call ?_
    refine' check_use hM hxs hxl ?c5 ?c3 ?c1 ?c2 ?c4 ?c6 ?S ?c9 ?c10 ?c11 ?c12 ?c13 ?_
    (case c1 => exact rfl); (case c3 => k_asm); (case c2 => k_asm); (case c4 => k_asm); (case c5 => k_asm); (case c6 => k_asm); (case S => refine sub_v (by k_mem) ?_; (repeat (first | exact sub_rfl | refine sub_c ?_)))
    (case c9 => exact rfl); (case c10 => exact rfl); (case c11 => first | exact rfl | assumption); (case c12 => ktr_room); (case c13 => ktr_units)
    k_whole
    intro h' tk' F' N'
    (try dsimp only); (try k_fold)))
  k_with "call ref!" => (
    (with_reducible show wpAny _ _ (PySem.call (Value.ref 408) _ _) _ _ _)
    k_dflt (
    refine wpAny_call ?_
    refine' keeps_use hM hxs hxl ?c5 ?c3 ?c1 ?c2 ?c4 ?c6 ?S ?c9 ?c10 ?c11 ?c12 ?c13 ?_
    (case c1 => exact rfl); (case c3 => k_asm); (case c2 => k_asm); (case c4 => k_asm); (case c5 => k_asm); (case c6 => k_asm); (case S => refine sub_v (by k_mem) ?_; (repeat (first | exact sub_rfl | refine sub_c ?_)))
    (case c9 => exact rfl); (case c10 => exact rfl); (case c11 => first | exact rfl | assumption); (case c12 => ktr_room); (case c13 => ktr_units)
    k_whole
    intro h' tk' F' N'
    (try dsimp only); (try k_fold)))
  k_with "getMethod ref!" => (
    (with_reducible show wpAny _ _ (getMethod (Value.ref _) (Str.ofString "told") _) _ _ _)
    k_dflt (
    refine' hM.g1 _ _ _ _ _ _ _ _ ?F ?X (news_sub ?N ?S) ?_
    (case F => k_asm); (case N => k_asm); (case X => k_asm); (case S => (repeat (first | exact sub_rfl | refine sub_c ?_)))
    skip
    (try dsimp only)))
  k_with "getMethod ref!" => (
    (with_reducible show wpAny _ _ (getMethod (Value.ref _) (Str.ofString "check") _) _ _ _)
    k_dflt (
    refine' hM.g2 _ _ _ _ _ _ _ _ ?F ?X (news_sub ?N ?S) ?_
    (case F => k_asm); (case N => k_asm); (case X => k_asm); (case S => (repeat (first | exact sub_rfl | refine sub_c ?_)))
    skip
    (try dsimp only)))
  k_with "getAttr ref!" => (
    (with_reducible show wpAny _ _ (getAttr (Value.ref _) (Str.ofString "scope") _) _ _ _)
    k_dflt (
    refine' hM.a1 _ _ _ _ _ _ _ _ ?F ?X (news_sub ?N ?S) ?_
    (case F => k_asm); (case N => k_asm); (case X => k_asm); (case S => (repeat (first | exact sub_rfl | refine sub_c ?_)))
    intro t9
    (try dsimp only)))
  k_with "callWith ref!" => (
    (with_reducible show wpAny _ _ (callWith _ (Value.ref f1) _ (backTo _ (starEach [] _)) []) _ _ _)
    k_dflt (refine' callWith_K0 ?X hM.k1 ?_; (case X => k_in); k_whole))
  k_with "callWith ref!" => (
    (with_reducible show wpAny _ _ (callWith _ (Value.ref f2) _ (backTo _ (starEach (_ :: _) _)) []) _ _ _)
    k_dflt (refine' callWith_K ?X hM.k2 ?_; (case X => k_asm); k_whole))
  k_with "compareOp NotEq ref ref!" => (
    (with_reducible show wpAny _ _ (compareOp CmpOp.NotEq (Value.ref v1) (Value.ref _)) _ _ _)
    k_dflt (
    refine' ne_sameN ?N ?S hM.same2 ?u ?_
    (case N => k_asm); (case S => (repeat (first | exact sub_rfl | refine sub_c ?_))); (case u => ktr_units)
    k_whole))
  k_with "compareOp NotEq ref ref!" => (
    (with_reducible show wpAny _ _ (compareOp CmpOp.NotEq (Value.ref a1) (Value.ref _)) _ _ _)
    k_dflt (
    refine' ne_sameN ?N ?S (hM.same1 _ _) ?u ?_
    (case N => k_asm); (case S => refine sub_v (by k_mem) ?_; (repeat (first | exact sub_rfl | refine sub_c ?_))); (case u => ktr_units)
    k_whole))
  k_with "compareOp NotEq bool bool!" => (
    k_here
    (with_reducible show wpAny _ _ (compareOp CmpOp.NotEq (Value.bool _) (Value.bool _)) _ _ _)
    k_dflt (refine ne_bool_same ?_))
  k_with "RangeRest!" => (
    (with_reducible show RangeRest _ _ _ _ _ _ (Str.ofString "lap") _ _ _ _ _ _ _ _ _ _)
    k_dflt (
    refine' lap_loop ?hI ?h0 ⟨?h1, ?h2, ?h3, ?h4⟩ ?U ?hg ?x1 ?x2 ?x3 ?x4 ?_ ?_
    (case h1 => exact rfl); (case h2 => exact rfl); (case h3 => exact rfl); (case h4 => exact rfl)
    (case U => k_updF)
    (case hI => exact allLt_all (by assumption))
    (case hg => exact rfl); (case h0 => with_reducible assumption); (case x1 => decide); (case x2 => decide); (case x3 => decide); (case x4 => decide)
    intro i2 m2 t2 h' tk' n2 tk2 e2 hlt2 hoff hlo2 hhi2 F' N'
    (try dsimp only at N')
    (try dsimp only); (try k_fold)
    rotate_left
    intro m2 h' tk' n2 tk2 e2 hlo2 hhi2 F' N'
    (try dsimp only at N')
    (try dsimp only); (try k_fold)
    rotate_left))
  k_with "UnrEnd!" => (
    (with_reducible show UnrEnd _ _ _ _ _ (LapJ _ _ _ _ _ _ _ _) _)
    k_dflt (
    refine' UnrEnd.intro ?F ?N _ ?sub ?off ⟨⟨?e1, ?e2, ?e3, ?e4⟩, _, _, _, rfl, ?lo, ?hi⟩
    (case F => k_asm); (case N => k_asm)
    (case e1 => exact rfl); (case e2 => exact rfl); (case e3 => exact rfl); (case e4 => exact rfl)
    (case sub => ((try dsimp only) <;> (refine sub_c ?_; exact sub_rfl)))
    (case off => exact hoff _)
    (case lo => omega); (case hi => omega)))
  k_with "UnrEnd!" => (
    (with_reducible show UnrEnd _ _ _ _ _ (LawJ _ _ _ _ _) _)
    k_dflt (
    refine' UnrEnd.intro ?F ?N _ ?sub ?off ⟨?e1, _, _, _, rfl, ?lo, ?hi⟩
    (case F => k_asm); (case N => k_asm)
    (case sub => exact List.forall_mem_cons.mpr ⟨by k_mem, List.forall_mem_cons.mpr ⟨by k_mem, List.forall_mem_singleton.mpr (by k_mem)⟩⟩)
    (case e1 => exact rfl)
    (case off => ((try dsimp only) <;> k_all))
    (case lo => omega); (case hi => omega)))
  (repeat' (first | (k_unfold; (try dsimp only)) | walk1 | (dsimp only; walk1) | (leave1; (try dsimp only))))
  all_goals (try dsimp only)
  all_goals (first | (k_end; wrow_close) | trace_state))
end Mine

theorem PySem.Challenge.cw_nz0027_01_holds : PySem.Challenge.rw_nz0027_01.Holds :=
  Mine.law_holds
