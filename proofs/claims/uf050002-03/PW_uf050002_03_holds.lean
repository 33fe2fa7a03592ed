import PyProof.Rows.All
import OpenK.KWalk
import Open.Line
import PyProof.ListIndex
import PyProof.MeetsIn
import PyProof.CollectWalk
import PyProof.DictWalks
import PyProof.WalksMore
import PyProof.DictStraight
import PyProof.FactsAll.dict_3
import PyProof.FactsAll.list_3
import PyProof.PlainList
import PyProof.ListRange
import Open.Row
import PyProof.StrBlockL
import PyProof.StrBlock2
import PyProof.StationsW
import PyProof.Rows.News
import PyProof.Walks
import PyProof.CompFree
import PyProof.RangeIter
import PyProof.TupleIter
import PyProof.Rows.RuleB_floordiv
import PyProof.Rows.RuleB_mul
import PyProof.Rows.RuleC_bool
import PyProof.Rows.RuleC_int
import PyProof.Rows.StrRules
import PyProof.Rows.IntRules
import PyProof.Rows.RuleU_int
import PyProof.Rows.Nodes
import PyProof.Rows.TupMore
import PyProof.Rows.ListMade
import PyProof.Rows.EqNone
import PyProof.EqAt
import PyProof.EqKinds
import PyProof.Truth
import PyProof.NeKinds
import PyProof.ListTruth
import PyProof.ListIndexNeg
import PyProof.SliceList
import PyProof.ListOps
import PyProof.Rows.SeqMore
import PyProof.Rows.Lst
import PyProof.DictRoads
import PyProof.DictTruth
import PyProof.Rows.RuleB_pow
import PyProof.StrBlock
import PyProof.Rows.SeqCalls
import PyProof.Conv_int_bool
import PyProof.RangeFor
import PyProof.Rows.ListCopyD
import PyProof.CallStr
import PyProof.TupleOfSeq
import PyProof.Conv_int
import KE.KIntText
import PyProof.Rows.SortShell
import PyProof.StrCalls2
import PyProof.StrCalls3
import PyProof.Rows.AttrNodeAny
import PyProof.Rows.Method
import PyProof.Rows.Chain
import PyProof.SliceSyntax
import PyProof.Rows.Own
import PyProof.IsiPairs
import PyProof.IsiHeapPairs
import PyProof.IsiNone
import PyProof.CallType
import PyProof.ConsumeS
import PyProof.Comp
import PyProof.Rules3
import PyProof.MeetsDict
import PyProof.SliceMore
import PyProof.SliceStr2
import PyProof.StrBlockH
import PyProof.CompMap
import PyProof.StrLoop
import PyProof.CompUse
import PyProof.StrWalks
import PyProof.AutoIntOps
import PyProof.RulesAssignMore
import PyProof.Raises
import PyProof.RulesTry
import PyProof.ExcBaseAll.ValueError
import PyProof.Rows.CatchOwn
import PyProof.RulesAs
import PyProof.Cells
import OpenK.KMore
import PyProof.ExcArgs
import PyProof.Rows.Walk
import PyProof.Rows.ReprOcc
import PyProof.StrLawsTight
import PyProof.StrLawsChain
import PySem.Challenge.RW_uf050002_03
set_option Elab.async false
set_option maxRecDepth 100000
set_option linter.all false
set_option autoImplicit false
set_option genSizeOf false
set_option genSizeOfSpec false
set_option genInjectivity false
namespace Mine
open PySem PySem.W PyProof.Rows
noncomputable def rowBody : List Stmt := PySem.Challenge.rw_uf050002_03.row.prog.main.body
noncomputable def stAt (l : List Stmt) (i : Nat) : Stmt := match l[i]? with | some s => s | none => .Pass ⟨0, 0, 0, 0⟩
noncomputable def fnParts : Stmt → Arguments × List Stmt × Scope
  | .FunctionDef _ a b _ _ _ sc _ _ _ => (a, b, sc)
  | _ => (⟨[], [], none, [], [], none, []⟩, [], ⟨.module, [], false, false, []⟩)
noncomputable def inMod (i : Nat) := fnParts (stAt rowBody i)
noncomputable def ob3 (P : Params) : Obj := Obj.mk (Value.type "dict") none (Data.dict #[DictEntry.mk (PyData.keyHash P (Str.ofString "__name__")) (Value.str (Str.ofString "__name__") 165) (Value.str (Str.ofString "law_uf050002_03") 374), DictEntry.mk (PyData.keyHash P (Str.ofString "__doc__")) (Value.str (Str.ofString "__doc__") 166) Value.none, DictEntry.mk (PyData.keyHash P (Str.ofString "__package__")) (Value.str (Str.ofString "__package__") 167) Value.none, DictEntry.mk (PyData.keyHash P (Str.ofString "__loader__")) (Value.str (Str.ofString "__loader__") 168) (Value.builtin "__main__.__loader__#opaque"), DictEntry.mk (PyData.keyHash P (Str.ofString "__spec__")) (Value.str (Str.ofString "__spec__") 169) Value.none, DictEntry.mk (PyData.keyHash P (Str.ofString "__annotations__")) (Value.str (Str.ofString "__annotations__") 170) (Value.ref 6), DictEntry.mk (PyData.keyHash P (Str.ofString "__builtins__")) (Value.str (Str.ofString "__builtins__") 171) (Value.ref 4), DictEntry.mk (PyData.keyHash P (Str.ofString "__file__")) (Value.str (Str.ofString "__file__") 173) (Value.str (Str.ofString "/claim/cut.py") 172), DictEntry.mk (PyData.keyHash P (Str.ofString "__cached__")) (Value.str (Str.ofString "__cached__") 174) Value.none, DictEntry.mk (PyData.keyHash P (Str.ofString "HeapError")) (Value.str (Str.ofString "HeapError") 206) (Value.ref 24), DictEntry.mk (PyData.keyHash P (Str.ofString "NoHand")) (Value.str (Str.ofString "NoHand") 222) (Value.ref 37), DictEntry.mk (PyData.keyHash P (Str.ofString "NoSlot")) (Value.str (Str.ofString "NoSlot") 238) (Value.ref 49), DictEntry.mk (PyData.keyHash P (Str.ofString "NoRoom")) (Value.str (Str.ofString "NoRoom") 254) (Value.ref 61), DictEntry.mk (PyData.keyHash P (Str.ofString "NothingHeld")) (Value.str (Str.ofString "NothingHeld") 270) (Value.ref 73), DictEntry.mk (PyData.keyHash P (Str.ofString "NoBox")) (Value.str (Str.ofString "NoBox") 286) (Value.ref 85), DictEntry.mk (PyData.keyHash P (Str.ofString "NoWork")) (Value.str (Str.ofString "NoWork") 302) (Value.ref 97), DictEntry.mk (PyData.keyHash P (Str.ofString "NoHeap")) (Value.str (Str.ofString "NoHeap") 318) (Value.ref 109), DictEntry.mk (PyData.keyHash P (Str.ofString "NoDeed")) (Value.str (Str.ofString "NoDeed") 334) (Value.ref 121), DictEntry.mk (PyData.keyHash P (Str.ofString "COUNTS")) (Value.str (Str.ofString "COUNTS") 355) (Value.ref 124), DictEntry.mk (PyData.keyHash P (Str.ofString "FIGURES")) (Value.str (Str.ofString "FIGURES") 357) (Value.str (Str.ofString "0123456789") 356), DictEntry.mk (PyData.keyHash P (Str.ofString "MOST_FIGURES")) (Value.str (Str.ofString "MOST_FIGURES") 359) (Value.int 60 358), DictEntry.mk (PyData.keyHash P (Str.ofString "number_of")) (Value.str (Str.ofString "number_of") 367) (Value.ref 131), DictEntry.mk (PyData.keyHash P (Str.ofString "read")) (Value.str (Str.ofString "read") 373) (Value.ref 136), DictEntry.mk (PyData.keyHash P (Str.ofString "_law_cell_at")) (Value.str (Str.ofString "_law_cell_at") 383) (Value.ref 143), DictEntry.mk (PyData.keyHash P (Str.ofString "_law_whole")) (Value.str (Str.ofString "_law_whole") 390) (Value.ref 150), DictEntry.mk (PyData.keyHash P (Str.ofString "_law_numbers")) (Value.str (Str.ofString "_law_numbers") 399) (Value.ref 157), DictEntry.mk (PyData.keyHash P (Str.ofString "_law_sign_by")) (Value.str (Str.ofString "_law_sign_by") 407) (Value.ref 164), DictEntry.mk (PyData.keyHash P (Str.ofString "_law_odd")) (Value.str (Str.ofString "_law_odd") 415) (Value.ref 171), DictEntry.mk (PyData.keyHash P (Str.ofString "_law_line")) (Value.str (Str.ofString "_law_line") 427) (Value.ref 178), DictEntry.mk (PyData.keyHash P (Str.ofString "_law_built")) (Value.str (Str.ofString "_law_built") 438) (Value.ref 185), DictEntry.mk (PyData.keyHash P (Str.ofString "_law_number")) (Value.str (Str.ofString "_law_number") 448) (Value.ref 192), DictEntry.mk (PyData.keyHash P (Str.ofString "_law_due")) (Value.str (Str.ofString "_law_due") 454) (Value.ref 197), DictEntry.mk (PyData.keyHash P (Str.ofString "law")) (Value.str (Str.ofString "law") 466) (Value.ref 204)] 33) #[]
noncomputable def ob6 (P : Params) : Obj := Obj.mk (Value.type "dict") none (Data.dict #[]) #[]
noncomputable def ob23 (P : Params) : Obj := Obj.mk (Value.type "dict") none (Data.dict #[DictEntry.mk (PyData.keyHash P (Str.ofString "__module__")) (Value.str (Str.ofString "__module__") 196) (Value.str (Str.ofString "markpause.errors") 187), DictEntry.mk (PyData.keyHash P (Str.ofString "__firstlineno__")) (Value.str (Str.ofString "__firstlineno__") 200) (Value.int 2 199), DictEntry.mk (PyData.keyHash P (Str.ofString "__static_attributes__")) (Value.str (Str.ofString "__static_attributes__") 201) (Value.ref 22), DictEntry.mk (PyData.keyHash P (Str.ofString "__weakref__")) (Value.str (Str.ofString "__weakref__") 203) (Value.ref 25), DictEntry.mk (PyData.keyHash P (Str.ofString "__doc__")) (Value.str (Str.ofString "__doc__") 204) Value.none] 3) #[]
noncomputable def ob24 (P : Params) : Obj := Obj.mk (Value.type "type") none (Data.cls (ClassData.mk (Str.ofString "HeapError") [Value.type "ValueError"] [Value.ref 24, Value.type "ValueError", Value.type "Exception", Value.type "BaseException", Value.type "object"] 23 (Str.ofString "HeapError") true [] [Value.ref 37, Value.ref 49, Value.ref 61, Value.ref 73, Value.ref 85, Value.ref 97, Value.ref 109, Value.ref 121] false none false)) #[some (Value.ref 15), none, some (Value.str (Str.ofString "HeapError") 189), some (Value.str (Str.ofString "HeapError") 197), some (Value.builtin "ValueError.__new__"), some (Value.bool true)]
noncomputable def ob25 (P : Params) : Obj := Obj.mk (Value.type "getset_descriptor") none (Data.fields #[Value.str (Str.ofString "__weakref__") 202, Value.ref 24, Value.builtin "ExceptionGroup.__weakref__", Value.none]) #[]
noncomputable def ob36 (P : Params) : Obj := Obj.mk (Value.type "dict") none (Data.dict #[DictEntry.mk (PyData.keyHash P (Str.ofString "__module__")) (Value.str (Str.ofString "__module__") 214) (Value.str (Str.ofString "markpause.errors") 187), DictEntry.mk (PyData.keyHash P (Str.ofString "__firstlineno__")) (Value.str (Str.ofString "__firstlineno__") 218) (Value.int 4 217), DictEntry.mk (PyData.keyHash P (Str.ofString "__static_attributes__")) (Value.str (Str.ofString "__static_attributes__") 219) (Value.ref 35), DictEntry.mk (PyData.keyHash P (Str.ofString "__doc__")) (Value.str (Str.ofString "__doc__") 220) Value.none] 2) #[]
noncomputable def ob37 (P : Params) : Obj := Obj.mk (Value.type "type") none (Data.cls (ClassData.mk (Str.ofString "NoHand") [Value.ref 24] [Value.ref 37, Value.ref 24, Value.type "ValueError", Value.type "Exception", Value.type "BaseException", Value.type "object"] 36 (Str.ofString "NoHand") true [] [] false none false)) #[some (Value.ref 28), none, some (Value.str (Str.ofString "NoHand") 207), some (Value.str (Str.ofString "NoHand") 215), some (Value.builtin "ValueError.__new__"), some (Value.bool true)]
noncomputable def ob48 (P : Params) : Obj := Obj.mk (Value.type "dict") none (Data.dict #[DictEntry.mk (PyData.keyHash P (Str.ofString "__module__")) (Value.str (Str.ofString "__module__") 230) (Value.str (Str.ofString "markpause.errors") 187), DictEntry.mk (PyData.keyHash P (Str.ofString "__firstlineno__")) (Value.str (Str.ofString "__firstlineno__") 234) (Value.int 6 233), DictEntry.mk (PyData.keyHash P (Str.ofString "__static_attributes__")) (Value.str (Str.ofString "__static_attributes__") 235) (Value.ref 47), DictEntry.mk (PyData.keyHash P (Str.ofString "__doc__")) (Value.str (Str.ofString "__doc__") 236) Value.none] 2) #[]
noncomputable def ob49 (P : Params) : Obj := Obj.mk (Value.type "type") none (Data.cls (ClassData.mk (Str.ofString "NoSlot") [Value.ref 24] [Value.ref 49, Value.ref 24, Value.type "ValueError", Value.type "Exception", Value.type "BaseException", Value.type "object"] 48 (Str.ofString "NoSlot") true [] [] false none false)) #[some (Value.ref 40), none, some (Value.str (Str.ofString "NoSlot") 223), some (Value.str (Str.ofString "NoSlot") 231), some (Value.builtin "ValueError.__new__"), some (Value.bool true)]
noncomputable def ob60 (P : Params) : Obj := Obj.mk (Value.type "dict") none (Data.dict #[DictEntry.mk (PyData.keyHash P (Str.ofString "__module__")) (Value.str (Str.ofString "__module__") 246) (Value.str (Str.ofString "markpause.errors") 187), DictEntry.mk (PyData.keyHash P (Str.ofString "__firstlineno__")) (Value.str (Str.ofString "__firstlineno__") 250) (Value.int 8 249), DictEntry.mk (PyData.keyHash P (Str.ofString "__static_attributes__")) (Value.str (Str.ofString "__static_attributes__") 251) (Value.ref 59), DictEntry.mk (PyData.keyHash P (Str.ofString "__doc__")) (Value.str (Str.ofString "__doc__") 252) Value.none] 2) #[]
noncomputable def ob61 (P : Params) : Obj := Obj.mk (Value.type "type") none (Data.cls (ClassData.mk (Str.ofString "NoRoom") [Value.ref 24] [Value.ref 61, Value.ref 24, Value.type "ValueError", Value.type "Exception", Value.type "BaseException", Value.type "object"] 60 (Str.ofString "NoRoom") true [] [] false none false)) #[some (Value.ref 52), none, some (Value.str (Str.ofString "NoRoom") 239), some (Value.str (Str.ofString "NoRoom") 247), some (Value.builtin "ValueError.__new__"), some (Value.bool true)]
noncomputable def ob72 (P : Params) : Obj := Obj.mk (Value.type "dict") none (Data.dict #[DictEntry.mk (PyData.keyHash P (Str.ofString "__module__")) (Value.str (Str.ofString "__module__") 262) (Value.str (Str.ofString "markpause.errors") 187), DictEntry.mk (PyData.keyHash P (Str.ofString "__firstlineno__")) (Value.str (Str.ofString "__firstlineno__") 266) (Value.int 10 265), DictEntry.mk (PyData.keyHash P (Str.ofString "__static_attributes__")) (Value.str (Str.ofString "__static_attributes__") 267) (Value.ref 71), DictEntry.mk (PyData.keyHash P (Str.ofString "__doc__")) (Value.str (Str.ofString "__doc__") 268) Value.none] 2) #[]
noncomputable def ob73 (P : Params) : Obj := Obj.mk (Value.type "type") none (Data.cls (ClassData.mk (Str.ofString "NothingHeld") [Value.ref 24] [Value.ref 73, Value.ref 24, Value.type "ValueError", Value.type "Exception", Value.type "BaseException", Value.type "object"] 72 (Str.ofString "NothingHeld") true [] [] false none false)) #[some (Value.ref 64), none, some (Value.str (Str.ofString "NothingHeld") 255), some (Value.str (Str.ofString "NothingHeld") 263), some (Value.builtin "ValueError.__new__"), some (Value.bool true)]
noncomputable def ob84 (P : Params) : Obj := Obj.mk (Value.type "dict") none (Data.dict #[DictEntry.mk (PyData.keyHash P (Str.ofString "__module__")) (Value.str (Str.ofString "__module__") 278) (Value.str (Str.ofString "markpause.errors") 187), DictEntry.mk (PyData.keyHash P (Str.ofString "__firstlineno__")) (Value.str (Str.ofString "__firstlineno__") 282) (Value.int 12 281), DictEntry.mk (PyData.keyHash P (Str.ofString "__static_attributes__")) (Value.str (Str.ofString "__static_attributes__") 283) (Value.ref 83), DictEntry.mk (PyData.keyHash P (Str.ofString "__doc__")) (Value.str (Str.ofString "__doc__") 284) Value.none] 2) #[]
noncomputable def ob85 (P : Params) : Obj := Obj.mk (Value.type "type") none (Data.cls (ClassData.mk (Str.ofString "NoBox") [Value.ref 24] [Value.ref 85, Value.ref 24, Value.type "ValueError", Value.type "Exception", Value.type "BaseException", Value.type "object"] 84 (Str.ofString "NoBox") true [] [] false none false)) #[some (Value.ref 76), none, some (Value.str (Str.ofString "NoBox") 271), some (Value.str (Str.ofString "NoBox") 279), some (Value.builtin "ValueError.__new__"), some (Value.bool true)]
noncomputable def ob96 (P : Params) : Obj := Obj.mk (Value.type "dict") none (Data.dict #[DictEntry.mk (PyData.keyHash P (Str.ofString "__module__")) (Value.str (Str.ofString "__module__") 294) (Value.str (Str.ofString "markpause.errors") 187), DictEntry.mk (PyData.keyHash P (Str.ofString "__firstlineno__")) (Value.str (Str.ofString "__firstlineno__") 298) (Value.int 14 297), DictEntry.mk (PyData.keyHash P (Str.ofString "__static_attributes__")) (Value.str (Str.ofString "__static_attributes__") 299) (Value.ref 95), DictEntry.mk (PyData.keyHash P (Str.ofString "__doc__")) (Value.str (Str.ofString "__doc__") 300) Value.none] 2) #[]
noncomputable def ob97 (P : Params) : Obj := Obj.mk (Value.type "type") none (Data.cls (ClassData.mk (Str.ofString "NoWork") [Value.ref 24] [Value.ref 97, Value.ref 24, Value.type "ValueError", Value.type "Exception", Value.type "BaseException", Value.type "object"] 96 (Str.ofString "NoWork") true [] [] false none false)) #[some (Value.ref 88), none, some (Value.str (Str.ofString "NoWork") 287), some (Value.str (Str.ofString "NoWork") 295), some (Value.builtin "ValueError.__new__"), some (Value.bool true)]
noncomputable def ob108 (P : Params) : Obj := Obj.mk (Value.type "dict") none (Data.dict #[DictEntry.mk (PyData.keyHash P (Str.ofString "__module__")) (Value.str (Str.ofString "__module__") 310) (Value.str (Str.ofString "markpause.errors") 187), DictEntry.mk (PyData.keyHash P (Str.ofString "__firstlineno__")) (Value.str (Str.ofString "__firstlineno__") 314) (Value.int 16 313), DictEntry.mk (PyData.keyHash P (Str.ofString "__static_attributes__")) (Value.str (Str.ofString "__static_attributes__") 315) (Value.ref 107), DictEntry.mk (PyData.keyHash P (Str.ofString "__doc__")) (Value.str (Str.ofString "__doc__") 316) Value.none] 2) #[]
noncomputable def ob109 (P : Params) : Obj := Obj.mk (Value.type "type") none (Data.cls (ClassData.mk (Str.ofString "NoHeap") [Value.ref 24] [Value.ref 109, Value.ref 24, Value.type "ValueError", Value.type "Exception", Value.type "BaseException", Value.type "object"] 108 (Str.ofString "NoHeap") true [] [] false none false)) #[some (Value.ref 100), none, some (Value.str (Str.ofString "NoHeap") 303), some (Value.str (Str.ofString "NoHeap") 311), some (Value.builtin "ValueError.__new__"), some (Value.bool true)]
noncomputable def ob120 (P : Params) : Obj := Obj.mk (Value.type "dict") none (Data.dict #[DictEntry.mk (PyData.keyHash P (Str.ofString "__module__")) (Value.str (Str.ofString "__module__") 326) (Value.str (Str.ofString "markpause.errors") 187), DictEntry.mk (PyData.keyHash P (Str.ofString "__firstlineno__")) (Value.str (Str.ofString "__firstlineno__") 330) (Value.int 18 329), DictEntry.mk (PyData.keyHash P (Str.ofString "__static_attributes__")) (Value.str (Str.ofString "__static_attributes__") 331) (Value.ref 119), DictEntry.mk (PyData.keyHash P (Str.ofString "__doc__")) (Value.str (Str.ofString "__doc__") 332) Value.none] 2) #[]
noncomputable def ob121 (P : Params) : Obj := Obj.mk (Value.type "type") none (Data.cls (ClassData.mk (Str.ofString "NoDeed") [Value.ref 24] [Value.ref 121, Value.ref 24, Value.type "ValueError", Value.type "Exception", Value.type "BaseException", Value.type "object"] 120 (Str.ofString "NoDeed") true [] [] false none false)) #[some (Value.ref 112), none, some (Value.str (Str.ofString "NoDeed") 319), some (Value.str (Str.ofString "NoDeed") 327), some (Value.builtin "ValueError.__new__"), some (Value.bool true)]
noncomputable def ob124 (P : Params) : Obj := Obj.mk (Value.type "dict") none (Data.dict #[DictEntry.mk (PyData.keyHash P (Str.ofString "make")) (Value.str (Str.ofString "make") 337) (Value.int 2 338), DictEntry.mk (PyData.keyHash P (Str.ofString "take")) (Value.str (Str.ofString "take") 339) (Value.int 3 340), DictEntry.mk (PyData.keyHash P (Str.ofString "put")) (Value.str (Str.ofString "put") 341) (Value.int 3 342), DictEntry.mk (PyData.keyHash P (Str.ofString "share")) (Value.str (Str.ofString "share") 343) (Value.int 2 344), DictEntry.mk (PyData.keyHash P (Str.ofString "drop")) (Value.str (Str.ofString "drop") 345) (Value.int 1 346), DictEntry.mk (PyData.keyHash P (Str.ofString "work")) (Value.str (Str.ofString "work") 347) (Value.int 1 348)] 6) #[]
noncomputable def ob130 (P : Params) : Obj := Obj.mk (Value.type "code") none (Data.fields #[Value.str (Str.ofString "number_of") 360, Value.str (Str.ofString "number_of") 361, Value.str (Str.ofString "/claim/cut.py") 362, Value.int 24 0, Value.int 1 0, Value.int 0 0, Value.int 0 0, Value.int 3 0, Value.ref 125, Value.bool true, Value.int 181 0, Value.ref 126, Value.none, Value.ref 127, Value.ref 128, Value.ref 129, Value.int 365 0, Value.int 24 0, Value.str (Str.ofString "/claim/cut.py") 366]) #[]
noncomputable def ob131 (P : Params) : Obj := Obj.mk (Value.type "function") none (Data.func (FuncData.mk (Str.ofString "number_of") (Str.ofString "number_of") (inMod 14).1 (.stmts (inMod 14).2.1) (inMod 14).2.2 3 [] Value.none Value.none Value.none (Value.str (Str.ofString "markpause.notes") 335) none (Value.ref 130) Value.none 0)) #[]
noncomputable def ob135 (P : Params) : Obj := Obj.mk (Value.type "code") none (Data.fields #[Value.str (Str.ofString "read") 368, Value.str (Str.ofString "read") 369, Value.str (Str.ofString "/claim/cut.py") 370, Value.int 31 0, Value.int 1 0, Value.int 0 0, Value.int 0 0, Value.int 3 0, Value.ref 132, Value.bool true, Value.int 181 0, Value.ref 133, Value.none, Value.none, Value.none, Value.ref 134, Value.int 371 0, Value.int 31 0, Value.str (Str.ofString "/claim/cut.py") 372]) #[]
noncomputable def ob136 (P : Params) : Obj := Obj.mk (Value.type "function") none (Data.func (FuncData.mk (Str.ofString "read") (Str.ofString "read") (inMod 15).1 (.stmts (inMod 15).2.1) (inMod 15).2.2 3 [] Value.none Value.none Value.none (Value.str (Str.ofString "markpause.notes") 335) none (Value.ref 135) Value.none 0)) #[]
noncomputable def ob142 (P : Params) : Obj := Obj.mk (Value.type "code") none (Data.fields #[Value.str (Str.ofString "_law_cell_at") 376, Value.str (Str.ofString "_law_cell_at") 377, Value.str (Str.ofString "/claim/cut.py") 378, Value.int 37 0, Value.int 2 0, Value.int 0 0, Value.int 0 0, Value.int 3 0, Value.ref 137, Value.bool true, Value.int 181 0, Value.ref 138, Value.none, Value.ref 139, Value.ref 140, Value.ref 141, Value.int 381 0, Value.int 37 0, Value.str (Str.ofString "/claim/cut.py") 382]) #[]
noncomputable def ob143 (P : Params) : Obj := Obj.mk (Value.type "function") none (Data.func (FuncData.mk (Str.ofString "_law_cell_at") (Str.ofString "_law_cell_at") (inMod 17).1 (.stmts (inMod 17).2.1) (inMod 17).2.2 3 [] Value.none Value.none Value.none (Value.str (Str.ofString "law_uf050002_03") 374) none (Value.ref 142) Value.none 0)) #[]
noncomputable def ob149 (P : Params) : Obj := Obj.mk (Value.type "code") none (Data.fields #[Value.str (Str.ofString "_law_whole") 384, Value.str (Str.ofString "_law_whole") 385, Value.str (Str.ofString "/claim/cut.py") 386, Value.int 41 0, Value.int 1 0, Value.int 0 0, Value.int 0 0, Value.int 3 0, Value.ref 144, Value.bool true, Value.int 181 0, Value.ref 145, Value.none, Value.ref 146, Value.ref 147, Value.ref 148, Value.int 388 0, Value.int 41 0, Value.str (Str.ofString "/claim/cut.py") 389]) #[]
noncomputable def ob150 (P : Params) : Obj := Obj.mk (Value.type "function") none (Data.func (FuncData.mk (Str.ofString "_law_whole") (Str.ofString "_law_whole") (inMod 18).1 (.stmts (inMod 18).2.1) (inMod 18).2.2 3 [] Value.none Value.none Value.none (Value.str (Str.ofString "law_uf050002_03") 374) none (Value.ref 149) Value.none 0)) #[]
noncomputable def ob156 (P : Params) : Obj := Obj.mk (Value.type "code") none (Data.fields #[Value.str (Str.ofString "_law_numbers") 391, Value.str (Str.ofString "_law_numbers") 392, Value.str (Str.ofString "/claim/cut.py") 393, Value.int 43 0, Value.int 2 0, Value.int 0 0, Value.int 0 0, Value.int 3 0, Value.ref 151, Value.bool true, Value.int 181 0, Value.ref 152, Value.none, Value.ref 153, Value.ref 154, Value.ref 155, Value.int 397 0, Value.int 43 0, Value.str (Str.ofString "/claim/cut.py") 398]) #[]
noncomputable def ob157 (P : Params) : Obj := Obj.mk (Value.type "function") none (Data.func (FuncData.mk (Str.ofString "_law_numbers") (Str.ofString "_law_numbers") (inMod 19).1 (.stmts (inMod 19).2.1) (inMod 19).2.2 3 [] Value.none Value.none Value.none (Value.str (Str.ofString "law_uf050002_03") 374) none (Value.ref 156) Value.none 0)) #[]
noncomputable def ob163 (P : Params) : Obj := Obj.mk (Value.type "code") none (Data.fields #[Value.str (Str.ofString "_law_sign_by") 400, Value.str (Str.ofString "_law_sign_by") 401, Value.str (Str.ofString "/claim/cut.py") 402, Value.int 52 0, Value.int 1 0, Value.int 0 0, Value.int 0 0, Value.int 3 0, Value.ref 158, Value.bool true, Value.int 181 0, Value.ref 159, Value.none, Value.ref 160, Value.ref 161, Value.ref 162, Value.int 405 0, Value.int 52 0, Value.str (Str.ofString "/claim/cut.py") 406]) #[]
noncomputable def ob164 (P : Params) : Obj := Obj.mk (Value.type "function") none (Data.func (FuncData.mk (Str.ofString "_law_sign_by") (Str.ofString "_law_sign_by") (inMod 20).1 (.stmts (inMod 20).2.1) (inMod 20).2.2 3 [] Value.none Value.none Value.none (Value.str (Str.ofString "law_uf050002_03") 374) none (Value.ref 163) Value.none 0)) #[]
noncomputable def ob170 (P : Params) : Obj := Obj.mk (Value.type "code") none (Data.fields #[Value.str (Str.ofString "_law_odd") 408, Value.str (Str.ofString "_law_odd") 409, Value.str (Str.ofString "/claim/cut.py") 410, Value.int 56 0, Value.int 1 0, Value.int 0 0, Value.int 0 0, Value.int 3 0, Value.ref 165, Value.bool true, Value.int 181 0, Value.ref 166, Value.none, Value.ref 167, Value.ref 168, Value.ref 169, Value.int 413 0, Value.int 56 0, Value.str (Str.ofString "/claim/cut.py") 414]) #[]
noncomputable def ob171 (P : Params) : Obj := Obj.mk (Value.type "function") none (Data.func (FuncData.mk (Str.ofString "_law_odd") (Str.ofString "_law_odd") (inMod 21).1 (.stmts (inMod 21).2.1) (inMod 21).2.2 3 [] Value.none Value.none Value.none (Value.str (Str.ofString "law_uf050002_03") 374) none (Value.ref 170) Value.none 0)) #[]
noncomputable def ob177 (P : Params) : Obj := Obj.mk (Value.type "code") none (Data.fields #[Value.str (Str.ofString "_law_line") 416, Value.str (Str.ofString "_law_line") 417, Value.str (Str.ofString "/claim/cut.py") 418, Value.int 61 0, Value.int 1 0, Value.int 0 0, Value.int 0 0, Value.int 3 0, Value.ref 172, Value.bool true, Value.int 181 0, Value.ref 173, Value.none, Value.ref 174, Value.ref 175, Value.ref 176, Value.int 425 0, Value.int 61 0, Value.str (Str.ofString "/claim/cut.py") 426]) #[]
noncomputable def ob178 (P : Params) : Obj := Obj.mk (Value.type "function") none (Data.func (FuncData.mk (Str.ofString "_law_line") (Str.ofString "_law_line") (inMod 22).1 (.stmts (inMod 22).2.1) (inMod 22).2.2 3 [] Value.none Value.none Value.none (Value.str (Str.ofString "law_uf050002_03") 374) none (Value.ref 177) Value.none 0)) #[]
noncomputable def ob184 (P : Params) : Obj := Obj.mk (Value.type "code") none (Data.fields #[Value.str (Str.ofString "_law_built") 428, Value.str (Str.ofString "_law_built") 429, Value.str (Str.ofString "/claim/cut.py") 430, Value.int 69 0, Value.int 1 0, Value.int 0 0, Value.int 0 0, Value.int 3 0, Value.ref 179, Value.bool true, Value.int 181 0, Value.ref 180, Value.none, Value.ref 181, Value.ref 182, Value.ref 183, Value.int 436 0, Value.int 69 0, Value.str (Str.ofString "/claim/cut.py") 437]) #[]
noncomputable def ob185 (P : Params) : Obj := Obj.mk (Value.type "function") none (Data.func (FuncData.mk (Str.ofString "_law_built") (Str.ofString "_law_built") (inMod 23).1 (.stmts (inMod 23).2.1) (inMod 23).2.2 3 [] Value.none Value.none Value.none (Value.str (Str.ofString "law_uf050002_03") 374) none (Value.ref 184) Value.none 0)) #[]
noncomputable def ob191 (P : Params) : Obj := Obj.mk (Value.type "code") none (Data.fields #[Value.str (Str.ofString "_law_number") 439, Value.str (Str.ofString "_law_number") 440, Value.str (Str.ofString "/claim/cut.py") 441, Value.int 86 0, Value.int 1 0, Value.int 0 0, Value.int 0 0, Value.int 3 0, Value.ref 186, Value.bool true, Value.int 181 0, Value.ref 187, Value.none, Value.ref 188, Value.ref 189, Value.ref 190, Value.int 446 0, Value.int 86 0, Value.str (Str.ofString "/claim/cut.py") 447]) #[]
noncomputable def ob192 (P : Params) : Obj := Obj.mk (Value.type "function") none (Data.func (FuncData.mk (Str.ofString "_law_number") (Str.ofString "_law_number") (inMod 24).1 (.stmts (inMod 24).2.1) (inMod 24).2.2 3 [] Value.none Value.none Value.none (Value.str (Str.ofString "law_uf050002_03") 374) none (Value.ref 191) Value.none 0)) #[]
noncomputable def ob196 (P : Params) : Obj := Obj.mk (Value.type "code") none (Data.fields #[Value.str (Str.ofString "_law_due") 449, Value.str (Str.ofString "_law_due") 450, Value.str (Str.ofString "/claim/cut.py") 451, Value.int 96 0, Value.int 1 0, Value.int 0 0, Value.int 0 0, Value.int 3 0, Value.ref 193, Value.bool true, Value.int 181 0, Value.ref 194, Value.none, Value.none, Value.none, Value.ref 195, Value.int 452 0, Value.int 96 0, Value.str (Str.ofString "/claim/cut.py") 453]) #[]
noncomputable def ob197 (P : Params) : Obj := Obj.mk (Value.type "function") none (Data.func (FuncData.mk (Str.ofString "_law_due") (Str.ofString "_law_due") (inMod 25).1 (.stmts (inMod 25).2.1) (inMod 25).2.2 3 [] Value.none Value.none Value.none (Value.str (Str.ofString "law_uf050002_03") 374) none (Value.ref 196) Value.none 0)) #[]
noncomputable def ob203 (P : Params) : Obj := Obj.mk (Value.type "code") none (Data.fields #[Value.str (Str.ofString "law") 455, Value.str (Str.ofString "law") 456, Value.str (Str.ofString "/claim/cut.py") 457, Value.int 111 0, Value.int 1 0, Value.int 0 0, Value.int 0 0, Value.int 3 0, Value.ref 198, Value.bool true, Value.int 181 0, Value.ref 199, Value.none, Value.ref 200, Value.ref 201, Value.ref 202, Value.int 464 0, Value.int 111 0, Value.str (Str.ofString "/claim/cut.py") 465]) #[]
noncomputable def ob204 (P : Params) : Obj := Obj.mk (Value.type "function") none (Data.func (FuncData.mk (Str.ofString "law") (Str.ofString "law") (inMod 26).1 (.stmts (inMod 26).2.1) (inMod 26).2.2 3 [] Value.none Value.none Value.none (Value.str (Str.ofString "law_uf050002_03") 374) none (Value.ref 203) Value.none 0)) #[]
noncomputable def frag (P : Params) : Frag := [(3, ob3 P), (23, ob23 P), (24, ob24 P), (25, ob25 P), (36, ob36 P), (37, ob37 P), (48, ob48 P), (49, ob49 P), (60, ob60 P), (61, ob61 P), (72, ob72 P), (73, ob73 P), (84, ob84 P), (85, ob85 P), (96, ob96 P), (97, ob97 P), (108, ob108 P), (109, ob109 P), (120, ob120 P), (121, ob121 P), (124, ob124 P), (130, ob130 P), (131, ob131 P), (135, ob135 P), (136, ob136 P), (142, ob142 P), (143, ob143 P), (149, ob149 P), (150, ob150 P), (156, ob156 P), (157, ob157 P), (163, ob163 P), (164, ob164 P), (170, ob170 P), (171, ob171 P), (177, ob177 P), (178, ob178 P), (184, ob184 P), (185, ob185 P), (191, ob191 P), (192, ob192 P), (196, ob196 P), (197, ob197 P), (203, ob203 P), (204, ob204 P)]
noncomputable def fragAt : List Addr := [3, 23, 24, 25, 36, 37, 48, 49, 60, 61, 72, 73, 84, 85, 96, 97, 108, 109, 120, 121, 124, 130, 131, 135, 136, 142, 143, 149, 150, 156, 157, 163, 164, 170, 171, 177, 178, 184, 185, 191, 192, 196, 197, 203, 204]
noncomputable def fragAll (P : Params) : Frag := (6, ob6 P) :: frag P
noncomputable def fragAllAt : List Addr := 6 :: fragAt
end Mine
namespace Mine
open PySem PySem.W PyProof.Rows
noncomputable def hookL : Hook := kHook fragAll fragAllAt (fun _ => by kernel_rfl)
noncomputable def notName : Stmt → Bool
  | .Assign [.Name x _] _ _ => x != "__name__"
  | _ => true
noncomputable def viewL : Program := { (PySem.Challenge.rw_uf050002_03.row).toRowW.prog with main := { (PySem.Challenge.rw_uf050002_03.row).toRowW.prog.main with body := (PySem.Challenge.rw_uf050002_03.row).toRowW.prog.main.body.filter notName } }
set_option maxRecDepth 100000 in
set_option maxHeartbeats 0 in
theorem leftL : LeftO (PySem.Challenge.rw_uf050002_03.row).prog viewL [Str.ofString "COUNTS"] (fun s => xlAt viewL [] s && recOk (RowW.records (PySem.Challenge.rw_uf050002_03.row).toRowW) s) (Hook.obs hookL) (Hook.val hookL) 4926 := by
  refine LeftO.of_split "special-get-raises" ?_
  intro w
  kernel_rfl
set_option maxRecDepth 100000 in
set_option maxHeartbeats 0 in
theorem headL (hw : (PySem.Challenge.rw_uf050002_03.row).toRowW.promised) (hc : ∀ d kwd, d.name = Str.ofString "law" → WalkO viewL [Str.ofString "COUNTS"] (XL viewL []) (Hook.says hookL) (PySem.Challenge.rw_uf050002_03.row).toRowW d kwd fun f vs => PySem.call f vs) : PySem.Challenge.rw_uf050002_03.Holds := by
  refine holds_law (by kernel_rfl) fun said => ?_
  exact holds_open (q := viewL) (loose := [Str.ofString "COUNTS"]) (Xt := fun s => xlAt viewL [] s && recOk (RowW.records (PySem.Challenge.rw_uf050002_03.row).toRowW) s) (XP := XL viewL []) (Yf := Hook.obs hookL) (Ya := Hook.val hookL) (YP := Hook.says hookL) (N := 4926) leftL (Hook.of hookL) (Hook.keeps hookL) (fun s e => xl_of s (Bool.and_eq_true_iff.mp e).1) XL.keeps (by rfl) (by rfl) (by rfl) (fun s e => recFacts_of (Bool.and_eq_true_iff.mp e).2) (by rfl) (by first | assumption | decide +kernel) (by decide +kernel) ⟨rfl, rfl, rfl, rfl, rfl, by decide +kernel⟩ hw (hc _ _ rfl)
end Mine
namespace Mine
open PySem

section
variable {prog : Program} {w : World} {A : Around} {E : Value → Shared → Prop} {s : Shared}

/-- a store into a plain list leaves a plain list -/
theorem setAt {l : Addr} {its : Array Value} {n : Nat} {k : Int} {t : Tok} {v : Value} {Q : Unit → Shared → Prop} (ho : s.heap.get? l = some { cls := .type "list", data := .seq its n }) (h0 : 0 ≤ k) (hf : k < 2 ^ 63) (hn : k < its.size)
    (hQ : Q () { s with heap := s.heap.update l (Obj.mapSeq (·.setIfInBounds k.toNat v)) }) : wpAny (model prog w) A (PySem.setItem (.ref l) (.int k t) v) Q E s := by
  have hl : s.heap.IsList l its := ⟨_, ho, rfl, n, rfl⟩
  have hi := fitsIndex_of h0 hf
  unfold PySem.setItem
  refine wpAny_holding ?_
  refine wpAny_bind (wpAny_sequenceKey hl.typeIs (by decide) ?_)
  refine wpAny_bind (wpAny_callSpecial?_slot (name := Str.ofString "__setitem__") hl.typeIs slot_list_setitem
    (wpAny_call_entry slot_list_setitem hl.typeIs entry_list_setitem ?_ (args_list_setitem _ _ _)))
  show wpAny _ _ (Builtin.List.listSubscript? (.int k t) >>= _) _ _ s
  refine wpAny_bind (wpAny_listSubscript_int hi ?_)
  clear hi hf
  obtain ⟨j, rfl⟩ := Int.eq_ofNat_of_zero_le h0
  have hx : its[j]? = some its[j] := Array.getElem?_eq_getElem (by omega)
  show wpAny _ _ ((seqItemAt l j >>= fun r => pure (r.map (j, ·))) >>= _) _ _ s
  refine wpAny_bind (wpAny_bind (wpAny_seqItemAt ho rfl (wpAny_pure ?_)))
  rw [hx]
  show wpAny _ _ (setSeqItemAt l j v >>= _) _ _ s
  refine wpAny_bind (wpAny_setSeqItemAt ho rfl ?_)
  exact wpAny_pure ⟨.none, rfl, wpAny_pure hQ⟩

/-- d.keys() -/
theorem keysMade {K : Type} [DecidableEq K] (knd : KeyKind prog w K) {d : Addr} (hd : (d == sysModules) = false) :
    MeetsIn prog w (Builtin.«dict.keys» ⟨[.ref d], []⟩) (fun _ R s => (∃ kvs, s.heap.DictOf knd d kvs) ∧
      R (.ok (.ret (.ref s.heap.objs.size))) { s with heap := s.heap.push { cls := .type "dict_keys", data := .fields #[.ref d] } }) := by
  intro A R s ⟨⟨kvs, hm⟩, h⟩
  have e1 : Builtin.Dict.showsAll d = pure () := by unfold Builtin.Dict.showsAll; rw [hd]; rfl
  refine wpAny_bind (wpAny_bind (wpAny_notOrdered_dict hm.typeIs ?_))
  show wpAny _ _ (pure d) _ _ s
  refine wpAny_pure ?_
  show wpAny _ _ (Builtin.Dict.showsAll d >>= _) _ _ s
  rw [e1]
  exact wpAny_bind (wpAny_pure (wpAny_bind (wpAny_newObj_type (wpAny_pure h))))

theorem keysSlot : Slot "dict_keys" "__iter__" "dict_keys.__iter__" :=
  Slot.of (owner := "dict_keys") (n := "__iter__") (by rw [typeLookup_type, builtinLookup_eq_fast]; kernel_rfl) (by decide +kernel) (by decide +kernel) (by decide +kernel) (.inl (by decide +kernel)) (by rw [isSubtype_type]; kernel_rfl)
theorem keysEntry : entryFor table "dict_keys.__iter__" = some Builtin.«dict_keys.__iter__» := entryFor_of_tree (by kernel_rfl)
theorem keysArgs (a : Value) : argsOk "dict_keys.__iter__" ⟨[a], []⟩ := by unfold argsOk; kernel_rfl
theorem keysLen : typeLookup (.type "dict_keys") "__len__" = pure (some (.builtin "dict_keys.__len__")) := by rw [typeLookup_type, builtinLookup_eq_fast]; kernel_rfl

variable {v d : Addr} {ov : Obj} {kvs : List (Int × Value)} {ep : Nat}

theorem keysIter (hv : s.heap.get? v = some ov) (hc : ov.cls = .type "dict_keys") (hd : ov.data = .fields #[.ref d]) (hm : s.heap.DictAt (intKind prog w) d kvs ep) {Q : Value → Shared → Prop}
    (hQ : Q (.ref s.heap.objs.size) { s with heap := s.heap.push { cls := .type "dict_keyiterator", data := .fields #[.ref d, .int 0 0, .int kvs.length 0, .int ep 0] } }) : wpAny (model prog w) A (pyIter (.ref v)) Q E s := by
  have hT : s.TypeIs (.ref v) "dict_keys" := ⟨ov, hv, hc⟩
  obtain ⟨o, es, ho, _, hdat, _, hp, _⟩ := id hm
  have hsz : es.size = kvs.length := by rw [← hp.length]; simp
  have hown : Builtin.Dict_items.ownsTuple "dict_keyiterator" = false := by decide
  refine wpAny_pyIter_slot hT keysSlot (wpAny_call_entry keysSlot hT keysEntry ?_ (keysArgs _))
  unfold Builtin.«dict_keys.__iter__» Builtin.Dict_items.dictOf Builtin.Dict_items.newIterator
  refine wpAny_bind (wpAny_pure (wpAny_bind (wpAny_bind (wpAny_field hv hd (x := .ref d) rfl (wpAny_pure ?_)))))
  refine wpAny_bind (wpAny_bind (wpAny_dictEntries ho hdat (wpAny_bind (wpAny_dictEpoch ho hdat ?_))))
  simp only [hown, Bool.false_eq_true, if_false]
  refine wpAny_newObj_type (wpAny_pure ⟨_, rfl, "dict_keyiterator", _, ⟨_, Heap.get?_push_size _ rfl, rfl⟩, PySem.F.slot_dict_keyiterator_next.lookup, ?_⟩)
  simpa [rawInt, hsz] using hQ

theorem keysHint (hT : s.TypeIs (.ref v) "dict_keys") {Q : Bool → Shared → Prop} (h : Q false s) : wpAny (model prog w) A (Builtin.List.listLengthHint (.ref v)) Q E s := by
  have e1 : splitId "dict_keys.__len__" = some ("dict_keys", "__len__") := by decide +kernel
  unfold Builtin.List.listLengthHint
  refine wpAny_bind (wpAny_specialOf hT keysLen ?_)
  generalize hid : ("dict_keys.__len__" : String) = i0 at e1 ⊢
  wp_delta
  rw [e1]
  subst hid
  refine wpAny_bind (wpAny_isInstance (T := "dict_keys") (b := true) hT (by rw [isSubtype_type]; kernel_rfl) ?_)
  refine wpAny_ite_split (fun q => absurd q (by decide)) fun _ => wpAny_ite_split (fun _ => ?_) fun q => absurd (by decide +kernel) q
  exact wpAny_bind (wpAny_typeOf hT (wpAny_pure h))

/-- the keys, collected -/
theorem keysCollect (hh : A.handled = none) (hv : s.heap.get? v = some ov) (hc : ov.cls = .type "dict_keys") (hd : ov.data = .fields #[.ref d]) (hm : s.heap.DictAt (intKind prog w) d kvs ep) (hn : kvs.length ≤ sizeLine) {R : List Value → Shared → Prop}
    (h : ∀ (h' : Heap) (tk : Nat) (acc : Array Value), (∀ b o, s.heap.get? b = some o → h'.get? b = some o) → ItemsOf (fun i x => ∃ k y, kvs[i]? = some (k, y) ∧ (intKind prog w).is k x = true) acc kvs.length → R acc.toList { s with heap := h', toks := tk }) :
    wpAny (model prog w) A (collect (.ref v)) R E s := by
  have hvlt := Heap.lt_size hv
  have hdlt : d < s.heap.objs.size := hm.lt_size
  let S := s.heap.objs.size
  let R0 : Result → Shared → Prop := fun r s' => ∃ (h' : Heap) (tk : Nat) (acc : Array Value) (c : Nat), r = .ok (.ret (.ref S)) ∧ s' = { s with heap := h', toks := tk } ∧ (∀ b o, s.heap.get? b = some o → h'.get? b = some o) ∧
    h'.get? S = some { cls := .type "list", dict := none, data := .seq acc c, slots := #[] } ∧ ItemsOf (fun i x => ∃ k y, kvs[i]? = some (k, y) ∧ (intKind prog w).is k x = true) acc kvs.length
  have run : codeAny (model prog w) A (.builtin "proto.collect" ⟨[.ref v], []⟩) R0 s := by
    refine codeAny_builtin PySem.F.entry_proto_collect ?_
    rw [Around.under_plainId PySem.F.plain_proto_collect _]
    show wpAny _ A.in1 (newList [] >>= fun l => again (.builtin "list.__iadd__" ⟨[l, .ref v], []⟩)) _ _ s
    refine wpAny_bind (wpAny_newObj_type (wpAny_pure ⟨plainId_quiet PySem.F.plain_list_iadd _, codeAny_builtin PySem.F.entry_list_iadd ?_⟩))
    rw [Around.under_plainId PySem.F.plain_list_iadd _]
    generalize hH : s.heap.push { cls := .type "list", dict := none, data := .seq ([] : List Value).toArray } = H1
    have hz1 : H1.objs.size = s.heap.objs.size + 1 := by rw [← hH, Heap.size_push]
    have up1 : ∀ b o, s.heap.get? b = some o → H1.get? b = some o := fun b o e => hH ▸ Heap.get?_push_of_some _ e
    have hS : H1.get? S = some { cls := .type "list", data := .seq #[] } := hH ▸ Heap.get?_push_size _ rfl
    have hv1 := up1 _ _ hv
    have hm1 : H1.DictAt (intKind prog w) d kvs ep := hm.at' fun o e => up1 _ o e
    show wpAny _ A.in1 (Builtin.List.listExtendWith (.ref S) (.ref v) (.ref S)) _ _ { s with heap := H1 }
    unfold Builtin.List.listExtendWith
    have hT1 : ({ s with heap := H1 } : Shared).TypeIs (.ref v) "dict_keys" := ⟨ov, hv1, hc⟩
    refine wpAny_bind (wpAny_typeOf hT1 ?_)
    have e1 : Builtin.List.listSameRef (.ref S) (.ref v) = false := by simp [Builtin.List.listSameRef]; exact Nat.ne_of_gt hvlt
    have e2 : (Value.type "dict_keys" == Value.type "list") = false := by decide
    have e3 : (Value.type "dict_keys" == Value.type "tuple") = false := by decide
    simp only [e1, e2, e3, Bool.or_false, Bool.false_eq_true, if_false]
    refine wpAny_bind (keysIter (s := { s with heap := H1 }) hv1 hc hd hm1 ?_)
    generalize hH2 : H1.push { cls := .type "dict_keyiterator", data := .fields #[.ref d, .int 0 0, .int kvs.length 0, .int ep 0] } = H2
    have up2 : ∀ b o, H1.get? b = some o → H2.get? b = some o := fun b o e => hH2 ▸ Heap.get?_push_of_some _ e
    have hI2 : H2.IsKeyIter H1.objs.size d 0 kvs.length ep := hH2 ▸ ⟨_, Heap.get?_push_size _ rfl, rfl, rfl⟩
    have hm2 : H2.DictAt (intKind prog w) d kvs ep := hm1.at' fun o e => up2 _ o e
    have hS2 := up2 _ _ hS
    have hdI : d ≠ H1.objs.size := by rw [hz1]; exact Nat.ne_of_lt (Nat.lt_succ_of_lt hdlt)
    have hSI : S ≠ H1.objs.size := by rw [hz1]; exact Nat.ne_of_lt (Nat.lt_succ_self _)
    have hSd : S ≠ d := Nat.ne_of_gt hdlt
    have hSf : S ∉ [H1.objs.size, d] := by simp only [List.mem_cons, List.not_mem_nil, or_false, not_or]; exact ⟨hSI, hSd⟩
    have W := Walks.dictKeys (A := A.in1) (knd := intKind prog w) hh H1.objs.size d hdI kvs ep
    have loop : ∀ (H : Heap) (c tk : Nat), (∀ b o, b ≠ S → H2.get? b = some o → H.get? b = some o) → H.get? S = some { cls := .type "list", data := .seq #[] c } →
        codeAny (model prog w) A (.builtin "list.extend.loop" ⟨[.ref S, .ref H1.objs.size, .ref S], []⟩) R0 { s with heap := H, toks := tk } := by
      intro H c tk hk hS'
      refine codeAny_extend_loopS W.toS hn S hSf (.ref S) kvs.length 0 _ #[] c rfl (Nat.zero_le _) ?_ hS' (ItemsOf.nil _) fun s' acc' c' hmv hS'' hacc => ?_
      · exact ⟨hI2.at fun o e => hk _ o (Ne.symm hSI) e, hm2.at' fun o e => hk _ o (Ne.symm hSd) e⟩
      · rw [Moved.eq_with hmv]
        refine ⟨s'.heap, s'.toks, acc', c', rfl, rfl, fun b o e => ?_, hS'', hacc⟩
        have hbS : b ≠ S := fun q => by subst q; exact absurd (Heap.lt_size e) (Nat.lt_irrefl _)
        refine hmv.heap b o (fun hmem => ?_) (hk b o hbS (up2 _ _ (up1 _ _ e)))
        rcases List.mem_cons.mp hmem with q | q
        · exact hbS q
        · rw [List.mem_singleton.mp q, hz1] at e
          exact absurd (Heap.lt_size e) (Nat.not_lt.mpr (Nat.le_succ _))
    refine wpAny_bind (wpAny_holding (keysHint (s := { s with heap := H2 }) ⟨ov, up2 _ _ hv1, hc⟩ ?_))
    refine wpAny_ite_split (fun _ => ?_) fun _ => wpAny_pure ⟨plainId_quiet PySem.F.plain_extend_loop _, loop H2 _ _ (fun _ _ _ e => e) hS2⟩
    refine wpAny_bind (wpAny_rule (wpAny_bind ?_))
    show wpAny _ _ (updateSeq S (·.push .none) >>= fun _ => updateSeq S (·.pop)) _ _ _
    refine wpAny_bind (wpAny_updateSeq hS2 rfl ?_)
    have hS3 := Heap.get?_update_self (Obj.mapSeq (·.push Value.none)) hS2 rfl
    refine wpAny_updateSeq (hz := by seq_fits) hS3 rfl ?_
    have hS4 := Heap.get?_update_self (Obj.mapSeq (·.pop)) hS3 rfl
    refine wpAny_pure ⟨plainId_quiet PySem.F.plain_extend_loop _, loop _ _ _ (fun b o hb e => ?_) hS4⟩
    exact (Heap.get?_update_other _ _ (Ne.symm hb)).trans ((Heap.get?_update_other _ _ (Ne.symm hb)).trans e)
  unfold collect
  refine wpAny_bind (wpAny_runValue (codeAny_mono run fun r s' x => ?_))
  obtain ⟨h', tk, acc, c, rfl, rfl, hk, hS', hacc⟩ := x
  show wpAny _ A (load S >>= _) _ _ _
  exact wpAny_bind (wpAny_load hS' (wpAny_pure (h h' tk acc hk hacc)))
end
end Mine
namespace Mine
open PySem

inductive AV where
  | none
  | bool (b : Bool)
  | int (i : Int)
  | str (x : Str)
  | obj (i : Nat)
  | top (v : Value)

inductive AO where
  | ro (xs : List AV)
  | list (xs : List AV)
  | tuple (xs : List AV)
  | dict (es : List (Int × AV))
  | inst (c : Addr) (d : Nat)
  | ns (fs : List (Str × AV))
  | range (a b : Int)
  | slice (l u : AV)
  | keys (d : Nat)
  | exc (c : Addr)
  | exr (c : Addr)

structure ASt where
  σ : List AO
  ρ : List (Option AV)

abbrev M (α : Type) := ASt → Option (Except Nat α × ASt)

inductive BI where
  | len | min | max | sorted | range | list | int | str | tuple | any
inductive TY where
  | int | bool | list | str | tuple
  | exc (c : Addr)
  | exd (c : Addr)
  | ve
inductive ME where
  | append | clear | pop | keys | extend | remove | index | split | join | find | get

inductive AE where
  | cst (v : AV)
  | loc (i : Nat)
  | bin (op : Operator) (l r : AE)
  | neg (x : AE)
  | slc (o l u : AE)
  | tget (l : List (Str × AV)) (x d : AE)
  | not (x : AE)
  | and (xs : List AE)
  | or (xs : List AE)
  | cmp (l : AE) (ops : List CmpOp) (rs : List AE)
  | call (f : Addr) (args : List AE)
  | make (c f : Addr) (args : List AE)
  | bi (b : BI) (args : List AE)
  | isi (x : AE) (t : TY)
  | meth (o : AE) (m : ME) (args : List AE)
  | own (o : AE) (c f : Addr) (name : Str) (args : List AE)
  | attr (o : AE) (c : Addr) (name : Str)
  | sub (o i : AE)
  | list (xs : List AE)
  | tuple (xs : List AE)
  | dict0
  | comp (k : Nat) (elt iter : AE) (ifs : List AE)

inductive AT where
  | loc (i : Nat)
  | attr (o : AE) (c : Addr) (name : Str)
  | sub (o i : AE)

inductive AS where
  | expr (e : AE)
  | assign (t : AT) (e : AE)
  | ret (e : AE)
  | ite (t : AE) (b o : List AS)
  | for (k : Nat) (iter : AE) (b : List AS)
  | raise (c : Addr) (text : Str)
  | try (b : List AS) (c : Addr) (h : List AS)
  | tryas (b : List AS) (c : Addr) (i : Nat) (h : List AS)
  | pass
  | dead
inductive AF where
  | next
  | ret (v : AV)

structure AFn where
  nparams : Nat
  nslots : Nat
  body : List AS

structure AProg where
  fn : Addr → Option AFn
  isa : Addr → Option Addr → Option Bool
  tab : Addr → Option (List (Str × AV))

noncomputable def line : Nat := 16000000

section
variable {α β : Type}
noncomputable def ret (a : α) : M α := fun st => some (.ok a, st)
noncomputable def fail : M α := fun _ => Option.none
noncomputable def raise (e : Nat) : M α := fun st => some (.error e, st)
noncomputable def bnd (m : M α) (f : α → M β) : M β := fun st => match m st with
  | Option.none => Option.none
  | some (.ok a, st') => f a st'
  | some (.error e, st') => some (.error e, st')
/-- m, where it does not raise -/
noncomputable def noerr (m : M α) : M α := fun st => match m st with
  | some (.ok a, st') => some (.ok a, st')
  | _ => Option.none
noncomputable def isExc (c : Addr) (o : Option AO) : Bool := match o with
  | some (.exc d) => decide (d = c)
  | _ => false
/-- an error e goes to h where its class is fit -/
noncomputable def onErrs (ok : Addr → Bool) (h : Nat → M α) (r : Option (Except Nat α × ASt)) : Option (Except Nat α × ASt) := match r with
  | some (.ok f, st) => some (.ok f, st)
  | some (.error e, st) => (match st.σ[e]? with
    | some (.exc d) => if ok d = true then h e st else Option.none
    | _ => Option.none)
  | Option.none => Option.none
/-- an error of the class c goes to h -/
noncomputable def onErr (c : Addr) (h : M α) (r : Option (Except Nat α × ASt)) : Option (Except Nat α × ASt) := match r with
  | some (.ok f, st) => some (.ok f, st)
  | some (.error e, st) => if isExc c st.σ[e]? = true then h st else Option.none
  | Option.none => Option.none
noncomputable def getLoc (i : Nat) : M AV := fun st => match st.ρ[i]? with
  | some (some v) => some (.ok v, st)
  | _ => Option.none
noncomputable def setLoc (i : Nat) (v : AV) : M Unit := fun st => some (.ok (), ⟨st.σ, st.ρ.set i (some v)⟩)
noncomputable def clrAll : M Unit := fun st => some (.ok (), ⟨st.σ, st.ρ.map fun _ => Option.none⟩)
noncomputable def alloc (o : AO) : M AV := fun st => some (.ok (.obj st.σ.length), ⟨st.σ ++ [o], st.ρ⟩)
noncomputable def deref (i : Nat) : M AO := fun st => match st.σ[i]? with
  | some o => some (.ok o, st)
  | Option.none => Option.none
noncomputable def upd (i : Nat) (o : AO) : M Unit := fun st => some (.ok (), ⟨st.σ.set i o, st.ρ⟩)
noncomputable def guard (b : Bool) : M Unit := fun st => if b = true then some (.ok (), st) else Option.none
end

noncomputable def look (es : List (Int × AV)) (k : Int) : Option AV := match es with
  | [] => Option.none
  | (k', v) :: r => if k' = k then some v else look r k
noncomputable def put (es : List (Int × AV)) (k : Int) (v : AV) : List (Int × AV) := match es with
  | [] => [(k, v)]
  | (k', v') :: r => if k' = k then (k', v) :: r else (k', v') :: put r k v
noncomputable def del (es : List (Int × AV)) (k : Int) : List (Int × AV) := match es with
  | [] => []
  | (k', v') :: r => if k' = k then r else (k', v') :: del r k
noncomputable def lookS (fs : List (Str × AV)) (x : Str) : Option AV := match fs with
  | [] => Option.none
  | (y, v) :: r => if y = x then some v else lookS r x
noncomputable def putS (fs : List (Str × AV)) (x : Str) (v : AV) : List (Str × AV) := match fs with
  | [] => [(x, v)]
  | (y, w) :: r => if y = x then (y, v) :: r else (y, w) :: putS r x v

noncomputable def truthy (v : AV) : M Bool := match v with
  | .none => ret false
  | .bool b => ret b
  | .int i => ret (i != 0)
  | .str _ => fail
  | .obj _ => fail
  | .top _ => fail

noncomputable def intOp (f : Int → Int → M AV) (a b : AV) : M AV := match a with
  | .int x => (match b with | .int y => f x y | _ => fail)
  | _ => fail
noncomputable def addOp (a b : AV) : M AV := match a with
  | .int x => (match b with | .int y => ret (.int (x + y)) | _ => fail)
  | .str x => (match b with | .str y => bnd (guard (decide (x.length + y.length ≤ line))) fun _ => ret (.str (x ++ y)) | _ => fail)
  | .obj i => (match b with
    | .obj j => bnd (deref i) fun o => bnd (deref j) fun p => match o with
      | .list xs => (match p with
        | .list ys => bnd (guard (decide (xs.length + ys.length ≤ line))) fun _ => alloc (.list (xs ++ ys))
        | _ => fail)
      | _ => fail
    | _ => fail)
  | _ => fail
noncomputable def mulOp (a b : AV) : M AV := match a with
  | .str x => (match b with
    | .int k => bnd (guard (decide (0 ≤ k ∧ k ≤ 1000 ∧ x.length ≤ 1000))) fun _ => ret (.str (Txt.mul x k))
    | _ => fail)
  | a => intOp (fun x y => bnd (guard (decide (y.natAbs < 2 ^ 64) || decide (x.natAbs < 2 ^ 64))) fun _ => ret (.int (x * y))) a b
noncomputable def binop (op : Operator) (a b : AV) : M AV := match op with
  | .Add => addOp a b
  | .Sub => intOp (fun x y => ret (.int (x - y))) a b
  | .Mult => mulOp a b
  | .FloorDiv => intOp (fun x y => bnd (guard (y != 0 && decide (y.natAbs < 1073741824))) fun _ => ret (.int (x.fdiv y))) a b
  | .Mod => intOp (fun x y => bnd (guard (y != 0)) fun _ => ret (.int (x.fmod y))) a b
  | .Pow => intOp (fun x y => bnd (guard (decide (0 ≤ y) && decide ((Builtin.Int.intBits x : Int) * y ≤ 2 ^ 27))) fun _ => ret (.int (x ^ y.toNat))) a b
  | _ => fail

/-- equality of two plain values (no objects): none where it is not decided here -/
noncomputable def eqPlain (a b : AV) : Option Bool := match a, b with
  | .none, .none => some true
  | .none, .int _ => some false
  | .int _, .none => some false
  | .bool x, .bool y => some (x == y)
  | .int x, .int y => some (x == y)
  | .str x, .str y => some (decide (x = y))
  | _, _ => Option.none
noncomputable def ofOpt {α : Type} (o : Option α) : M α := fun st => match o with
  | some a => some (.ok a, st)
  | Option.none => Option.none
noncomputable def eqv (a b : AV) : M Bool := ofOpt (eqPlain a b)
noncomputable def inList (a : AV) (xs : List AV) : Option Bool := match xs with
  | [] => some false
  | x :: r => match eqPlain x a, inList a r with
    | some b, some c => some (b || c)
    | _, _ => Option.none
noncomputable def memb (a c : AV) : M Bool := match c with
  | .obj i => bnd (deref i) fun o => match o, a with
    | .list xs, a => ofOpt (inList a xs)
    | .tuple xs, a => ofOpt (inList a xs)
    | .dict es, .int k => ret (look es k).isSome
    | _, _ => fail
  | .str x => (match a with | .str y => ret (Txt.contains x y) | _ => fail)
  | _ => fail
noncomputable def isNone (a : AV) : Bool := match a with | .none => true | _ => false
noncomputable def intCmp (f : Int → Int → Bool) (a b : AV) : M Bool := match a with
  | .int x => (match b with | .int y => ret (f x y) | _ => fail)
  | _ => fail
noncomputable def isOp (neg : Bool) (a b : AV) : M Bool := match b with
  | .none => ret (if neg then !isNone a else isNone a)
  | _ => fail
noncomputable def cmpop (op : CmpOp) (a b : AV) : M Bool := match op with
  | .Lt => intCmp (fun x y => decide (x < y)) a b
  | .LtE => intCmp (fun x y => decide (x ≤ y)) a b
  | .Gt => intCmp (fun x y => decide (y < x)) a b
  | .GtE => intCmp (fun x y => decide (y ≤ x)) a b
  | .Eq => eqv a b
  | .NotEq => bnd (eqv a b) fun t => ret (!t)
  | .Is => isOp false a b
  | .IsNot => isOp true a b
  | .In => memb a b
  | .NotIn => bnd (memb a b) fun t => ret (!t)

noncomputable def idx? (i : Int) (n : Nat) : Option Nat := if 0 ≤ i then (if i < n then some i.toNat else Option.none) else (if -(n : Int) ≤ i then some (i + n).toNat else Option.none)
noncomputable def getIdx (a : Nat) (k : Int) : M AV := bnd (deref a) fun o => match o with
  | .ro xs => bnd (ofOpt (idx? k xs.length)) fun j => ofOpt xs[j]?
  | .list xs => bnd (ofOpt (idx? k xs.length)) fun j => ofOpt xs[j]?
  | .tuple xs => bnd (ofOpt (idx? k xs.length)) fun j => ofOpt xs[j]?
  | .dict es => ofOpt (look es k)
  | _ => fail
/-- a bound of a slice -/
noncomputable def partOf (v : AV) : Option (Option Int) := match v with
  | .none => some Option.none
  | .int i => if 0 ≤ i then some (some i) else Option.none
  | _ => Option.none
noncomputable def cutL {α : Type} (xs : List α) (lo hi : Option Int) : List α := match lo with
  | Option.none => (match hi with | Option.none => xs | some b => xs.take b.toNat)
  | some a => (match hi with | Option.none => xs.drop a.toNat | some b => (xs.take b.toNat).drop a.toNat)
noncomputable def sliceOf (a l u : AV) : M AV := bnd (ofOpt (partOf l)) fun lo => bnd (ofOpt (partOf u)) fun hi => match a with
  | .obj i => bnd (deref i) fun o => (match o with
    | .list xs => bnd (alloc (.slice l u)) fun _ => alloc (.list (cutL xs lo hi))
    | .ro xs => bnd (alloc (.slice l u)) fun _ => alloc (.list (cutL xs lo hi))
    | .tuple xs => bnd (guard (lo.any (fun a => decide (1 ≤ a ∧ a ≤ (xs.length : Int))) && hi.isNone)) fun _ => bnd (alloc (.slice l u)) fun _ => alloc (.tuple (cutL xs lo hi))
    | _ => fail)
  | .str x => bnd (guard (decide (x.length ≤ line))) fun _ => bnd (alloc (.slice l u)) fun _ => ret (.str (Txt.slice x lo hi))
  | _ => fail
noncomputable def getItem (o i : AV) : M AV := match o with
  | .obj a => (match i with
    | .int k => getIdx a k
    | _ => fail)
  | .str x => (match i with
    | .int k => bnd (guard (fitsSsize k && (Txt.charAt x k).isSome)) fun _ => ret (.str (Txt.item x k))
    | _ => fail)
  | _ => fail
noncomputable def setIdx (a : Nat) (k : Int) (v : AV) : M Unit := bnd (deref a) fun o => match o with
  | .list xs => bnd (ofOpt (idx? k xs.length)) fun j => upd a (.list (xs.set j v))
  | .dict es => bnd (guard (decide (es.length < line))) fun _ => upd a (.dict (put es k v))
  | _ => fail
noncomputable def setItem (o i v : AV) : M Unit := match o with
  | .obj a => (match i with
    | .int k => setIdx a k v
    | _ => fail)
  | _ => fail
noncomputable def fields (c : Addr) (o : AV) : M (Nat × List (Str × AV)) := match o with
  | .obj a => bnd (deref a) fun o => match o with
    | .inst c' d => bnd (guard (decide (c' = c))) fun _ => bnd (deref d) fun p => (match p with
      | .ns fs => ret (d, fs)
      | _ => fail)
    | _ => fail
  | _ => fail
noncomputable def getAttr (c : Addr) (o : AV) (name : Str) : M AV := bnd (fields c o) fun df => ofOpt (lookS df.2 name)
noncomputable def setAttr (c : Addr) (o : AV) (name : Str) (v : AV) : M Unit := bnd (fields c o) fun df => bnd (guard (decide (df.2.length < 400))) fun _ => upd df.1 (.ns (putS df.2 name v))

abbrev Calls := Addr → List AV → List AO → Option (Except Nat AV × List AO)
noncomputable def callFn (C : Calls) (f : Addr) (args : List AV) : M AV := fun st => match C f args st.σ with
  | some (r, σ) => some (r, ⟨σ, st.ρ⟩)
  | Option.none => Option.none
noncomputable def callMake (C : Calls) (c f : Addr) (args : List AV) : M AV := fun st =>
  bnd (callFn C f (.obj (st.σ.length + 1) :: args)) (fun r => match r with
    | .none => ret (.obj (st.σ.length + 1))
    | _ => fail) ⟨st.σ ++ [.ns [], .inst c st.σ.length], st.ρ⟩
noncomputable def isInst (c : Addr) (name : Str) (o : AV) : M Unit := bnd (fields c o) fun df => guard (lookS df.2 name).isNone

inductive VK where
  | int | bool | none | str | list | tuple
noncomputable def vkTy (k : VK) (t : TY) : Option Bool := match t with
  | .int => some (match k with | .int => true | .bool => true | _ => false)
  | .bool => some (match k with | .bool => true | _ => false)
  | .list => some (match k with | .list => true | _ => false)
  | .str => some (match k with | .str => true | _ => false)
  | .tuple => some (match k with | .tuple => true | _ => false)
  | .exc _ => Option.none
  | .exd _ => Option.none
  | .ve => Option.none
noncomputable def isaT (P : AProg) (v : AV) (t : TY) : M Bool := match v with
  | .int _ => ofOpt (vkTy .int t)
  | .bool _ => ofOpt (vkTy .bool t)
  | .none => ofOpt (vkTy .none t)
  | .str _ => ofOpt (vkTy .str t)
  | .obj i => bnd (deref i) fun o => match o with
    | .list _ => ofOpt (vkTy .list t)
    | .tuple _ => ofOpt (vkTy .tuple t)
    | .exr c => (match t with
      | .exc d => ofOpt (P.isa c (some d))
      | .ve => ofOpt (P.isa c Option.none)
      | _ => fail)
    | _ => fail
  | .top _ => fail
noncomputable def allInts : List AV → Option (List Int)
  | [] => some []
  | x :: r => match x with
    | .int i => (match allInts r with
      | some l => some (i :: l)
      | Option.none => Option.none)
    | _ => Option.none
noncomputable def insInt (i : Int) : List Int → List Int
  | [] => [i]
  | j :: r => if i ≤ j then i :: j :: r else j :: insInt i r
noncomputable def sortInts : List Int → List Int
  | [] => []
  | i :: r => insInt i (sortInts r)

noncomputable def biLen (v : AV) : M AV := match v with
  | .obj i => bnd (deref i) fun o => match o with
    | .ro xs => ret (.int xs.length)
    | .list xs => ret (.int xs.length)
    | .tuple xs => ret (.int xs.length)
    | .dict es => ret (.int es.length)
    | _ => fail
  | .str x => bnd (guard (decide (x.length ≤ line))) fun _ => ret (.int x.length)
  | _ => fail
noncomputable def biTwo (f : Int → Int → Int) (v u : AV) : M AV := match v with
  | .int a => (match u with | .int b => ret (.int (f a b)) | _ => fail)
  | _ => fail
noncomputable def biSorted (v : AV) : M AV := match v with
  | .obj i => bnd (deref i) fun o => match o with
    | .list xs => bnd (ofOpt (allInts xs)) fun l => bnd (guard (decide (l.length < 64))) fun _ => alloc (.list ((sortInts l).map .int))
    | .keys d => bnd (deref d) fun p => (match p with
      | .dict es => bnd (guard (decide (es.length < 64))) fun _ => alloc (.list ((sortInts (es.map (·.1))).map .int))
      | _ => fail)
    | _ => fail
  | _ => fail
noncomputable def smallR (a b : Int) : Bool := decide (-1000000000 ≤ a) && decide (a ≤ 1000000000) && decide (-1000000000 ≤ b) && decide (b ≤ 1000000000)
noncomputable def biRange (a b : Int) : M AV := bnd (guard (smallR a b)) fun _ => alloc (.range a b)
noncomputable def biList (v : AV) : M AV := match v with
  | .obj i => bnd (deref i) fun o => match o with
    | .list xs => alloc (.list xs)
    | .tuple xs => alloc (.list xs)
    | _ => fail
  | _ => fail
noncomputable def decVal (l : List Nat) : Nat := l.foldl (fun acc c => acc * 10 + (c - 48)) 0
noncomputable def isDig (x : Str) : Bool := x.cps.toList.all fun c => decide (48 ≤ c) && decide (c ≤ 57)
noncomputable def biStr (v : AV) : M AV := match v with
  | .int a => bnd (guard (decide (a.natAbs.log2 < 1920))) fun _ => ret (.str (Str.ofString (toString a)))
  | .str x => ret (.str x)
  | _ => fail
noncomputable def biTuple (v : AV) : M AV := match v with
  | .obj i => bnd (deref i) fun o => match o with
    | .list xs => alloc (.tuple xs)
    | _ => fail
  | _ => fail
noncomputable def biInt (v : AV) : M AV := match v with
  | .bool b => ret (.int (if b = true then 1 else 0))
  | .str x => bnd (guard (isDig x && (decide (1 ≤ x.length) && decide (x.length ≤ 640)))) fun _ => ret (.int (decVal x.cps.toList : Nat))
  | _ => fail
noncomputable def allBools : List AV → Option (List Bool)
  | [] => some []
  | x :: r => match x with
    | .bool b => (match allBools r with
      | some l => some (b :: l)
      | Option.none => Option.none)
    | _ => Option.none
noncomputable def biAny (v : AV) : M AV := match v with
  | .obj i => bnd (deref i) fun o => match o with
    | .list xs => bnd (ofOpt (allBools xs)) fun l => ret (.bool (l.any id))
    | _ => fail
  | _ => fail
noncomputable def callBi (b : BI) (args : List AV) : M AV := match b with
  | .len => (match args with | [v] => biLen v | _ => fail)
  | .min => (match args with | [v, u] => biTwo (fun a b => if b < a then b else a) v u | _ => fail)
  | .max => (match args with | [v, u] => biTwo (fun a b => if b > a then b else a) v u | _ => fail)
  | .sorted => (match args with | [v] => biSorted v | _ => fail)
  | .range => (match args with
    | [v] => (match v with | .int b => biRange 0 b | _ => fail)
    | [v, u] => (match v with | .int a => (match u with | .int b => biRange a b | _ => fail) | _ => fail)
    | _ => fail)
  | .list => (match args with | [v] => biList v | _ => fail)
  | .int => (match args with | [v] => biInt v | _ => fail)
  | .str => (match args with | [v] => biStr v | _ => fail)
  | .tuple => (match args with | [v] => biTuple v | _ => fail)
  | b => (match b with
    | .any => (match args with | [v] => biAny v | _ => fail)
    | _ => fail)

noncomputable def allStrs : List AV → Option (List Str)
  | [] => some []
  | x :: r => match x with
    | .str b => (match allStrs r with
      | some l => some (b :: l)
      | Option.none => Option.none)
    | _ => Option.none
noncomputable def meList (i : Nat) (xs : List AV) (m : ME) (args : List AV) : M AV := match m with
  | .append => (match args with | [v] => bnd (guard (decide (xs.length < line))) fun _ => bnd (upd i (.list (xs ++ [v]))) fun _ => ret .none | _ => fail)
  | .pop => (match args with
    | [] => (match xs.getLast? with | some v => bnd (upd i (.list xs.dropLast)) fun _ => ret v | Option.none => fail)
    | [u] => (match u with | .int k => bnd (guard (k == 0)) fun _ => (match xs with | v :: r => bnd (upd i (.list r)) fun _ => ret v | [] => fail) | _ => fail)
    | _ => fail)
  | .index => (match args with
    | [u] => (match u with
      | .str y => bnd (ofOpt (allStrs xs)) fun l => bnd (guard (decide (l.idxOf y < l.length))) fun _ => ret (.int (l.idxOf y : Nat))
      | _ => fail)
    | _ => fail)
  | _ => fail
noncomputable def meDict (i : Nat) (es : List (Int × AV)) (m : ME) (args : List AV) : M AV := match m with
  | .keys => (match args with | [] => alloc (.keys i) | _ => fail)
  | .pop => (match args with
    | [u] => (match u with | .int k => (match look es k with | some v => bnd (upd i (.dict (del es k))) fun _ => ret v | Option.none => fail) | _ => fail)
    | _ => fail)
  | _ => fail
noncomputable def meStr (x : Str) (m : ME) (args : List AV) : M AV := match m with
  | .split => (match args with
    | [u] => (match u with
      | .str y => bnd (guard (!(y.length == 0) && decide (x.length ≤ line))) fun _ => bnd (guard (decide ((Txt.split x y).length ≤ line))) fun _ => alloc (.list ((Txt.split x y).map .str))
      | _ => fail)
    | _ => fail)
  | .find => (match args with
    | [u] => (match u with
      | .str y => ret (.int (Txt.find x y))
      | _ => fail)
    | _ => fail)
  | _ => fail
inductive KD where
  | list | dict | str
noncomputable def kindOf (o : AV) : M KD := match o with
  | .obj i => bnd (deref i) fun b => match b with
    | .list _ => ret .list
    | .dict _ => ret .dict
    | _ => fail
  | .str _ => ret .str
  | _ => fail
noncomputable def callMeth (k : KD) (o : AV) (m : ME) (args : List AV) : M AV := match k with
  | .list => (match o with
    | .obj i => bnd (deref i) fun b => (match b with | .list xs => meList i xs m args | _ => fail)
    | _ => fail)
  | .dict => (match o with
    | .obj i => bnd (deref i) fun b => (match b with | .dict es => meDict i es m args | _ => fail)
    | _ => fail)
  | .str => (match o with | .str x => meStr x m args | _ => fail)

/-- what a for runs over: its kind, and its number of turns -/
inductive IK where
  | list | tuple | range (a : Int)
  | str
noncomputable def iterLen (v : AV) : M (IK × Nat) := match v with
  | .obj i => bnd (deref i) fun o => match o with
    | .list xs => ret (.list, xs.length)
    | .tuple xs => ret (.tuple, xs.length)
    | .range a b => ret (.range a, (b - a).toNat)
    | _ => fail
  | .str x => bnd (guard (x.cps.all (· < 128))) fun _ => ret (.str, x.length)
  | _ => fail
/-- the thing must have kept its length n -/
noncomputable def iterSeq (q : IK) (v : AV) (n : Nat) : M (List AV) := match v with
  | .obj i => bnd (deref i) fun o => match q with
    | .list => (match o with | .list xs => bnd (guard (decide (xs.length = n))) fun _ => ret xs | _ => fail)
    | .tuple => (match o with | .tuple xs => bnd (guard (decide (xs.length = n))) fun _ => ret xs | _ => fail)
    | .range _ => fail
    | .str => fail
  | _ => fail
/-- the item of turn j -/
noncomputable def iterAt (q : IK) (v : AV) (n j : Nat) : M AV := match q with
  | .range a => ret (.int (a + j))
  | .str => (match v with | .str x => bnd (guard (decide (x.length = n))) fun _ => ofOpt (x.cps[j]?.map fun c => AV.str ⟨#[c]⟩) | _ => fail)
  | q => bnd (iterSeq q v n) fun xs => ofOpt xs[j]?
noncomputable def iterEnd (q : IK) (v : AV) (n : Nat) : M Unit := match q with
  | .range _ => ret ()
  | .str => (match v with | .str x => guard (decide (x.length = n)) | _ => fail)
  | q => bnd (iterSeq q v n) fun _ => ret ()

noncomputable def forLoop (q : IK) (v : AV) (n k : Nat) (body : M AF) : Nat → Nat → M AF
  | 0, _ => bnd (iterEnd q v n) fun _ => ret .next
  | r + 1, j => bnd (iterAt q v n j) fun x => bnd (setLoc k x) fun _ => bnd body fun f => match f with
    | .next => forLoop q v n k body r (j + 1)
    | .ret y => ret (.ret y)
noncomputable def compLoop (q : IK) (v : AV) (n k : Nat) (tests : M Bool) (elt : M AV) : Nat → Nat → List AV → M (List AV)
  | 0, _, acc => bnd (iterEnd q v n) fun _ => ret acc
  | r + 1, j, acc => bnd (iterAt q v n j) fun x => bnd (setLoc k x) fun _ => bnd tests fun t =>
    if t = true then bnd elt fun y => compLoop q v n k tests elt r (j + 1) (acc ++ [y]) else compLoop q v n k tests elt r (j + 1) acc
section
variable (P : AProg) (C : Calls)
mutual
noncomputable def aeval : AE → M AV
  | .cst v => ret v
  | .loc i => getLoc i
  | .bin op l r => bnd (aeval l) fun a => bnd (aeval r) fun b => binop op a b
  | .neg x => bnd (aeval x) fun a => match a with | .int i => ret (.int (-i)) | _ => fail
  | .slc o l u => bnd (aeval o) fun a => bnd (aeval l) fun b => bnd (aeval u) fun c => sliceOf a b c
  | .tget l x d => bnd (aeval x) fun a => bnd (aeval d) fun b => match a with
    | .str y => ret ((lookS l y).getD b)
    | _ => fail
  | .not x => bnd (aeval x) fun a => bnd (truthy a) fun b => ret (.bool !b)
  | .and xs => aand xs
  | .or xs => aor xs
  | .cmp l ops rs => bnd (aeval l) fun a => bnd (achain rs a ops) fun b => ret (.bool b)
  | .call f args => bnd (aevals args) fun vs => callFn C f vs
  | .make c f args => bnd (aevals args) fun vs => callMake C c f vs
  | .bi b args => bnd (aevals args) fun vs => callBi b vs
  | .isi x t => bnd (aeval x) fun a => bnd (isaT P a t) fun b => ret (.bool b)
  | .meth o m args => bnd (aeval o) fun a => bnd (kindOf a) fun k => bnd (aevals args) fun vs => callMeth k a m vs
  | .own o c f name args => bnd (aeval o) fun a => bnd (isInst c name a) fun _ => bnd (aevals args) fun vs => callFn C f (a :: vs)
  | .attr o c name => bnd (aeval o) fun a => getAttr c a name
  | .sub o i => bnd (aeval o) fun a => bnd (aeval i) fun b => getItem a b
  | .list xs => bnd (aevals xs) fun vs => alloc (.list vs)
  | .tuple xs => bnd (aevals xs) fun vs => alloc (.tuple vs)
  | .dict0 => alloc (.dict [])
  | .comp k elt iter ifs => bnd (aeval iter) fun v => bnd (iterLen v) fun qn => bnd (guard (decide (qn.2 ≤ line))) fun _ => bnd (compLoop qn.1 v qn.2 k (atests ifs) (aeval elt) qn.2 0 []) fun xs => alloc (.list xs)
noncomputable def aevals : List AE → M (List AV)
  | [] => ret []
  | e :: r => bnd (aeval e) fun v => bnd (aevals r) fun vs => ret (v :: vs)
noncomputable def aand : List AE → M AV
  | [] => fail
  | [e] => aeval e
  | e :: r => bnd (aeval e) fun v => bnd (truthy v) fun b => if b = true then aand r else ret v
noncomputable def aor : List AE → M AV
  | [] => fail
  | [e] => aeval e
  | e :: r => bnd (aeval e) fun v => bnd (truthy v) fun b => if b = true then ret v else aor r
noncomputable def achain : List AE → AV → List CmpOp → M Bool
  | [], _, _ => fail
  | e :: r, a, ops => match ops with
    | [] => fail
    | op :: ops => bnd (aeval e) fun b => bnd (cmpop op a b) fun t =>
      if (ops.isEmpty && r.isEmpty) = true then ret t else if t = true then achain r b ops else ret false
noncomputable def atest : AE → M Bool
  | .not x => bnd (atest x) fun b => ret !b
  | .and xs => aall xs
  | .or xs => aany xs
  | .cmp l ops rs => bnd (aeval l) fun a => achain rs a ops
  | .cst v => truthy v
  | .loc i => bnd (getLoc i) truthy
  | .call f args => bnd (bnd (aevals args) fun vs => callFn C f vs) truthy
  | .bi b args => bnd (bnd (aevals args) fun vs => callBi b vs) truthy
  | .isi x t => bnd (bnd (aeval x) fun a => bnd (isaT P a t) fun b => ret (.bool b)) truthy
  | .meth o m args => bnd (bnd (aeval o) fun a => bnd (kindOf a) fun k => bnd (aevals args) fun vs => callMeth k a m vs) truthy
  | .own o c f name args => bnd (bnd (aeval o) fun a => bnd (isInst c name a) fun _ => bnd (aevals args) fun vs => callFn C f (a :: vs)) truthy
  | .attr o c name => bnd (bnd (aeval o) fun a => getAttr c a name) truthy
  | .sub o i => bnd (bnd (aeval o) fun a => bnd (aeval i) fun b => getItem a b) truthy
  | .bin _ _ _ => fail
  | .slc _ _ _ => fail
  | .tget _ _ _ => fail
  | .neg _ => fail
  | .make _ _ _ => fail
  | .list _ => fail
  | .tuple _ => fail
  | .dict0 => fail
  | .comp _ _ _ _ => fail
noncomputable def aall : List AE → M Bool
  | [] => ret true
  | e :: r => bnd (atest e) fun b => if b = true then aall r else ret false
noncomputable def aany : List AE → M Bool
  | [] => ret false
  | e :: r => bnd (atest e) fun b => if b = true then ret true else aany r
noncomputable def atests : List AE → M Bool
  | [] => ret true
  | e :: r => bnd (atest e) fun b => if b = true then atests r else ret false
end


noncomputable def aassign (t : AT) (v : AV) : M Unit := match t with
  | .loc i => setLoc i v
  | .attr o c name => bnd (aeval P C o) fun a => setAttr c a name v
  | .sub o i => bnd (aeval P C o) fun a => bnd (aeval P C i) fun b => setItem a b v
/-- what a loop runs over -/
noncomputable def aover (iter : AE) : M (AV × IK × Nat) := bnd (aeval P C iter) fun v => bnd (iterLen v) fun qn => bnd (guard (decide (qn.2 ≤ line))) fun _ => ret (v, qn)
-- an expression that may raise: a call, and what stands around it
mutual
noncomputable def axval : AE → M AV
  | .call f args => bnd (noerr (aevals P C args)) fun vs => callFn C f vs
  | .own o c f name args => bnd (noerr (aeval P C o)) fun a => bnd (noerr (isInst c name a)) fun _ => bnd (noerr (aevals P C args)) fun vs => callFn C f (a :: vs)
  | .bin op l r => bnd (axval l) fun a => bnd (axval r) fun b => noerr (binop op a b)
  | .make c f args => bnd (noerr (aevals P C args)) fun vs => callMake C c f vs
  | .cmp l ops rs => bnd (axval l) fun a => noerr (bnd (achain P C rs a ops) fun b => ret (.bool b))
  | .bi b args => bnd (axvals args) fun vs => noerr (callBi b vs)
  | .comp k elt iter ifs => bnd (noerr (aover P C iter)) fun p => bnd (compLoop p.2.1 p.1 p.2.2 k (noerr (atests P C ifs)) (axval elt) p.2.2 0 []) fun xs => alloc (.list xs)
  | e => noerr (aeval P C e)
noncomputable def axvals : List AE → M (List AV)
  | [] => ret []
  | e :: r => bnd (axval e) fun v => bnd (axvals r) fun vs => ret (v :: vs)
end
/-- what is assigned: a comprehension there raises nothing -/
noncomputable def axtop (e : AE) : M AV := match e with
  | .comp k elt iter ifs => noerr (aeval P C (.comp k elt iter ifs))
  | e => axval P C e
mutual
noncomputable def aexec : AS → M AF
  | .expr e => bnd (axval P C e) fun _ => ret .next
  | .assign t e => bnd (axtop P C e) fun v => noerr (bnd (aassign P C t v) fun _ => ret .next)
  | .ret e => bnd (axval P C e) fun v => ret (.ret v)
  | .ite t b o => bnd (noerr (atest P C t)) fun x => if x = true then aexecs b else aexecs o
  | .for k iter b => bnd (noerr (aover P C iter)) fun p => forLoop p.2.1 p.1 p.2.2 k (aexecs b) p.2.2 0
  | .raise c _ => bnd (alloc (.exc c)) fun e => match e with | .obj i => raise i | _ => fail
  | .try b c h => fun st => onErr c (noerr (aexecs h)) (aexecs b st)
  | .tryas b c i h => fun st => onErrs (fun d => P.isa d (some c) == some true) (fun e => noerr (bnd (deref e) fun o => (match o with
    | .exc d => bnd (upd e (.exr d)) fun _ => bnd (setLoc i (.obj e)) fun _ => bnd (aexecs h) fun f => (match f with
      | .ret v => bnd clrAll fun _ => bnd (upd e (.exc d)) fun _ => ret (.ret v)
      | .next => fail)
    | _ => fail))) (aexecs b st)
  | .pass => ret .next
  | .dead => fail
noncomputable def aexecs : List AS → M AF
  | [] => ret .next
  | x :: r => bnd (aexec x) fun f => match f with
    | .next => aexecs r
    | .ret v => ret (.ret v)
end
theorem ax_raise {c : Addr} {t : Str} : aexec P C (.raise c t) = bnd (alloc (.exc c)) fun e => match e with | .obj i => raise i | _ => fail := rfl
end

noncomputable def acall (P : AProg) : Nat → Calls
  | 0, _, _, _ => Option.none
  | n + 1, f, args, σ => match P.fn f with
    | Option.none => Option.none
    | some fn => if args.length = fn.nparams then (match aexecs P (acall P n) fn.body ⟨σ, args.map some ++ List.replicate (fn.nslots - fn.nparams) Option.none⟩ with
      | some (.ok .next, st) => some (.ok .none, st.σ)
      | some (.ok (.ret v), st) => some (.ok v, st.σ)
      | some (.error e, st) => some (.error e, st.σ)
      | Option.none => Option.none) else Option.none
end Mine
namespace Mine
open PySem

/-- what a global name means -/
inductive GV where
  | val (v : AV)
  | fn (f : Addr)
  | cls (c f : Addr)
  | bi (b : BI)
  | isinst
  | ty (t : TY)
  | tab (l : List (Str × AV))
inductive MV where
  | me (m : ME)
  | own (c f : Addr)

structure Rsv where
  N : Nat
  slot : Str → Option Nat
  glob : Str → Option GV
  meth : Str → Option MV
  attr : Str → Option Addr
  cel : Str → Bool
  gtab : Str → Option GV
  quiet : Bool

noncomputable def plainBase : Expr → Bool
  | .Call (.Name _ _) [] [] _ => false
  | _ => true
noncomputable def notStar : Expr → Bool
  | .Starred _ _ => false
  | .Set _ _ _ => false
  | _ => true
noncomputable def isComp : Expr → Bool
  | .ListComp _ _ _ _ => true
  | .SetComp _ _ _ _ => true
  | .DictComp _ _ _ _ _ => true
  | _ => false
noncomputable def isSlice : Expr → Bool
  | .Slice _ _ _ _ => true
  | _ => false
noncomputable def dbg : Str := "__debug__"

/-- the names of a comprehension's own block, over those around it -/
noncomputable def rsComp (rs : Rsv) (names : List (Str × NameKind)) (x : Str) (k : Nat) : Rsv where
  N := rs.N
  slot := fun y => if y = x then some k else (match names.lookup y with | some .free => if rs.cel y then rs.slot y else none | _ => none)
  glob := fun y => match names.lookup y with
    | some .globalImplicit => rs.gtab y
    | _ => none
  meth := rs.meth
  attr := rs.attr
  cel := fun y => if y = x then false else (match names.lookup y with | some .free => rs.cel y | _ => false)
  gtab := rs.gtab
  quiet := rs.quiet
noncomputable def kindFine (rs : Rsv) (x : Str) (y : Str × NameKind) : Bool := match y.2 with
    | .local => decide (y.1 = x) || decide (y.1 = (".0" : Str))
    | .free => rs.cel y.1
    | .globalImplicit => true
    | _ => false
noncomputable def compNames (rs : Rsv) (names : List (Str × NameKind)) (x : Str) : Bool :=
  decide (names.lookup x = some .local) && decide (x ≠ dbg) && decide (x ≠ "__classdict__") && names.all fun y => kindFine rs x y && decide (names.lookup y.1 = some y.2)

noncomputable def cstOf : Const → Option AE
  | .none => some (.cst .none)
  | .bool b => some (.cst (.bool b))
  | .int i => some (.cst (.int i))
  | .str x => some (.cst (.str x))
  | _ => none
noncomputable def globVal : GV → Option AE
  | .val v => some (.cst v)
  | _ => none
noncomputable def nameOf : Expr → Option Str
  | .Name x _ => some x
  | _ => none
noncomputable def tyG : GV → Option TY
  | .ty T => some T
  | .bi b => (match b with | .list => some .list | .int => some .int | .str => some .str | .tuple => some .tuple | _ => none)
  | _ => none
noncomputable def tyOf (rs : Rsv) (t : Expr) : Option TY := (nameOf t).bind fun y => if y = dbg then none else if (rs.slot y).isSome then none else (rs.glob y).bind tyG
noncomputable def genOf (gens : List Comprehension) : Option (Str × Expr × List Expr) := match gens with
  | [] => none
  | g :: r => if r.isEmpty && decide (g.is_async = 0) then (nameOf g.target).bind fun x => some (x, g.iter, g.ifs) else none
noncomputable def partsOf : Expr → Option (Option Expr × Option Expr)
  | .Slice a b none _ => some (a, b)
  | _ => none
noncomputable def optE (E : Expr → Option AE) : Option Expr → Option AE
  | none => some (.cst .none)
  | some e => E e
noncomputable def constOf : Expr → Option AE
  | .Constant c _ _ => cstOf c
  | _ => none
noncomputable def strC : Const → Option Str
  | .str t => some t
  | _ => none
noncomputable def strOf : Expr → Option Str
  | .Constant c _ _ => strC c
  | _ => none
noncomputable def retOf : Stmt → Option Expr
  | .Return v _ => v
  | _ => none
noncomputable def asgOf : Stmt → Option (Expr × Expr)
  | .Assign ts v _ => (match ts with | [t] => some (t, v) | _ => none)
  | _ => none
noncomputable def callOf : Expr → Option (Expr × List Expr)
  | .Call f as kw _ => if kw.isEmpty then some (f, as) else none
  | _ => none
noncomputable def excT : TY → Option Addr
  | .exc c => some c
  | _ => none
noncomputable def excG : GV → Option Addr
  | .ty t => excT t
  | _ => none
/-- an exception class of the text, by its name -/
noncomputable def excOf (rs : Rsv) (e : Expr) : Option Addr := (nameOf e).bind fun x => if x = dbg then none else if (rs.slot x).isSome then none else (rs.glob x).bind excG
noncomputable def raiseOf (rs : Rsv) (eo : Option Expr) : Option (Addr × Str) := eo.bind fun e => (callOf e).bind fun p => (match p.2 with
  | [a] => (strOf a).bind fun t => (excOf rs p.1).bind fun c => some (c, t)
  | _ => none)
/-- a class that is never raised -/
noncomputable def deadOf (rs : Rsv) : Option Expr → Bool
  | some (.Call (.Name x _) _ _ _) => (match rs.glob x with | some (.ty (.exd _)) => true | _ => false)
  | _ => false
noncomputable def tabG : GV → Option (List (Str × AV))
  | .tab l => some l
  | _ => none
/-- a table of the text, asked with get -/
noncomputable def tabOf (rs : Rsv) (o : Expr) (name : Str) : Option (List (Str × AV)) := if name = "get" then (nameOf o).bind fun y => if y = dbg then none else if (rs.slot y).isSome then none else (rs.glob y).bind tabG else none
noncomputable def twoOf : List Expr → Option (Expr × Expr)
  | [x, d] => some (x, d)
  | _ => none
noncomputable def isAny : BI → Bool
  | .any => true
  | _ => false
noncomputable def cEF (E : Rsv → Nat → Expr → Option AE) (L : Rsv → Nat → List Expr → Option (List AE)) (rs : Rsv) (k : Nat) (e : Expr) : Option AE := match e with
    | .Constant c _ _ => cstOf c
    | .Name x _ => if x = dbg then none else (match rs.slot x with
      | some i => some (.loc i)
      | none => (rs.glob x).bind globVal)
    | .BinOp l op r _ => (E rs k l).bind fun l' => (E rs k r).bind fun r' => some (.bin op l' r')
    | .UnaryOp op x _ => (E rs k x).bind fun x' => (match op with
      | .Not => some (.not x')
      | .USub => some (.neg x')
      | _ => none)
    | .BoolOp op xs _ => (L rs k xs).bind fun xs' => (match op with | .And => some (.and xs') | .Or => some (.or xs'))
    | .Compare l ops rs' _ => if ops.length = rs'.length then (E rs k l).bind fun l' => (L rs k rs').bind fun r' => some (.cmp l' ops r') else none
    | .Call f args kw pos => if kw.isEmpty then (match f with
        | .Name g _ => if g = dbg then none else if (rs.slot g).isSome then none else (rs.glob g).bind fun gv => (match gv with
            | .fn a => if rs.quiet then none else (L rs k args).bind fun as => some (.call a as)
            | .cls c a => if rs.quiet then none else (L rs k args).bind fun as => some (.make c a as)
            | .bi b => if rs.quiet && !isAny b || !rs.quiet && isAny b then none else (L rs k args).bind fun as => some (.bi b as)
            | .isinst => (match args with
              | [x, t] => (tyOf rs t).bind fun T => if notStar x then (E rs k x).bind fun x' => some (.isi x' T) else none
              | _ => none)
            | _ => none)
        | .Attribute o name apos => (match tabOf rs o name with
          | some l => (twoOf args).bind fun p => if !rs.quiet && notStar p.1 && notStar p.2 && decide (apos.endLine = pos.line) then (E rs k p.1).bind fun x' => (E rs k p.2).bind fun d' => some (.tget l x' d') else none
          | none => if !rs.quiet && plainBase o && decide (apos.endLine = pos.line) && decide (args.length < 25) then (E rs k o).bind fun o' => (L rs k args).bind fun as => (rs.meth name).bind fun mv => (match mv with
              | .me m => some (.meth o' m as)
              | .own c a => some (.own o' c a name as)) else none)
        | _ => none) else none
    | .Attribute o name _ => if plainBase o then (E rs k o).bind fun o' => (rs.attr name).bind fun c => some (.attr o' c name) else none
    | .Subscript o i _ => (match partsOf i with
      | some p => (E rs k o).bind fun o' => (optE (E rs k) p.1).bind fun a' => (optE (E rs k) p.2).bind fun b' => some (.slc o' a' b')
      | none => (E rs k o).bind fun o' => (E rs k i).bind fun i' => some (.sub o' i'))
    | .List xs _ => (L rs k xs).bind fun xs' => if xs.length < 1000 then some (.list xs') else none
    | .Tuple xs _ _ => (L rs k xs).bind fun xs' => if xs.length < 1000 then some (.tuple xs') else none
    | .Dict ks vs _ => if ks.isEmpty && vs.isEmpty then some .dict0 else none
    | .ListComp elt gens sc _ => (genOf gens).bind fun g => (match g with
      | (x, iter, ifs) => if !rs.quiet && decide (sc.kind = .function) && compNames rs sc.names x && decide (k < rs.N) && notStar iter then (E rs k iter).bind fun iter' =>
          (E (rsComp rs sc.names x k) (k + 1) elt).bind fun elt' => (L (rsComp rs sc.names x k) (k + 1) ifs).bind fun ifs' => some (.comp k elt' iter' ifs') else none)
    | .NamedExpr .. => none
    | .Lambda .. => none
    | .IfExp .. => none
    | .Set .. => none
    | .SetComp .. => none
    | .DictComp .. => none
    | .GeneratorExp .. => none
    | .Await .. => none
    | .Yield .. => none
    | .YieldFrom .. => none
    | .FormattedValue .. => none
    | .JoinedStr .. => none
    | .Starred .. => none
    | .Slice .. => none
noncomputable def cLF (E : Rsv → Nat → Expr → Option AE) (L : Rsv → Nat → List Expr → Option (List AE)) (rs : Rsv) (k : Nat) (es : List Expr) : Option (List AE) := match es with
    | [] => some []
    | e :: r => if notStar e then (E rs k e).bind fun e' => (L rs k r).bind fun r' => some (e' :: r') else none
noncomputable def cEL : Nat → (Rsv → Nat → Expr → Option AE) × (Rsv → Nat → List Expr → Option (List AE))
  | 0 => (fun _ _ _ => none, fun _ _ _ => none)
  | n + 1 => (cEF (cEL n).1 (cEL n).2, cLF (cEL n).1 (cEL n).2)
noncomputable def cE (n : Nat) : Rsv → Nat → Expr → Option AE := (cEL n).1
noncomputable def cEs (n : Nat) : Rsv → Nat → List Expr → Option (List AE) := (cEL n).2

noncomputable def cT (n : Nat) (rs : Rsv) (k : Nat) (t : Expr) : Option AT := match t with
  | .Name x _ => (rs.slot x).bind fun i => some (.loc i)
  | .Attribute o name _ => (cE n rs k o).bind fun o' => (rs.attr name).bind fun c => some (.attr o' c name)
  | .Subscript o i _ => if isSlice i then none else (cE n rs k o).bind fun o' => (cE n rs k i).bind fun i' => some (.sub o' i')
  | _ => none
/-- a statement that is safe in a handler -/
noncomputable def calmOf (rs : Rsv) (t : Stmt) : Option AS := match retOf t with
  | some e => (constOf e).bind fun a => some (.ret a)
  | none => (asgOf t).bind fun p => (nameOf p.1).bind fun y => (rs.slot y).bind fun i => (constOf p.2).bind fun a => some (.assign (.loc i) a)
noncomputable def oneH : List ExceptHandler → Option (Option Expr × Option Str × List Stmt)
  | h :: r => if r.isEmpty then (match h with | .ExceptHandler t n b _ => some (t, n, b)) else none
  | _ => none
noncomputable def handOf (rs : Rsv) (hs : List ExceptHandler) : Option (Addr × AS) := (oneH hs).bind fun h => if h.2.1.isNone then h.1.bind fun e => (excOf rs e).bind fun c => (match h.2.2 with
  | [s] => (calmOf rs s).bind fun s' => some (c, s')
  | _ => none) else none
/-- except C as e -/
noncomputable def asOfH (rs : Rsv) (hs : List ExceptHandler) : Option (Addr × Nat × List Stmt) := (oneH hs).bind fun h => h.2.1.bind fun y => (rs.slot y).bind fun i => h.1.bind fun e => (excOf rs e).bind fun c => if rs.cel y || h.2.2.isEmpty then none else some (c, i, h.2.2)
noncomputable def cSF (n : Nat) (T : Rsv → Nat → List Stmt → Option (List AS)) (rs : Rsv) (k : Nat) (s : Stmt) : Option AS := match s with
    | .Expr e _ => if isComp e then none else (cE n rs k e).bind fun e' => some (.expr e')
    | .Pass _ => some .pass
    | .Return v _ => (match v with
      | some e => (cE n rs k e).bind fun e' => some (.ret e')
      | none => some (.ret (.cst .none)))
    | .Assign ts v _ => (match ts with
      | [t] => (cE n rs k v).bind fun v' => (cT n rs k t).bind fun t' => some (.assign t' v')
      | _ => none)
    | .If t b o _ => (cE n rs k t).bind fun t' => (T rs k b).bind fun b' => (T rs k o).bind fun o' => some (.ite t' b' o')
    | .For t iter b o _ => if !rs.quiet && o.isEmpty && notStar iter then (nameOf t).bind fun x => (rs.slot x).bind fun i => (cE n rs k iter).bind fun iter' => (T rs k b).bind fun b' => some (.for i iter' b') else none
    | .Raise e c _ => if rs.quiet then none else if deadOf rs e then some .dead else if c.isNone then (raiseOf rs e).bind fun r => some (.raise r.1 r.2) else none
    | .AugAssign .. => none
    | .While .. => none
    | .FunctionDef .. => none
    | .AsyncFunctionDef .. => none
    | .ClassDef .. => none
    | .Delete .. => none
    | .TypeAlias .. => none
    | .AnnAssign .. => none
    | .AsyncFor .. => none
    | .With .. => none
    | .AsyncWith .. => none
    | .Match .. => none
    | .Try b hs o f _ => if !rs.quiet && o.isEmpty && f.isEmpty then (match handOf rs hs with
      | some h => (T rs k b).bind fun b' => some (.try b' h.1 [h.2])
      | none => (asOfH rs hs).bind fun h => (T rs k b).bind fun b' => (T { rs with quiet := true } k h.2.2).bind fun h' => some (.tryas b' h.1 h.2.1 h')) else none
    | .TryStar .. => none
    | .Assert .. => none
    | .Import .. => none
    | .ImportFrom .. => none
    | .Global .. => none
    | .Nonlocal .. => none
    | .Break .. => none
    | .Continue .. => none
noncomputable def cTF (S : Rsv → Nat → Stmt → Option AS) (T : Rsv → Nat → List Stmt → Option (List AS)) (rs : Rsv) (k : Nat) (ss : List Stmt) : Option (List AS) := match ss with
    | [] => some []
    | s :: r => (S rs k s).bind fun s' => (T rs k r).bind fun r' => some (s' :: r')
noncomputable def cSL : Nat → (Rsv → Nat → Stmt → Option AS) × (Rsv → Nat → List Stmt → Option (List AS))
  | 0 => (fun _ _ _ => none, fun _ _ _ => none)
  | n + 1 => (cSF n (cSL n).2, cTF (cSL n).1 (cSL n).2)
noncomputable def cS (n : Nat) : Rsv → Nat → Stmt → Option AS := (cSL n).1
noncomputable def cSs (n : Nat) : Rsv → Nat → List Stmt → Option (List AS) := (cSL n).2
end Mine
namespace Mine
open PySem
open Sem (wp)
/-- t keeps I at its every step (and calls nothing) -/
noncomputable def Pres {α : Type} (I : Heap → Prop) : Sem α → Prop
  | .pure _ => True
  | .raise _ => True
  | .unsupported _ => True
  | .finish _ => True
  | .rule _ k => Pres I (k ())
  | .at _ k => Pres I (k ())
  | .load _ _ k => ∀ o, Pres I (k o)
  | .update a _ f k => (∀ h, I h → I (h.update a f)) ∧ Pres I (k ())
  | .alloc o k => (∀ h, I h → I (h.push o)) ∧ ∀ a, Pres I (k a)
  | .ask k => ∀ x, Pres I (k x)
  | .stack k => ∀ l, Pres I (k l)
  | _ => False
section
variable {α β : Type} {I : Heap → Prop} {M : Model} {Γ : Ctx} {A : Around}
theorem wp_pres {t : Sem α} : ∀ {Q : α → Pos → Shared → Prop} {E : Value → Pos → Shared → Prop} {p : Pos} {s : Shared}, Pres I t → I s.heap → wp M Γ t Q E p s →
    wp M Γ t (fun a p s => Q a p s ∧ I s.heap) (fun e p s => E e p s ∧ I s.heap) p s := by
  induction t with
  | pure a => intro Q E p s _ hi h; rw [wp] at h ⊢; exact ⟨h, hi⟩
  | raise e => intro Q E p s _ hi h; rw [wp] at h ⊢; exact ⟨h, hi⟩
  | unsupported w => intro Q E p s _ hi h; rw [wp] at h; exact h.elim
  | finish w => intro Q E p s _ hi h; rw [wp] at h; exact h.elim
  | rule t k ih => intro Q E p s hp hi h; rw [wp] at h ⊢; exact ih () hp hi h
  | «at» q k ih => intro Q E p s hp hi h; rw [wp] at h ⊢; exact ih () hp hi h
  | load a q k ih => intro Q E p s hp hi h; rw [wp] at h ⊢; obtain ⟨o, h1, h2⟩ := h; exact ⟨o, h1, ih o (hp o) hi h2⟩
  | update a q f k ih => intro Q E p s hp hi h; rw [wp] at h ⊢; exact ⟨h.1, ih () hp.2 (hp.1 _ hi) h.2⟩
  | alloc o k ih => intro Q E p s hp hi h; rw [wp] at h ⊢; exact ih _ (hp.2 _) (hp.1 _ hi) h
  | ask k ih => intro Q E p s hp hi h; rw [wp] at h ⊢; exact ih _ (hp _) hi h
  | stack k ih => intro Q E p s hp hi h; rw [wp] at h ⊢; exact ih _ (hp _) hi h
  | _ => intro Q E p s hp hi h; exact hp.elim
theorem wpAny_pres {t : Sem α} {Q : α → Shared → Prop} {E : Value → Shared → Prop} {s : Shared} (hp : Pres I t) (hi : I s.heap) (h : wpAny M A t Q E s) : wpAny M A t (fun a s => Q a s ∧ I s.heap) (fun e s => E e s ∧ I s.heap) s :=
  fun Γ p hg => wp_pres hp hi (h Γ p hg)
theorem pres_bind {t : Sem α} {f : α → Sem β} (h : Pres I t) (g : ∀ a, Pres I (f a)) : Pres I (t >>= f) := by
  show Pres I (Sem.bind t f)
  induction t with
  | pure a => exact g a
  | raise e => trivial
  | unsupported w => trivial
  | finish w => trivial
  | rule t k ih => exact ih () h
  | «at» q k ih => exact ih () h
  | load a q k ih => exact fun o => ih o (h o)
  | update a q f k ih => exact ⟨h.1, ih () h.2⟩
  | alloc o k ih => exact ⟨h.1, fun a => ih a (h.2 a)⟩
  | ask k ih => exact fun o => ih o (h o)
  | stack k ih => exact fun o => ih o (h o)
  | _ => exact h.elim
end
/-- the object at x is a record without a dict, with nothing in its third field -/
noncomputable def ExI (x : Addr) (h : Heap) : Prop := ∃ oe vs, h.get? x = some oe ∧ oe.dict = none ∧ oe.data = .fields vs ∧ vs[2]? = some .none
theorem ExI.push {x : Addr} {h : Heap} (i : ExI x h) (o : Obj) : ExI x (h.push o) := by
  obtain ⟨oe, vs, h1, h2⟩ := i
  exact ⟨oe, vs, Heap.get?_push_of_some _ h1, h2⟩
theorem ExI.field {x a : Addr} {h : Heap} (i : ExI x h) {k : Nat} (hk : k ≠ 2) (v : Value) : ExI x (h.update a (Obj.mapFields (·.setIfInBounds k v))) := by
  obtain ⟨oe, vs, h1, h2, h3, h4⟩ := i
  by_cases e : a = x
  · subst e
    have hd := Obj.data_mapFields h3 (·.setIfInBounds k v)
    refine ⟨_, _, Heap.get?_update_self _ h1 (Obj.isFreed_of_fields hd), ?_, hd, ?_⟩
    · obtain ⟨c, d, da, sl⟩ := oe
      cases h3
      exact h2
    · rw [Array.getElem?_setIfInBounds_ne hk]; exact h4
  · exact ⟨oe, vs, (Heap.get?_update_other _ _ e).trans h1, h2, h3, h4⟩
theorem ExI.slots {x a : Addr} {h : Heap} (i : ExI x h) (f : Obj → Array (Option Value)) : ExI x (h.update a fun o => { o with slots := f o }) := by
  obtain ⟨oe, vs, h1, h2, h3, h4⟩ := i
  by_cases e : a = x
  · subst e
    exact ⟨_, vs, Heap.get?_update_self _ h1 (Obj.isFreed_of_fields (vs := vs) h3), h2, h3, h4⟩
  · exact ⟨oe, vs, (Heap.get?_update_other _ _ e).trans h1, h2, h3, h4⟩
section
variable {x : Addr}
theorem pres_field {v : Value} {i : Nat} : Pres (ExI x) (field v i) := by
  unfold field fieldsOf
  refine pres_bind ?_ fun vs => ?_
  · cases v with
    | ref a =>
      refine pres_bind (fun o => trivial) fun o => ?_
      split <;> trivial
    | _ => trivial
  · split <;> trivial
theorem pres_setField {v : Value} {i : Nat} (hi : i ≠ 2) {u : Value} : Pres (ExI x) (setField v i u) := by
  unfold setField
  cases v with
  | ref a =>
    show Pres _ (updateField a i u)
    unfold updateField
    refine pres_bind (fun o => trivial) fun o => ?_
    split
    · split
      · exact ⟨fun h q => q.field hi u, trivial⟩
      · trivial
    · trivial
  | _ => trivial
theorem pres_import {env : Env} {outer : List Env} : Pres (ExI x) (behindIsImport env outer) := by
  unfold behindIsImport
  split
  · trivial
  · split
    · trivial
    · exact pres_bind pres_field fun _ => trivial
theorem pres_back {env : Env} {b : Bool} : ∀ {l : List Env}, Pres (ExI x) (keptBack env b l)
  | [] => by
    show Pres _ (if _ then _ else _)
    split
    · trivial
    · refine pres_bind ?_ fun _ => trivial
      unfold underTheClaimsCaller
      exact pres_bind (fun _ => trivial) fun _ => trivial
  | _ :: _ => trivial
theorem pres_ready : ∀ l : List Env, Pres (ExI x) (readyFrames l)
  | [] => trivial
  | env :: outer => by
    unfold readyFrames
    split
    · refine pres_bind (fun o => trivial) fun o => ?_
      split
      · trivial
      · refine pres_bind pres_import fun b => pres_bind pres_back fun v => ?_
        refine pres_bind ⟨fun h q => q.slots _, trivial⟩ fun _ => pres_ready outer
    · trivial
theorem pres_frameOf {env : Env} : Pres (ExI x) (frameOf env) := by
  unfold frameOf
  refine pres_bind (pres_bind (fun _ => trivial) fun l => ?_) fun o => ?_
  · trivial
  · refine pres_bind ?_ fun r => ?_
    · unfold frameObject
      split
      · trivial
      · exact pres_bind (pres_ready _) fun _ => trivial
    · split <;> trivial
theorem pres_note {v : Value} {env : Env} : Pres (ExI x) (noteFrame v env) := by
  have tail : ∀ (f : Addr) (hd : Value) (b : Bool), Pres (ExI x) (do let a ← frameOf env; let pl ← entryPlaceOf f b; let r ← EntryCells.newEntry hd a .none (rawInt f) .none pl; setField v 1 r) := fun f hd b => by
    refine pres_bind pres_frameOf fun a => pres_bind ?_ fun pl => pres_bind ?_ fun r => pres_setField (by decide)
    · unfold entryPlaceOf
      refine pres_bind (fun _ => trivial) fun l => ?_
      split
      · split <;> trivial
      · trivial
    · show Pres _ (newObj (.type "traceback") (.fields _))
      generalize ([hd, a, Value.none, rawInt f, Value.none] ++ if pl.isEmpty = true then List.replicate 6 Value.none else pl).toArray = ws
      unfold newObj
      dsimp only
      split
      · trivial
      · exact ⟨fun h q => q.push _, fun _ => trivial⟩
  unfold noteFrame
  split
  · refine pres_bind pres_field fun hd => ?_
    split
    · refine pres_bind pres_field fun y => ?_
      split
      · trivial
      · exact pres_bind (pres_setField (by decide)) fun _ => tail _ _ _
    · exact tail _ _ _
  · trivial
theorem pres_flight {v : Value} {o : Option Addr} : Pres (ExI x) (setFlight v o) := by
  unfold setFlight
  refine pres_bind pres_field fun tb => ?_
  split
  · exact pres_setField (by decide)
  · trivial
end
end Mine
namespace Mine
open PySem PyProof.Rows

theorem some_in {α : Type} {x y : α} {G : α → Prop} (h : some x = some y) (k : G x) : G y := by cases h; exact k
theorem no_some {α : Type} {y : α} {G : Prop} (h : (none : Option α) = some y) : G := by cases h

noncomputable def F2 {α β : Type} (R : α → β → Prop) : List α → List β → Prop
  | [], [] => True
  | a :: as, b :: bs => R a b ∧ F2 R as bs
  | _, _ => False

section
variable {α β : Type} {R : α → β → Prop}
theorem F2.length : ∀ {as : List α} {bs : List β}, F2 R as bs → as.length = bs.length
  | [], [], _ => rfl
  | _ :: _, _ :: _, h => by simp [F2.length h.2]
  | [], _ :: _, h => h.elim
  | _ :: _, [], h => h.elim
theorem F2.mono {S : α → β → Prop} (hs : ∀ a b, R a b → S a b) : ∀ {as : List α} {bs : List β}, F2 R as bs → F2 S as bs
  | [], [], _ => trivial
  | _ :: _, _ :: _, h => ⟨hs _ _ h.1, F2.mono hs h.2⟩
  | [], _ :: _, h => h.elim
  | _ :: _, [], h => h.elim
theorem F2.get : ∀ {as : List α} {bs : List β} {i : Nat} {b : β}, F2 R as bs → bs[i]? = some b → ∃ a, as[i]? = some a ∧ R a b
  | [], [], _, _, _, e => by simp at e
  | a :: _, b' :: _, 0, b, h, e => by simp at e; subst e; exact ⟨a, by simp, h.1⟩
  | _ :: _, _ :: _, i + 1, b, h, e => by simpa using F2.get h.2 (by simpa using e)
  | [], _ :: _, _, _, h, _ => h.elim
  | _ :: _, [], _, _, h, _ => h.elim
theorem F2.append : ∀ {as as' : List α} {bs bs' : List β}, F2 R as bs → F2 R as' bs' → F2 R (as ++ as') (bs ++ bs')
  | [], _, [], _, _, h' => h'
  | _ :: _, _, _ :: _, _, h, h' => ⟨h.1, F2.append h.2 h'⟩
  | [], _, _ :: _, _, h, _ => h.elim
  | _ :: _, _, [], _, h, _ => h.elim
theorem F2.set : ∀ {as : List α} {bs : List β} {i : Nat} {a : α} {b : β}, F2 R as bs → R a b → F2 R (as.set i a) (bs.set i b)
  | [], [], _, _, _, _, _ => trivial
  | _ :: _, _ :: _, 0, _, _, h, h' => ⟨h', h.2⟩
  | _ :: _, _ :: _, _ + 1, _, _, h, h' => ⟨h.1, F2.set h.2 h'⟩
  | [], _ :: _, _, _, _, h, _ => h.elim
  | _ :: _, [], _, _, _, h, _ => h.elim
theorem F2.take : ∀ {as : List α} {bs : List β} (n : Nat), F2 R as bs → F2 R (as.take n) (bs.take n)
  | [], [], n, _ => by cases n <;> trivial
  | _ :: _, _ :: _, 0, _ => trivial
  | _ :: _, _ :: _, n + 1, h => ⟨h.1, F2.take n h.2⟩
  | [], _ :: _, _, h => h.elim
  | _ :: _, [], _, h => h.elim
theorem F2.drop : ∀ {as : List α} {bs : List β} (n : Nat), F2 R as bs → F2 R (as.drop n) (bs.drop n)
  | [], [], n, _ => by cases n <;> trivial
  | _ :: _, _ :: _, 0, h => h
  | _ :: _, _ :: _, n + 1, h => by simpa using F2.drop n h.2
  | [], _ :: _, _, h => h.elim
  | _ :: _, [], _, h => h.elim
theorem F2.snoc {as : List α} {bs : List β} {a : α} {b : β} (h : F2 R as bs) (h' : R a b) : F2 R (as ++ [a]) (bs ++ [b]) := h.append ⟨h', trivial⟩
end

noncomputable def topV (v : Value) : Bool := match v with
  | .ref _ => true
  | _ => false

/-- a value of the model is an abstract one, tokens forgotten -/
inductive VRel (ι : List Addr) : Value → AV → Prop
  | none : VRel ι .none .none
  | bool (b : Bool) : VRel ι (.bool b) (.bool b)
  | int (i : Int) (t : Tok) : VRel ι (.int i t) (.int i)
  | str (x : Str) (t : Tok) : VRel ι (.str x t) (.str x)
  | obj {a : Addr} {i : Nat} : ι[i]? = some a → VRel ι (.ref a) (.obj i)
  | top (v : Value) : topV v = true → VRel ι v (.top v)

noncomputable def Pre (ι ι' : List Addr) : Prop := ∃ r, ι' = ι ++ r
theorem Pre.refl (ι : List Addr) : Pre ι ι := ⟨[], by simp⟩
theorem Pre.trans {a b c : List Addr} (x : Pre a b) (y : Pre b c) : Pre a c := by
  obtain ⟨r, rfl⟩ := x; obtain ⟨q, rfl⟩ := y; exact ⟨r ++ q, by simp⟩
theorem Pre.snoc (ι : List Addr) (a : Addr) : Pre ι (ι ++ [a]) := ⟨[a], rfl⟩
theorem Pre.get {ι ι' : List Addr} (p : Pre ι ι') {i : Nat} {a : Addr} (h : ι[i]? = some a) : ι'[i]? = some a := by
  obtain ⟨r, rfl⟩ := p
  rw [List.getElem?_append_left (List.getElem?_eq_some_iff.mp h).1]; exact h
theorem VRel.mono {ι ι' : List Addr} (p : Pre ι ι') {v : Value} {a : AV} (h : VRel ι v a) : VRel ι' v a := by
  cases h with
  | none => exact .none
  | bool b => exact .bool b
  | int i t => exact .int i t
  | str x t => exact .str x t
  | obj h => exact .obj (p.get h)
  | top v h => exact .top v h

noncomputable def NsAt (ι : List Addr) : Option Value → Option AV → Prop
  | some v, some a => VRel ι v a
  | none, none => True
  | _, _ => False
theorem NsAt.mono {ι ι' : List Addr} (p : Pre ι ι') : ∀ {v : Option Value} {a : Option AV}, NsAt ι v a → NsAt ι' v a
  | some _, some _, h => VRel.mono p h
  | none, none, _ => trivial
  | some _, none, h => h.elim
  | none, some _, h => h.elim
section
variable (prog : Program) (w : World)
noncomputable def ORel (ι : List Addr) (o : Obj) : AO → Prop
  | .ro xs => (∃ vs n, o.cls = .type "list" ∧ o.data = .seq vs n ∧ F2 (VRel ι) vs.toList xs) ∧ xs.length ≤ line
  | .list xs => (∃ vs n, o = { cls := .type "list", data := .seq vs n } ∧ F2 (VRel ι) vs.toList xs) ∧ xs.length ≤ line
  | .tuple xs => (∃ vs n, o = { cls := .type "tuple", data := .seq vs n } ∧ F2 (VRel ι) vs.toList xs) ∧ xs.length ≤ line
  | .dict es => (∃ kvs, o.IsDictOf (intKind prog w) kvs ∧ F2 (fun kv e => kv.1 = e.1 ∧ VRel ι kv.2 e.2) kvs es) ∧ es.length ≤ line
  | .inst c d => o.cls = .ref c ∧ o.data = .plain ∧ ∃ dx, o.dict = some dx ∧ ι[d]? = some dx
  | .ns fs => (∃ es ep, o.data = .dict es ep ∧ StrKeys es ∧ ∀ x, NsAt ι (nsFind es x) (lookS fs x)) ∧ (∃ es ep, o.data = .dict es ep ∧ es.size ≤ fs.length) ∧ fs.length ≤ 500
  | .range a b => (∃ t u v, o = { cls := .type "range", data := .fields #[.int a t, .int b u, .int 1 v] }) ∧ smallR a b = true
  | .slice l u => o.cls = .type "slice" ∧ ∃ lv uv, o.data = .fields #[lv, uv, .none] ∧ VRel ι lv l ∧ VRel ι uv u
  | .keys d => o.cls = .type "dict_keys" ∧ ∃ dd, o.data = .fields #[.ref dd] ∧ ι[d]? = some dd
  | .exc c => o.cls = .ref c ∧ ∃ vs, o.data = .fields vs
  | .exr c => o.cls = .ref c ∧ o.dict = none ∧ ∃ vs, o.data = .fields vs ∧ vs[2]? = some .none
end

theorem ORel.mono {prog : Program} {w : World} {ι ι' : List Addr} (p : Pre ι ι') {o : Obj} {ao : AO} (h : ORel prog w ι o ao) : ORel prog w ι' o ao := by
  cases ao with
  | ro xs => obtain ⟨⟨vs, n, a, b, c⟩, d⟩ := h; exact ⟨⟨vs, n, a, b, c.mono fun _ _ => VRel.mono p⟩, d⟩
  | list xs => obtain ⟨⟨vs, n, b, c⟩, d⟩ := h; exact ⟨⟨vs, n, b, c.mono fun _ _ => VRel.mono p⟩, d⟩
  | tuple xs => obtain ⟨⟨vs, n, b, c⟩, d⟩ := h; exact ⟨⟨vs, n, b, c.mono fun _ _ => VRel.mono p⟩, d⟩
  | dict es => obtain ⟨⟨kvs, a, b⟩, c⟩ := h; exact ⟨⟨kvs, a, b.mono fun _ _ x => ⟨x.1, x.2.mono p⟩⟩, c⟩
  | inst c d => obtain ⟨a, b, dx, e, f⟩ := h; exact ⟨a, b, dx, e, p.get f⟩
  | ns fs => obtain ⟨⟨es, n, a, b, c⟩, d⟩ := h; exact ⟨⟨es, n, a, b, fun x => (c x).mono p⟩, d⟩
  | range a b => exact h
  | slice l u => obtain ⟨a, lv, uv, b, c, d⟩ := h; exact ⟨a, lv, uv, b, c.mono p, d.mono p⟩
  | keys d => obtain ⟨a, dd, b, c⟩ := h; exact ⟨a, dd, b, p.get c⟩
  | exc c => exact h
  | exr c => exact h

noncomputable def isRo (o : AO) : Bool := match o with
  | .ro _ => true
  | .exr _ => true
  | _ => false

inductive Loc where
  | loc (x : Str)
  | cell (c : Addr)
  | at (C : Addr) (x : Str)
  | gone

structure Cx where
  Kp : Addr → Option Obj
  L : Addr
  locs : List Loc
  s₀ : Shared
  ros : List Addr
  fr : List Addr

/-- the thing o is still at b; if b is a frame, its slots may have changed -/
noncomputable def Fz (fr : List Addr) (h : Heap) (b : Addr) (o : Obj) : Prop := ∃ o', h.get? b = some o' ∧ (o' = o ∨ (b ∈ fr ∧ ∃ sl, o' = { o with slots := sl }))
theorem Fz.ext {fr : List Addr} {h h' : Heap} {b : Addr} {o : Obj} (x : Fz fr h b o) (k : ∀ o', h.get? b = some o' → h'.get? b = some o') : Fz fr h' b o :=
  let ⟨o', e, q⟩ := x; ⟨o', k o' e, q⟩
theorem Fz.get {fr : List Addr} {h : Heap} {b : Addr} {o : Obj} (x : Fz fr h b o) (hb : b ∉ fr) : h.get? b = some o := by
  obtain ⟨o', e, rfl | ⟨q, _⟩⟩ := x
  · exact e
  · exact absurd q hb
theorem Fz.data {fr : List Addr} {h : Heap} {b : Addr} {o : Obj} (x : Fz fr h b o) : ∃ o', h.get? b = some o' ∧ o'.data = o.data := by
  obtain ⟨o', e, rfl | ⟨_, sl, rfl⟩⟩ := x
  · exact ⟨_, e, rfl⟩
  · exact ⟨_, e, rfl⟩

structure CxOk (X : Cx) : Prop where
  inj : ∀ (i j : Nat) (x : Str), X.locs[i]? = some (Loc.loc x) → X.locs[j]? = some (Loc.loc x) → i = j
  cinj : ∀ (i j : Nat) (c : Addr), X.locs[i]? = some (Loc.cell c) → X.locs[j]? = some (Loc.cell c) → i = j
  kL : X.Kp X.L = none
  kc : ∀ (i : Nat) (c : Addr), X.locs[i]? = some (Loc.cell c) → X.Kp c = none ∧ c ≠ X.L
  ats : ∀ (i : Nat) (C : Addr) (x : Str), X.locs[i]? = some (Loc.at C x) → ∃ o, X.Kp C = some o
  ro : ∀ a, a ∈ X.ros → ∃ o, X.Kp a = some o
  rof : ∀ a, a ∈ X.ros → a ∉ X.fr
  frk : ∀ a, a ∈ X.fr → ∃ o, X.Kp a = some o ∧ ∀ vs, o.data ≠ .fields vs

/-- b lies apart from all that the relation speaks of -/
structure Apart (X : Cx) (ι : List Addr) (b : Addr) : Prop where
  kp : X.Kp b = none
  nin : b ∉ ι
  nL : b ≠ X.L
  nc : ∀ (i : Nat) (c : Addr), X.locs[i]? = some (Loc.cell c) → c ≠ b
/-- the exception e of the store has left a call; its last entry says fl -/
inductive Tr (X : Cx) (ι : List Addr) (σ : List AO) (e : Nat) (fl : Value) (h : Heap) : Value → Prop
  | mk {x c : Addr} {oe : Obj} {vs : Array Value} {a0 : Value} {T : Addr} {oT : Obj} {ts : Array Value} (hx : ι[e]? = some x) (hs : σ[e]? = some (.exc c)) (ho : h.get? x = some oe) (hd : oe.data = .fields vs) (h0 : vs[0]? = some a0) (h1 : vs[1]? = some (.ref T)) (hT : T ≠ x) (ap : Apart X ι T) (hoT : h.get? T = some oT) (hdT : oT.data = .fields ts) (h3 : ts[3]? = some fl) : Tr X ι σ e fl h (.ref x)
/-- the exception e of the store flies: it is new, or has left a call -/
inductive Fly0 (X : Cx) (ι : List Addr) (σ : List AO) (e : Nat) (h : Heap) : Value → Prop
  | new {x c : Addr} {oe : Obj} {vs : Array Value} {a0 : Value} (hx : ι[e]? = some x) (hs : σ[e]? = some (.exc c)) (ho : h.get? x = some oe) (hd : oe.data = .fields vs) (h0 : vs[0]? = some a0) (h1 : vs[1]? = some .none) : Fly0 X ι σ e h (.ref x)
  | on {v fl : Value} (t : Tr X ι σ e fl h v) : Fly0 X ι σ e h v
/-- and its object has no dict and no context -/
structure Fly (X : Cx) (ι : List Addr) (σ : List AO) (e : Nat) (h : Heap) (v : Value) : Prop where
  o : Fly0 X ι σ e h v
  ex : ∃ x, v = .ref x ∧ ExI x h

section
variable (prog : Program) (w : World)
structure Rel (X : Cx) (ι : List Addr) (st : ASt) (s : Shared) : Prop where
  frozen : ∀ b o, X.Kp b = some o → Fz X.fr s.heap b o
  ns : ∃ m, s.heap.Ns X.L m ∧ ∀ (i : Nat) (x : Str) (a : AV), X.locs[i]? = some (Loc.loc x) → st.ρ[i]? = some (some a) → ∃ v, m x = some v ∧ VRel ι v a
  len : ι.length = st.σ.length
  nodup : ι.Nodup
  free : ∀ (i : Nat) (a : Addr) (ao : AO), ι[i]? = some a → st.σ[i]? = some ao → (isRo ao = false → X.Kp a = none) ∧ a ≠ X.L ∧ (isRo ao = true → a ∈ X.ros)
  objs : ∀ (i : Nat) (ao : AO), st.σ[i]? = some ao → ∃ a o, ι[i]? = some a ∧ s.heap.get? a = some o ∧ ORel prog w ι o ao
  cells : ∀ (i : Nat) (c : Addr), X.locs[i]? = some (Loc.cell c) → c ∉ ι ∧ ∃ o v, s.heap.get? c = some o ∧ o.data = .cell v ∧ ∀ a, st.ρ[i]? = some (some a) → ∃ u, v = some u ∧ VRel ι u a
  comps : ∀ (i : Nat) (C : Addr) (x : Str), X.locs[i]? = some (Loc.at C x) → ∀ a, st.ρ[i]? = some (some a) → ∃ o es ep v, X.Kp C = some o ∧ o.data = .dict es ep ∧ StrKeys es ∧ nsFind es x = some v ∧ VRel ι v a
  rlen : st.ρ.length = X.locs.length
  shape : s = { X.s₀ with heap := s.heap, toks := s.toks }

/-- the tree t does what m does -/
noncomputable def SimAt (A : Around) (X : Cx) {α β : Type} (ι : List Addr) (st : ASt) (s : Shared) (t : Sem β) (m : M α) (VR : List Addr → β → α → Prop) : Prop :=
  ∀ a st', m st = some (.ok a, st') → ∀ (Q : β → Shared → Prop) (E : Value → Shared → Prop),
    (∀ ι' s' b, Pre ι ι' → Rel prog w X ι' st' s' → VR ι' b a → Q b s') → wpAny (model prog w) A t Q E s
/-- and raises what m raises -/
noncomputable def SimX (A : Around) (X : Cx) {α β : Type} (ι : List Addr) (st : ASt) (s : Shared) (t : Sem β) (m : M α) : Prop :=
  ∀ e st', m st = some (.error e, st') → ∀ (Q : β → Shared → Prop) (E : Value → Shared → Prop),
    (∀ ι' s' v, Pre ι ι' → Rel prog w X ι' st' s' → Fly X ι' st'.σ e s'.heap v → E v s') → wpAny (model prog w) A t Q E s
end
theorem noerr_eq {α : Type} {m : M α} {st : ASt} {x : Except Nat α × ASt} (h : noerr m st = some x) : ∃ r st', m st = some (.ok r, st') ∧ x = (.ok r, st') := by
  have h : (match m st with | some (.ok a, st') => some (.ok a, st') | _ => Option.none) = some x := h
  generalize m st = y at h
  match y, h with
  | some (.ok a, st'), h => exact ⟨a, st', rfl, (Option.some.inj h).symm⟩
theorem noerr_ok {α : Type} {m : M α} {st st' : ASt} {r : α} (h : noerr m st = some (.ok r, st')) : m st = some (.ok r, st') := by
  obtain ⟨_, _, e, q⟩ := noerr_eq h
  cases q; exact e
theorem noerr_no {α : Type} {m : M α} {st st' : ASt} {e : Nat} (h : noerr m st = some (.error e, st')) : False := by
  obtain ⟨_, _, _, q⟩ := noerr_eq h
  cases q
theorem isExc_at {c : Addr} {o : Option AO} (h : isExc c o = true) : o = some (.exc c) := by
  cases o with
  | none => cases h
  | some o => cases o with
    | exc d => rw [of_decide_eq_true h]
    | _ => exact Bool.noConfusion h
theorem onErr_eq {α : Type} {c : Addr} {h : M α} {r : Option (Except Nat α × ASt)} {x : Except Nat α × ASt} (e : onErr c h r = some x) : (∃ f st, r = some (.ok f, st) ∧ x = (.ok f, st)) ∨ ∃ n st, r = some (.error n, st) ∧ st.σ[n]? = some (.exc c) ∧ h st = some x := by
  match r, e with
  | some (.ok f, st), e => exact .inl ⟨f, st, rfl, (Option.some.inj e).symm⟩
  | some (.error n, st), e =>
    have e : (if isExc c st.σ[n]? = true then h st else Option.none) = some x := e
    by_cases q : isExc c st.σ[n]? = true
    · rw [if_pos q] at e
      exact .inr ⟨n, st, rfl, isExc_at q, e⟩
    · rw [if_neg q] at e; cases e
theorem bnd_err {α β : Type} {m : M α} {f : α → M β} {st st' : ASt} {e : Nat} {G : Prop} (h : bnd m f st = some (.error e, st')) (k1 : m st = some (.error e, st') → G) (k2 : ∀ a st₁, m st = some (.ok a, st₁) → f a st₁ = some (.error e, st') → G) : G := by
  unfold bnd at h
  split at h
  · cases h
  · rename_i e1; exact k2 _ _ e1 h
  · rename_i e1; cases h; exact k1 e1

section
variable {prog : Program} {w : World} {A : Around} {X : Cx} {α β γ δ : Type} {ι : List Addr} {st : ASt} {s : Shared}

theorem bnd_some {m : M α} {f : α → M β} {st st' : ASt} {r : β} (h : bnd m f st = some (.ok r, st')) : ∃ a st₁, m st = some (.ok a, st₁) ∧ f a st₁ = some (.ok r, st') := by
  unfold bnd at h
  split at h
  · first | exact no_some h | cases h
  · rename_i a st₁ e; exact ⟨a, st₁, e, h⟩
  · first | exact no_some h | cases h

theorem bnd_elim {α β : Type} {m : M α} {f : α → M β} {st st' : ASt} {b : β} {G : Prop} (h : bnd m f st = some (.ok b, st')) (k : ∀ a st₁, m st = some (.ok a, st₁) → f a st₁ = some (.ok b, st') → G) : G := by
  obtain ⟨a, s₁, h1, h2⟩ := bnd_some h; exact k a s₁ h1 h2
theorem SimAt.pure {b : β} {a : α} {VR : List Addr → β → α → Prop} (R : Rel prog w X ι st s) (v : VR ι b a) : SimAt prog w A X ι st s (pure b) (ret a) VR := by
  intro a' st' e Q E hk
  unfold ret at e; cases e
  exact wpAny_pure (hk ι s b (Pre.refl ι) R v)

/-- a leaf: no object is made or changed -/
theorem SimAt.leaf {t : Sem β} {m : M α} {VR : List Addr → β → α → Prop} (R : Rel prog w X ι st s)
    (h : ∀ a st', m st = some (.ok a, st') → st' = st ∧ ∀ (Q : β → Shared → Prop) (E : Value → Shared → Prop), (∀ b tk, VR ι b a → Q b { s with toks := tk }) → wpAny (model prog w) A t Q E s) :
    SimAt prog w A X ι st s t m VR := by
  intro a st' e Q E hk
  obtain ⟨rfl, h'⟩ := h a st' e
  refine h' Q E fun b tk v => hk ι _ b (Pre.refl ι) ?_ v
  exact ⟨R.frozen, R.ns, R.len, R.nodup, R.free, R.objs, R.cells, R.comps, R.rlen, by rw [R.shape]⟩

theorem SimAt.fail {t : Sem β} {VR : List Addr → β → α → Prop} : SimAt prog w A X ι st s t (fail : M α) VR := by
  intro a st' e; cases e

theorem Rel.toks (R : Rel prog w X ι st s) (tk : Nat) : Rel prog w X ι st { s with toks := tk } :=
  ⟨R.frozen, R.ns, R.len, R.nodup, R.free, R.objs, R.cells, R.comps, R.rlen, by rw [R.shape]⟩
theorem Rel.get (R : Rel prog w X ι st s) {i : Nat} {a : Addr} {ao : AO} (h : ι[i]? = some a) (e : st.σ[i]? = some ao) : ∃ o, s.heap.get? a = some o ∧ ORel prog w ι o ao := by
  obtain ⟨a', o, h', ho, r⟩ := R.objs i ao e
  rw [h] at h'; cases h'; exact ⟨o, ho, r⟩
theorem Rel.mem {i : Nat} {a : Addr} (h : ι[i]? = some a) : a ∈ ι := List.mem_of_getElem? h
theorem Rel.keep (R : Rel prog w X ι st s) {hb : Heap} (hk : ∀ b o, hb.get? b = some o → X.Kp b = some o) (hf : ∀ b, b ∈ X.fr → hb.get? b = none) : ∀ b o, hb.get? b = some o → s.heap.get? b = some o :=
  fun b o e => (R.frozen b o (hk b o e)).get fun q => by rw [hf b q] at e; cases e

theorem nodup_idx {l : List Addr} (h : l.Nodup) : ∀ {i j : Nat} {a : Addr}, l[i]? = some a → l[j]? = some a → i = j := by
  intro i j a h1 h2
  obtain ⟨hi, e1⟩ := List.getElem?_eq_some_iff.mp h1
  obtain ⟨hj, e2⟩ := List.getElem?_eq_some_iff.mp h2
  exact (List.getElem_inj h).mp (e1.trans e2.symm)

theorem Rel.mem_get (R : Rel prog w X ι st s) {b : Addr} (hb : b ∈ ι) : ∃ (i : Nat) (ao : AO) (ob : Obj), ι[i]? = some b ∧ st.σ[i]? = some ao ∧ s.heap.get? b = some ob := by
  obtain ⟨i, hi⟩ := List.mem_iff_getElem?.mp hb
  have hlt : i < st.σ.length := R.len ▸ (List.getElem?_eq_some_iff.mp hi).1
  obtain ⟨a', ob, h1, h2, _⟩ := R.objs i _ (List.getElem?_eq_getElem hlt)
  rw [hi] at h1; cases h1; exact ⟨i, _, ob, hi, List.getElem?_eq_getElem hlt, h2⟩
/-- a made thing -/
theorem Rel.alloc (R : Rel prog w X ι st s) {h' : Heap} {o : Obj} {ao : AO} {a : Addr} {tk : Nat} (hfr : s.heap.get? a = none) (hkp : X.Kp a = none)
    (hext : ∀ b ob, s.heap.get? b = some ob → h'.get? b = some ob) (ho : h'.get? a = some o) (hr : ORel prog w (ι ++ [a]) o ao) (hro : isRo ao = false := by rfl) :
    Rel prog w X (ι ++ [a]) ⟨st.σ ++ [ao], st.ρ⟩ { s with heap := h', toks := tk } := by
  have p := Pre.snoc ι a
  have hnot : a ∉ ι := fun hm => by obtain ⟨_, _, ob, _, _, e⟩ := R.mem_get hm; rw [hfr] at e; cases e
  have hnl : a ≠ X.L := fun e => by
    obtain ⟨m, ⟨oL, _, _, hL, _⟩, _⟩ := R.ns
    rw [← e, hfr] at hL; cases hL
  refine ⟨fun b ob e => (R.frozen b ob e).ext (hext b), ?_, by simp [R.len], ?_, ?_, ?_, ?_, ?_, R.rlen, by rw [R.shape]⟩
  · obtain ⟨m, hm, hv⟩ := R.ns
    exact ⟨m, hm.keeps hext, fun i x b h1 h2 => by obtain ⟨v, e1, e2⟩ := hv i x b h1 h2; exact ⟨v, e1, e2.mono p⟩⟩
  · rw [List.nodup_append]
    exact ⟨R.nodup, by simp, fun b hb c hc e => by simp at hc; subst hc; subst e; exact hnot hb⟩
  · intro i b bo hb hbo
    by_cases hi : i < ι.length
    · rw [List.getElem?_append_left hi] at hb
      rw [List.getElem?_append_left (R.len ▸ hi)] at hbo
      exact R.free i b bo hb hbo
    · have : i = ι.length := by
        have := (List.getElem?_eq_some_iff.mp hb).1
        simp at this; omega
      subst this
      simp at hb; subst hb
      have hbo' : bo = ao := by rw [R.len] at hbo; simpa using hbo.symm
      subst hbo'
      exact ⟨fun _ => hkp, hnl, fun q => by rw [hro] at q; cases q⟩
  · intro i b e
    by_cases hi : i < st.σ.length
    · rw [List.getElem?_append_left hi] at e
      obtain ⟨a', ob, h1, h2, h3⟩ := R.objs i b e
      exact ⟨a', ob, p.get h1, hext _ _ h2, h3.mono p⟩
    · have : i = st.σ.length := by
        have := (List.getElem?_eq_some_iff.mp e).1
        simp at this; omega
      subst this
      simp at e; subst e
      refine ⟨a, o, ?_, ho, hr⟩
      rw [← R.len]; simp
  · intro i c hc
    obtain ⟨h1, ob, v, h2, h3, h4⟩ := R.cells i c hc
    refine ⟨fun hm => ?_, ob, v, hext _ _ h2, h3, fun b hb => by obtain ⟨u, e1, e2⟩ := h4 b hb; exact ⟨u, e1, e2.mono p⟩⟩
    rcases List.mem_append.mp hm with hm | hm
    · exact h1 hm
    · simp at hm; subst hm; rw [hfr] at h2; cases h2
  · intro i C x hc b hb
    obtain ⟨ob, es, ep, v, h1, h2, h3, h4, h5⟩ := R.comps i C x hc b hb
    exact ⟨ob, es, ep, v, h1, h2, h3, h4, h5.mono p⟩

/-- a changed thing -/
theorem Rel.upd (R : Rel prog w X ι st s) {h' : Heap} {o : Obj} {ao ao₀ : AO} {a : Addr} {i tk : Nat} (hi : ι[i]? = some a) (h0 : st.σ[i]? = some ao₀) (hro : isRo ao₀ = false)
    (hext : ∀ b ob, b ≠ a → s.heap.get? b = some ob → h'.get? b = some ob) (ho : h'.get? a = some o) (hr : ORel prog w ι o ao) (hro' : isRo ao = false := by rfl) :
    Rel prog w X ι ⟨st.σ.set i ao, st.ρ⟩ { s with heap := h', toks := tk } := by
  have hm := Rel.mem hi
  have hf := R.free i a ao₀ hi h0
  have hlt : i < st.σ.length := R.len ▸ (List.getElem?_eq_some_iff.mp hi).1
  refine ⟨fun b ob e => (R.frozen b ob e).ext fun o' => hext b o' fun q => ?_, ?_, by simp [R.len], R.nodup, ?_, ?_, ?_, R.comps, R.rlen, by rw [R.shape]⟩
  · subst q; rw [hf.1 hro] at e; cases e
  · obtain ⟨m, hn, hv⟩ := R.ns
    exact ⟨m, hn.at' fun ob e => hext _ ob (fun q => hf.2.1 q.symm) e, hv⟩
  · intro j b bo hb hbo
    by_cases hj : i = j
    · subst hj
      rw [List.getElem?_set_self hlt] at hbo; cases hbo
      rw [hi] at hb; cases hb
      exact ⟨fun _ => hf.1 hro, hf.2.1, fun q => by rw [hro'] at q; cases q⟩
    · rw [List.getElem?_set_ne hj] at hbo
      exact R.free j b bo hb hbo
  · intro j b e
    by_cases hj : i = j
    · subst hj
      rw [List.getElem?_set_self hlt] at e; cases e
      exact ⟨a, o, hi, ho, hr⟩
    · rw [List.getElem?_set_ne hj] at e
      obtain ⟨a', ob, h1, h2, h3⟩ := R.objs j b e
      exact ⟨a', ob, h1, hext _ _ (fun q => hj (nodup_idx R.nodup hi (q ▸ h1))) h2, h3⟩
  · intro j c hc
    obtain ⟨h1, ob, v, h2, h3, h4⟩ := R.cells j c hc
    exact ⟨h1, ob, v, hext _ _ (fun q => h1 (q ▸ hm)) h2, h3, h4⟩

theorem Rel.modules {hb : Heap} (hk : ∀ b o, hb.get? b = some o → X.Kp b = some o) (hm : ∃ o, hb.get? sysModules = some o) (R : Rel prog w X ι st s) {i : Nat} {a : Addr} {ao : AO} (hi : ι[i]? = some a) (h0 : st.σ[i]? = some ao) (hro : isRo ao = false) : (a == sysModules) = false := by
  obtain ⟨o, ho⟩ := hm
  have := (R.free i a ao hi h0).1 hro
  cases q : a == sysModules with
  | false => rfl
  | true => rw [beq_iff_eq.mp q, hk _ _ ho] at this; cases this
end
end Mine
namespace Mine
open PySem PyProof.Rows

theorem guard_some {b : Bool} {st st' : ASt} {u : Unit} (h : guard b st = some (.ok u, st')) : b = true ∧ st' = st := by
  unfold guard at h
  split at h
  · rename_i e; cases h; exact ⟨e, rfl⟩
  · first | exact no_some h | cases h
theorem ofOpt_some {α : Type} {o : Option α} {st st' : ASt} {a : α} (h : ofOpt o st = some (.ok a, st')) : o = some a ∧ st' = st := by
  unfold ofOpt at h
  split at h
  · cases h; exact ⟨rfl, rfl⟩
  · first | exact no_some h | cases h
theorem ret_some {α : Type} {x a : α} {st st' : ASt} (h : ret x st = some (.ok a, st')) : a = x ∧ st' = st := by unfold ret at h; cases h; exact ⟨rfl, rfl⟩
theorem deref_some {i : Nat} {o : AO} {st st' : ASt} (h : deref i st = some (.ok o, st')) : st.σ[i]? = some o ∧ st' = st := by
  unfold deref at h
  split at h
  · rename_i e; cases h; exact ⟨e, rfl⟩
  · first | exact no_some h | cases h
theorem upd_some {i : Nat} {o : AO} {st st' : ASt} {u : Unit} (h : Mine.upd i o st = some (.ok u, st')) : st' = ⟨st.σ.set i o, st.ρ⟩ := by
  unfold Mine.upd at h; cases h; rfl
theorem alloc_some {o : AO} {st st' : ASt} {v : AV} (h : alloc o st = some (.ok v, st')) : v = .obj st.σ.length ∧ st' = ⟨st.σ ++ [o], st.ρ⟩ := by
  unfold alloc at h; cases h; exact ⟨rfl, rfl⟩
theorem fail_some {α : Type} {a : α} {st st' : ASt} (h : (fail : M α) st = some (.ok a, st')) : False := by cases h

section
variable {prog : Program} {w : World} {A : Around} {X : Cx} {ι : List Addr} {st : ASt} {s : Shared} {v u : Value} {a b : AV}

abbrev VR0 : List Addr → Value → AV → Prop := VRel
abbrev BR : List Addr → Bool → Bool → Prop := fun _ x y => x = y
abbrev CR : List Addr → Value → Bool → Prop := fun _ x y => x = .bool y
abbrev UR : List Addr → Unit → Unit → Prop := fun _ _ _ => True

theorem VRel.obj_inv {i : Nat} (h : VRel ι v (.obj i)) : ∃ c, v = .ref c ∧ ι[i]? = some c := by cases h; exact ⟨_, rfl, by assumption⟩

theorem Rel.plainList (R : Rel prog w X ι st s) {i : Nat} {c : Addr} {xs : List AV} (h : ι[i]? = some c) (e : st.σ[i]? = some (.list xs)) :
    ∃ vs n, s.heap.get? c = some { cls := .type "list", data := .seq vs n } ∧ F2 (VRel ι) vs.toList xs ∧ xs.length ≤ line := by
  obtain ⟨o, ho, ⟨vs, n, rfl, hf⟩, hl⟩ := R.get h e
  exact ⟨vs, n, ho, hf, hl⟩
theorem Rel.isList (R : Rel prog w X ι st s) {i : Nat} {c : Addr} {xs : List AV} (h : ι[i]? = some c) (e : st.σ[i]? = some (.list xs)) :
    ∃ vs, s.heap.IsList c vs ∧ F2 (VRel ι) vs.toList xs ∧ xs.length ≤ line := by
  obtain ⟨vs, n, ho, hf, hl⟩ := R.plainList h e
  exact ⟨vs, ⟨_, ho, rfl, n, rfl⟩, hf, hl⟩
theorem Rel.isTuple (R : Rel prog w X ι st s) {i : Nat} {c : Addr} {xs : List AV} (h : ι[i]? = some c) (e : st.σ[i]? = some (.tuple xs)) :
    ∃ vs, IsTup s.heap c vs ∧ F2 (VRel ι) vs.toList xs ∧ xs.length ≤ line := by
  obtain ⟨o, ho, ⟨vs, n, rfl, hf⟩, hl⟩ := R.get h e
  exact ⟨vs, ⟨_, ho, rfl, n, rfl⟩, hf, hl⟩
theorem Rel.isDict (R : Rel prog w X ι st s) {i : Nat} {c : Addr} {es : List (Int × AV)} (h : ι[i]? = some c) (e : st.σ[i]? = some (.dict es)) :
    ∃ kvs, s.heap.DictOf (intKind prog w) c kvs ∧ F2 (fun kv e => kv.1 = e.1 ∧ VRel ι kv.2 e.2) kvs es ∧ es.length ≤ line := by
  obtain ⟨o, ho, ⟨kvs, hd, hf⟩, hl⟩ := R.get h e
  exact ⟨kvs, Heap.dictOf_iff.mpr ⟨o, ho, hd⟩, hf, hl⟩
theorem f2_size {vs : Array Value} {xs : List AV} (h : F2 (VRel ι) vs.toList xs) : vs.size = xs.length := by rw [← h.length]; simp

theorem get_size_none (h : Heap) : h.get? h.objs.size = none := by
  cases q : h.get? h.objs.size with
  | none => rfl
  | some o => exact absurd (Heap.lt_size q) (Nat.lt_irrefl _)
theorem Rel.kp_none (R : Rel prog w X ι st s) {c : Addr} (h : s.heap.get? c = none) : X.Kp c = none := by
  cases q : X.Kp c with
  | none => rfl
  | some o => obtain ⟨o', h', _⟩ := R.frozen c o q; rw [h'] at h; cases h
theorem Rel.push (R : Rel prog w X ι st s) {o : Obj} {ao : AO} {tk : Nat} (hf : o.isFreed = false) (hr : ORel prog w (ι ++ [s.heap.objs.size]) o ao) (hro : isRo ao = false := by rfl) :
    Rel prog w X (ι ++ [s.heap.objs.size]) ⟨st.σ ++ [ao], st.ρ⟩ { s with heap := s.heap.push o, toks := tk } :=
  R.alloc (get_size_none _) (R.kp_none (get_size_none _)) (fun _ _ e => Heap.get?_push_of_some _ e) (Heap.get?_push_size _ hf) hr hro
theorem Rel.newIdx (R : Rel prog w X ι st s) (c : Addr) : (ι ++ [c])[st.σ.length]? = some c := by rw [← R.len]; simp
theorem sim_push (R : Rel prog w X ι st s) {t : Sem Value} {o : Obj} {ao : AO} (tk : Nat) (hf : o.isFreed = false ∧ isRo ao = false) (hr : ORel prog w (ι ++ [s.heap.objs.size]) o ao)
    (h : ∀ (Q : Value → Shared → Prop) (E : Value → Shared → Prop), Q (.ref s.heap.objs.size) { s with heap := s.heap.push o, toks := tk } → wpAny (model prog w) A t Q E s) : SimAt prog w A X ι st s t (alloc ao) VR0 := by
  intro r st' e Q E k
  obtain ⟨rfl, rfl⟩ := alloc_some e
  exact h Q E (k _ _ _ (Pre.snoc _ _) (R.push hf.1 hr hf.2) (.obj (R.newIdx _)))

theorem sizeLine_val : sizeLine = 16777216 := by decide +kernel
theorem line_val : line = 16000000 := rfl

theorem sim_truthy (R : Rel prog w X ι st s) (hv : VRel ι v a) : SimAt prog w A X ι st s (PySem.truthy v) (truthy a) BR := by
  refine SimAt.leaf R fun b st' e => ?_
  cases hv with
  | none => obtain ⟨rfl, rfl⟩ := ret_some e; exact ⟨rfl, fun Q E k => PyProof.Rows.truthy_none (k _ s.toks rfl)⟩
  | bool c => obtain ⟨rfl, rfl⟩ := ret_some e; exact ⟨rfl, fun Q E k => wpAny_truthy_bool (k _ s.toks rfl)⟩
  | int i t => obtain ⟨rfl, rfl⟩ := ret_some e; exact ⟨rfl, fun Q E k => PyProof.Rows.truthy_int (k _ s.toks rfl)⟩
  | str x t => exact no_some e
  | obj h => exact no_some e
  | top v _ => exact absurd e (fun h => by cases h)

theorem mul_ok {x y : Int} (h : y.natAbs < 2 ^ 64 ∨ x.natAbs < 2 ^ 64) : IntMulOk x y := by
  have key : ∀ z : Int, z.natAbs < 2 ^ 64 → Builtin.Int.intBits z ≤ 64 := by
    intro z hz
    unfold Builtin.Int.intBits
    split
    · exact Nat.zero_le _
    · have h0 : z.natAbs ≠ 0 := by
        rename_i h; intro q; exact h (by simpa using q)
      have := (Nat.log2_lt h0).mpr hz
      omega
  rcases h with h | h
  · exact IntMulOk.of_right (key _ h)
  · exact IntMulOk.of_left (key _ h)

theorem sim_intOp {op : Operator} {f : Int → Int → M AV} (hv : VRel ι v a) (hu : VRel ι u b)
    (h : ∀ x t y t', SimAt prog w A X ι st s (binaryOp op (.int x t) (.int y t')) (f x y) VR0) : SimAt prog w A X ι st s (binaryOp op v u) (intOp f a b) VR0 := by
  intro r st' e Q E k
  cases hv with
  | int x t =>
    cases hu with
    | int y t' => exact h x t y t' r st' e Q E k
    | _ => first | exact no_some e | cases e
  | _ => first | exact no_some e | cases e
theorem sim_addOp (R : Rel prog w X ι st s) (hv : VRel ι v a) (hu : VRel ι u b) : SimAt prog w A X ι st s (binaryOp .Add v u) (addOp a b) VR0 := by
  intro r st' e Q E k
  cases hv with
  | int x t =>
    cases hu with
    | int y t' => obtain ⟨rfl, rfl⟩ := ret_some e; exact PyProof.Rows.add_int (k _ _ _ (Pre.refl ι) (R.toks _) (.int _ _))
    | _ => first | exact no_some e | cases e
  | str x t =>
    cases hu with
    | str y t' =>
      refine bnd_elim e fun _ st₁ e1 e2 => ?_
      obtain ⟨hx, rfl⟩ := guard_some e1
      obtain ⟨rfl, rfl⟩ := ret_some e2
      have hx := of_decide_eq_true hx
      rw [line_val] at hx
      exact PyProof.Rows.add_str (fun t' tk => k _ _ _ (Pre.refl ι) (R.toks _) (.str _ _)) (by rw [sizeLine_val]; omega)
    | _ => first | exact no_some e | cases e
  | obj h =>
    cases hu with
    | obj h' =>
      refine bnd_elim e fun o st₁ e1 e2 => ?_
      obtain ⟨e1, rfl⟩ := deref_some e1
      refine bnd_elim e2 fun p st₂ e3 e4 => ?_
      obtain ⟨e3, rfl⟩ := deref_some e3
      cases o with
      | list xs =>
        cases p with
        | list ys =>
          obtain ⟨vs, ⟨⟨cls, dd, data, sl⟩, ho, hc, n, hd⟩, hf, _⟩ := R.isList h e1
          obtain ⟨us, ⟨⟨cls2, dd2, data2, sl2⟩, ho2, hc2, n2, hd2⟩, hf', _⟩ := R.isList h' e3
          dsimp only at e4
          refine bnd_elim e4 fun _ st₃ e5 e6 => ?_
          obtain ⟨hx, rfl⟩ := guard_some e5
          have hx := of_decide_eq_true hx
          simp only at hc hd hc2 hd2
          subst hc hd hc2 hd2
          have hsz : vs.size + us.size ≤ line := by rw [f2_size hf, f2_size hf']; exact hx
          have hsz' : vs.size + us.size ≤ sizeLine := by rw [line_val] at hsz; rw [sizeLine_val]; omega
          refine sim_push (A := A) R (ao := .list (xs ++ ys)) (o := { cls := .type "list", data := .seq (vs ++ us) }) s.toks ⟨rfl, rfl⟩ ⟨⟨_, 0, rfl, ?_⟩, by rw [List.length_append]; exact hx⟩ (fun Q E q => by
            refine concat_meets ⟨_, ho, rfl⟩ ⟨_, ho2, rfl⟩ noFill_list_add seq_list_add PySem.F.slot_list_add PySem.F.entry_list_add (PySem.F.args_list_add_2 _ _) (list_addW _ _ vs us n n2 dd dd2 sl sl2 hsz') ⟨ho, ho2, q⟩) r st' e6 Q E k
          rw [Array.toList_append]
          exact (hf.mono fun _ _ => VRel.mono (Pre.snoc _ _)).append (hf'.mono fun _ _ => VRel.mono (Pre.snoc _ _))
        | _ => exact (fail_some e4).elim
      | _ => exact (fail_some e4).elim
    | _ => first | exact no_some e | cases e
  | _ => first | exact no_some e | cases e
theorem mulOk_small {x : Str} {n : Int} (h0 : 0 ≤ n) (h1 : n ≤ 1000) (h2 : x.length ≤ 1000) : MulOk x n := by
  refine ⟨by rw [decide_eq_false (by omega), decide_eq_false (by omega)]; rfl, fun hn _ h => ?_, fun hn _ => ?_⟩
  · have hn : 1 ≤ n := by omega
    have : (1000 : Int) ≤ (2 ^ 63 - 1) / n := (Int.le_ediv_iff_mul_le (by omega)).mpr (by omega)
    omega
  · obtain ⟨m, rfl⟩ := Int.eq_ofNat_of_zero_le h0
    have hm : m ≤ 1000 := by omega
    have := Nat.mul_le_mul h2 hm
    refine decide_eq_false ?_
    rw [sizeLine_val]
    show ¬ (x.length * m > _)
    omega
theorem sim_mulOp (R : Rel prog w X ι st s) (hv : VRel ι v a) (hu : VRel ι u b) : SimAt prog w A X ι st s (binaryOp .Mult v u) (mulOp a b) VR0 := by
  have num : SimAt prog w A X ι st s (binaryOp .Mult v u) (intOp (fun x y => bnd (guard (decide (y.natAbs < 2 ^ 64) || decide (x.natAbs < 2 ^ 64))) fun _ => ret (.int (x * y))) a b) VR0 := by
    refine sim_intOp hv hu fun x t y t' r st' e Q E k => ?_
    refine bnd_elim e fun _ st₁ e1 e2 => ?_
    obtain ⟨hx, rfl⟩ := guard_some e1
    obtain ⟨rfl, rfl⟩ := ret_some e2
    exact PyProof.Rows.mul_int (k _ _ _ (Pre.refl ι) (R.toks _) (.int _ _)) (mul_ok (by simpa using hx))
  cases hv with
  | str x t =>
    cases hu with
    | int y t' =>
      intro r st' e Q E k
      refine bnd_elim e fun _ st₁ e1 e2 => ?_
      obtain ⟨hx, rfl⟩ := guard_some e1
      obtain ⟨rfl, rfl⟩ := ret_some e2
      have hx := of_decide_eq_true hx
      exact SB.mul (mulOk_small hx.1 hx.2.1 hx.2.2) fun t' tk => k _ _ _ (Pre.refl ι) (R.toks _) (.str _ _)
    | _ => exact SimAt.fail
  | _ => exact num
theorem sim_binop (R : Rel prog w X ι st s) {op : Operator} (hv : VRel ι v a) (hu : VRel ι u b) : SimAt prog w A X ι st s (binaryOp op v u) (binop op a b) VR0 := by
  cases op with
  | Add => exact sim_addOp R hv hu
  | Sub =>
    refine sim_intOp hv hu fun x t y t' r st' e Q E k => ?_
    obtain ⟨rfl, rfl⟩ := ret_some e; exact PyProof.Rows.sub_int (k _ _ _ (Pre.refl ι) (R.toks _) (.int _ _))
  | Mult => exact sim_mulOp R hv hu
  | FloorDiv =>
    refine sim_intOp hv hu fun x t y t' r st' e Q E k => ?_
    refine bnd_elim e fun _ st₁ e1 e2 => ?_
    obtain ⟨hx, rfl⟩ := guard_some e1
    obtain ⟨rfl, rfl⟩ := ret_some e2
    simp only [Bool.and_eq_true, bne_iff_ne, decide_eq_true_eq] at hx
    exact PyProof.Rows.floordiv_int hx.1 (k _ _ _ (Pre.refl ι) (R.toks _) (.int _ _)) (.inl (PyProof.noPylong_small hx.2))
  | Mod =>
    refine sim_intOp hv hu fun x t y t' r st' e Q E k => ?_
    refine bnd_elim e fun _ st₁ e1 e2 => ?_
    obtain ⟨hx, rfl⟩ := guard_some e1
    obtain ⟨rfl, rfl⟩ := ret_some e2
    exact PyProof.Rows.mod_int (by simpa using hx) (k _ _ _ (Pre.refl ι) (R.toks _) (.int _ _))
  | Pow =>
    refine sim_intOp hv hu fun x t y t' r st' e Q E k => ?_
    refine bnd_elim e fun _ st₁ e1 e2 => ?_
    obtain ⟨hx, rfl⟩ := guard_some e1
    obtain ⟨rfl, rfl⟩ := ret_some e2
    rw [Bool.and_eq_true] at hx
    exact PyProof.Rows.pow_int (of_decide_eq_true hx.1) (of_decide_eq_true hx.2) (k _ _ _ (Pre.refl ι) (R.toks _) (.int _ _))
  | _ => exact SimAt.fail

open PySem.SeqAt in
noncomputable def eqV (y x : Value) : Bool := match y, x with
  | .none, .none => true
  | .bool a, .bool b => a == b
  | .int a _, .int b _ => a == b
  | .str a _, .str b _ => a == b
  | _, _ => false
inductive EqP : AV → AV → Bool → Prop where
  | nn : EqP .none .none true
  | ni (i : Int) : EqP .none (.int i) false
  | iN (i : Int) : EqP (.int i) .none false
  | bb (x y : Bool) : EqP (.bool x) (.bool y) (x == y)
  | ii (x y : Int) : EqP (.int x) (.int y) (x == y)
  | ss (x y : Str) : EqP (.str x) (.str y) (decide (x = y))
theorem eqPlain_inv {a b : AV} {c : Bool} (h : eqPlain a b = some c) : EqP a b c := by
  cases a <;> cases b <;> first | (cases h; constructor) | cases h
open PySem.SeqAt in
theorem eqPlain_at (hv : VRel ι v a) (hu : VRel ι u b) {c : Bool} (h : eqPlain a b = some c) : c = eqV v u ∧ EqAt A s v u (eqV v u) := by
  cases eqPlain_inv h <;> cases hv <;> cases hu
  · exact ⟨rfl, EqAt.same _⟩
  · exact ⟨rfl, EqAt.none_int _ _⟩
  · exact ⟨rfl, EqAt.int_none _ _⟩
  · exact ⟨rfl, EqAt.bool_bool _ _⟩
  · exact ⟨rfl, EqAt.int_int _ _ _ _⟩
  · exact ⟨rfl, EqAt.str_str _ _ _ _⟩

theorem inList_at : ∀ {vs : List Value} {xs : List AV} {c : Bool}, F2 (VRel ι) vs xs → VRel ι v a → inList a xs = some c → (∀ y ∈ vs, PySem.SeqAt.EqAt A s y v (eqV y v)) ∧ c = vs.any (eqV · v)
  | [], [], c, _, _, h => by cases h; exact ⟨(fun _ h => nomatch h), rfl⟩
  | y :: vs, x :: xs, c, hf, hv, h => by
    unfold inList at h
    split at h
    · rename_i b1 c1 h1 h2
      cases h
      obtain ⟨e1, a1⟩ := eqPlain_at (A := A) (s := s) hf.1 hv h1
      obtain ⟨al, ec⟩ := inList_at hf.2 hv h2
      refine ⟨fun z hz => ?_, by rw [List.any_cons, e1, ec]⟩
      cases hz with
      | head => exact a1
      | tail _ hz => exact al z hz
    · first | exact no_some h | cases h
  | [], _ :: _, _, h, _, _ => h.elim
  | _ :: _, [], _, h, _, _ => h.elim

/-- both questions, == and != -/
noncomputable def EqBoth (prog : Program) (w : World) (A : Around) (s : Shared) (v u : Value) (r : Bool) : Prop := ∀ (Q E : Value → Shared → Prop),
  ((∀ tk, Q (.bool r) { s with toks := tk }) → wpAny (model prog w) A (compareOp .Eq v u) Q E s) ∧ ((∀ tk, Q (.bool !r) { s with toks := tk }) → wpAny (model prog w) A (compareOp .NotEq v u) Q E s)
theorem eq_plain (hv : VRel ι v a) (hu : VRel ι u b) {r : Bool} (h : eqPlain a b = some r) : EqBoth prog w A s v u r := by
  intro Q E
  cases eqPlain_inv h <;> cases hv <;> cases hu
  · exact ⟨fun k => EqNone.eq_none_none (k s.toks), fun k => EqNone.ne_none_none (k s.toks)⟩
  · exact ⟨fun k => EqNone.eq_none_int (k s.toks), fun k => EqNone.ne_none_int (k s.toks)⟩
  · exact ⟨fun k => EqNone.eq_int_none (k s.toks), fun k => EqNone.ne_int_none (k s.toks)⟩
  · exact ⟨fun k => PyProof.Rows.eq_bool (k s.toks), fun k => PyProof.Rows.ne_bool (k s.toks)⟩
  · exact ⟨fun k => PyProof.Rows.eq_int (k s.toks), fun k => PyProof.Rows.ne_int (k s.toks)⟩
  · exact ⟨fun k => PyProof.Rows.eq_str (k s.toks), fun k => PyProof.Rows.ne_str (k s.toks)⟩
theorem eq_core (hU : A.units + 1 < cLine) (R : Rel prog w X ι st s) (hv : VRel ι v a) (hu : VRel ι u b) {r : Bool} {st' : ASt} (e : eqv a b st = some (.ok r, st')) : st' = st ∧ EqBoth prog w A s v u r := by
  obtain ⟨e1, rfl⟩ := ofOpt_some e
  exact ⟨rfl, eq_plain hv hu e1⟩
theorem sim_eq (hU : A.units + 1 < cLine) (R : Rel prog w X ι st s) (hv : VRel ι v a) (hu : VRel ι u b) : SimAt prog w A X ι st s (compareOp .Eq v u) (eqv a b) CR :=
  SimAt.leaf R fun r st' e => ⟨(eq_core hU R hv hu e).1, fun Q E k => ((eq_core hU R hv hu e).2 Q E).1 fun tk => k _ tk rfl⟩
theorem sim_ne (hU : A.units + 1 < cLine) (R : Rel prog w X ι st s) (hv : VRel ι v a) (hu : VRel ι u b) : SimAt prog w A X ι st s (compareOp .NotEq v u) (bnd (eqv a b) fun t => ret (!t)) CR := by
  refine SimAt.leaf R fun r st' e => ?_
  refine bnd_elim e fun r0 st0 e er => ?_
  obtain ⟨rfl, rfl⟩ := ret_some er
  exact ⟨(eq_core hU R hv hu e).1, fun Q E k => ((eq_core hU R hv hu e).2 Q E).2 fun tk => k _ tk rfl⟩

theorem look_valueAt : ∀ {kvs : List (Int × Value)} {es : List (Int × AV)} (k : Int), F2 (fun kv e => kv.1 = e.1 ∧ VRel ι kv.2 e.2) kvs es →
    (match look es k with | some a => ∃ v, valueAt kvs k = some v ∧ VRel ι v a | none => valueAt kvs k = none)
  | [], [], _, _ => rfl
  | (k1, v1) :: kvs, (k2, a2) :: es, k, h => by
    obtain ⟨⟨hk, hv⟩, hr⟩ := h
    simp only at hk
    subst hk
    have ih := look_valueAt k hr
    unfold look valueAt
    simp only [List.find?_cons]
    by_cases q : k1 = k
    · subst q; simp only [decide_true, if_true, Option.map_some]; exact ⟨v1, rfl, hv⟩
    · simp only [q, decide_false, if_false]; exact ih
  | [], _ :: _, _, h => h.elim
  | _ :: _, [], _, h => h.elim

theorem sim_memb {hb : Heap} (hk : ∀ b o, hb.get? b = some o → X.Kp b = some o) (hm : ∃ o, hb.get? sysModules = some o) (neg : Bool) (R : Rel prog w X ι st s) (hv : VRel ι v a) (hu : VRel ι u b) :
    SimAt prog w A X ι st s (compareOp (if neg then .NotIn else .In) v u) (bnd (memb a b) fun t => ret (if neg then !t else t)) CR := by
  refine SimAt.leaf R fun r st' e => ?_
  refine bnd_elim e fun r0 st0 e er => ?_
  obtain ⟨rfl, rfl⟩ := ret_some er
  cases hu with
  | obj h =>
    refine bnd_elim e fun o st₁ e1 e2 => ?_
    obtain ⟨e1, rfl⟩ := deref_some e1
    cases o with
    | list xs =>
      obtain ⟨vs, hl, hf, _⟩ := R.isList h e1
      obtain ⟨e5, rfl⟩ := ofOpt_some e2
      obtain ⟨al, ec⟩ := inList_at (A := A.in1) (s := s) hf hv e5
      refine ⟨rfl, fun Q E k => ?_⟩
      cases neg with
      | false => exact SeqAt.in_listAt (eqV · v) hl (fun y hy => al y (by simpa using hy)) (k _ s.toks (by show Value.bool _ = Value.bool _; rw [ec]; simp))
      | true => exact SeqAt.notIn_listAt (eqV · v) hl (fun y hy => al y (by simpa using hy)) (k _ s.toks (by show Value.bool _ = Value.bool _; rw [ec]; simp))
    | tuple xs =>
      obtain ⟨vs, hl, hf, _⟩ := R.isTuple h e1
      obtain ⟨e5, rfl⟩ := ofOpt_some e2
      obtain ⟨al, ec⟩ := inList_at (A := A.in1) (s := s) hf hv e5
      refine ⟨rfl, fun Q E k => ?_⟩
      cases neg with
      | false => exact SeqAt.in_tupleAt (eqV · v) hl (fun y hy => al y (by simpa using hy)) (k _ s.toks (by show Value.bool _ = Value.bool _; rw [ec]; simp))
      | true => exact SeqAt.notIn_tupleAt (eqV · v) hl (fun y hy => al y (by simpa using hy)) (k _ s.toks (by show Value.bool _ = Value.bool _; rw [ec]; simp))
    | dict es =>
      cases hv with
      | int i t =>
        obtain ⟨rfl, rfl⟩ := ret_some e2
        obtain ⟨kvs, hD, hf, _⟩ := R.isDict h e1
        have hval := look_valueAt i hf
        have hsome : (valueAt kvs i).isSome = (look es i).isSome := by
          cases q : look es i with
          | none => rw [q] at hval; rw [hval]; rfl
          | some a => rw [q] at hval; obtain ⟨v, hv, _⟩ := hval; rw [hv]; rfl
        refine ⟨rfl, fun Q E k => ?_⟩
        cases neg with
        | false => exact wpAny_in_of (intKind_is prog w i t) (R.modules hk hm h e1 rfl) hD.mapOf (k _ _ (by show Value.bool _ = Value.bool _; rw [hsome]; rfl))
        | true => exact wpAny_notIn_of (intKind_is prog w i t) (R.modules hk hm h e1 rfl) hD.mapOf (k _ _ (by show Value.bool _ = Value.bool _; rw [hsome]; rfl))
      | _ => exact (fail_some e2).elim
    | _ => exact (fail_some e2).elim
  | str x t =>
    cases hv with
    | str y u =>
      obtain ⟨rfl, rfl⟩ := ret_some e
      refine ⟨rfl, fun Q E k => ?_⟩
      cases neg with
      | false => exact SB.contains (k _ s.toks rfl)
      | true => exact SB.notContains (k _ s.toks rfl)
    | _ => first | exact no_some e | cases e
  | _ => first | exact no_some e | cases e

theorem sim_isOp (neg : Bool) (R : Rel prog w X ι st s) (hv : VRel ι v a) (hu : VRel ι u b) :
    SimAt prog w A X ι st s (compareOp (if neg then .IsNot else .Is) v u) (isOp neg a b) CR := by
  refine SimAt.leaf R fun r st' e => ?_
  cases hu with
  | none =>
    obtain ⟨rfl, rfl⟩ := ret_some e
    refine ⟨rfl, fun Q E k => ?_⟩
    have hn : (v == Value.none) = isNone a := by
      cases hv <;> first | rfl | skip
      rename_i h; cases v <;> first | rfl | cases h
    cases neg with
    | false => exact is_none (k _ s.toks (by show Value.bool _ = Value.bool _; rw [hn]; rfl))
    | true => exact isNot_none (k _ s.toks (by show Value.bool _ = Value.bool _; rw [hn]; rfl))
  | _ => first | exact no_some e | cases e
theorem sim_intCmp {op : CmpOp} {f : Int → Int → Bool} (R : Rel prog w X ι st s) (hv : VRel ι v a) (hu : VRel ι u b)
    (h : ∀ x t y t' (Q : Value → Shared → Prop) (E : Value → Shared → Prop), Q (.bool (f x y)) s → wpAny (model prog w) A (compareOp op (.int x t) (.int y t')) Q E s) :
    SimAt prog w A X ι st s (compareOp op v u) (intCmp f a b) CR := by
  refine SimAt.leaf R fun r st' e => ?_
  cases hv with
  | int x t =>
    cases hu with
    | int y t' =>
      obtain ⟨rfl, rfl⟩ := ret_some e
      exact ⟨rfl, fun Q E k => h x t y t' Q E (k _ s.toks rfl)⟩
    | _ => first | exact no_some e | cases e
  | _ => first | exact no_some e | cases e
theorem sim_cmpop {hb : Heap} (hU : A.units + 1 < cLine) (hk : ∀ b o, hb.get? b = some o → X.Kp b = some o) (hm : ∃ o, hb.get? sysModules = some o) {op : CmpOp} (R : Rel prog w X ι st s) (hv : VRel ι v a) (hu : VRel ι u b) :
    SimAt prog w A X ι st s (compareOp op v u) (cmpop op a b) CR := by
  cases op with
  | Eq => exact sim_eq hU R hv hu
  | NotEq => exact sim_ne hU R hv hu
  | In =>
    intro r st' e Q E k
    refine sim_memb hk hm false R hv hu r st' ?_ Q E k
    have e : memb a b st = some (.ok r, st') := e
    unfold bnd; rw [e]; rfl
  | NotIn => exact sim_memb hk hm true R hv hu
  | Is => exact sim_isOp false R hv hu
  | IsNot => exact sim_isOp true R hv hu
  | Lt => exact sim_intCmp R hv hu fun x t y t' Q E h => PyProof.Rows.lt_int h
  | LtE => exact sim_intCmp R hv hu fun x t y t' Q E h => PyProof.Rows.le_int h
  | Gt => exact sim_intCmp R hv hu fun x t y t' Q E h => PyProof.Rows.gt_int h
  | GtE => exact sim_intCmp R hv hu fun x t y t' Q E h => PyProof.Rows.ge_int h
end
end Mine
namespace Mine
open PySem PySem.W PyProof.Rows

section
variable {prog : Program} {w : World} {A : Around} {X : Cx} {ι : List Addr} {st : ASt} {s : Shared} {v u : Value} {a b : AV}

theorem idx_seq {k : Int} {n j : Nat} (h : idx? k n = some j) : seqIndex? k n = some j ∧ -(n : Int) ≤ k ∧ k < n := by
  unfold idx? at h
  unfold seqIndex?
  split at h
  · split at h
    · first | exact no_some h | cases h
      rename_i h1 h2
      have : ¬ k < 0 := by omega
      simp only [this, if_false]
      refine ⟨?_, by omega, h2⟩
      simp [h1, h2]
    · first | exact no_some h | cases h
  · split at h
    · first | exact no_some h | cases h
      rename_i h1 h2
      have : k < 0 := by omega
      simp only [this, if_true]
      refine ⟨?_, h2, by omega⟩
      have a1 : 0 ≤ k + n := by omega
      have a2 : k + n < n := by omega
      simp [a1, a2]
    · first | exact no_some h | cases h

theorem sim_getIdx (R : Rel prog w X ι st s) {i : Nat} {c : Addr} (h : ι[i]? = some c) {k : Int} {t : Tok} :
    SimAt prog w A X ι st s (PySem.getItem (.ref c) (.int k t)) (getIdx i k) VR0 := by
  refine SimAt.leaf R fun r st' e => ?_
  refine bnd_elim e fun o st₁ e1 e2 => ?_
  obtain ⟨e1, rfl⟩ := deref_some e1
  cases o with
  | ro xs =>
    refine bnd_elim e2 fun j st₂ e3 e4 => ?_
    obtain ⟨g3, rfl⟩ := ofOpt_some e3
    obtain ⟨e5, rfl⟩ := ofOpt_some e4
    obtain ⟨o, ho, ⟨vs, n, hc, hd, hf⟩, hb⟩ := R.get h e1
    have hl : s.heap.IsList c vs := ⟨o, ho, hc, n, hd⟩
    obtain ⟨v, hv, hr⟩ := hf.get e5
    obtain ⟨_, q2, q3⟩ := idx_seq g3
    have hs := f2_size hf
    rw [line_val] at hb
    refine ⟨rfl, fun Q E K => ?_⟩
    by_cases h0 : 0 ≤ k
    · have : j = k.toNat := by
        unfold idx? at g3; rw [if_pos h0, if_pos q3] at g3; cases g3; rfl
      subst this
      exact wpAny_getItem_list hl h0 (by omega) (by simpa using hv) (K _ s.toks hr)
    · have : j = (k + xs.length).toNat := by
        unfold idx? at g3; rw [if_neg h0, if_pos q2] at g3; cases g3; rfl
      subst this
      exact wpAny_getItem_list_neg hl (by omega) (by omega) (by omega) (by rw [hs]; simpa using hv) (K _ s.toks hr)
  | list xs =>
    refine bnd_elim e2 fun j st₂ e3 e4 => ?_
    obtain ⟨g3, rfl⟩ := ofOpt_some e3
    obtain ⟨e5, rfl⟩ := ofOpt_some e4
    obtain ⟨vs, hl, hf, hb⟩ := R.isList h e1
    obtain ⟨v, hv, hr⟩ := hf.get e5
    obtain ⟨_, q2, q3⟩ := idx_seq g3
    have hs := f2_size hf
    rw [line_val] at hb
    refine ⟨rfl, fun Q E K => ?_⟩
    by_cases h0 : 0 ≤ k
    · have : j = k.toNat := by
        unfold idx? at g3; rw [if_pos h0, if_pos q3] at g3; cases g3; rfl
      subst this
      exact wpAny_getItem_list hl h0 (by omega) (by simpa using hv) (K _ s.toks hr)
    · have : j = (k + xs.length).toNat := by
        unfold idx? at g3; rw [if_neg h0, if_pos q2] at g3; cases g3; rfl
      subst this
      exact wpAny_getItem_list_neg hl (by omega) (by omega) (by omega) (by rw [hs]; simpa using hv) (K _ s.toks hr)
  | tuple xs =>
    refine bnd_elim e2 fun j st₂ e3 e4 => ?_
    obtain ⟨g3, rfl⟩ := ofOpt_some e3
    obtain ⟨e5, rfl⟩ := ofOpt_some e4
    obtain ⟨vs, hl, hf, hb⟩ := R.isTuple h e1
    obtain ⟨v, hv, hr⟩ := hf.get e5
    obtain ⟨q1, q2, q3⟩ := idx_seq g3
    have hs := f2_size hf
    rw [line_val] at hb
    exact ⟨rfl, fun Q E K => PyProof.Rows.getItem_tuple hl (by omega) (by omega) (by rw [hs]; exact q1) (by simpa using hv) (K _ s.toks hr)⟩
  | dict es =>
    obtain ⟨e3, rfl⟩ := ofOpt_some e2
    obtain ⟨kvs, hD, hf, _⟩ := R.isDict h e1
    have hval := look_valueAt k hf
    rw [e3] at hval
    obtain ⟨v, hv, hr⟩ := hval
    exact ⟨rfl, fun Q E K => wpAny_getItem_of (intKind_is prog w k t) hD.mapOf hv (K _ _ hr)⟩
  | _ => exact (fail_some e2).elim

theorem put_stored : ∀ {kvs : List (Int × Value)} {es : List (Int × AV)} (k : Int) {v : Value} {a : AV}, F2 (fun kv e => kv.1 = e.1 ∧ VRel ι kv.2 e.2) kvs es → (kvs.map (·.1)).Nodup → VRel ι v a →
    F2 (fun kv e => kv.1 = e.1 ∧ VRel ι kv.2 e.2) (stored kvs k v) (put es k a)
  | [], [], _, _, _, _, _, hv => ⟨⟨rfl, hv⟩, trivial⟩
  | (k1, v1) :: kvs, (k2, a2) :: es, k, v, a, h, hn, hv => by
    obtain ⟨⟨hk, hv1⟩, hr⟩ := h
    simp only at hk
    subst hk
    simp only [List.map_cons, List.nodup_cons] at hn
    unfold stored put
    by_cases q : k1 = k
    · subst q
      have hmap : kvs.map (fun kv => if kv.1 = k1 then (kv.1, v) else kv) = kvs := map_store_of_not_mem kvs k1 v hn.1
      simp only [List.any_cons, decide_true, Bool.true_or, if_true, List.map_cons, hmap]
      exact ⟨⟨rfl, hv⟩, hr⟩
    · have ih := put_stored k hr hn.2 hv
      unfold stored at ih
      simp only [List.any_cons, q, decide_false, Bool.false_or, if_false, List.map_cons]
      by_cases q2 : kvs.any (fun kv => decide (kv.1 = k)) = true
      · rw [if_pos q2] at ih ⊢; exact ⟨⟨rfl, hv1⟩, ih⟩
      · rw [if_neg q2] at ih ⊢; exact ⟨⟨rfl, hv1⟩, ih⟩
  | [], _ :: _, _, _, _, h, _, _ => h.elim
  | _ :: _, [], _, _, _, h, _, _ => h.elim
theorem put_length : ∀ (es : List (Int × AV)) (k : Int) (a : AV), (put es k a).length ≤ es.length + 1
  | [], _, _ => by simp [put]
  | (k1, _) :: es, k, a => by
    unfold put
    split
    · simp
    · have := put_length es k a; simp; omega
theorem without_del : ∀ {kvs : List (Int × Value)} {es : List (Int × AV)} (k : Int), F2 (fun kv e => kv.1 = e.1 ∧ VRel ι kv.2 e.2) kvs es → (kvs.map (·.1)).Nodup →
    F2 (fun kv e => kv.1 = e.1 ∧ VRel ι kv.2 e.2) (without kvs k) (del es k)
  | [], [], _, _, _ => trivial
  | (k1, v1) :: kvs, (k2, a2) :: es, k, h, hn => by
    obtain ⟨⟨hk, hv1⟩, hr⟩ := h
    simp only at hk
    subst hk
    simp only [List.map_cons, List.nodup_cons] at hn
    by_cases q : k1 = k
    · subst q
      have := without_of_not_mem kvs k1 hn.1
      unfold without at this ⊢
      unfold del
      simp only [List.filter_cons, ne_eq, not_true_eq_false, decide_false, Bool.false_eq_true, if_false, if_true]
      rw [this]; exact hr
    · have ih := without_del k hr hn.2
      unfold without at ih ⊢
      unfold del
      simp only [List.filter_cons, ne_eq, q, not_false_eq_true, decide_true, if_true, if_false]
      exact ⟨⟨rfl, hv1⟩, ih⟩
  | [], _ :: _, _, h, _ => h.elim
  | _ :: _, [], _, h, _ => h.elim
theorem del_length : ∀ (es : List (Int × AV)) (k : Int), (del es k).length ≤ es.length
  | [], _ => Nat.le_refl _
  | (k1, _) :: es, k => by
    unfold del
    split
    · simp
    · have := del_length es k; simp; omega

theorem setNeg {l : Addr} {its : Array Value} {n : Nat} {k : Int} {t : Tok} {v : Value} {Q : Unit → Shared → Prop} {E : Value → Shared → Prop} (ho : s.heap.get? l = some { cls := .type "list", data := .seq its n }) (h0 : k < 0) (hf : -(2 ^ 63) ≤ k) (hn : -(its.size : Int) ≤ k)
    (hQ : Q () { s with heap := s.heap.update l (Obj.mapSeq (·.setIfInBounds (k + its.size).toNat v)) }) : wpAny (model prog w) A (PySem.setItem (.ref l) (.int k t) v) Q E s := by
  have hl : s.heap.IsList l its := ⟨_, ho, rfl, n, rfl⟩
  unfold PySem.setItem
  refine wpAny_holding ?_
  refine wpAny_bind (wpAny_sequenceKey hl.typeIs (by decide) ?_)
  refine wpAny_bind (wpAny_callSpecial?_slot (name := Str.ofString "__setitem__") hl.typeIs slot_list_setitem
    (wpAny_call_entry slot_list_setitem hl.typeIs entry_list_setitem ?_ (args_list_setitem _ _ _)))
  show wpAny _ _ (Builtin.List.listSubscript? (.int k t) >>= _) _ _ s
  refine wpAny_bind (wpAny_listSubscript_int (fitsIndex_neg h0 hf) ?_)
  clear hf
  have hidx := seqIndex_neg h0 hn
  have hj : (k + its.size).toNat < its.size := by omega
  have hx : its[(k + its.size).toNat]? = some its[(k + its.size).toNat] := Array.getElem?_eq_getElem hj
  obtain ⟨j, rfl⟩ : ∃ j : Nat, k = Int.negSucc j := by
    cases k with
    | ofNat n => exact absurd h0 (Int.not_lt.mpr (Int.natCast_nonneg n))
    | negSucc n => exact ⟨n, rfl⟩
  show wpAny _ _ ((Builtin.List.listItems (.ref l) >>= fun xs => pure ((seqIndex? (Int.negSucc j) xs.size).bind fun i => xs[i]?.map (i, ·))) >>= _) _ _ s
  refine wpAny_bind (wpAny_bind ?_)
  show wpAny _ _ (seqItems? (.ref l) >>= _) _ _ s
  refine wpAny_bind (wpAny_seqItems ho rfl (wpAny_pure (wpAny_pure ?_)))
  rw [hidx]
  simp only [Option.bind_some, hx, Option.map_some]
  refine wpAny_bind (wpAny_setSeqItemAt ho rfl ?_)
  exact wpAny_pure ⟨.none, rfl, wpAny_pure hQ⟩
theorem sim_setIdx (R : Rel prog w X ι st s) {i : Nat} {c : Addr} (h : ι[i]? = some c) {k : Int} {t : Tok} (hv : VRel ι v a) :
    SimAt prog w A X ι st s (PySem.setItem (.ref c) (.int k t) v) (setIdx i k a) UR := by
  intro r st' e Q E K
  refine bnd_elim e fun o st₁ e1 e2 => ?_
  obtain ⟨e1, rfl⟩ := deref_some e1
  cases o with
  | list xs =>
    refine bnd_elim e2 fun j st₂ e3 e4 => ?_
    obtain ⟨e3, rfl⟩ := ofOpt_some e3
    rw [upd_some e4] at K
    obtain ⟨vs, n, ho, hf, hb⟩ := R.plainList h e1
    have hs := f2_size hf
    have hb' := hb
    rw [line_val] at hb
    have fin : Q () { s with heap := s.heap.update c (Obj.mapSeq (·.setIfInBounds j v)) } := by
      refine K ι _ () (Pre.refl ι) (R.upd (tk := s.toks) h e1 rfl (fun b ob hb e => (Heap.SameBut.update ..).extBut b ob hb e) (Heap.get?_update_self _ ho rfl) ⟨⟨_, _, rfl, ?_⟩, by simpa using hb'⟩) trivial
      rw [Array.toList_setIfInBounds]; exact hf.set hv
    unfold idx? at e3
    split at e3
    · rename_i h0
      split at e3
      · cases e3
        exact setAt ho h0 (by omega) (by omega) fin
      · first | exact no_some e3 | cases e3
    · rename_i h0
      split at e3
      · cases e3
        refine setNeg ho (by omega) (by omega) (by omega) ?_
        rw [hs]; exact fin
      · first | exact no_some e3 | cases e3
  | dict es =>
    refine bnd_elim e2 fun _ st₂ e3 e4 => ?_
    obtain ⟨hx, rfl⟩ := guard_some e3
    have hx := of_decide_eq_true hx
    rw [upd_some e4] at K
    obtain ⟨kvs, hD, hf, hb⟩ := R.isDict h e1
    obtain ⟨_, _, _, _, _, _, _, _, hn⟩ := id hD
    refine wpAny_setItem_pairs (intKind_is prog w k t) hD (fun h' hD' hs' => ?_) (by rw [hf.length, sizeLine_val]; rw [line_val] at hb; omega)
    obtain ⟨o', ho', hd'⟩ := Heap.dictOf_iff.mp hD'
    exact K ι _ () (Pre.refl ι) (R.upd (tk := s.toks + 1) h e1 rfl (fun b ob hb e => hs'.extBut b ob hb e) ho' ⟨⟨_, hd', put_stored k hf hn hv⟩, by have := put_length es k a; omega⟩) trivial
  | _ => exact (fail_some e2).elim
end
end Mine
namespace Mine
open PySem PySem.W PyProof.Rows

section
variable {prog : Program} {w : World} {A : Around} {X : Cx} {ι : List Addr} {st : ASt} {s : Shared} {v u : Value} {a b : AV} {K : Frag}

/-- what must stand of a class for its instances' own attributes -/
structure AttrOk (K : Frag) (C : Addr) (name : Str) : Prop where
  ga : findIn K (.ref C) "__getattribute__" = some (some (.builtin "object.__getattribute__"))
  dict : hasDictIn K C = true
  none : findIn K (.ref C) name = some none
  sa : findIn K (.ref C) "__setattr__" = some (some (.builtin "object.__setattr__"))
  over : plainOver K C = true

theorem lookIn_of {o : Obj} {es : Array DictEntry} {ep : Nat} {name : Str} (hd : o.data = .dict es ep) (hk : StrKeys es) : lookIn name o = some (nsFind es name) := by
  unfold lookIn
  rw [hd]
  dsimp only
  unfold nsFind findBy
  rw [← Array.find?_toList]
  cases q : es.toList.find? (fun e => e.key.isStr name) with
  | some e => rfl
  | none =>
    have : es.toList.any (·.refKey) = false := by
      rw [List.any_eq_false]
      intro e he
      obtain ⟨n, t, h⟩ := hk e (Array.mem_toList_iff.mp he)
      unfold DictEntry.refKey
      rw [h]; simp
    simp [this]

theorem lookS_putS : ∀ (fs : List (Str × AV)) (n x : Str) (v : AV), lookS (putS fs n v) x = if n = x then some v else lookS fs x
  | [], n, x, v => by simp [putS, lookS]
  | (y, z) :: r, n, x, v => by
    unfold putS
    by_cases h : y = n
    · subst h
      simp only [if_true]
      unfold lookS
      by_cases h2 : y = x <;> simp [h2]
    · simp only [h, if_false]
      unfold lookS
      rw [lookS_putS r n x v]
      by_cases h2 : y = x
      · subst h2; rw [if_pos rfl, if_neg (fun q => h q.symm)]; simp
      · simp [h2]
theorem putS_length : ∀ (fs : List (Str × AV)) (n : Str) (v : AV), (putS fs n v).length ≤ fs.length + 1
  | [], _, _ => by simp [putS]
  | (y, _) :: r, n, v => by
    unfold putS
    split
    · simp
    · have := putS_length r n v; simp; omega

theorem putS_length' : ∀ (fs : List (Str × AV)) (n : Str) (v : AV), fs.length ≤ (putS fs n v).length
  | [], _, _ => by simp [putS]
  | (y, _) :: r, n, v => by
    unfold putS
    split
    · simp
    · have := putS_length' r n v; simp; omega
theorem putS_none : ∀ {fs : List (Str × AV)} {n : Str}, lookS fs n = none → ∀ v, (putS fs n v).length = fs.length + 1
  | [], _, _, _ => by simp [putS]
  | (y, _) :: r, n, h, v => by
    unfold lookS at h
    unfold putS
    by_cases q : y = n
    · rw [if_pos q] at h; cases h
    · rw [if_neg q] at h ⊢; simp [putS_none h v]

theorem fields_some {C : Addr} {o : AV} {st st' : ASt} {df : Nat × List (Str × AV)} (h : fields C o st = some (.ok df, st')) :
    st' = st ∧ ∃ i, o = .obj i ∧ st.σ[i]? = some (.inst C df.1) ∧ st.σ[df.1]? = some (.ns df.2) := by
  unfold fields at h
  cases o with
  | obj i =>
    refine bnd_elim h fun o st₁ e1 e2 => ?_
    obtain ⟨q1, rfl⟩ := deref_some e1
    cases o with
    | inst c d =>
      refine bnd_elim e2 fun _ st₂ e3 e4 => ?_
      obtain ⟨q3, rfl⟩ := guard_some e3
      have q3 := of_decide_eq_true q3
      subst q3
      refine bnd_elim e4 fun p st₃ e5 e6 => ?_
      obtain ⟨q5, rfl⟩ := deref_some e5
      cases p with
      | ns fs => obtain ⟨rfl, rfl⟩ := ret_some e6; exact ⟨rfl, i, rfl, q1, q5⟩
      | _ => exact (fail_some e6).elim
    | _ => exact (fail_some e2).elim
  | _ => first | exact no_some h | cases h

theorem Rel.instAt (R : Rel prog w X ι st s) {i d : Nat} {c C : Addr} {fs : List (Str × AV)} (h : ι[i]? = some c) (e1 : st.σ[i]? = some (.inst C d)) (e2 : st.σ[d]? = some (.ns fs)) :
    ∃ ox dx od es ep, InstAt s.heap c ox C (some od) ∧ ox.dict = some dx ∧ ι[d]? = some dx ∧ s.heap.get? dx = some od ∧ od.data = .dict es ep ∧ StrKeys es ∧ (∀ x, NsAt ι (nsFind es x) (lookS fs x)) ∧ es.size ≤ fs.length ∧ fs.length ≤ 500 := by
  obtain ⟨o, ho, hc, hp, dx, hd, hi⟩ := R.get h e1
  obtain ⟨od, hod, ⟨es, ep, hde, hk, hn⟩, ⟨es', ep', hde', hl⟩, hl'⟩ := R.get hi e2
  rw [hde] at hde'; cases hde'
  refine ⟨o, dx, od, es, ep, ⟨ho, hc, ?_, ?_⟩, hd, hi, hod, hde, hk, hn, hl, hl'⟩
  · unfold notCls; rw [hp]
  · rw [hd]; exact hod

theorem sim_getAttr (R : Rel prog w X ι st s) (hK : K.In s.heap) {C : Addr} {name : Str} (ok : AttrOk K C name) (hv : VRel ι v a) (ex : Bool) :
    SimAt prog w A X ι st s (PySem.getAttr v name ex) (getAttr C a name) VR0 := by
  refine SimAt.leaf R fun r st' e => ?_
  refine bnd_elim e fun df st₁ e1 e2 => ?_
  obtain ⟨rfl, i, rfl, q1, q2⟩ := fields_some e1
  obtain ⟨q3, rfl⟩ := ofOpt_some e2
  obtain ⟨c, rfl, hc⟩ := hv.obj_inv
  obtain ⟨ox, dx, od, es, ep, I, hd, hi, hod, hde, hk, hn, hl, hl'⟩ := R.instAt hc q1 q2
  have hx := hn name
  rw [q3] at hx
  cases hf : nsFind es name with
  | none => rw [hf] at hx; exact hx.elim
  | some y =>
    rw [hf] at hx
    have hx : VRel ι y r := hx
    refine ⟨rfl, fun Q E k => get_value hK I ok.ga (findObj_own ok.dict ok.none rfl (by rw [lookIn_of hde hk, hf])) ?_ (k _ _ hx)⟩
    cases hx with
    | top _ h => cases y <;> first | rfl | cases h
    | _ => rfl

theorem nsSet_sized {M' : Model} {E : Value → Shared → Prop} {Q : Unit → Shared → Prop} {c : Addr} {o : Obj} {es : Array DictEntry} {ep : Nat} {name : Str} {x : Value} (ho : s.heap.get? c = some o) (hd : o.data = .dict es ep) (hk : StrKeys es)
    (hQ : ∀ h' o' es' ep', h'.get? c = some o' → o'.data = .dict es' ep' → StrKeys es' → (∀ y, nsFind es' y = if y = name then some x else nsFind es y) → (es'.size ≤ es.size ∨ (nsFind es name = none ∧ es'.size ≤ es.size + 1)) → Heap.SameBut c s.heap h' → Q () { s with heap := h', toks := s.toks + 1 }) :
    wpAny M' A (nsSet c name x) Q E s := by
  have hany : es.any (·.refKey) = false := by
    rw [Array.any_eq_false']; intro e he; obtain ⟨n, t, h⟩ := hk e he; simp [DictEntry.refKey, h]
  unfold nsSet
  refine wpAny_bind (wpAny_bind (wpAny_askSetting (wpAny_pure (wpAny_bind (wpAny_mkText (wpAny_bind (wpAny_loadPart ho ?_)))))))
  rw [hd]
  dsimp only
  rw [aRefKeyMayBeTheName_eq]
  simp only [aRefKeyMayBeTheNameByArray, hany, Bool.and_false, Bool.false_eq_true, if_false]
  refine wpAny_updatePart ho ?_
  obtain ⟨oc, od, dt, sl⟩ := o
  simp only at hd
  subst hd
  cases hi : es.findIdx? (·.key.isStr name) with
  | some i =>
    refine hQ _ _ _ ep (Heap.get?_update_self _ ho (by simp only [Obj.putName_eq, Obj.putNameByArray, hi]; rfl)) (by simp only [Obj.putName_eq, Obj.putNameByArray, hi]; rfl) (hk.modify _ _) (fun y => ?_) (.inl (by simp)) (Heap.SameBut.update ..)
    exact findBy_modify (fun n v => v.isStr n) Value.isStr_inj es name y x i hi
  | none =>
    refine hQ _ _ _ (ep + 1) (Heap.get?_update_self _ ho (by simp only [Obj.putName_eq, Obj.putNameByArray, hi]; rfl)) (by simp only [Obj.putName_eq, Obj.putNameByArray, hi]; rfl) (hk.push _ _ _ _) (fun y => ?_) (.inr ⟨?_, by simp⟩) (Heap.SameBut.update ..)
    · exact findBy_push (fun n v => v.isStr n) es name y _ _ x (fun z => by
        show (name == z) = decide (z = name)
        by_cases h : z = name
        · subst h; simp
        · have : ¬ name = z := fun e => h e.symm
          simp [h, this]) hi
    · unfold nsFind findBy
      rw [Array.find?_eq_none.mpr (fun e he => by simpa using (Array.findIdx?_eq_none_iff.mp hi) e he)]
      rfl

theorem sim_setAttr (R : Rel prog w X ι st s) (hK : K.In s.heap) {C : Addr} {name : Str} (ok : AttrOk K C name) (hv : VRel ι v a) (hu : VRel ι u b) :
    SimAt prog w A X ι st s (PySem.setAttr v name u) (setAttr C a name b) UR := by
  intro r st' e Q E k
  refine bnd_elim e fun df st₁ e1 e2 => ?_
  obtain ⟨rfl, i, rfl, q1, q2⟩ := fields_some e1
  refine bnd_elim e2 fun _ st₂ e3 e4 => ?_
  obtain ⟨q3, rfl⟩ := guard_some e3
  have q3 := of_decide_eq_true q3
  have q4 := upd_some e4
  subst q4
  obtain ⟨c, rfl, hc⟩ := hv.obj_inv
  obtain ⟨ox, dx, od, es, ep, I, hd, hi, hod, hde, hk, hn, hl, hl'⟩ := R.instAt hc q1 q2
  refine set_plain hK I ok.sa (osa_open (s := { s with toks := s.toks + 1 }) hK I ok.over (r := none) (by unfold takerIn; rw [ok.none]; rfl) fun bb => ?_)
  obtain ⟨cd, hcd, hcd'⟩ := any_some ok.dict
  obtain ⟨hx, hcl, hno, -⟩ := I
  obtain ⟨oc, odi, oda, osl⟩ := ox
  dsimp only at hcl hd
  subst hcl hd
  refine wpAny_bind (wpAny_pure (wpAny_bind (wpAny_bind (wpAny_loadPart hx (wpAny_bind ((looks_clsIn hK hcd) _ _ _ _ (fun _ _ e => e) ?_))))))
  rw [hcd']
  refine wpAny_pure (a := some dx) (wpAny_bind (wpAny_pure (wpAny_bind ?_)))
  refine nsSet_sized hod hde hk fun h' od' es' ep' hod' hde' hk' hf' hz' hsb => ?_
  refine wpAny_bind (wpAny_lookBehind hod' (by rw [hde']; exact pastItsLine_dict (by rw [sizeLine_val]; rcases hz' with hz' | ⟨_, hz'⟩ <;> omega)) (wpAny_pure ?_))
  refine k ι _ () (Pre.refl ι) (R.upd (tk := s.toks + 1 + 1) hi q2 rfl (fun b ob hb e => hsb.extBut b ob hb e) hod' ⟨⟨es', ep', hde', hk', fun x => ?_⟩, ⟨es', ep', hde', ?_⟩, ?_⟩) trivial
  rotate_left
  · have g1 := putS_length df.2 name b
    have g2 := putS_length' df.2 name b
    rcases hz' with hz' | ⟨hz1, hz2⟩
    · omega
    · have := hn name
      rw [hz1] at this
      cases q : lookS df.2 name with
      | some y => rw [q] at this; exact this.elim
      | none => have := putS_none q b; omega
  · have g1 := putS_length df.2 name b; omega
  rw [hf' x, lookS_putS]
  by_cases hxn : x = name
  · subst hxn; rw [if_pos rfl, if_pos rfl]; exact hu
  · rw [if_neg hxn, if_neg (fun q => hxn q.symm)]; exact hn x

theorem Rel.list_upd (R : Rel prog w X ι st s) {i : Nat} {c : Addr} {xs ys : List AV} {vs : Array Value} {n : Nat} (h : ι[i]? = some c) (e : st.σ[i]? = some (.list xs)) (ho : s.heap.get? c = some { cls := .type "list", data := .seq vs n })
    (f : Array Value → Array Value) (hf : F2 (VRel ι) (f vs).toList ys) (hl : ys.length ≤ line) (tk : Nat) :
    Rel prog w X ι ⟨st.σ.set i (.list ys), st.ρ⟩ { s with heap := s.heap.update c (Obj.mapSeq f), toks := tk } :=
  R.upd h e rfl (fun b ob hb e => (Heap.SameBut.update ..).extBut b ob hb e) (Heap.get?_update_self _ ho rfl) ⟨⟨_, _, rfl, hf⟩, hl⟩

theorem sim_len {hb : Heap} (hk : ∀ b o, hb.get? b = some o → X.Kp b = some o) (hm : ∃ o, hb.get? sysModules = some o) (R : Rel prog w X ι st s) (hv : VRel ι v a) :
    SimAt prog w A X ι st s (call (.builtin "len") [v]) (biLen a) VR0 := by
  refine SimAt.leaf R fun r st' e => ?_
  cases hv with
  | str x t =>
    refine bnd_elim e fun _ st₁ e1 e2 => ?_
    obtain ⟨hx, rfl⟩ := guard_some e1
    obtain ⟨rfl, rfl⟩ := ret_some e2
    have hx := of_decide_eq_true hx
    rw [line_val] at hx
    exact ⟨rfl, fun Q E k => PyProof.Rows.len_str (by omega) (k _ _ (.int _ _))⟩
  | obj h =>
    refine bnd_elim e fun o st₁ e1 e2 => ?_
    obtain ⟨e1, rfl⟩ := deref_some e1
    cases o with
    | ro xs =>
      obtain ⟨rfl, rfl⟩ := ret_some e2
      obtain ⟨o, ho, ⟨vs, n, hc, hd, hf⟩, hb⟩ := R.get h e1
      have hl : s.heap.IsList _ vs := ⟨o, ho, hc, n, hd⟩
      have hs := f2_size hf
      rw [line_val] at hb
      exact ⟨rfl, fun Q E k => PyProof.Rows.len_list hl (by omega) (k _ _ (by rw [hs]; exact .int _ _))⟩
    | list xs =>
      obtain ⟨rfl, rfl⟩ := ret_some e2
      obtain ⟨vs, hl, hf, hb⟩ := R.isList h e1
      have hs := f2_size hf
      rw [line_val] at hb
      exact ⟨rfl, fun Q E k => PyProof.Rows.len_list hl (by omega) (k _ _ (by rw [hs]; exact .int _ _))⟩
    | tuple xs =>
      obtain ⟨rfl, rfl⟩ := ret_some e2
      obtain ⟨vs, hl, hf, hb⟩ := R.isTuple h e1
      have hs := f2_size hf
      rw [line_val] at hb
      exact ⟨rfl, fun Q E k => PyProof.Rows.len_tuple hl (by omega) (k _ _ (by rw [hs]; exact .int _ _))⟩
    | dict es =>
      obtain ⟨rfl, rfl⟩ := ret_some e2
      obtain ⟨kvs, hD, hf, hb⟩ := R.isDict h e1
      have hs := hf.length
      rw [line_val] at hb
      exact ⟨rfl, fun Q E k => call_len_dict (R.modules hk hm h e1 rfl) hD (by omega) (k _ _ (by rw [hs]; exact .int _ _))⟩
    | _ => exact (fail_some e2).elim
  | _ => first | exact no_some e | cases e

theorem Rel.ext (R : Rel prog w X ι st s) {h' : Heap} {tk : Nat} (hext : ∀ b ob, s.heap.get? b = some ob → h'.get? b = some ob) : Rel prog w X ι st { s with heap := h', toks := tk } := by
  refine ⟨fun b ob e => (R.frozen b ob e).ext (hext b), ?_, R.len, R.nodup, R.free, ?_, ?_, R.comps, R.rlen, by rw [R.shape]⟩
  · obtain ⟨m, hm, hv⟩ := R.ns; exact ⟨m, hm.keeps hext, hv⟩
  · intro i b e; obtain ⟨a', ob, h1, h2, h3⟩ := R.objs i b e; exact ⟨a', ob, h1, hext _ _ h2, h3⟩
  · intro i c hc
    obtain ⟨h1, ob, v, h2, h3, h4⟩ := R.cells i c hc
    exact ⟨h1, ob, v, hext _ _ h2, h3, h4⟩

theorem sim_min (hh : A.handled = none) (R : Rel prog w X ι st s) (hv : VRel ι v a) (hu : VRel ι u b) :
    SimAt prog w A X ι st s (call (.builtin "min") [v, u]) (biTwo (fun a b => if b < a then b else a) a b) VR0 := by
  intro r st' e Q E k
  cases hv with
  | int x t =>
    cases hu with
    | int y t' =>
      obtain ⟨rfl, rfl⟩ := ret_some e
      refine min_two_ints hh fun h' tk hk => ?_
      by_cases hc : y < x
      · rw [if_pos hc]; refine k _ _ _ (Pre.refl ι) (R.ext hk) ?_; simp only [hc, if_true]; exact .int _ _
      · rw [if_neg hc]; refine k _ _ _ (Pre.refl ι) (R.ext hk) ?_; simp only [hc, if_false]; exact .int _ _
    | _ => first | exact no_some e | cases e
  | _ => first | exact no_some e | cases e
theorem sim_max (hh : A.handled = none) (R : Rel prog w X ι st s) (hv : VRel ι v a) (hu : VRel ι u b) :
    SimAt prog w A X ι st s (call (.builtin "max") [v, u]) (biTwo (fun a b => if b > a then b else a) a b) VR0 := by
  intro r st' e Q E k
  cases hv with
  | int x t =>
    cases hu with
    | int y t' =>
      obtain ⟨rfl, rfl⟩ := ret_some e
      refine max_two_ints hh fun h' tk hk => ?_
      by_cases hc : y > x
      · rw [if_pos hc]; refine k _ _ _ (Pre.refl ι) (R.ext hk) ?_; simp only [hc, if_true]; exact .int _ _
      · rw [if_neg hc]; refine k _ _ _ (Pre.refl ι) (R.ext hk) ?_; simp only [hc, if_false]; exact .int _ _
    | _ => first | exact no_some e | cases e
  | _ => first | exact no_some e | cases e
theorem sim_biStr (R : Rel prog w X ι st s) (hv : VRel ι v a) : SimAt prog w A X ι st s (call (.type "str") [v]) (biStr a) VR0 := by
  intro r st' e Q E k
  cases hv with
  | int i t =>
    refine bnd_elim e fun _ st₁ e1 e2 => ?_
    obtain ⟨hx, rfl⟩ := guard_some e1
    obtain ⟨rfl, rfl⟩ := ret_some e2
    exact P.str_of_int (of_decide_eq_true hx) (k _ _ _ (Pre.refl ι) (R.toks _) (.str _ _))
  | str x t =>
    obtain ⟨rfl, rfl⟩ := ret_some e
    exact P.str_of_str (k _ _ _ (Pre.refl ι) R (.str _ _))
  | _ => first | exact no_some e | cases e
theorem isDig_at {x : Str} (h : isDig x = true) : NumText.AllDigits x.cps.toList := fun c hc => by
  have := List.all_eq_true.mp h c hc
  rw [Bool.and_eq_true] at this
  exact ⟨of_decide_eq_true this.1, of_decide_eq_true this.2⟩
theorem sim_biInt (R : Rel prog w X ι st s) (hv : VRel ι v a) : SimAt prog w A X ι st s (call (.type "int") [v]) (biInt a) VR0 := by
  intro r st' e Q E k
  cases hv with
  | bool b =>
    obtain ⟨rfl, rfl⟩ := ret_some e
    exact call_int_bool (k _ _ _ (Pre.refl ι) (R.toks _) (.int _ _))
  | str x t =>
    refine bnd_elim e fun _ st₁ e1 e2 => ?_
    obtain ⟨hx, rfl⟩ := guard_some e1
    obtain ⟨rfl, rfl⟩ := ret_some e2
    rw [Bool.and_eq_true, Bool.and_eq_true] at hx
    have h1 := of_decide_eq_true hx.2.1
    have h2 := of_decide_eq_true hx.2.2
    refine KIN.call_text (intText_digits (isDig_at hx.1) (fun q => ?_) (by omega)) h2 (k _ _ _ (Pre.refl ι) (R.toks _) (.int _ _))
    have : x.cps.toList.length = x.length := Array.length_toList
    rw [q] at this
    have : x.length = 0 := this.symm
    omega
  | _ => first | exact no_some e | cases e
theorem sim_biTuple (R : Rel prog w X ι st s) (hv : VRel ι v a) : SimAt prog w A X ι st s (call (.type "tuple") [v]) (biTuple a) VR0 := by
  intro r st' e Q E k
  cases hv with
  | obj h =>
    refine bnd_elim e fun o st₁ e1 e2 => ?_
    obtain ⟨e1, rfl⟩ := deref_some e1
    cases o with
    | list xs =>
      obtain ⟨rfl, rfl⟩ := alloc_some e2
      obtain ⟨vs, hl, hf, hb⟩ := R.isList h e1
      have hs := f2_size hf
      have hb' := hb
      rw [line_val] at hb'
      refine call_tuple_list hl (fun h' hk => ?_) (by rw [sizeLine_val]; omega)
      have R₁ := R.ext (h' := h') (tk := s.toks) hk
      exact k _ _ _ (Pre.snoc _ _) (R₁.push (tk := s.toks) (o := { cls := .type "tuple", data := .seq vs }) (ao := .tuple xs) rfl ⟨⟨_, _, rfl, hf.mono fun _ _ => VRel.mono (Pre.snoc _ _)⟩, hb⟩) (.obj (R.newIdx _))
    | _ => exact (fail_some e2).elim
  | _ => first | exact no_some e | cases e
theorem sim_range1 (R : Rel prog w X ι st s) {y : Int} {t : Tok} : SimAt prog w A X ι st s (call (.type "range") [.int y t]) (biRange 0 y) VR0 := by
  intro r st' e Q E k
  refine bnd_elim e fun _ st₁ e1 e2 => ?_
  obtain ⟨hx, rfl⟩ := guard_some e1
  exact sim_push R (ao := .range 0 y) (o := { cls := .type "range", data := .fields #[.int 0 s.toks, .int y t, .int 1 (s.toks + 1)] }) (s.toks + 1 + 1) ⟨rfl, rfl⟩ ⟨⟨_, _, _, rfl⟩, hx⟩ (fun Q E q => call_range_1 q) r st' e2 Q E k
theorem sim_range2 (R : Rel prog w X ι st s) {x y : Int} {t u : Tok} : SimAt prog w A X ι st s (call (.type "range") [.int x t, .int y u]) (biRange x y) VR0 := by
  intro r st' e Q E k
  refine bnd_elim e fun _ st₁ e1 e2 => ?_
  obtain ⟨hx, rfl⟩ := guard_some e1
  exact sim_push R (ao := .range x y) (o := { cls := .type "range", data := .fields #[.int x t, .int y u, .int 1 s.toks] }) (s.toks + 1) ⟨rfl, rfl⟩ ⟨⟨_, _, _, rfl⟩, hx⟩ (fun Q E q => call_range_2 q) r st' e2 Q E k
theorem sim_list (R : Rel prog w X ι st s) (hv : VRel ι v a) : SimAt prog w A X ι st s (call (.type "list") [v]) (biList a) VR0 := by
  intro r st' e Q E k
  cases hv with
  | obj h =>
    refine bnd_elim e fun o st₁ e1 e2 => ?_
    obtain ⟨e1, rfl⟩ := deref_some e1
    have fin : ∀ {xs : List AV} {vs : Array Value} {o : Obj} {n : Nat} {c : Addr}, s.heap.get? c = some o → (o.cls = .type "list" ∨ o.cls = .type "tuple") → o.data = .seq vs n → F2 (VRel ι) vs.toList xs → xs.length ≤ line → alloc (.list xs) st₁ = some (.ok r, st') →
        wpAny (model prog w) A (call (.type "list") [.ref c]) Q E s := by
      intro xs vs o n c ho hc hd hf hl e3
      obtain ⟨rfl, rfl⟩ := alloc_some e3
      have hs := f2_size hf
      have hl' := hl
      rw [line_val] at hl'
      rcases hc with hc | hc
      · refine call_list_seq (hsz := by rw [sizeLine_val]; omega) c (.inl rfl) ho hc hd fun h' c' hk hD => ?_
        exact k _ _ _ (Pre.snoc _ _) (R.alloc (tk := s.toks) (get_size_none _) (R.kp_none (get_size_none _)) hk hD ⟨⟨_, _, rfl, hf.mono fun _ _ => VRel.mono (Pre.snoc _ _)⟩, hl⟩) (.obj (R.newIdx _))
      · refine call_list_seq (hsz := by rw [sizeLine_val]; omega) c (.inr rfl) ho hc hd fun h' c' hk hD => ?_
        exact k _ _ _ (Pre.snoc _ _) (R.alloc (tk := s.toks) (get_size_none _) (R.kp_none (get_size_none _)) hk hD ⟨⟨_, _, rfl, hf.mono fun _ _ => VRel.mono (Pre.snoc _ _)⟩, hl⟩) (.obj (R.newIdx _))
    cases o with
    | list xs =>
      obtain ⟨vs, n, ho, hf, hl⟩ := R.plainList h e1
      exact fin ho (.inl rfl) rfl hf hl e2
    | tuple xs =>
      obtain ⟨o, ho, ⟨vs, n, rfl, hf⟩, hl⟩ := R.get h e1
      exact fin ho (.inr rfl) rfl hf hl e2
    | _ => exact (fail_some e2).elim
  | _ => first | exact no_some e | cases e
end
end Mine
namespace Mine
open PySem PySem.W PyProof.Rows

section
variable {prog : Program} {w : World} {A : Around} {X : Cx} {ι : List Addr} {st : ASt} {s : Shared} {v u : Value} {a b : AV} {K : Frag}

theorem insInt_perm (i : Int) : ∀ l : List Int, (insInt i l).Perm (i :: l)
  | [] => .refl _
  | j :: r => by
    unfold insInt
    split
    · exact .refl _
    · exact ((insInt_perm i r).cons j).trans (.swap i j r)
theorem sortInts_perm : ∀ l : List Int, (sortInts l).Perm l
  | [] => .refl _
  | i :: r => (insInt_perm i _).trans ((sortInts_perm r).cons i)
theorem insInt_sorted (i : Int) : ∀ {l : List Int}, l.Pairwise (· ≤ ·) → (insInt i l).Pairwise (· ≤ ·)
  | [], _ => by simp [insInt]
  | j :: r, h => by
    unfold insInt
    obtain ⟨h1, h2⟩ := List.pairwise_cons.mp h
    split
    · rename_i hij
      refine List.pairwise_cons.mpr ⟨fun x hx => ?_, h⟩
      rcases List.mem_cons.mp hx with rfl | hx
      · exact hij
      · have := h1 x hx; omega
    · rename_i hij
      refine List.pairwise_cons.mpr ⟨fun x hx => ?_, insInt_sorted i h2⟩
      rcases List.mem_cons.mp ((insInt_perm i r).mem_iff.mp hx) with rfl | hx
      · omega
      · exact h1 x hx
theorem sortInts_sorted : ∀ l : List Int, (sortInts l).Pairwise (· ≤ ·)
  | [] => .nil
  | i :: r => insInt_sorted i (sortInts_sorted r)
theorem sort_unique {l ns : List Int} (p : ns.Perm l) (h : ns.Pairwise (· ≤ ·)) : ns = sortInts l :=
  (p.trans (sortInts_perm l).symm).eq_of_pairwise (fun _ _ _ _ h1 h2 => Int.le_antisymm h1 h2) h (sortInts_sorted l)

theorem intsAre_of : ∀ {vs : List Value} {xs : List AV} {l : List Int}, F2 (VRel ι) vs xs → allInts xs = some l → IntsAre vs l
  | [], [], l, _, e => by cases e; exact .nil
  | v :: vs, x :: xs, l, h, e => by
    unfold allInts at e
    cases h.1 with
    | int i t =>
      dsimp only at e
      cases q : allInts xs with
      | none => rw [q] at e; cases e
      | some l' => rw [q] at e; cases e; exact .cons i t (intsAre_of h.2 q)
    | _ => first | exact no_some e | cases e
  | [], _ :: _, _, h, _ => h.elim
  | _ :: _, [], _, h, _ => h.elim
theorem f2_of_ints : ∀ {vs : List Value} {l : List Int}, IntsAre vs l → F2 (VRel ι) vs (l.map AV.int)
  | _, _, .nil => trivial
  | _, _, .cons n t h => ⟨.int n t, f2_of_ints h⟩
noncomputable def SOk (l : List Int) : Prop := l.length < 64
theorem SOk.le {l : List Int} (h : SOk l) : l.length ≤ 100000 := by unfold SOk at h; omega
theorem sOk_of {l : List Int} (h : decide (l.length < 64) = true) : SOk l := (of_decide_eq_true h : l.length < 64)
theorem sorted_tail {γ : Type} {vs : List Value} {l : List Int} {f : Value → Value → Sem γ} {Q : γ → Shared → Prop} {E : Value → Shared → Prop} {s₁ : Shared} {g : List Value} (hI : IntsAre vs l) (h64 : SOk l)
    (h : ∀ (D : Addr) (h' : Heap) (out : Array Value) (n : Nat), s₁.heap.get? D = none → (∀ b o, s₁.heap.get? b = some o → h'.get? b = some o) → h'.get? D = some { cls := .type "list", data := .seq out n } →
      IntsAre out.toList (sortInts l) → wpAny (model prog w) A (f (.ref D) .none) Q E { s₁ with heap := h' }) :
    wpAny (model prog w) A (newList vs >>= fun r => holding (r :: g) (call (.builtin "list.sort") [r]) >>= fun x => f r x) Q E s₁ := by
  have hlen : vs.length = l.length := hI.length
  have hle := h64.le
  refine wpAny_bind (wpAny_newList ?_ (by rw [sizeLine_val]; omega))
  have hoL : (s₁.heap.push (seqObj "list" vs.toArray 0)).get? s₁.heap.objs.size = some (seqObj "list" vs.toArray 0) := Heap.get?_push_size _ rfl
  refine wpAny_bind (wpAny_holding (wpAny_call_entry slot_list_sort ⟨_, hoL, rfl⟩ entry_list_sort (list_sort_tree (s := { s₁ with heap := s₁.heap.push (seqObj "list" vs.toArray 0) }) hoL hI (by unfold SOk at h64; omega) fun out ns' a1 a2 a3 => ⟨_, rfl, ?_⟩) (args_list_sort _)))
  have hD := get_size_none s₁.heap
  have e1 := sort_unique a2 a3
  subst e1
  have q1 := get?_update_seq hoL (fun _ => (#[] : Array Value))
  have q2 := get?_update_seq (Heap.get?_push_of_some (seqObj "list" #[] 0) (Heap.get?_push_of_some (seqObj "tuple" vs.toArray 0) q1)) (fun _ => out)
  refine h s₁.heap.objs.size _ out _ hD (fun b o e => ?_) q2 a1
  have hb : b ≠ s₁.heap.objs.size := fun q => by rw [q, hD] at e; cases e
  exact (Heap.SameBut.update ..).extBut b o hb (Heap.get?_push_of_some _ (Heap.get?_push_of_some _ ((Heap.SameBut.update ..).extBut b o hb (Heap.get?_push_of_some _ e))))

theorem sim_sorted (hh : A.handled = none) (R : Rel prog w X ι st s) (hv : VRel ι v a) : SimAt prog w A X ι st s (call (.builtin "sorted") [v]) (biSorted a) VR0 := by
  intro r st' e Q E k
  cases hv with
  | @obj c i h =>
    refine bnd_elim e fun o st₁ e1 e2 => ?_
    obtain ⟨g1, rfl⟩ := deref_some e1
    have fin : ∀ {l : List Int} {vs : List Value} {h₁ : Heap} {tk : Nat}, IntsAre vs l → SOk l → (∀ b o, s.heap.get? b = some o → h₁.get? b = some o) → alloc (.list ((sortInts l).map .int)) st₁ = some (.ok r, st') →
        wpAny (model prog w) A.in1 (newList vs >>= fun r => holding [r] (call (.builtin "list.sort") [r]) >>= fun _ => PySem.ret r) (fun fin s' => ∃ v, fin = Fin.done (Flow.ret v) ∧ Q v s') E { s with heap := h₁, toks := tk } := by
      intro l vs h₁ tk hI h64 hk e3
      have hle := h64.le
      obtain ⟨rfl, rfl⟩ := alloc_some e3
      refine sorted_tail (f := fun r _ => PySem.ret r) (s₁ := { s with heap := h₁, toks := tk }) hI h64 fun D h' out n hD hk' hD' hout => ?_
      have hDs : s.heap.get? D = none := by
        cases q : s.heap.get? D with
        | none => rfl
        | some ob =>
          have q1 := hk D ob q
          have q2 : h₁.get? D = none := hD
          rw [q2] at q1; cases q1
      refine wpAny_pure ⟨_, rfl, ?_⟩
      refine k _ _ _ (Pre.snoc _ _) (R.alloc (tk := tk) hDs (R.kp_none hDs) (fun b o e => hk' b o (hk b o e)) hD' ⟨⟨_, _, rfl, f2_of_ints hout⟩, ?_⟩) (.obj (R.newIdx _))
      rw [List.length_map, (sortInts_perm l).length_eq, line_val]; omega
    cases o with
    | list xs =>
      refine bnd_elim e2 fun l st₂ e3 e4 => ?_
      obtain ⟨g3, rfl⟩ := ofOpt_some e3
      refine bnd_elim e4 fun _ st₃ e5 e6 => ?_
      obtain ⟨g5, rfl⟩ := guard_some e5
      have g5 := sOk_of g5
      have hle := g5.le
      obtain ⟨vs, hl, hf, hb⟩ := R.isList h g1
      have hI := intsAre_of hf g3
      have hlen := hI.length
      refine Calls.call_function_entry kind_sorted plain_sorted entry_sorted (args_sorted1 _) ?_
      unfold Builtin.«sorted»
      refine wpAny_bind (m := checkCount "sorted" 1 1 _) (wpAny_pure ?_)
      refine wpAny_bind (collect_list (vs := vs.toList) (by simpa using hl) ?_ (by rw [hlen, sizeLine_val]; omega))
      exact fin (tk := s.toks) hI g5 (fun b o e => (Heap.SameBut.update ..).extBut b o (fun q => by rw [q, get_size_none] at e; cases e) (Heap.get?_push_of_some _ e)) e6
    | keys d =>
      refine bnd_elim e2 fun p st₂ e3 e4 => ?_
      obtain ⟨g3, rfl⟩ := deref_some e3
      cases p with
      | dict es =>
        refine bnd_elim e4 fun _ st₃ e5 e6 => ?_
        obtain ⟨g5, rfl⟩ := guard_some e5
        have g6 : es.length < 64 := of_decide_eq_true g5
        have g5 : SOk (es.map (·.1)) := by unfold SOk; rw [List.length_map]; exact g6
        have hle := g5.le
        rw [List.length_map] at hle
        obtain ⟨ov, hov, hcv, dd, hdv, hdi⟩ := R.get h g1
        obtain ⟨kvs, hD, hf, hb⟩ := R.isDict hdi g3
        obtain ⟨ep, hat⟩ := hD.dictAt
        have hlen := hf.length
        refine Calls.call_function_entry kind_sorted plain_sorted entry_sorted (args_sorted1 _) ?_
        unfold Builtin.«sorted»
        refine wpAny_bind (m := checkCount "sorted" 1 1 _) (wpAny_pure ?_)
        refine wpAny_bind (keysCollect (A := A.in1) hh hov hcv hdv hat (by rw [sizeLine_val]; omega) fun h' tk acc hk hacc => ?_)
        have hI : IntsAre acc.toList (es.map (·.1)) := by
          have hal : acc.toList.length = kvs.length := by rw [Array.length_toList]; exact hacc.1
          have key : ∀ (vs : List Value) (kvs : List (Int × Value)) (es : List (Int × AV)), vs.length = kvs.length → F2 (fun kv e => kv.1 = e.1 ∧ VRel ι kv.2 e.2) kvs es → (∀ (j : Nat) (v : Value), vs[j]? = some v → ∃ k x, kvs[j]? = some (k, x) ∧ (intKind prog w).is k v = true) → IntsAre vs (es.map (·.1)) := by
            intro vs
            induction vs with
            | nil =>
              intro kvs es hl hf _
              cases kvs with
              | nil => cases es with
                | nil => exact .nil
                | cons _ _ => exact hf.elim
              | cons _ _ => simp at hl
            | cons v vs ih =>
              intro kvs es hl hf hv
              cases kvs with
              | nil => simp at hl
              | cons kv kvs =>
                cases es with
                | nil => exact hf.elim
                | cons e es =>
                  obtain ⟨k, x, hx, hk⟩ := hv 0 v rfl
                  simp at hx
                  have hk1 : kv.1 = e.1 := hf.1.1
                  rw [List.map_cons, ← hk1, show kv.1 = k by rw [hx]]
                  have : ∃ t, v = .int k t := by
                    cases v <;> simp [intKind, Value.isInt] at hk
                    subst hk; exact ⟨_, rfl⟩
                  obtain ⟨t, rfl⟩ := this
                  exact .cons k t (ih kvs es (by simpa using hl) hf.2 fun j u hu => by simpa using hv (j + 1) u (by simpa using hu))
          exact key _ kvs es hal hf fun j v hj => hacc.2 j v (by rw [← Array.getElem?_toList]; exact hj)
        exact fin (h₁ := h') (tk := tk) hI g5 hk e6
      | _ => exact (fail_some e4).elim
    | _ => exact (fail_some e2).elim
  | _ => first | exact no_some e | cases e
end
end Mine
namespace Mine
open PySem PySem.W PyProof.Rows

noncomputable def meName : ME → String
  | .append => "append" | .clear => "clear" | .pop => "pop" | .keys => "keys" | .extend => "extend" | .remove => "remove" | .index => "index"
  | .split => "split" | .join => "join" | .find => "find" | .get => "get"
noncomputable def kdName : KD → String
  | .list => "list" | .dict => "dict" | .str => "str"
/-- the methods that are served -/
noncomputable def served : KD → ME → Bool
  | .list, .append => true | .list, .pop => true
  | .dict, .keys => true | .dict, .pop => true
  | .str, .split => true
  | .list, .index => true
  | .str, .find => true
  | _, _ => false

section
variable {prog : Program} {w : World} {A : Around} {X : Cx} {ι : List Addr} {st : ASt} {s : Shared} {v u : Value} {a b : AV} {K : Frag}

theorem kindOf_some {o : AV} {st st' : ASt} {k : KD} (h : kindOf o st = some (.ok k, st')) : st' = st ∧ match k with
    | .list => ∃ i xs, o = .obj i ∧ st.σ[i]? = some (.list xs)
    | .dict => ∃ i es, o = .obj i ∧ st.σ[i]? = some (.dict es)
    | .str => ∃ x, o = .str x := by
  unfold kindOf at h
  cases o with
  | obj i =>
    refine bnd_elim h fun o st₁ e1 e2 => ?_
    obtain ⟨q1, rfl⟩ := deref_some e1
    cases o with
    | list xs => obtain ⟨rfl, rfl⟩ := ret_some e2; exact ⟨rfl, i, xs, rfl, q1⟩
    | dict es => obtain ⟨rfl, rfl⟩ := ret_some e2; exact ⟨rfl, i, es, rfl, q1⟩
    | _ => exact (fail_some e2).elim
  | str x => obtain ⟨rfl, rfl⟩ := ret_some h; exact ⟨rfl, x, rfl⟩
  | _ => first | exact no_some h | cases h

theorem getMeth {k : KD} {m : ME} {pl : Sem Bool} {Q : Value × List Value → Shared → Prop} {E : Value → Shared → Prop} {st' : ASt} (R : Rel prog w X ι st s) (hv : VRel ι v a) (hk : kindOf a st = some (.ok k, st')) (hs : served k m = true)
    (h : Q (.builtin (kdName k ++ "." ++ meName m), [v]) s) : wpAny (model prog w) A (getMethod v (Str.ofString (meName m)) pl) Q E s := by
  obtain ⟨rfl, hk⟩ := kindOf_some hk
  cases k with
  | list =>
    obtain ⟨i, xs, rfl, e⟩ := hk
    obtain ⟨c, rfl, hc⟩ := hv.obj_inv
    obtain ⟨vs, n, ho, _, _⟩ := R.plainList hc e
    have hd : ∀ b, Value.ref c = .ref b → ∃ o, s.heap.get? b = some o ∧ o.dict = none := fun b e => by cases e; exact ⟨_, ho, rfl⟩
    cases m with
    | append => exact getMethod_builtin (T := "list") ⟨_, ho, rfl⟩ PySem.F.plainAttrs_list PySem.F.slot_list_append PySem.F.type_list_append hd h
    | index => exact getMethod_builtin (T := "list") ⟨_, ho, rfl⟩ PySem.F.plainAttrs_list PySem.F.slot_list_index PySem.F.type_list_index hd h
    | pop => exact getMethod_builtin (T := "list") ⟨_, ho, rfl⟩ PySem.F.plainAttrs_list PySem.F.slot_list_pop PySem.F.type_list_pop hd h
    | _ => first | exact no_some hs | cases hs
  | dict =>
    obtain ⟨i, es, rfl, e⟩ := hk
    obtain ⟨c, rfl, hc⟩ := hv.obj_inv
    obtain ⟨kvs, hD, _, _⟩ := R.isDict hc e
    cases m with
    | keys => exact getMethod_builtin (T := "dict") hD.typeIs PySem.F.plainAttrs_dict PySem.F.slot_dict_keys PySem.F.type_dict_keys hD.mapOf.noDict h
    | pop => exact getMethod_builtin (T := "dict") hD.typeIs PySem.F.plainAttrs_dict PySem.F.slot_dict_pop PySem.F.type_dict_pop hD.mapOf.noDict h
    | _ => first | exact no_some hs | cases hs
  | str =>
    obtain ⟨x, rfl⟩ := hk
    cases hv with
    | str _ t =>
      cases m with
      | find => exact getMethod_builtin (T := "str") (typeIs_str _ _ _) PySem.F.plainAttrs_str PySem.F.slot_str_find PySem.F.type_str_find (fun _ e => nomatch e) h
      | split => exact getMethod_builtin (T := "str") (typeIs_str _ _ _) PySem.F.plainAttrs_str PySem.F.slot_str_split PySem.F.type_str_split (fun _ e => nomatch e) h
      | _ => first | exact no_some hs | cases hs

theorem erase_last {vs : List Value} {xs : List AV} (h : F2 (VRel ι) vs xs) : F2 (VRel ι) (vs.eraseIdx (vs.length - 1)) xs.dropLast := by
  have e1 : vs.eraseIdx (vs.length - 1) = vs.take (vs.length - 1) := by
    rw [List.eraseIdx_eq_take_drop_succ]
    have : vs.drop (vs.length - 1 + 1) = [] := List.drop_eq_nil_of_le (by omega)
    rw [this, List.append_nil]
  rw [e1, List.dropLast_eq_take, ← h.length]
  exact h.take _

theorem strs_at {y : Str} {t' : Tok} : ∀ {vs : List Value} {xs : List AV} {l : List Str}, F2 (VRel ι) vs xs → allStrs xs = some l →
    vs.length = l.length ∧ (∀ z ∈ vs, PySem.SeqAt.EqAt A s z (.str y t') (eqV z (.str y t'))) ∧ ∀ j (h1 : j < vs.length) (h2 : j < l.length), eqV vs[j] (.str y t') = (l[j] == y)
  | [], [], l, _, h => by cases h; exact ⟨rfl, fun _ q => (nomatch q), fun _ q => (nomatch q)⟩
  | v :: vs, x :: xs, l, hf, h => by
    cases x with
    | str b =>
      obtain ⟨hv, hf⟩ := hf
      cases hv with
      | str _ tb =>
        have h : (match allStrs xs with | some l => some (b :: l) | none => none) = some l := h
        cases q : allStrs xs with
        | none => rw [q] at h; cases h
        | some l' =>
          rw [q] at h; cases h
          obtain ⟨e1, e2, e3⟩ := strs_at (y := y) (t' := t') hf q
          refine ⟨congrArg (· + 1) e1, fun z hz => ?_, fun j h1 h2 => ?_⟩
          · rcases List.mem_cons.mp hz with rfl | hz
            · exact PySem.SeqAt.EqAt.str_str _ _ _ _
            · exact e2 z hz
          · cases j with
            | zero => rfl
            | succ j => exact e3 j (Nat.lt_of_succ_lt_succ h1) (Nat.lt_of_succ_lt_succ h2)
    | _ => cases h
  | [], _ :: _, _, hf, _ => hf.elim
  | _ :: _, [], _, hf, _ => hf.elim
theorem sim_meList (R : Rel prog w X ι st s) {i : Nat} {c : Addr} {xs : List AV} {m : ME} {us : List Value} {as : List AV} (h : ι[i]? = some c) (e0 : st.σ[i]? = some (.list xs)) (hs : served .list m = true) (hu : F2 (VRel ι) us as) :
    SimAt prog w A X ι st s (call (.builtin (kdName .list ++ "." ++ meName m)) (.ref c :: us)) (meList i xs m as) VR0 := by
  intro r st' e Q E k
  obtain ⟨vs, n, ho, hf, hl⟩ := R.plainList h e0
  have hsz := f2_size hf
  have hl' := hl
  rw [line_val] at hl'
  have hL : s.heap.IsList c vs := ⟨_, ho, rfl, n, rfl⟩
  have hz : vs.size ≤ sizeLine := by rw [sizeLine_val]; omega
  cases m with
  | append =>
    cases as with
    | nil => first | exact no_some e | cases e
    | cons x as =>
      cases as with
      | nil =>
        cases us with
        | nil => exact hu.elim
        | cons y us =>
          cases us with
          | cons _ _ => exact hu.2.elim
          | nil =>
            refine bnd_elim e fun _ st₁ e1 e2 => ?_
            obtain ⟨g1, rfl⟩ := guard_some e1
            have g1 := of_decide_eq_true g1
            refine bnd_elim e2 fun _ st₂ e3 e4 => ?_
            have g3 := upd_some e3
            obtain ⟨rfl, rfl⟩ := ret_some e4
            subst g3
            refine wpAny_list_append_plain ⟨n, ho⟩ (fun h' hl' hs' => ?_) hz
            obtain ⟨n', ho'⟩ := hl'
            refine k _ _ _ (Pre.refl ι) (R.upd (tk := s.toks) h e0 rfl (fun b ob hb e => hs'.extBut b ob hb e) ho' ⟨⟨_, _, rfl, ?_⟩, ?_⟩) .none
            · rw [Array.toList_push]; exact hf.snoc hu.1
            · rw [List.length_append]; exact g1
      | cons _ _ => first | exact no_some e | cases e
  | pop =>
    cases as with
    | nil =>
      cases us with
      | cons _ _ => exact hu.elim
      | nil =>
        have e' : (match xs.getLast? with | some v => bnd (upd i (.list xs.dropLast)) fun _ => ret v | Option.none => fail) st = some (.ok r, st') := e
        cases q : xs.getLast? with
        | none => rw [q] at e'; cases e'
        | some x =>
          rw [q] at e'
          refine bnd_elim e' fun _ st₂ e3 e4 => ?_
          have g3 := upd_some e3
          obtain ⟨rfl, rfl⟩ := ret_some e4
          subst g3
          have hx : xs[xs.length - 1]? = some r := by rw [← List.getLast?_eq_getElem?]; exact q
          obtain ⟨y, hy, hyr⟩ := hf.get hx
          have hy' : vs[vs.size - 1]? = some y := by rw [hsz]; simpa using hy
          refine call_meets PySem.F.slot_list_pop hL.typeIs PySem.F.entry_list_pop (PySem.F.args_list_pop_1 _) (PySem.MeetsSeq.list_pop_last c vs n y hy' hz) ⟨ho, k _ _ _ (Pre.refl ι) (R.list_upd h e0 ho _ ?_ ?_ s.toks) hyr⟩
          · have := erase_last hf
            rw [Array.length_toList] at this
            rw [Array.toList_eraseIdxIfInBounds]; exact this
          · rw [List.length_dropLast]; omega
    | cons z as =>
      cases as with
      | cons _ _ => first | exact no_some e | cases e
      | nil =>
        cases us with
        | nil => exact hu.elim
        | cons y us =>
          cases us with
          | cons _ _ => exact hu.2.elim
          | nil =>
            cases hu.1 with
            | int kk t =>
              refine bnd_elim e fun _ st₁ e1 e2 => ?_
              obtain ⟨g1, rfl⟩ := guard_some e1
              have g1 : kk = 0 := by simpa using g1
              subst g1
              cases xs with
              | nil => exact (fail_some e2).elim
              | cons x xs =>
                refine bnd_elim e2 fun _ st₂ e3 e4 => ?_
                have g3 := upd_some e3
                obtain ⟨rfl, rfl⟩ := ret_some e4
                subst g3
                obtain ⟨y, hy, hyr⟩ := hf.get (i := 0) (b := r) (by simp)
                have hy' : vs[0]? = some y := by simpa using hy
                have hpos : 0 < vs.size := by rw [hsz]; simp
                refine call_meets PySem.F.slot_list_pop hL.typeIs PySem.F.entry_list_pop (PySem.F.args_list_pop_2 _ _) (PySem.MeetsSeq.list_pop_at c vs n 0 t 0 y (by decide +kernel) (seqIndex_of (by omega) (by omega)) hy' hz) ⟨ho, k _ _ _ (Pre.refl ι) (R.list_upd h e0 ho _ ?_ ?_ s.toks) hyr⟩
                · rw [Array.toList_eraseIdxIfInBounds]
                  have := hf.drop 1
                  simpa using this
                · simp at hl; omega
            | _ => first | exact no_some e | cases e
  | index =>
    cases as with
    | nil => exact no_some e
    | cons x as =>
      cases as with
      | cons _ _ => exact no_some e
      | nil =>
        cases us with
        | nil => exact hu.elim
        | cons y us =>
          cases us with
          | cons _ _ => exact hu.2.elim
          | nil =>
            cases hu.1 with
            | str y t =>
              refine bnd_elim e fun l st₁ e1 e2 => ?_
              obtain ⟨q, rfl⟩ := ofOpt_some e1
              refine bnd_elim e2 fun _ st₂ e3 e4 => ?_
              obtain ⟨hc, rfl⟩ := guard_some e3
              have hc := of_decide_eq_true hc
              obtain ⟨rfl, rfl⟩ := ret_some e4
              obtain ⟨q1, q2, q3⟩ := strs_at (A := A.in1) (s := s) (y := y) (t' := t) hf q
              have hjs : l.idxOf y < vs.size := by rw [← q1] at hc; simpa using hc
              refine call_meets PySem.F.slot_list_index hL.typeIs PySem.F.entry_list_index (PySem.F.args_list_index_2 _ _)
                (PySem.SeqAt.list_indexAt c vs n none #[] (.str y t) (eqV · (.str y t)) (l.idxOf y) hjs (by omega) ?_ (fun m hm hlt => ?_)) ⟨ho, fun z hz => q2 z (by simpa using hz), k _ _ _ (Pre.refl ι) (R.toks _) (.int _ _)⟩
              · have := q3 (l.idxOf y) (by simpa using hjs) hc
                rw [List.getElem_idxOf hc] at this
                simpa using this
              · have := q3 m (by simpa using hm) (by omega)
                have h2 : (l[m]'(by omega) == y) = false := List.not_of_lt_findIdx hlt
                rw [h2] at this
                simpa using this
            | _ => exact no_some e
  | _ => first | exact no_some hs | cases hs

theorem sim_meDict {hb : Heap} (hkp : ∀ b o, hb.get? b = some o → X.Kp b = some o) (hm : ∃ o, hb.get? sysModules = some o) (R : Rel prog w X ι st s) {i : Nat} {c : Addr} {es : List (Int × AV)} {m : ME} {us : List Value} {as : List AV} (h : ι[i]? = some c) (e0 : st.σ[i]? = some (.dict es)) (hs : served .dict m = true) (hu : F2 (VRel ι) us as) :
    SimAt prog w A X ι st s (call (.builtin (kdName .dict ++ "." ++ meName m)) (.ref c :: us)) (meDict i es m as) VR0 := by
  intro r st' e Q E k
  obtain ⟨kvs, hD, hf, hl⟩ := R.isDict h e0
  have hl' := hl
  rw [line_val] at hl'
  have hlen := hf.length
  have hmod := R.modules hkp hm h e0 rfl
  obtain ⟨_, _, _, _, _, _, _, _, hn⟩ := id hD
  cases m with
  | keys =>
    cases as with
    | cons _ _ => first | exact no_some e | cases e
    | nil =>
      cases us with
      | cons _ _ => exact hu.elim
      | nil =>
        refine sim_push (A := A) R (ao := .keys i) (o := { cls := .type "dict_keys", data := .fields #[.ref c] }) s.toks ⟨rfl, rfl⟩ ⟨rfl, c, rfl, (Pre.snoc _ _).get h⟩ (fun Q E q => ?_) r st' e Q E k
        exact call_meetsIn PySem.F.slot_dict_keys hD.typeIs PySem.F.entry_dict_keys (PySem.F.args_dict_keys_1 _) (keysMade (intKind prog w) hmod) ⟨⟨kvs, hD⟩, q⟩
  | pop =>
    cases as with
    | nil => first | exact no_some e | cases e
    | cons z as =>
      cases as with
      | cons _ _ => first | exact no_some e | cases e
      | nil =>
        cases us with
        | nil => exact hu.elim
        | cons y us =>
          cases us with
          | cons _ _ => exact hu.2.elim
          | nil =>
            cases hu.1 with
            | int kk t =>
              have e' : (match look es kk with | some v => bnd (upd i (.dict (del es kk))) fun _ => ret v | Option.none => fail) st = some (.ok r, st') := e
              have hval := look_valueAt kk hf
              cases q : look es kk with
              | none => rw [q] at e'; cases e'
              | some x =>
                rw [q] at e' hval
                obtain ⟨y, hy, hyr⟩ := hval
                refine bnd_elim e' fun _ st₂ e3 e4 => ?_
                have g3 := upd_some e3
                obtain ⟨rfl, rfl⟩ := ret_some e4
                subst g3
                refine call_meetsIn PySem.F.slot_dict_pop hD.typeIs PySem.F.entry_dict_pop (PySem.F.args_dict_pop_2 _ _) (meets_dict_pop_there (intKind prog w) c (intKind_is prog w kk t) [] (.inl rfl) rfl) ⟨kvs, y, hD, by rw [sizeLine_val]; omega, hy, fun h' hmm hs' => ?_⟩
                obtain ⟨o', ho', hd'⟩ := Heap.dictOf_iff.mp hmm
                exact k _ _ _ (Pre.refl ι) (R.upd (tk := s.toks + 1) h e0 rfl (fun b ob hb e => hs'.extBut b ob hb e) ho' ⟨⟨_, hd', without_del kk hf hn⟩, by have := del_length es kk; omega⟩) hyr
            | _ => first | exact no_some e | cases e
  | _ => first | exact no_some hs | cases hs
theorem f2_strs {ι : List Addr} : ∀ {l : List (Str × Tok)} {ys : List Str}, l.map (·.1) = ys → F2 (VRel ι) (strValues l) (ys.map AV.str)
  | [], [], _ => trivial
  | (x, t) :: l, y :: ys, h => by
    have h : x :: l.map (·.1) = y :: ys := h
    injection h with h1 h2
    subst h1
    exact ⟨.str x t, f2_strs h2⟩
  | [], _ :: _, h => by cases h
  | _ :: _, [], h => by cases h
theorem sim_meStr (R : Rel prog w X ι st s) {x : Str} {t : Tok} {m : ME} {us : List Value} {as : List AV} (hu : F2 (VRel ι) us as) :
    SimAt prog w A X ι st s (call (.builtin (kdName .str ++ "." ++ meName m)) (.str x t :: us)) (meStr x m as) VR0 := by
  intro r st' e Q E k
  cases m with
  | split =>
    cases as with
    | nil => exact no_some e
    | cons y as =>
      cases as with
      | cons _ _ => exact no_some e
      | nil =>
        cases us with
        | nil => exact hu.elim
        | cons u us =>
          cases us with
          | cons _ _ => exact hu.2.elim
          | nil =>
            cases hu.1 with
            | str y t' =>
              refine bnd_elim e fun _ st₁ e1 e2 => ?_
              obtain ⟨hx, rfl⟩ := guard_some e1
              refine bnd_elim e2 fun _ st₂ e3 e4 => ?_
              obtain ⟨hn, rfl⟩ := guard_some e3
              have hn := of_decide_eq_true hn
              obtain ⟨rfl, rfl⟩ := alloc_some e4
              rw [Bool.and_eq_true, Bool.not_eq_true'] at hx
              have h1 := of_decide_eq_true hx.2
              rw [line_val] at h1
              have hz := sizeLine_val
              have fin : ∀ {l : List (Str × Tok)} {tk : Nat}, l.map (·.1) = Txt.split x y → Q (.ref s.heap.objs.size) { s with heap := s.heap.push { cls := .type "list", data := .seq (strValues l).toArray }, toks := tk } := fun {l} {tk} hl =>
                k _ _ _ (Pre.snoc _ _) (R.push (tk := tk) (o := { cls := .type "list", data := .seq (strValues l).toArray }) (ao := .list ((Txt.split x y).map .str)) rfl ⟨⟨_, _, rfl, f2_strs hl⟩, by rw [List.length_map]; exact hn⟩) (.obj (R.newIdx _))
              cases h3 : (decide (x.length < y.length) || decide (Builtin.Str.strKind x < Builtin.Str.strKind y))
              · cases hf : (Builtin.Str.occurrences x y 0 x.length (x.length + 1)).isEmpty
                · have hsp : Txt.split x y = Builtin.Str.partsBetween x (Builtin.Str.occurrences x y 0 x.length (x.length + 1)) y.length := (if_neg (ne_true_of_eq_false h3)).trans (if_neg (ne_true_of_eq_false hf))
                  have h2 := hn
                  rw [hsp, line_val] at h2
                  refine call_meets F.slot_str_split (typeIs_str _ _ _) F.entry_str_split (F.args_str_split_2 _ _) (meets_str_split_sep x y t t' h3 hx.1 hf (by omega) (by omega)) ?_
                  show wants Q E _ { s with toks := _, heap := s.heap.push { cls := .type "list", data := .seq (strsFrom s.toks (Builtin.Str.partsBetween x (Builtin.Str.occurrences x y 0 x.length (x.length + 1)) y.length)).toArray } }
                  rw [strsFrom_eq]
                  exact fin ((numbered_texts _ _).trans ((if_neg (ne_true_of_eq_false h3)).trans (if_neg (ne_true_of_eq_false hf))).symm)
                · exact call_meets F.slot_str_split (typeIs_str _ _ _) F.entry_str_split (F.args_str_split_2 _ _) (meets_str_split_not_found x y t t' h3 hx.1 hf)
                    (fin (l := [(x, t)]) (tk := s.toks) ((if_neg (ne_true_of_eq_false h3)).trans (if_pos hf)).symm)
              · exact call_meets F.slot_str_split (typeIs_str _ _ _) F.entry_str_split (F.args_str_split_2 _ _) (meets_str_split_cannot_occur x y t t' h3)
                  (fin (l := [(x, t)]) (tk := s.toks) (if_pos h3).symm)
            | _ => exact no_some e
  | find =>
    cases as with
    | nil => exact no_some e
    | cons y as =>
      cases as with
      | cons _ _ => exact no_some e
      | nil =>
        cases us with
        | nil => exact hu.elim
        | cons u us =>
          cases us with
          | cons _ _ => exact hu.2.elim
          | nil =>
            cases hu.1 with
            | str y t' =>
              obtain ⟨rfl, rfl⟩ := ret_some e
              exact call_gives F.slot_str_find (typeIs_str _ _ _) F.entry_str_find (F.args_str_find_2 _ _) (gives_str_find x y t t') (k _ _ _ (Pre.refl ι) (R.toks _) (.int _ _))
            | _ => exact no_some e
  | _ => exact no_some e
end
end Mine
namespace Mine
open PySem PySem.W PyProof.Rows

noncomputable def biVal : BI → Value
  | .len => .builtin "len" | .min => .builtin "min" | .max => .builtin "max" | .sorted => .builtin "sorted" | .range => .type "range" | .list => .type "list"
  | .int => .type "int" | .str => .type "str" | .tuple => .type "tuple" | .any => .builtin "any"
noncomputable def tyVal : TY → Value
  | .int => .type "int" | .bool => .type "bool" | .list => .type "list" | .str => .type "str" | .tuple => .type "tuple" | .exc c => .ref c | .exd c => .ref c
  | .ve => .type "ValueError"

/-- the mro behind an own class, from ValueError on -/
noncomputable def bmVE : List Value := [.type "ValueError", .type "Exception", .type "BaseException", .type "object"]
/-- c is an exception class of the text -/
noncomputable def ExcK (K : Frag) (c : Addr) : Prop := ∀ h : Heap, K.In h → OwnCls (Str.ofString "") c bmVE "ValueError.__new__" (fun _ => some (.ref c)) h
/-- a dict whose values are numbers -/
noncomputable def isTab (o : Obj) : Bool := match o.data with
  | .dict es _ => !es.toList.isEmpty && es.toList.all fun e => match e.val with | .int _ _ => true | _ => false
  | _ => false
noncomputable def TabsK (w : World) (K : Frag) : Prop := ∀ a o, K.lookup a = some o → isTab o = true → ∀ prog es ep, o.data = .dict es ep → KeysOf (PySem.strKind prog w) es
/-- what the written part must hold of a global's meaning -/
noncomputable def GOk (K : Frag) : GV → Value → Prop
  | .val a, v => VRel [] v a
  | .fn f, v => v = .ref f ∧ keepIn K (.ref f) = true
  | .cls c f, v => v = .ref c ∧ keepIn K (.ref c) = true ∧ makesIn K c = true ∧ findIn K (.ref c) "__init__" = some (some (.ref f)) ∧ isFn K (.ref f) = true
  | .bi b, v => v = biVal b
  | .isinst, v => v = .builtin "isinstance"
  | .ty t, v => v = tyVal t ∧ ∀ c, t = .exc c → ExcK K c
  | .tab l, v => ∃ a o es ep, v = .ref a ∧ K.lookup a = some o ∧ isTab o = true ∧ (a == sysModules) = false ∧ o.ExactDict ∧ o.data = .dict es ep ∧ ∀ x, NsAt [] (nsFind es x) (lookS l x)

noncomputable def nm : Str := "__name__"
noncomputable def cld : Str := "__classdict__"

structure EnvOk (K : Frag) (X : Cx) (env : Env) (rs : Rsv) (k : Nat) : Prop where
  len : X.locs.length = rs.N
  gone : ∀ j, k ≤ j → j < rs.N → X.locs[j]? = some Loc.gone
  kind : env.scope.kind = .function
  glb : env.globals = mainGlobals
  bns : env.builtins = builtinsNs
  slots : ∀ x i, rs.slot x = some i → x ≠ dbg ∧ x ≠ cld ∧
    ((env.kindOf x = some .local ∧ ((X.locs[i]? = some (Loc.loc x) ∧ env.locals = X.L) ∨ X.locs[i]? = some (Loc.at env.locals x)))
    ∨ ((env.kindOf x = some .cell ∨ env.kindOf x = some .free) ∧ ∃ c, env.cells.lookup x = some c ∧ X.locs[i]? = some (Loc.cell c)))
  cel : ∀ x, rs.cel x = true → (env.kindOf x = some .cell ∨ env.kindOf x = some .free) ∧ x ≠ dbg ∧ x ≠ cld ∧ ∃ i c, rs.slot x = some i ∧ env.cells.lookup x = some c ∧ X.locs[i]? = some (Loc.cell c)
  globs : ∀ x g, rs.slot x = none → rs.glob x = some g → env.kindOf x = some .globalImplicit ∧ ∃ v, GOk K g v ∧
    (nsIn K mainGlobals x = some (some v) ∨ (nsIn K mainGlobals x = some none ∧ bootBuiltins x = some v ∧ x ≠ nm))
  gt : ∀ x g, rs.gtab x = some g → ∃ v, GOk K g v ∧ (nsIn K mainGlobals x = some (some v) ∨ (nsIn K mainGlobals x = some none ∧ bootBuiltins x = some v ∧ x ≠ nm))
  loc : ∀ x i, rs.slot x = some i → rs.cel x = false → env.kindOf x = some .local

/-- the ground of an activation -/
structure Gr (K : Frag) (hb : Heap) (A : Around) (X : Cx) : Prop where
  kp : ∀ b o, hb.get? b = some o → X.Kp b = some o
  KX : K.In hb
  T : ∃ p loose mg mb, TopRead p loose mg mb hb
  mods : ∃ o, hb.get? sysModules = some o
  hd : ∀ v, A.handled = some v → ∃ eh oe vs, v = .ref eh ∧ X.Kp eh = some oe ∧ eh ∉ X.fr ∧ oe.data = .fields vs ∧ vs[2]? = some .none
  hU : A.units + 1 < cLine
  ok : CxOk X
  frs : ∃ l, A.frames = some l ∧ ∀ f ∈ l, f.scope.kind ≠ .module ∧ ∃ L, f.frame = some L ∧ (L = X.L ∨ L ∈ X.fr)
  hfr : ∀ b, b ∈ X.fr → hb.get? b = none

section
variable {prog : Program} {w : World} {A : Around} {X : Cx} {ι : List Addr} {st : ASt} {s : Shared} {v u : Value} {a b : AV} {K : Frag} {hb : Heap} {env : Env} {rs : Rsv} {k : Nat}

theorem vrel_any {v : Value} {a : AV} (h : VRel [] v a) (ι : List Addr) : VRel ι v a := h.mono ⟨ι, rfl⟩
theorem getLoc_some {i : Nat} {st st' : ASt} {v : AV} (h : getLoc i st = some (.ok v, st')) : st.ρ[i]? = some (some v) ∧ st' = st := by
  unfold getLoc at h
  split at h
  · rename_i e; cases h; exact ⟨e, rfl⟩
  · first | exact no_some h | cases h
theorem dbg_false {x : Str} (h : x ≠ dbg) : (x == ("__debug__" : Str)) = false := beq_eq_false_iff_ne.mpr h

theorem Gr.keep (G : Gr K hb A X) (R : Rel prog w X ι st s) : ∀ b o, hb.get? b = some o → s.heap.get? b = some o := R.keep G.kp G.hfr
theorem Gr.inK (G : Gr K hb A X) (R : Rel prog w X ι st s) : K.In s.heap := G.KX.keeps (G.keep R)

theorem rd_slot (R : Rel prog w X ι st s) (EO : EnvOk K X env rs k) {x : Str} {i : Nat} {pos : Pos} {Q : Value → Shared → Prop} {E : Value → Shared → Prop} (hx : rs.slot x = some i) (hr : st.ρ[i]? = some (some a)) (h : ∀ v, VRel ι v a → Q v s) :
    wpAny (model prog w) A (eval (.Name x pos) env) Q E s := by
  obtain ⟨hd, hcd, hs⟩ := EO.slots x i hx
  rcases hs with ⟨hk, hl⟩ | ⟨hk, c, hc, hl⟩
  · rcases hl with ⟨hl, hL⟩ | hl
    · obtain ⟨m, hm, hv⟩ := R.ns
      obtain ⟨v, e1, e2⟩ := hv i x a hl hr
      exact wpAny_Name (wpAny_loadName_local EO.kind hk (hL ▸ hm) e1 (h v e2)) (dbg_false hd)
    · obtain ⟨o, es, ep, v, h1, h2, h3, h4, h5⟩ := R.comps i _ x hl a hr
      obtain ⟨o', e1, e2⟩ := (R.frozen _ _ h1).data
      exact wpAny_Name (wpAny_loadName_local (m := nsFind es) EO.kind hk ⟨o', es, ep, e1, e2.trans h2, h3, fun _ => rfl⟩ h4 (h v h5)) (dbg_false hd)
  · obtain ⟨_, o, v', h1, h2, h3⟩ := R.cells i c hl
    obtain ⟨v, rfl, h4⟩ := h3 a hr
    rcases hk with hk | hk
    · exact wpAny_Name (wpAny_loadName_cell EO.kind hk hc ⟨o, h1, h2⟩ (h v h4)) (dbg_false hd)
    · exact wpAny_Name (wpAny_loadName_free EO.kind hk hc ⟨o, h1, h2⟩ (h v h4) (beq_eq_false_iff_ne.mpr hcd)) (dbg_false hd)

theorem rd_globA (hT : ∃ p loose mg mb, TopRead p loose mg mb hb) (keep : ∀ b o, hb.get? b = some o → s.heap.get? b = some o) (KX : K.In hb) (EO : EnvOk K X env rs k) {x : Str} {g : GV} {pos : Pos} {Q : Value → Shared → Prop} {E : Value → Shared → Prop} (hd : x ≠ dbg) (hx : rs.slot x = none) (hg : rs.glob x = some g) (h : ∀ v, GOk K g v → Q v s) :
    wpAny (model prog w) A (eval (.Name x pos) env) Q E s := by
  obtain ⟨hk, v, ho, hv⟩ := EO.globs x g hx hg
  obtain ⟨p, loose, mg, mb, T⟩ := hT
  have T' := T.keeps keep
  rcases hv with hv | ⟨hv, hb', hn⟩
  · exact Calls.Name_function_global EO.kind hk (Calls.loadGlobal_global (env := env) (EO.glb ▸ T'.g) (mg_of KX T.g hv) (h v ho)) (dbg_false hd)
  · exact Calls.Name_function_global EO.kind hk (Calls.loadGlobal_builtin (env := env) (EO.glb ▸ T'.g) (mg_none_of KX T.g hv) (EO.bns ▸ T'.b) ((T'.builtins x hn).trans hb') (h v ho)) (dbg_false hd)
theorem rd_glob (G : Gr K hb A X) (R : Rel prog w X ι st s) (EO : EnvOk K X env rs k) {x : Str} {g : GV} {pos : Pos} {Q : Value → Shared → Prop} {E : Value → Shared → Prop} (hd : x ≠ dbg) (hx : rs.slot x = none) (hg : rs.glob x = some g) (h : ∀ v, GOk K g v → Q v s) :
    wpAny (model prog w) A (eval (.Name x pos) env) Q E s := rd_globA G.T (G.keep R) G.KX EO hd hx hg h

/-- what must stand of the methods and attributes -/
structure StatOk (K : Frag) (rs : Rsv) : Prop where
  own : ∀ name c f, rs.meth name = some (.own c f) → findIn K (.ref c) "__getattribute__" = some (some (.builtin "object.__getattribute__")) ∧ findIn K (.ref c) "__getattr__" = some none ∧
    findIn K (.ref c) name = some (some (.ref f)) ∧ typeIn K (.ref f) = some (.type "function") ∧ keepIn K (.ref f) = true
  me : ∀ name m, rs.meth name = some (.me m) → name = Str.ofString (meName m)
  attr : ∀ name c, rs.attr name = some c → AttrOk K c name

theorem bnd_er {α β : Type} {m : M α} {f : α → M β} {st st' : ASt} {e : Nat} (h : bnd m f st = some (.error e, st')) : m st = some (.error e, st') ∨ ∃ a st₁, m st = some (.ok a, st₁) ∧ f a st₁ = some (.error e, st') := by
  unfold bnd at h
  match q : m st, h with
  | some (.ok a, st₁), h => exact .inr ⟨a, st₁, rfl, h⟩
  | some (.error e', st₁), h => cases h; exact .inl rfl
theorem bnd_ok {α β : Type} {m : M α} {f : α → M β} {st st₁ : ASt} {a : α} {x : Option (Except Nat β × ASt)} (h : m st = some (.ok a, st₁)) (g : f a st₁ = x) : bnd m f st = x := by
  unfold bnd; rw [h]; exact g
theorem compLoop_mono {q : IK} {v : AV} {n k : Nat} {t t' : M Bool} {el el' : M AV} (ht : ∀ st r st', t st = some (.ok r, st') → t' st = some (.ok r, st')) (he : ∀ st r st', el st = some (.ok r, st') → el' st = some (.ok r, st')) :
    ∀ {r j : Nat} {acc : List AV} {st st' : ASt} {xs : List AV}, compLoop q v n k t el r j acc st = some (.ok xs, st') → compLoop q v n k t' el' r j acc st = some (.ok xs, st')
  | 0, _, _, _, _, _, h => h
  | r + 1, j, acc, st, st', xs, h => by
    refine bnd_elim h fun x st₁ g1 g2 => ?_
    refine bnd_elim g2 fun _ st₂ g3 g4 => ?_
    refine bnd_elim g4 fun b st₃ g5 g6 => ?_
    refine bnd_ok g1 (bnd_ok g3 (bnd_ok (ht _ _ _ g5) ?_))
    cases b with
    | true =>
      rw [if_pos rfl] at g6 ⊢
      refine bnd_elim g6 fun y st₄ g7 g8 => ?_
      exact bnd_ok (he _ _ _ g7) (compLoop_mono ht he g8)
    | false =>
      rw [if_neg Bool.false_ne_true] at g6 ⊢
      exact compLoop_mono ht he g6
theorem aover_ok {P : AProg} {C : Calls} {iter : AE} {st st' : ASt} {p : AV × IK × Nat} (h : aover P C iter st = some (.ok p, st')) : ∃ st₁, aeval P C iter st = some (.ok p.1, st₁) ∧ iterLen p.1 st₁ = some (.ok p.2, st') ∧ p.2.2 ≤ line := by
  refine bnd_elim h fun v st₁ g1 g2 => ?_
  obtain ⟨qn, st₂, g3, g4⟩ := bnd_some g2
  refine bnd_elim g4 fun _ st₃ g5 g6 => ?_
  obtain ⟨h5, rfl⟩ := guard_some g5
  obtain ⟨rfl, rfl⟩ := ret_some g6
  exact ⟨st₁, g1, g3, of_decide_eq_true h5⟩
mutual
theorem axval_ok {P : AProg} {C : Calls} : ∀ (ae : AE) {st st' : ASt} {r : AV}, axval P C ae st = some (.ok r, st') → aeval P C ae st = some (.ok r, st')
  | .call f args, st, st', r, h => bnd_elim h fun as st₁ g1 g2 => bnd_ok (noerr_ok g1) g2
  | .own o c f name args, st, st', r, h => bnd_elim h fun a st₁ g1 g2 => bnd_elim g2 fun _ st₂ g3 g4 => bnd_elim g4 fun as st₃ g5 g6 => bnd_ok (noerr_ok g1) (bnd_ok (noerr_ok g3) (bnd_ok (noerr_ok g5) g6))
  | .bin op l r, st, st', _, h => bnd_elim h fun a st₁ g1 g2 => bnd_elim g2 fun b st₂ g3 g4 => bnd_ok (axval_ok l g1) (bnd_ok (axval_ok r g3) (noerr_ok g4))
  | .bi b args, st, st', _, h => bnd_elim h fun as st₁ g1 g2 => bnd_ok (axvals_ok args g1) (noerr_ok g2)
  | .comp k elt iter ifs, st, st', _, h => bnd_elim h fun p st₁ g1 g2 => bnd_elim g2 fun xs st₂ g3 g4 => by
    obtain ⟨st₀, q1, q2, q3⟩ := aover_ok (noerr_ok g1)
    exact bnd_ok q1 (bnd_ok q2 (bnd_ok (a := ()) (st₁ := st₁) (if_pos (decide_eq_true q3)) (bnd_ok (compLoop_mono (fun _ _ _ => noerr_ok) (fun _ _ _ q => axval_ok elt q) g3) g4)))
  | .cst _, _, _, _, h => noerr_ok h
  | .loc _, _, _, _, h => noerr_ok h
  | .neg _, _, _, _, h => noerr_ok h
  | .slc _ _ _, _, _, _, h => noerr_ok h
  | .tget _ _ _, _, _, _, h => noerr_ok h
  | .not _, _, _, _, h => noerr_ok h
  | .and _, _, _, _, h => noerr_ok h
  | .or _, _, _, _, h => noerr_ok h
  | .cmp l ops rs, _, _, _, h => bnd_elim h fun a st₁ g1 g2 => bnd_ok (axval_ok l g1) (noerr_ok g2)
  | .make c f args, _, _, _, h => bnd_elim h fun as st₁ g1 g2 => bnd_ok (noerr_ok g1) g2
  | .isi _ _, _, _, _, h => noerr_ok h
  | .meth _ _ _, _, _, _, h => noerr_ok h
  | .attr _ _ _, _, _, _, h => noerr_ok h
  | .sub _ _, _, _, _, h => noerr_ok h
  | .list _, _, _, _, h => noerr_ok h
  | .tuple _, _, _, _, h => noerr_ok h
  | .dict0, _, _, _, h => noerr_ok h
theorem axvals_ok {P : AProg} {C : Calls} : ∀ (aes : List AE) {st st' : ASt} {r : List AV}, axvals P C aes st = some (.ok r, st') → aevals P C aes st = some (.ok r, st')
  | [], _, _, _, h => h
  | e :: es, _, _, _, h => bnd_elim h fun a st₁ g1 g2 => bnd_elim g2 fun as st₂ g3 g4 => bnd_ok (axval_ok e g1) (bnd_ok (axvals_ok es g3) g4)
end
theorem axtop_ok {P : AProg} {C : Calls} (ae : AE) {st st' : ASt} {r : AV} (h : axtop P C ae st = some (.ok r, st')) : aeval P C ae st = some (.ok r, st') := by
  cases ae <;> first | exact axval_ok _ h | exact noerr_ok h
/-- expressions, tests, lists of expressions -/
noncomputable def SE (prog : Program) (w : World) (K : Frag) (hb : Heap) (A : Around) (P : AProg) (C : Calls) (rs : Rsv) (k : Nat) (e : Expr) (ae : AE) : Prop :=
  ∀ X env ι st s, Gr K hb A X → EnvOk K X env rs k → Rel prog w X ι st s → SimAt prog w A X ι st s (eval e env) (aeval P C ae) VR0
noncomputable def ST (prog : Program) (w : World) (K : Frag) (hb : Heap) (A : Around) (P : AProg) (C : Calls) (rs : Rsv) (k : Nat) (e : Expr) (ae : AE) : Prop :=
  ∀ X env ι st s, Gr K hb A X → EnvOk K X env rs k → Rel prog w X ι st s → SimAt prog w A X ι st s (isTrue e env (eval e env)) (atest P C ae) BR
/-- the frame is the one around -/
structure FEnv (A : Around) (X : Cx) (env : Env) : Prop where
  frame : env.frame = some X.L
  stack : ∃ e0 outer, A.frames = some (e0 :: outer) ∧ e0.frame = some X.L
/-- the raising call at the top of an expression -/
noncomputable def SX (prog : Program) (w : World) (K : Frag) (hb : Heap) (A : Around) (P : AProg) (C : Calls) (rs : Rsv) (k : Nat) (e : Expr) (ae : AE) : Prop :=
  ∀ X env ι st s, Gr K hb A X → EnvOk K X env rs k → FEnv A X env → Rel prog w X ι st s → SimX prog w A X ι st s (eval e env) (axval P C ae)
/-- all for one expression -/
structure S2 (prog : Program) (w : World) (K : Frag) (hb : Heap) (A : Around) (P : AProg) (C : Calls) (rs : Rsv) (k : Nat) (e : Expr) (ae : AE) : Prop where
  ev : SE prog w K hb A P C rs k e ae
  ts : ST prog w K hb A P C rs k e ae
  er : SX prog w K hb A P C rs k e ae
theorem SX.calm {prog : Program} {w : World} {K : Frag} {hb : Heap} {A : Around} {P : AProg} {C : Calls} {rs : Rsv} {k : Nat} {e : Expr} {ae : AE} (h : axval P C ae = noerr (aeval P C ae)) : SX prog w K hb A P C rs k e ae :=
  fun _ _ _ _ _ _ _ _ _ _ _ q => by rw [h] at q; exact (noerr_no q).elim
inductive SL (prog : Program) (w : World) (K : Frag) (hb : Heap) (A : Around) (P : AProg) (C : Calls) (rs : Rsv) (k : Nat) : List Expr → List AE → Prop
  | nil : SL prog w K hb A P C rs k [] []
  | cons {e ae es aes} : notStar e = true → S2 prog w K hb A P C rs k e ae → SL prog w K hb A P C rs k es aes → SL prog w K hb A P C rs k (e :: es) (ae :: aes)

variable {P : AProg} {C : Calls} {e e₁ e₂ : Expr} {ae ae₁ ae₂ : AE} {es : List Expr} {aes : List AE}

theorem star_one (h : notStar e = true) (r : List Expr) : starEach (e :: r) env = (false, eval e env) :: starEach r env := by
  cases e <;> first | rfl | cases h

theorem sim_args {pos : Pos} (L : SL prog w K hb A P C rs k es aes) : ∀ X env ι st s, Gr K hb A X → EnvOk K X env rs k → Rel prog w X ι st s →
    SimAt prog w A X ι st s (spliced (backTo pos (starEach es env))) (aevals P C aes) (fun ι vs as => F2 (VRel ι) vs as) := by
  induction L with
  | nil => intro X env ι st s G EO R; exact SimAt.pure (VR := fun ι vs as => F2 (VRel ι) vs as) R trivial
  | cons hn h _ ih =>
    intro X env ι st s G EO R r st' e Q E k
    refine bnd_elim e fun a st₁ e1 e2 => ?_
    refine bnd_elim e2 fun as st₂ e3 e4 => ?_
    obtain ⟨rfl, rfl⟩ := ret_some e4
    refine wpAny_items_cons (h.1 X env ι st s G EO R a st₁ e1 _ _ fun ι₁ s₁ v p₁ R₁ hv => ih X env ι₁ st₁ s₁ G EO R₁ as _ e3 _ _ fun ι₂ s₂ vs p₂ R₂ hvs => ?_) (star_one hn _)
    exact k ι₂ s₂ _ (p₁.trans p₂) R₂ ⟨hv.mono p₂, hvs⟩

theorem sim_argsX {pos : Pos} (L : SL prog w K hb A P C rs k es aes) : ∀ X env ι st s, Gr K hb A X → EnvOk K X env rs k → FEnv A X env → Rel prog w X ι st s →
    SimX prog w A X ι st s (spliced (backTo pos (starEach es env))) (axvals P C aes) := by
  induction L with
  | nil => intro X env ι st s G EO FE R r st' e; cases e
  | cons hn h _ ih =>
    intro X env ι st s G EO FE R r st' e Q E k
    rcases bnd_er e with g | ⟨a, st₁, g1, g2⟩
    · exact wpAny_items_cons (h.er X env ι st s G EO FE R r st' g _ _ k) (star_one hn _)
    · refine wpAny_items_cons (h.1 X env ι st s G EO R a st₁ (axval_ok _ g1) _ _ fun ι₁ s₁ v p₁ R₁ hv => ?_) (star_one hn _)
      rcases bnd_er g2 with g | ⟨as, st₂, g3, g4⟩
      · exact ih X env ι₁ st₁ s₁ G EO FE R₁ r st' g _ _ fun ι₂ s₂ v p₂ R₂ F => k ι₂ s₂ v (p₁.trans p₂) R₂ F
      · cases g4
/-- a plain expression's test -/
theorem test_plain (h : SE prog w K hb A P C rs k e ae) (hp : ∀ env whole, isTrue e env whole = (do let v ← whole; standAt e.pos; holding [v] (PySem.truthy v))) (ha : atest P C ae = bnd (aeval P C ae) truthy) (hx : SX prog w K hb A P C rs k e ae := by exact SX.calm rfl) : S2 prog w K hb A P C rs k e ae := by
  refine ⟨h, fun X env ι st s G EO R r st' e Q E kk => ?_, hx⟩
  rw [ha] at e
  refine bnd_elim e fun a st₁ e1 e2 => ?_
  refine wpAny_isTrue_value (h X env ι st s G EO R a st₁ e1 _ _ fun ι₁ s₁ v p₁ R₁ hv => ?_) (hp env _)
  exact sim_truthy R₁ hv r st' e2 Q E fun ι₂ s₂ b p₂ R₂ hb => kk ι₂ s₂ b (p₁.trans p₂) R₂ hb

theorem s_const {c : Const} {n : Nat} {pos : Pos} {v : AV} (hc : (match c with
      | .none => some (AE.cst .none)
      | .bool b => some (AE.cst (.bool b))
      | .int i => some (AE.cst (.int i))
      | .str x => some (AE.cst (.str x))
      | _ => none) = some (AE.cst v)) : S2 prog w K hb A P C rs k (.Constant c n pos) (.cst v) := by
  refine ⟨fun X env ι st s G EO R => SimAt.leaf R fun r st' e => ?_, fun X env ι st s G EO R r st' e Q E kk => ?_, .calm rfl⟩
  · obtain ⟨rfl, rfl⟩ := ret_some e
    refine ⟨rfl, fun Q E kk => ?_⟩
    cases c <;> first | cases hc | skip
    · exact PySem.wpAny_Constant_none (kk _ s.toks .none)
    · exact PySem.wpAny_Constant_bool (kk _ s.toks (.bool _))
    · exact wpAny_Constant_int (kk _ _ (.int _ _))
    · exact PySem.wpAny_Constant_str (kk _ _ (.str _ _))
  · refine wpAny_isTrue_value ?_ rfl
    cases c <;> first | cases hc | skip
    · exact PySem.wpAny_Constant_none (sim_truthy R .none r st' e Q E kk)
    · exact PySem.wpAny_Constant_bool (sim_truthy R (.bool _) r st' e Q E kk)
    · exact wpAny_Constant_int (sim_truthy (R.toks _) (.int _ _) r st' e Q E kk)
    · exact PySem.wpAny_Constant_str (sim_truthy (R.toks _) (.str _ _) r st' e Q E kk)

theorem s_loc {x : Str} {i : Nat} {pos : Pos} (hx : rs.slot x = some i) : S2 prog w K hb A P C rs k (.Name x pos) (.loc i) := by
  refine test_plain (fun X env ι st s G EO R => SimAt.leaf R fun r st' e => ?_) (fun _ _ => rfl) rfl
  obtain ⟨e1, rfl⟩ := getLoc_some e
  exact ⟨rfl, fun Q E kk => rd_slot R EO hx e1 fun v hv => kk v s.toks hv⟩
theorem s_glob {x : Str} {v : AV} {pos : Pos} (hd : x ≠ dbg) (hx : rs.slot x = none) (hg : rs.glob x = some (.val v)) : S2 prog w K hb A P C rs k (.Name x pos) (.cst v) := by
  refine test_plain (fun X env ι st s G EO R => SimAt.leaf R fun r st' e => ?_) (fun _ _ => rfl) rfl
  obtain ⟨rfl, rfl⟩ := ret_some e
  exact ⟨rfl, fun Q E kk => rd_glob G R EO hd hx hg fun v hv => kk v s.toks (vrel_any hv ι)⟩
theorem s_bin {op : Operator} {pos : Pos} (h₁ : S2 prog w K hb A P C rs k e₁ ae₁) (h₂ : S2 prog w K hb A P C rs k e₂ ae₂) : S2 prog w K hb A P C rs k (.BinOp e₁ op e₂ pos) (.bin op ae₁ ae₂) := by
  refine ⟨fun X env ι st s G EO R r st' e Q E kk => ?_, fun X env ι st s G EO R => SimAt.fail, fun X env ι st s G EO FE R r st' e Q E kk => ?_⟩
  rotate_left
  · rcases bnd_er e with g | ⟨a, st₁, g1, g2⟩
    · exact wpAny_BinOp (h₁.er _ _ _ _ _ G EO FE R r st' g _ _ kk)
    · rcases bnd_er g2 with g | ⟨b, st₂, g3, g4⟩
      · exact wpAny_BinOp (h₁.1 _ _ _ _ _ G EO R a st₁ (axval_ok _ g1) _ _ fun ι₁ s₁ v p₁ R₁ hv => h₂.er _ _ _ _ _ G EO FE R₁ r st' g _ _ fun ι₂ s₂ u p₂ R₂ F => kk ι₂ s₂ u (p₁.trans p₂) R₂ F)
      · exact (noerr_no g4).elim
  refine bnd_elim e fun a st₁ g1 g2 => ?_
  refine bnd_elim g2 fun b st₂ g3 g4 => ?_
  refine wpAny_BinOp (h₁.1 _ _ _ _ _ G EO R a st₁ g1 _ _ fun ι₁ s₁ v p₁ R₁ hv => h₂.1 _ _ _ _ _ G EO R₁ b st₂ g3 _ _ fun ι₂ s₂ u p₂ R₂ hu => ?_)
  exact sim_binop R₂ (hv.mono p₂) hu r st' g4 Q E fun ι₃ s₃ x p₃ R₃ hx => kk ι₃ s₃ x ((p₁.trans p₂).trans p₃) R₃ hx
theorem s_not {pos : Pos} (h : S2 prog w K hb A P C rs k e ae) : S2 prog w K hb A P C rs k (.UnaryOp .Not e pos) (.not ae) := by
  refine ⟨fun X env ι st s G EO R r st' e Q E kk => ?_, fun X env ι st s G EO R r st' e Q E kk => ?_, .calm rfl⟩
  · refine bnd_elim e fun a st₁ g1 g2 => ?_
    refine bnd_elim g2 fun b st₂ g3 g4 => ?_
    obtain ⟨rfl, rfl⟩ := ret_some g4
    refine wpAny_UnaryOp (h.1 _ _ _ _ _ G EO R a st₁ g1 _ _ fun ι₁ s₁ v p₁ R₁ hv => not_of ?_)
    exact sim_truthy R₁ hv b _ g3 _ _ fun ι₂ s₂ x p₂ R₂ hx => kk ι₂ s₂ _ (p₁.trans p₂) R₂ (by subst hx; exact .bool _)
  · refine bnd_elim e fun b st₁ g1 g2 => ?_
    obtain ⟨rfl, rfl⟩ := ret_some g2
    exact wpAny_isTrue_Not (h.2 _ _ _ _ _ G EO R b _ g1 _ _ fun ι₁ s₁ v p₁ R₁ hv => kk ι₁ s₁ _ p₁ R₁ (by subst hv; rfl))
theorem s_neg {pos : Pos} (h : S2 prog w K hb A P C rs k e ae) : S2 prog w K hb A P C rs k (.UnaryOp .USub e pos) (.neg ae) := by
  refine ⟨fun X env ι st s G EO R r st' e Q E kk => ?_, fun X env ι st s G EO R => SimAt.fail, .calm rfl⟩
  refine bnd_elim e fun a st₁ g1 g2 => ?_
  refine wpAny_UnaryOp (h.1 _ _ _ _ _ G EO R a st₁ g1 _ _ fun ι₁ s₁ v p₁ R₁ hv => ?_)
  cases hv with
  | int i t =>
    obtain ⟨rfl, rfl⟩ := ret_some g2
    exact PyProof.Rows.neg_int (kk ι₁ _ _ p₁ (R₁.toks _) (.int _ _))
  | _ => first | exact no_some g2 | cases g2

theorem sim_and {pos : Pos} (L : SL prog w K hb A P C rs k es aes) : ∀ X env ι st s, Gr K hb A X → EnvOk K X env rs k → Rel prog w X ι st s → SimAt prog w A X ι st s (boolOp pos .And (evalEach es env)) (aand P C aes) VR0 := by
  induction L with
  | nil => intro X env ι st s G EO R; exact SimAt.fail
  | @cons e ae es aes hn h L ih =>
    intro X env ι st s G EO R
    cases L with
    | nil => exact h.1 X env ι st s G EO R
    | cons hn' h' L' =>
      intro r st' e Q E kk
      · refine bnd_elim e fun a st₁ g1 g2 => ?_
        refine bnd_elim g2 fun b st₂ g3 g4 => ?_
        rw [evalEach, evalEach]
        · refine wpAny_bind (h.1 _ _ _ _ _ G EO R a st₁ g1 _ _ fun ι₁ s₁ v p₁ R₁ hv => wpAny_bind (wpAny_standAt (wpAny_bind (wpAny_holding ?_))))
          refine sim_truthy R₁ hv b st₂ g3 _ _ fun ι₂ s₂ t p₂ R₂ ht => ?_
          subst ht
          cases t with
          | true => exact ih X env ι₂ st₂ s₂ G EO R₂ r st' (by simpa using g4) Q E fun ι₃ s₃ x p₃ R₃ hx => kk ι₃ s₃ x ((p₁.trans p₂).trans p₃) R₃ hx
          | false =>
            have g4 : ret a st₂ = some (.ok r, st') := by simpa using g4
            obtain ⟨rfl, rfl⟩ := ret_some g4
            exact wpAny_pure (kk ι₂ s₂ v (p₁.trans p₂) R₂ (hv.mono p₂))
theorem sim_or {pos : Pos} (L : SL prog w K hb A P C rs k es aes) : ∀ X env ι st s, Gr K hb A X → EnvOk K X env rs k → Rel prog w X ι st s → SimAt prog w A X ι st s (boolOp pos .Or (evalEach es env)) (aor P C aes) VR0 := by
  induction L with
  | nil => intro X env ι st s G EO R; exact SimAt.fail
  | @cons e ae es aes hn h L ih =>
    intro X env ι st s G EO R
    cases L with
    | nil => exact h.1 X env ι st s G EO R
    | cons hn' h' L' =>
      intro r st' e Q E kk
      · refine bnd_elim e fun a st₁ g1 g2 => ?_
        refine bnd_elim g2 fun b st₂ g3 g4 => ?_
        rw [evalEach, evalEach]
        · refine wpAny_bind (h.1 _ _ _ _ _ G EO R a st₁ g1 _ _ fun ι₁ s₁ v p₁ R₁ hv => wpAny_bind (wpAny_standAt (wpAny_bind (wpAny_holding ?_))))
          refine sim_truthy R₁ hv b st₂ g3 _ _ fun ι₂ s₂ t p₂ R₂ ht => ?_
          subst ht
          cases t with
          | false => exact ih X env ι₂ st₂ s₂ G EO R₂ r st' (by simpa using g4) Q E fun ι₃ s₃ x p₃ R₃ hx => kk ι₃ s₃ x ((p₁.trans p₂).trans p₃) R₃ hx
          | true =>
            have g4 : ret a st₂ = some (.ok r, st') := by simpa using g4
            obtain ⟨rfl, rfl⟩ := ret_some g4
            exact wpAny_pure (kk ι₂ s₂ v (p₁.trans p₂) R₂ (hv.mono p₂))
theorem sim_all (L : SL prog w K hb A P C rs k es aes) : ∀ X env ι st s, Gr K hb A X → EnvOk K X env rs k → Rel prog w X ι st s → SimAt prog w A X ι st s (allTrue .And es env) (aall P C aes) BR := by
  induction L with
  | nil => intro X env ι st s G EO R r st' e Q E kk; obtain ⟨rfl, rfl⟩ := ret_some e; exact wpAny_allTrue_And_nil (kk ι s _ (Pre.refl ι) R rfl)
  | @cons e ae es aes hn h L ih =>
    intro X env ι st s G EO R r st' e Q E kk
    refine bnd_elim e fun b st₁ g1 g2 => ?_
    refine wpAny_allTrue_And_cons (h.2 _ _ _ _ _ G EO R b st₁ g1 _ _ fun ι₁ s₁ t p₁ R₁ ht => ?_)
    subst ht
    cases t with
    | true => exact ih X env ι₁ st₁ s₁ G EO R₁ r st' (by simpa using g2) Q E fun ι₃ s₃ x p₃ R₃ hx => kk ι₃ s₃ x (p₁.trans p₃) R₃ hx
    | false =>
      have g2 : ret false st₁ = some (.ok r, st') := by simpa using g2
      obtain ⟨rfl, rfl⟩ := ret_some g2
      exact kk ι₁ s₁ _ p₁ R₁ rfl
theorem sim_any (L : SL prog w K hb A P C rs k es aes) : ∀ X env ι st s, Gr K hb A X → EnvOk K X env rs k → Rel prog w X ι st s → SimAt prog w A X ι st s (allTrue .Or es env) (aany P C aes) BR := by
  induction L with
  | nil => intro X env ι st s G EO R r st' e Q E kk; obtain ⟨rfl, rfl⟩ := ret_some e; exact wpAny_allTrue_Or_nil (kk ι s _ (Pre.refl ι) R rfl)
  | @cons e ae es aes hn h L ih =>
    intro X env ι st s G EO R r st' e Q E kk
    refine bnd_elim e fun b st₁ g1 g2 => ?_
    refine wpAny_allTrue_Or_cons (h.2 _ _ _ _ _ G EO R b st₁ g1 _ _ fun ι₁ s₁ t p₁ R₁ ht => ?_)
    subst ht
    cases t with
    | false => exact ih X env ι₁ st₁ s₁ G EO R₁ r st' (by simpa using g2) Q E fun ι₃ s₃ x p₃ R₃ hx => kk ι₃ s₃ x (p₁.trans p₃) R₃ hx
    | true =>
      have g2 : ret true st₁ = some (.ok r, st') := by simpa using g2
      obtain ⟨rfl, rfl⟩ := ret_some g2
      exact kk ι₁ s₁ _ p₁ R₁ rfl
theorem s_and {pos : Pos} (L : SL prog w K hb A P C rs k es aes) : S2 prog w K hb A P C rs k (.BoolOp .And es pos) (.and aes) :=
  ⟨fun X env ι st s G EO R => by exact sim_and L X env ι st s G EO R, fun X env ι st s G EO R r st' e Q E kk => by
    exact wpAny_isTrue_BoolOp (sim_all L X env ι st s G EO R r st' e Q E kk), .calm rfl⟩
theorem s_or {pos : Pos} (L : SL prog w K hb A P C rs k es aes) : S2 prog w K hb A P C rs k (.BoolOp .Or es pos) (.or aes) :=
  ⟨fun X env ι st s G EO R => by exact sim_or L X env ι st s G EO R, fun X env ι st s G EO R r st' e Q E kk => by
    exact wpAny_isTrue_BoolOp (sim_any L X env ι st s G EO R r st' e Q E kk), .calm rfl⟩

theorem no_marks : ∀ {es : List Expr} {aes : List AE} (ops : List CmpOp), SL prog w K hb A P C rs k es aes → lastMarks ops es = false
  | [], _, ops, _ => by cases ops with | nil => rfl | cons o r => cases r <;> rfl
  | [e], _, ops, h => by
    cases h with
    | cons hn _ _ =>
      cases ops with
      | nil => rfl
      | cons o r =>
        cases r with
        | nil => cases e <;> first | rfl | cases hn
        | cons p q => cases q <;> rfl
  | e :: e' :: es, _, ops, h => by
    cases h with
    | cons hn _ h' =>
      cases ops with
      | nil => rfl
      | cons o r =>
        have := no_marks r h'
        cases r with
        | nil => rfl
        | cons _ _ => exact this

theorem sim_chain {pos : Pos} (L : SL prog w K hb A P C rs k es aes) : ∀ (ops : List CmpOp) X env ι st s v a, ops.length = es.length → Gr K hb A X → EnvOk K X env rs k → Rel prog w X ι st s → VRel ι v a → SimAt prog w A X ι st s (compareChain pos v ops (evalEach es env)) (achain P C aes a ops) CR := by
  induction L with
  | nil => intro ops X env ι st s v a hl G EO R hv; exact SimAt.fail
  | @cons e ae es aes hn h L ih =>
    intro ops X env ι st s v a hl G EO R hv
    cases ops with
    | nil => exact SimAt.fail
    | cons op ops =>
      intro r st' e Q E kk
      refine bnd_elim e fun b st₁ g1 g2 => ?_
      refine bnd_elim g2 fun t st₂ g3 g4 => ?_
      cases ops with
      | nil =>
        cases L with
        | nil =>
          have g4 : ret t st₂ = some (.ok r, st') := g4
          obtain ⟨rfl, rfl⟩ := ret_some g4
          rw [evalEach, evalEach]
          refine chain_last (h.1 _ _ _ _ _ G EO R b st₁ g1 _ _ fun ι₁ s₁ u p₁ R₁ hu => ?_)
          exact sim_cmpop G.hU G.kp G.mods R₁ (hv.mono p₁) hu r _ g3 Q E fun ι₂ s₂ x p₂ R₂ hx => kk ι₂ s₂ x (p₁.trans p₂) R₂ hx
        | cons hn' h' L' => simp at hl
      | cons op' ops =>
        cases L with
        | nil => simp at hl
        | cons hn' h' L' =>
          have g4 : (if t = true then achain P C _ b (op' :: ops) else ret false) st₂ = some (.ok r, st') := g4
          rw [evalEach, evalEach]
          refine chain_link (h.1 _ _ _ _ _ G EO R b st₁ g1 _ _ fun ι₁ s₁ u p₁ R₁ hu => ?_)
          refine sim_cmpop G.hU G.kp G.mods R₁ (hv.mono p₁) hu t st₂ g3 _ _ fun ι₂ s₂ x p₂ R₂ hx => ?_
          subst hx
          refine wpAny_truthy_bool ?_
          cases t with
          | true =>
            have := ih (op' :: ops) X env ι₂ st₂ s₂ u b (by simpa using hl) G EO R₂ (hu.mono p₂) r st' (by simpa using g4) Q E fun ι₃ s₃ x p₃ R₃ hx => kk ι₃ s₃ x ((p₁.trans p₂).trans p₃) R₃ hx
            rw [evalEach] at this
            exact this
          | false =>
            have g4 : ret false st₂ = some (.ok r, st') := by simpa using g4
            obtain ⟨rfl, rfl⟩ := ret_some g4
            exact kk ι₂ s₂ _ (p₁.trans p₂) R₂ rfl
theorem sim_testChain {pos : Pos} (L : SL prog w K hb A P C rs k es aes) : ∀ (ops : List CmpOp) X env ι st s v a, ops.length = es.length → Gr K hb A X → EnvOk K X env rs k → Rel prog w X ι st s → VRel ι v a → SimAt prog w A X ι st s (testChain pos v ops (evalEach es env)) (achain P C aes a ops) BR := by
  induction L with
  | nil => intro ops X env ι st s v a hl G EO R hv; exact SimAt.fail
  | @cons e ae es aes hn h L ih =>
    intro ops X env ι st s v a hl G EO R hv
    cases ops with
    | nil => exact SimAt.fail
    | cons op ops =>
      intro r st' e Q E kk
      refine bnd_elim e fun b st₁ g1 g2 => ?_
      refine bnd_elim g2 fun t st₂ g3 g4 => ?_
      cases ops with
      | nil =>
        cases L with
        | nil =>
          have g4 : ret t st₂ = some (.ok r, st') := g4
          obtain ⟨rfl, rfl⟩ := ret_some g4
          rw [evalEach, evalEach]
          refine test_last (h.1 _ _ _ _ _ G EO R b st₁ g1 _ _ fun ι₁ s₁ u p₁ R₁ hu => ?_)
          refine sim_cmpop G.hU G.kp G.mods R₁ (hv.mono p₁) hu r _ g3 _ _ fun ι₂ s₂ x p₂ R₂ hx => ?_
          subst hx
          exact wpAny_truthy_bool (kk ι₂ s₂ _ (p₁.trans p₂) R₂ rfl)
        | cons hn' h' L' => simp at hl
      | cons op' ops =>
        cases L with
        | nil => simp at hl
        | cons hn' h' L' =>
          have g4 : (if t = true then achain P C _ b (op' :: ops) else ret false) st₂ = some (.ok r, st') := g4
          rw [evalEach, evalEach]
          refine test_link (h.1 _ _ _ _ _ G EO R b st₁ g1 _ _ fun ι₁ s₁ u p₁ R₁ hu => ?_)
          refine sim_cmpop G.hU G.kp G.mods R₁ (hv.mono p₁) hu t st₂ g3 _ _ fun ι₂ s₂ x p₂ R₂ hx => ?_
          subst hx
          refine wpAny_truthy_bool ?_
          cases t with
          | true =>
            have := ih (op' :: ops) X env ι₂ st₂ s₂ u b (by simpa using hl) G EO R₂ (hu.mono p₂) r st' (by simpa using g4) Q E fun ι₃ s₃ x p₃ R₃ hx => kk ι₃ s₃ x ((p₁.trans p₂).trans p₃) R₃ hx
            rw [evalEach] at this
            exact this
          | false =>
            have g4 : ret false st₂ = some (.ok r, st') := by simpa using g4
            obtain ⟨rfl, rfl⟩ := ret_some g4
            exact kk ι₂ s₂ _ (p₁.trans p₂) R₂ rfl
theorem s_cmp {pos : Pos} {ops : List CmpOp} (h : S2 prog w K hb A P C rs k e ae) (L : SL prog w K hb A P C rs k es aes) (hl : ops.length = es.length) : S2 prog w K hb A P C rs k (.Compare e ops es pos) (.cmp ae ops aes) := by
  refine ⟨fun X env ι st s G EO R r st' e Q E kk => ?_, fun X env ι st s G EO R r st' e Q E kk => ?_, fun X env ι st s G EO FE R r st' e Q E kk => ?_⟩
  rotate_right
  · rcases bnd_er e with g | ⟨a, st₁, g1, g2⟩
    · show wpAny _ A (do compareChain pos (← eval _ env) ops (markedEach ops es (evalEach es env))) Q E s
      exact wpAny_bind (h.er _ _ _ _ _ G EO FE R r st' g _ _ kk)
    · exact (noerr_no g2).elim
  · refine bnd_elim e fun a st₁ g1 g2 => ?_
    refine bnd_elim g2 fun b st₂ g3 g4 => ?_
    obtain ⟨rfl, rfl⟩ := ret_some g4
    show wpAny _ A (do compareChain pos (← eval _ env) ops (markedEach ops es (evalEach es env))) Q E s
    rw [markedEach_of_false _ _ _ (no_marks ops L)]
    refine wpAny_bind (h.1 _ _ _ _ _ G EO R a st₁ g1 _ _ fun ι₁ s₁ v p₁ R₁ hv => ?_)
    exact sim_chain L ops X env ι₁ st₁ s₁ v a hl G EO R₁ hv b _ g3 Q E fun ι₂ s₂ x p₂ R₂ hx => kk ι₂ s₂ x (p₁.trans p₂) R₂ (by subst hx; exact .bool _)
  · refine bnd_elim e fun a st₁ g1 g2 => ?_
    show wpAny _ A (do testChain pos (← eval _ env) ops (markedEach ops es (evalEach es env))) Q E s
    rw [markedEach_of_false _ _ _ (no_marks ops L)]
    refine wpAny_bind (h.1 _ _ _ _ _ G EO R a st₁ g1 _ _ fun ι₁ s₁ v p₁ R₁ hv => ?_)
    exact sim_testChain L ops X env ι₁ st₁ s₁ v a hl G EO R₁ hv r _ g2 Q E fun ι₂ s₂ x p₂ R₂ hx => kk ι₂ s₂ x (p₁.trans p₂) R₂ hx
end
end Mine
namespace Mine
open PySem PySem.W PyProof.Rows

section
variable {prog : Program} {w : World} {A : Around} {X : Cx} {ι : List Addr} {st : ASt} {s : Shared} {v u : Value} {a b : AV} {K : Frag} {hb : Heap} {env : Env} {rs : Rsv} {k : Nat}
  {P : AProg} {C : Calls} {e e₁ e₂ : Expr} {ae ae₁ ae₂ : AE} {es : List Expr} {aes : List AE}

/-- what isinstance says of the text's exceptions -/
noncomputable def IsaK (P : AProg) (K : Frag) : Prop := ∀ c d b, P.isa c d = some b → ∀ (prog : Program) (w : World) (A : Around) (s : Shared) (x : Addr) (ox : Obj) (Q : Value → Shared → Prop) (E : Value → Shared → Prop),
  K.In s.heap → s.heap.get? x = some ox → ox.cls = .ref c → ox.dict = none → (∃ vs, ox.data = .fields vs) → (∀ tk, Q (.bool b) { s with toks := tk }) → wpAny (model prog w) A (call (.builtin "isinstance") [.ref x, d.elim (.type "ValueError") .ref]) Q E s
theorem sim_isaT {t : TY} (HI : IsaK P K) (HK : K.In s.heap) (R : Rel prog w X ι st s) (hv : VRel ι v a) : SimAt prog w A X ι st s (call (.builtin "isinstance") [v, tyVal t]) (isaT P a t) CR := by
  refine SimAt.leaf R fun r st' e => ?_
  cases hv with
  | int i t' =>
    obtain ⟨g, rfl⟩ := ofOpt_some e
    refine ⟨rfl, fun Q E kk => ?_⟩
    cases t <;> first | cases g | skip
    · exact IsiPair.int_int (kk _ s.toks rfl)
    · exact IsiPair.int_bool (kk _ _ rfl)
    · exact IsiPair.int_list (kk _ _ rfl)
    · exact IsiPair.int_str (kk _ _ rfl)
    · exact IsiPair.int_tuple (kk _ _ rfl)
  | bool i =>
    obtain ⟨g, rfl⟩ := ofOpt_some e
    refine ⟨rfl, fun Q E kk => ?_⟩
    cases t <;> first | cases g | skip
    · exact IsiPair.bool_int (kk _ s.toks rfl)
    · exact IsiPair.bool_bool (kk _ s.toks rfl)
    · exact IsiPair.bool_list (kk _ _ rfl)
    · exact IsiPair.bool_str (kk _ _ rfl)
    · exact IsiPair.bool_tuple (kk _ _ rfl)
  | none =>
    obtain ⟨g, rfl⟩ := ofOpt_some e
    refine ⟨rfl, fun Q E kk => ?_⟩
    cases t <;> first | cases g | skip
    · exact IsiPair.NoneType_int (kk _ _ rfl)
    · exact IsiPair.NoneType_bool (kk _ _ rfl)
    · exact IsiPair.NoneType_list (kk _ _ rfl)
    · exact IsiPair.NoneType_str (kk _ _ rfl)
    · exact IsiPair.NoneType_tuple (kk _ _ rfl)
  | str i t' =>
    obtain ⟨g, rfl⟩ := ofOpt_some e
    refine ⟨rfl, fun Q E kk => ?_⟩
    cases t <;> first | cases g | skip
    · exact IsiPair.str_int (kk _ _ rfl)
    · exact IsiPair.str_bool (kk _ _ rfl)
    · exact IsiPair.str_list (kk _ _ rfl)
    · exact IsiPair.str_str (kk _ s.toks rfl)
    · exact IsiPair.str_tuple (kk _ _ rfl)
  | obj h =>
    refine bnd_elim e fun o st₁ e1 e2 => ?_
    obtain ⟨g1, rfl⟩ := deref_some e1
    cases o with
    | list xs =>
      obtain ⟨g, rfl⟩ := ofOpt_some e2
      obtain ⟨vs, n, ho, _, _⟩ := R.plainList h g1
      refine ⟨rfl, fun Q E kk => ?_⟩
      cases t <;> first | cases g | skip
      · exact IsiPair.list_int ho rfl (kk _ _ rfl)
      · exact IsiPair.list_bool ho rfl (kk _ _ rfl)
      · exact IsiPair.list_list ho rfl (kk _ s.toks rfl)
      · exact IsiPair.list_str ho rfl (kk _ _ rfl)
      · exact IsiPair.list_tuple ho rfl (kk _ _ rfl)
    | tuple xs =>
      obtain ⟨g, rfl⟩ := ofOpt_some e2
      obtain ⟨o, ho, ⟨vs, n, rfl, _⟩, _⟩ := R.get h g1
      refine ⟨rfl, fun Q E kk => ?_⟩
      cases t <;> first | cases g | skip
      · exact IsiPair.tuple_int ho rfl (kk _ _ rfl)
      · exact IsiPair.tuple_bool ho rfl (kk _ _ rfl)
      · exact IsiPair.tuple_list ho rfl (kk _ _ rfl)
      · exact IsiPair.tuple_str ho rfl (kk _ _ rfl)
      · exact IsiPair.tuple_tuple ho rfl (kk _ s.toks rfl)
    | exr c =>
      obtain ⟨o, ho, hc, hd, vs, hv, _⟩ := R.get h g1
      cases t <;> first | exact (fail_some e2).elim | skip
      · obtain ⟨g, rfl⟩ := ofOpt_some e2
        exact ⟨rfl, fun Q E kk => HI _ _ _ g prog w A s _ o Q E HK ho hc hd ⟨vs, hv⟩ fun tk => kk _ tk rfl⟩
      · obtain ⟨g, rfl⟩ := ofOpt_some e2
        exact ⟨rfl, fun Q E kk => HI _ _ _ g prog w A s _ o Q E HK ho hc hd ⟨vs, hv⟩ fun tk => kk _ tk rfl⟩
    | _ => exact (fail_some e2).elim
  | top _ _ => first | exact no_some e | cases e

theorem args_shape (as : List AV) : as = [] ∨ (∃ x, as = [x]) ∨ (∃ x y, as = [x, y]) ∨ ∃ x y z r, as = x :: y :: z :: r := by
  cases as with
  | nil => exact .inl rfl
  | cons x as =>
    cases as with
    | nil => exact .inr (.inl ⟨x, rfl⟩)
    | cons y as =>
      cases as with
      | nil => exact .inr (.inr (.inl ⟨x, y, rfl⟩))
      | cons z r => exact .inr (.inr (.inr ⟨x, y, z, r, rfl⟩))
theorem f2_one {vs : List Value} {ι₁ : List Addr} {x : AV} (h : F2 (VRel ι₁) vs [x]) : ∃ v, vs = [v] ∧ VRel ι₁ v x := by
  cases vs with
  | nil => exact h.elim
  | cons v vs =>
    cases vs with
    | nil => exact ⟨v, rfl, h.1⟩
    | cons _ _ => exact h.2.elim
theorem f2_two {vs : List Value} {ι₁ : List Addr} {x y : AV} (h : F2 (VRel ι₁) vs [x, y]) : ∃ v u, vs = [v, u] ∧ VRel ι₁ v x ∧ VRel ι₁ u y := by
  cases vs with
  | nil => exact h.elim
  | cons v vs =>
    obtain ⟨u, rfl, hu⟩ := f2_one h.2
    exact ⟨v, u, rfl, h.1, hu⟩

/-- the arguments of a call -/
theorem sim_evalArgs {f : Value} {pos : Pos} (L : SL prog w K hb A P C rs k es aes) (G : Gr K hb A X) (EO : EnvOk K X env rs k) (R : Rel prog w X ι st s) {as : List AV} {st' : ASt} (e : aevals P C aes st = some (.ok as, st'))
    {Q : Args → Shared → Prop} {E : Value → Shared → Prop} (h : ∀ ι' s' vs, Pre ι ι' → Rel prog w X ι' st' s' → F2 (VRel ι') vs as → Q ⟨vs, []⟩ s') : wpAny (model prog w) A (evalArgs f true (backTo pos (starEach es env)) []) Q E s := by
  cases L with
  | nil =>
    obtain ⟨rfl, rfl⟩ := ret_some e
    exact evalArgs_nil3 (h ι s [] (Pre.refl ι) R trivial)
  | cons hn hh L =>
    have := sim_args (pos := pos) (SL.cons hn hh L) X env ι st s G EO R as st' e (fun vs s' => Q ⟨vs, []⟩ s') E (fun ι' s' vs p R' hv => h ι' s' vs p R' hv)
    rw [star_one hn] at this ⊢
    exact Calls.evalArgs_plain this
theorem sim_evalArgsX {f : Value} {pos : Pos} (L : SL prog w K hb A P C rs k es aes) (G : Gr K hb A X) (EO : EnvOk K X env rs k) (FE : FEnv A X env) (R : Rel prog w X ι st s) {r : Nat} {st' : ASt} (e : axvals P C aes st = some (.error r, st'))
    {Q : Args → Shared → Prop} {E : Value → Shared → Prop} (h : ∀ ι' s' v, Pre ι ι' → Rel prog w X ι' st' s' → Fly X ι' st'.σ r s'.heap v → E v s') : wpAny (model prog w) A (evalArgs f true (backTo pos (starEach es env)) []) Q E s := by
  cases L with
  | nil => cases e
  | cons hn hh L =>
    have := sim_argsX (pos := pos) (SL.cons hn hh L) X env ι st s G EO FE R r st' e (fun vs s' => Q ⟨vs, []⟩ s') E h
    rw [star_one hn] at this ⊢
    exact Calls.evalArgs_plain this
theorem plain_args {pos : Pos} (L : SL prog w K hb A P C rs k es aes) : (backTo pos (starEach es env)).any (·.1) = false := by
  induction L with
  | nil => rfl
  | cons hn _ _ ih => rw [star_one hn]; show (false || _) = false; rw [Bool.false_or]; exact ih

theorem call_rule {x : Str} {f : Addr} {p pos : Pos} (G : Gr K hb A X) (EO : EnvOk K X env rs k) (R : Rel prog w X ι st s) (hd : x ≠ dbg) (hx : rs.slot x = none) (hg : rs.glob x = some (.fn f)) (L : SL prog w K hb A P C rs k es aes) {as : List AV} {st₁ : ASt} (g1 : aevals P C aes st = some (.ok as, st₁))
    {Q : Value → Shared → Prop} {E : Value → Shared → Prop} (h : ∀ ι₁ s₁ vs, Pre ι ι₁ → Rel prog w X ι₁ st₁ s₁ → F2 (VRel ι₁) vs as → wpAny (model prog w) A (call (.ref f) vs) Q E s₁) : wpAny (model prog w) A (eval (.Call (.Name x p) es [] pos) env) Q E s := by
  refine wpAny_Call_Name_kw (rd_glob G R EO hd hx hg fun v hv => ?_)
  obtain ⟨rfl, hk⟩ := hv
  exact callWith_of (P := fun h => K.In h) (by rw [plain_args L]; rfl) (keeps_K hk) (sim_evalArgs L G EO R g1 fun ι₁ s₁ vs p₁ R₁ hvs => ⟨G.inK R₁, h ι₁ s₁ vs p₁ R₁ hvs⟩)
theorem s_call {x : Str} {f : Addr} {p pos : Pos} (CO : ∀ X ι st s us as, Gr K hb A X → Rel prog w X ι st s → F2 (VRel ι) us as → SimAt prog w A X ι st s (call (.ref f) us) (callFn C f as) VR0 ∧ SimX prog w A X ι st s (call (.ref f) us) (callFn C f as))
    (hd : x ≠ dbg) (hx : rs.slot x = none) (hg : rs.glob x = some (.fn f)) (L : SL prog w K hb A P C rs k es aes) : S2 prog w K hb A P C rs k (.Call (.Name x p) es [] pos) (.call f aes) := by
  refine test_plain (fun X env ι st s G EO R r st' e Q E kk => ?_) (fun _ _ => rfl) rfl (fun X env ι st s G EO FE R r st' e Q E kk => ?_)
  · refine bnd_elim e fun as st₁ g1 g2 => ?_
    exact call_rule G EO R hd hx hg L g1 fun ι₁ s₁ vs p₁ R₁ hvs => (CO X ι₁ st₁ s₁ vs as G R₁ hvs).1 r st' g2 Q E fun ι₂ s₂ y p₂ R₂ hy => kk ι₂ s₂ y (p₁.trans p₂) R₂ hy
  · refine bnd_err e (fun q => (noerr_no q).elim) fun as st₁ g1 g2 => ?_
    exact call_rule G EO R hd hx hg L (noerr_ok g1) fun ι₁ s₁ vs p₁ R₁ hvs => (CO X ι₁ st₁ s₁ vs as G R₁ hvs).2 r st' g2 Q E fun ι₂ s₂ y p₂ R₂ hy => kk ι₂ s₂ y (p₁.trans p₂) R₂ hy
theorem s_bi {x : Str} {bi : BI} {p pos : Pos} (hh : A.handled = none) (hna : isAny bi = false) (hd : x ≠ dbg) (hx : rs.slot x = none) (hg : rs.glob x = some (.bi bi)) (L : SL prog w K hb A P C rs k es aes)
    : S2 prog w K hb A P C rs k (.Call (.Name x p) es [] pos) (.bi bi aes) := by
  refine test_plain (fun X env ι st s G EO R r st' e Q E kk => ?_) (fun _ _ => rfl) rfl (fun X env ι st s G EO FE R r st' e Q E kk => ?_)
  rotate_left
  · rcases bnd_er e with g | ⟨as, st₁, g1, g2⟩
    · refine wpAny_Call_Name_kw (rd_glob G R EO hd hx hg fun v hv => ?_)
      have hv : v = biVal bi := hv
      subst hv
      have hx := fun {f : Value} => sim_evalArgsX (f := f) (pos := pos) (Q := fun a s₁ => wpAny (model prog w) A (call f ([] ++ a.pos) a.kw) Q E s₁) L G EO FE R g kk
      cases bi with
      | len => exact Calls.callWith_builtin (plain_args L) hx
      | min => exact Calls.callWith_builtin (plain_args L) hx
      | max => exact Calls.callWith_builtin (plain_args L) hx
      | sorted => exact Calls.callWith_builtin (plain_args L) hx
      | any => exact Calls.callWith_builtin (plain_args L) hx
      | range => exact PySem.callWith_type (plain_args L) hx
      | list => exact PySem.callWith_type (plain_args L) hx
      | int => exact PySem.callWith_type (plain_args L) hx
      | str => exact PySem.callWith_type (plain_args L) hx
      | tuple => exact PySem.callWith_type (plain_args L) hx
    · exact (noerr_no g2).elim
  refine bnd_elim e fun as st₁ g1 g2 => ?_
  refine wpAny_Call_Name_kw (rd_glob G R EO hd hx hg fun v hv => ?_)
  have hv : v = biVal bi := hv
  subst hv
  have fin : ∀ {f : Value}, (∀ ι₁ s₁ vs, Rel prog w X ι₁ st₁ s₁ → F2 (VRel ι₁) vs as → SimAt prog w A X ι₁ st₁ s₁ (call f vs) (callBi bi as) VR0) →
      wpAny (model prog w) A (evalArgs f true (backTo pos (starEach es env)) []) (fun a s₁ => wpAny (model prog w) A (call f ([] ++ a.pos) a.kw) Q E s₁) E s := by
    intro f h
    exact sim_evalArgs L G EO R g1 fun ι₁ s₁ vs p₁ R₁ hvs => h ι₁ s₁ vs R₁ hvs r st' g2 Q E fun ι₂ s₂ y p₂ R₂ hy => kk ι₂ s₂ y (p₁.trans p₂) R₂ hy
  have one : ∀ {vs : List Value} {ι₁ : List Addr} {x : AV}, F2 (VRel ι₁) vs [x] → ∃ v, vs = [v] ∧ VRel ι₁ v x := f2_one
  have two : ∀ {vs : List Value} {ι₁ : List Addr} {x y : AV}, F2 (VRel ι₁) vs [x, y] → ∃ v u, vs = [v, u] ∧ VRel ι₁ v x ∧ VRel ι₁ u y := f2_two
  cases bi with
  | len =>
    refine Calls.callWith_builtin (plain_args L) (fin fun ι₁ s₁ vs R₁ hvs => ?_)
    rcases args_shape as with rfl | ⟨x, rfl⟩ | ⟨x, y, rfl⟩ | ⟨x, y, z, r, rfl⟩
    · exact SimAt.fail
    · obtain ⟨v, rfl, hv⟩ := one hvs; exact sim_len G.kp G.mods R₁ hv
    · exact SimAt.fail
    · exact SimAt.fail
  | min =>
    refine Calls.callWith_builtin (plain_args L) (fin fun ι₁ s₁ vs R₁ hvs => ?_)
    rcases args_shape as with rfl | ⟨x, rfl⟩ | ⟨x, y, rfl⟩ | ⟨x, y, z, r, rfl⟩
    · exact SimAt.fail
    · exact SimAt.fail
    · obtain ⟨v, u, rfl, hv, hu⟩ := two hvs; exact sim_min hh R₁ hv hu
    · exact SimAt.fail
  | max =>
    refine Calls.callWith_builtin (plain_args L) (fin fun ι₁ s₁ vs R₁ hvs => ?_)
    rcases args_shape as with rfl | ⟨x, rfl⟩ | ⟨x, y, rfl⟩ | ⟨x, y, z, r, rfl⟩
    · exact SimAt.fail
    · exact SimAt.fail
    · obtain ⟨v, u, rfl, hv, hu⟩ := two hvs; exact sim_max hh R₁ hv hu
    · exact SimAt.fail
  | sorted =>
    refine Calls.callWith_builtin (plain_args L) (fin fun ι₁ s₁ vs R₁ hvs => ?_)
    rcases args_shape as with rfl | ⟨x, rfl⟩ | ⟨x, y, rfl⟩ | ⟨x, y, z, r, rfl⟩
    · exact SimAt.fail
    · obtain ⟨v, rfl, hv⟩ := one hvs; exact sim_sorted hh R₁ hv
    · exact SimAt.fail
    · exact SimAt.fail
  | range =>
    refine PySem.callWith_type (plain_args L) (fin fun ι₁ s₁ vs R₁ hvs => ?_)
    rcases args_shape as with rfl | ⟨x, rfl⟩ | ⟨x, y, rfl⟩ | ⟨x, y, z, r, rfl⟩
    · exact SimAt.fail
    · obtain ⟨v, rfl, hv⟩ := one hvs
      cases hv with
      | int i t => exact sim_range1 R₁
      | _ => exact SimAt.fail
    · obtain ⟨v, u, rfl, hv, hu⟩ := two hvs
      cases hv with
      | int i t =>
        cases hu with
        | int j t' => exact sim_range2 R₁
        | _ => exact SimAt.fail
      | _ => exact SimAt.fail
    · exact SimAt.fail
  | list =>
    refine PySem.callWith_type (plain_args L) (fin fun ι₁ s₁ vs R₁ hvs => ?_)
    rcases args_shape as with rfl | ⟨x, rfl⟩ | ⟨x, y, rfl⟩ | ⟨x, y, z, r, rfl⟩
    · exact SimAt.fail
    · obtain ⟨v, rfl, hv⟩ := one hvs; exact sim_list R₁ hv
    · exact SimAt.fail
    · exact SimAt.fail
  | int =>
    refine PySem.callWith_type (plain_args L) (fin fun ι₁ s₁ vs R₁ hvs => ?_)
    rcases args_shape as with rfl | ⟨x, rfl⟩ | ⟨x, y, rfl⟩ | ⟨x, y, z, r, rfl⟩
    · exact SimAt.fail
    · obtain ⟨v, rfl, hv⟩ := one hvs; exact sim_biInt R₁ hv
    · exact SimAt.fail
    · exact SimAt.fail
  | str =>
    refine PySem.callWith_type (plain_args L) (fin fun ι₁ s₁ vs R₁ hvs => ?_)
    rcases args_shape as with rfl | ⟨x, rfl⟩ | ⟨x, y, rfl⟩ | ⟨x, y, z, r, rfl⟩
    · exact SimAt.fail
    · obtain ⟨v, rfl, hv⟩ := one hvs; exact sim_biStr R₁ hv
    · exact SimAt.fail
    · exact SimAt.fail
  | tuple =>
    refine PySem.callWith_type (plain_args L) (fin fun ι₁ s₁ vs R₁ hvs => ?_)
    rcases args_shape as with rfl | ⟨x, rfl⟩ | ⟨x, y, rfl⟩ | ⟨x, y, z, r, rfl⟩
    · exact SimAt.fail
    · obtain ⟨v, rfl, hv⟩ := one hvs; exact sim_biTuple R₁ hv
    · exact SimAt.fail
    · exact SimAt.fail
  | any => cases hna
theorem s_isi (HI : IsaK P K) {x y : Str} {t : TY} {p p' pos : Pos} (hd : x ≠ dbg) (hx : rs.slot x = none) (hg : rs.glob x = some .isinst) (hd' : y ≠ dbg) (hy : rs.slot y = none) {g' : GV} (hg' : rs.glob y = some g') (hty : ∀ u, GOk K g' u → u = tyVal t) (hn : notStar e = true) (h : S2 prog w K hb A P C rs k e ae)
    : S2 prog w K hb A P C rs k (.Call (.Name x p) [e, .Name y p'] [] pos) (.isi ae t) := by
  refine test_plain (fun X env ι st s G EO R r st' ee Q E kk => ?_) (fun _ _ => rfl) rfl
  refine bnd_elim ee fun a st₁ g1 g2 => ?_
  refine bnd_elim g2 fun b st₂ g3 g4 => ?_
  obtain ⟨rfl, rfl⟩ := ret_some g4
  refine wpAny_Call_Name_kw (rd_glob G R EO hd hx hg fun v hv => ?_)
  have hv : v = .builtin "isinstance" := hv
  subst hv
  refine Calls.callWith_builtin (by rw [star_one hn]; rfl) ?_
  have := wpAny_items_cons (M := model prog w) (A := A) (env := env) (pos := pos) (e := e) (rest := [.Name y p']) (s := s) (E := E) (Q := fun vs s₁ => wpAny (model prog w) A (call (.builtin "isinstance") ([] ++ vs) []) Q E s₁)
    (h.1 X env ι st s G EO R a st₁ g1 _ _ fun ι₁ s₁ v p₁ R₁ hv => by
      refine wpAny_items_cons (rd_glob G R₁ EO hd' hy hg' fun u hu => wpAny_items_nil ?_)
      have hu : u = tyVal t := hty u hu
      subst hu
      exact sim_isaT HI (G.inK R₁) R₁ hv b _ g3 Q E fun ι₂ s₂ y p₂ R₂ hy => kk ι₂ s₂ y (p₁.trans p₂) R₂ (by subst hy; exact .bool _)) (star_one hn _)
  rw [star_one hn] at this ⊢
  exact Calls.evalArgs_plain this
end
end Mine
namespace Mine
open PySem
section
variable {prog : Program} {w : World} {A : Around} {E : Value → Shared → Prop} {s : Shared}
theorem entry_unchain : entryFor table "proto.unchain" = some Builtin.«proto.unchain» := entryFor_of_tree (by kernel_rfl)
/-- nothing to unchain -/
theorem unchain_none {v sl : Value} {eh : Addr} {b : Bool} {oe : Obj} {vs : Array Value} {Q : Value → Shared → Prop} (he : s.heap.get? eh = some oe) (hd : oe.data = .fields vs) (h2 : vs[2]? = some .none) (h : Q .none s) :
    wpAny (model prog w) A (runValue (.builtin "proto.unchain" ⟨[v, .ref eh, sl, .bool b], []⟩)) Q E s := by
  refine wpAny_runValue (codeAny_builtin entry_unchain ?_)
  show wpAny _ _ (field (.ref eh) 2 >>= _) _ _ s
  refine wpAny_bind (wpAny_field he hd h2 ?_)
  rw [if_pos (show (Value.none == Value.none) = true by decide)]
  first
    | exact wpAny_pure h
    | exact wpAny_bind (wpAny_pure (wpAny_pure h))
theorem raise_handled {α : Type} {x eh : Addr} {ox oe : Obj} {ws vs : Array Value} {Q : α → Shared → Prop} (hh : A.handled = some (.ref eh)) (hne : eh ≠ x) (hx : s.heap.get? x = some ox) (hxd : ox.data = .fields ws) (hw : 2 < ws.size) (he : s.heap.get? eh = some oe) (hd : oe.data = .fields vs) (h2 : vs[2]? = some .none)
    (h : E (.ref x) { s with heap := s.heap.update x (Obj.mapFields (·.setIfInBounds 2 (.ref eh))) }) : wpAny (model prog w) A (raiseNew (.ref x) : Sem α) Q E s := by
  unfold raiseNew
  refine wpAny_bind (wpAny_handled ?_)
  rw [hh]
  dsimp only
  rw [if_pos (show (Value.ref eh != Value.ref x) = true by simpa using hne)]
  refine wpAny_bind ?_
  refine wpAny_holding (unchain_none he hd h2 (wpAny_bind ?_))
  show wpAny _ _ (setField (.ref x) 2 (.ref eh)) _ _ s
  exact wpAny_setField hx hxd hw (wpAny_throw h)
/-- a list's iterator comes to its end while an exception is handled -/
theorem next_end {it l eh : Addr} {i : Nat} {items : Array Value} {oe : Obj} {vs : Array Value} {Q : Option Value → Shared → Prop} (hh : A.handled = some (.ref eh)) (hne : eh ≠ it) (he : s.heap.get? eh = some oe) (hd : oe.data = .fields vs) (h2 : vs[2]? = some .none)
    (hit : s.heap.IsListIter it l i) (hl : s.heap.IsList l items) (hx : items[i]? = none) (hQ : ∀ h', Heap.ExtBut it s.heap h' → Q none { s with heap := h' }) : wpAny (model prog w) A (pyNext (.ref it)) Q E s := by
  obtain ⟨o, ho, hc, hod⟩ := id hit
  obtain ⟨ol, hol, _, nl, hdl⟩ := hl
  have hlt := Heap.lt_size he
  unfold pyNext
  refine wpAny_bind (wpAny_attempt (wpAny_callSpecial?_slot (name := Str.ofString "__next__") hit.typeIs slot_listiter_next
    (wpAny_call_entry slot_listiter_next hit.typeIs entry_listiter_next ?_ (args_listiter_next _))))
  show wpAny _ _ (field (.ref it) 0 >>= _) _ _ s
  refine wpAny_bind (wpAny_field ho hod (x := .ref l) rfl ?_)
  rw [if_neg (show ¬ ((Value.ref l == Value.none) = true) from Bool.false_ne_true)]
  refine wpAny_bind (wpAny_field ho hod (x := .int i 0) rfl ?_)
  refine wpAny_bind (wpAny_seqItems hol hdl ?_)
  simp only [Int.toNat_natCast, hx]
  refine wpAny_bind (wpAny_rule (wpAny_bind (wpAny_setField ho hod (by simp) ?_)))
  refine wpAny_bind ?_
  simp only [newExc, newTuple]
  refine wpAny_bind (wpAny_newObj_type ?_ (by size_fits))
  refine wpAny_bind (m := firstArgMember _ _) (wpAny_of_eq (a := Value.none) (by first | rfl | (simp only [firstArgMember]; rfl)) ?_)
  refine wpAny_newObj_type ?_ (by size_fits)
  have he1 : (s.heap.update it (Obj.mapFields (·.setIfInBounds 0 Value.none))).get? eh = some oe := (Heap.get?_update_other _ _ (Ne.symm hne)).trans he
  have hext : Heap.ExtBut it s.heap (s.heap.update it (Obj.mapFields (·.setIfInBounds 0 Value.none))) := (Heap.SameBut.update ..).extBut
  generalize s.heap.update it (Obj.mapFields (·.setIfInBounds 0 Value.none)) = H1 at *
  dsimp only at *
  have he2 := Heap.get?_push_of_some { cls := .type "tuple", data := .seq #[] } he1
  have hext2 := hext.push { cls := .type "tuple", data := .seq #[] }
  generalize hT : ({ cls := .type "tuple", data := .seq #[] } : Obj) = ot at *
  generalize H1.push ot = H2 at *
  have hws : (#[Value.ref H1.objs.size, Value.none, Value.none, Value.none, Value.bool false, Value.none] ++ ownMembersOf (Value.type "StopIteration") []).size = 6 := rfl
  generalize (#[Value.ref H1.objs.size, Value.none, Value.none, Value.none, Value.bool false, Value.none] ++ ownMembersOf (Value.type "StopIteration") []) = ws at *
  have hx3 := Heap.get?_push_size H2 (o := { cls := Value.type "StopIteration", data := .fields ws }) rfl
  have hne2 : eh ≠ H2.objs.size := Nat.ne_of_lt (Heap.lt_size he2)
  refine raise_handled (A := A.in1) (eh := eh) hh hne2 hx3 rfl (by rw [hws]; decide) (Heap.get?_push_of_some _ he2) hd h2 ?_
  have hd4 := Obj.data_mapFields (o := { cls := Value.type "StopIteration", data := .fields ws }) rfl (·.setIfInBounds 2 (.ref eh))
  refine wpAny_bind (wpAny_isInstance (T := "StopIteration") (b := true) ⟨_, Heap.get?_update_self _ hx3 (Obj.isFreed_of_fields hd4), Obj.cls_mapFields _ _⟩ isSubtype_stop ?_)
  refine wpAny_pure (hQ _ fun b ob hb e => ?_)
  have hb2 := hext2 b ob hb e
  exact (Heap.get?_update_other _ _ (Nat.ne_of_gt (Heap.lt_size hb2))).trans (Heap.get?_push_of_some _ hb2)
end
end Mine
namespace Mine
open PySem PySem.W PyProof.Rows
section
variable {prog : Program} {w : World} {A : Around} {X : Cx} {ι : List Addr} {st : ASt} {s : Shared} {v u : Value} {a b : AV} {K : Frag} {hb : Heap} {env : Env} {rs : Rsv} {k : Nat}
  {P : AProg} {C : Calls} {es : List Expr} {aes : List AE}
/-- the walk over a list, its end while an exception is handled -/
theorem walk_h {I l eh : Addr} {items : Array Value} {oe : Obj} {vs : Array Value} (hh : A.handled = some (.ref eh)) (h1 : eh ≠ I) (h2 : l ≠ I) (hd : oe.data = .fields vs) (h3 : vs[2]? = some .none) :
    WalksS prog w A I [I, l, eh] [I] (fun a b => b = a) items.size (fun i v => items[i]? = some v) (fun i s => s.heap.IsListIter I l i ∧ s.heap.IsList l items ∧ s.heap.get? eh = some oe) where
  sub := fun b hb => by rw [List.mem_singleton.mp hb]; exact .head _
  grefl := fun _ => rfl
  gtrans := fun _ _ _ p q => q.trans p
  frame := fun i s h' tk q _ hk => by
    obtain ⟨⟨o, a1, a2⟩, ⟨o', b1, b2⟩, c1⟩ := q
    exact ⟨⟨o, hk _ (.head _) _ a1, a2⟩, ⟨o', hk _ (.tail _ (.head _)) _ b1, b2⟩, hk _ (.tail _ (.tail _ (.head _))) _ c1⟩
  item := fun i s Q E hi q hQ => by
    obtain ⟨a1, b1, c1⟩ := q
    refine wpAny_pyNext_list_item a1 b1 (x := items[i]) (Array.getElem?_eq_getElem hi) fun h' hit' hs => hQ _ _ (Array.getElem?_eq_getElem hi) ⟨hit', b1.extBut hs.extBut h2, hs.extBut _ _ h1 c1⟩ ⟨fun b o hb e => hs.extBut b o (fun q => hb (by rw [q]; exact .head _)) e, rfl, rfl, rfl, Nat.le_refl _⟩
  done := fun s Q E q hQ => by
    obtain ⟨a1, b1, c1⟩ := q
    exact next_end hh h1 c1 hd h3 a1 b1 (Array.getElem?_eq_none (Nat.le_refl _)) fun h' hs => hQ _ ⟨fun b o hb e => hs b o (fun q => hb (by rw [q]; exact .head _)) e, rfl, rfl, rfl, Nat.le_refl _⟩
  self := fun i s Q E q hQ => wpAny_pyIter_listiter q.1 hQ
theorem bools_at : ∀ {vs : List Value} {xs : List AV} {l : List Bool}, F2 (VRel ι) vs xs → allBools xs = some l → vs = l.map .bool
  | [], [], l, _, h => by cases h; rfl
  | v :: vs, x :: xs, l, hf, h => by
    cases x with
    | bool b =>
      obtain ⟨hv, hf⟩ := hf
      cases hv with
      | bool _ =>
        have h : (match allBools xs with | some l => some (b :: l) | none => none) = some l := h
        cases q : allBools xs with
        | none => rw [q] at h; cases h
        | some l' =>
          rw [q] at h; cases h
          rw [bools_at hf q]; rfl
    | _ => cases h
  | [], _ :: _, _, hf, _ => hf.elim
  | _ :: _, [], _, hf, _ => hf.elim
theorem any_range {l : List Bool} : (List.range l.length).any (fun j => l[j]?.getD false) = l.any id := by
  rw [Bool.eq_iff_iff, List.any_eq_true, List.any_eq_true]
  constructor
  · rintro ⟨j, hj, h⟩
    have hj := List.mem_range.mp hj
    rw [List.getElem?_eq_getElem hj] at h
    exact ⟨_, List.getElem_mem hj, h⟩
  · rintro ⟨b, hb, h⟩
    obtain ⟨j, hj, rfl⟩ := List.mem_iff_getElem.mp hb
    exact ⟨j, List.mem_range.mpr hj, by rw [List.getElem?_eq_getElem hj]; exact h⟩
theorem sim_anyL (G : Gr K hb A X) (hq : A.handled ≠ none) (R : Rel prog w X ι st s) (hv : VRel ι v a) : SimAt prog w A X ι st s (call (.builtin "any") [v]) (biAny a) VR0 := by
  intro r st' e Q E kk
  cases hv with
  | obj h =>
    refine bnd_elim e fun o st₁ e1 e2 => ?_
    obtain ⟨q1, rfl⟩ := deref_some e1
    cases o with
    | list xs =>
      refine bnd_elim e2 fun l st₂ e3 e4 => ?_
      obtain ⟨g, rfl⟩ := ofOpt_some e3
      obtain ⟨rfl, rfl⟩ := ret_some e4
      obtain ⟨vs, hl, hf, _⟩ := R.isList h q1
      cases hA : A.handled with
      | none => exact absurd hA hq
      | some hv =>
        obtain ⟨eh, oe, fs, rfl, k1, k2, k3, k4⟩ := G.hd _ hA
        have he : s.heap.get? eh = some oe := (R.frozen eh oe k1).get k2
        have hb' := bools_at hf g
        have hsz : vs.size = l.length := by have := congrArg List.length hb'; simpa using this
        have hls := hl
        obtain ⟨ol, hol, _⟩ := hls
        refine call_any_walkS (wpAny_pyIter_list hl ⟨_, _, _, _, _, _, _, fun j => l[j]?.getD false, rfl, walk_h (A := A.in1) (l := _) (items := vs) (eh := eh) (oe := oe) hA (Nat.ne_of_lt (Heap.lt_size he)) (Nat.ne_of_lt (Heap.lt_size hol)) k3 k4,
          ⟨⟨_, Heap.get?_push_size _ rfl, rfl, rfl⟩, hl.push _, Heap.get?_push_of_some _ he⟩, fun i y s' Q' E' hy hQ' => ?_, fun s' hm => ?_⟩)
        · have hy : vs.toList[i]? = some y := by simpa using hy
          rw [hb', List.getElem?_map] at hy
          cases hb0 : l[i]? with
          | none => rw [hb0] at hy; cases hy
          | some b0 =>
            rw [hb0] at hy; cases hy
            have hQ' : Q' (l[i]?.getD false) s' := hQ'
            rw [hb0] at hQ'
            exact wpAny_truthy_bool hQ'
        · rw [hsz, any_range]
          have hs' : s' = { s with heap := s'.heap, toks := s'.toks } := by
            obtain ⟨h', g', d', t', o'⟩ := s'
            have h1 := hm.gens; have h2 := hm.drawn; have h3 := hm.os
            dsimp only at h1 h2 h3
            subst h1; subst h2; subst h3; rfl
          rw [hs']
          refine kk ι _ _ (Pre.refl ι) (R.ext fun b ob e => hm.heap b ob (fun q => ?_) (Heap.get?_push_of_some _ e)) (.bool _)
          rw [List.mem_singleton] at q
          subst q
          exact absurd (Heap.lt_size e) (Nat.lt_irrefl _)
    | _ => exact (fail_some e2).elim
  | _ => first | exact no_some e | cases e
theorem s_any {x : Str} {p pos : Pos} (hq : A.handled ≠ none) (hd : x ≠ dbg) (hx : rs.slot x = none) (hg : rs.glob x = some (.bi .any)) (L : SL prog w K hb A P C rs k es aes) : S2 prog w K hb A P C rs k (.Call (.Name x p) es [] pos) (.bi .any aes) := by
  refine test_plain (fun X env ι st s G EO R r st' e Q E kk => ?_) (fun _ _ => rfl) rfl (fun X env ι st s G EO FE R r st' e Q E kk => ?_)
  · refine bnd_elim e fun as st₁ g1 g2 => ?_
    refine wpAny_Call_Name_kw (rd_glob G R EO hd hx hg fun v hv => ?_)
    have hv : v = .builtin "any" := hv
    subst hv
    refine Calls.callWith_builtin (plain_args L) (sim_evalArgs L G EO R g1 fun ι₁ s₁ vs p₁ R₁ hvs => ?_)
    rcases args_shape as with rfl | ⟨x, rfl⟩ | ⟨x, y, rfl⟩ | ⟨x, y, z, r, rfl⟩
    · exact no_some g2
    · obtain ⟨v, rfl, hv⟩ := f2_one hvs
      exact sim_anyL G hq R₁ hv r st' g2 Q E fun ι₂ s₂ y p₂ R₂ hy => kk ι₂ s₂ y (p₁.trans p₂) R₂ hy
    · exact no_some g2
    · exact no_some g2
  · rcases bnd_er e with g | ⟨as, st₁, g1, g2⟩
    · refine wpAny_Call_Name_kw (rd_glob G R EO hd hx hg fun v hv => ?_)
      have hv : v = .builtin "any" := hv
      subst hv
      exact Calls.callWith_builtin (plain_args L) (sim_evalArgsX L G EO FE R g kk)
    · exact (noerr_no g2).elim
end
end Mine
namespace Mine
open PySem PySem.W PyProof.Rows

/-- what a call gives, or raises -/
noncomputable def Outs (X : Cx) (ι : List Addr) (σ : List AO) (r : Except Nat AV) (v : Value) (h : Heap) : Prop := match r with
  | .ok a => VRel ι v a
  | .error e => Fly X ι σ e h v
noncomputable def resOf (r : Except Nat AV) (v : Value) : Result := match r with
  | .ok _ => .ok (.ret v)
  | .error _ => .error v
/-- the oracle for calls of the text's own defs -/
noncomputable def CodeOk (prog : Program) (w : World) (K : Frag) (hb : Heap) (A : Around) (C : Calls) : Prop :=
  ∀ f X ι st s us as, Gr K hb A X → Rel prog w X ι st s → F2 (VRel ι) us as → ∀ r st', callFn C f as st = some (r, st') →
    ∀ R : Result → Shared → Prop, (∀ ι' s' v, Pre ι ι' → Rel prog w X ι' st' s' → Outs X ι' st'.σ r v s'.heap → (∀ b o, b ∉ ι → b ∉ (A.frames.getD []).filterMap (·.frame) → s.heap.get? b = some o → s'.heap.get? b = some o) → R (resOf r v) s') → codeAny (model prog w) A (.call (.ref f) ⟨us, []⟩) R s
structure Oracle (prog : Program) (w : World) (K : Frag) (hb : Heap) (A : Around) (C : Calls) : Prop where
  here : CodeOk prog w K hb A C
  made : ∀ c rest, CodeOk prog w K hb (A.under (.builtin "type.__call__" ⟨.ref c :: rest, []⟩)) C
  room : A.units + 2 < cLine
  hh : A.handled = none
  tabs : TabsK w K

section
variable {prog : Program} {w : World} {A : Around} {X : Cx} {ι : List Addr} {st : ASt} {s : Shared} {v u : Value} {a b : AV} {K : Frag} {hb : Heap} {env : Env} {rs : Rsv} {k : Nat}
  {P : AProg} {C : Calls} {e e₁ e₂ : Expr} {ae ae₁ ae₂ : AE} {es : List Expr} {aes : List AE}

theorem Oracle.call (O : Oracle prog w K hb A C) (f X ι st s us as) (G : Gr K hb A X) (R : Rel prog w X ι st s) (hu : F2 (VRel ι) us as) : SimAt prog w A X ι st s (call (.ref f) us) (callFn C f as) VR0 ∧ SimX prog w A X ι st s (call (.ref f) us) (callFn C f as) :=
  ⟨fun r st' e _ _ kk => wpAny_call (O.here f X ι st s us as G R hu (.ok r) st' e _ fun ι' s' v p R' hv _ => kk ι' s' v p R' hv),
   fun r st' e _ _ kk => wpAny_call (O.here f X ι st s us as G R hu (.error r) st' e _ fun ι' s' v p R' hv _ => kk ι' s' v p R' hv)⟩

theorem under_type {c : Addr} {rest : List Value} : (A.under (.builtin "type.__call__" ⟨.ref c :: rest, []⟩)).handled = A.handled ∧ (A.under (.builtin "type.__call__" ⟨.ref c :: rest, []⟩)).units = A.units + 1 ∧ (A.under (.builtin "type.__call__" ⟨.ref c :: rest, []⟩)).depth = A.depth + 1 ∧ (A.under (.builtin "type.__call__" ⟨.ref c :: rest, []⟩)).frames = A.frames := by
  refine ⟨rfl, ?_, ?_, ?_⟩
  · show A.units + (1 + 3 * _) = _
    have : (Code.builtin "type.__call__" ⟨.ref c :: rest, []⟩).frames = 0 := by rfl
    rw [this]
  · show A.depth + Code.weight _ = _
    have : (Code.builtin "type.__call__" ⟨.ref c :: rest, []⟩).weight = 1 := by rfl
    rw [this]
  · rfl

theorem Gr.made (G : Gr K hb A X) (O : Oracle prog w K hb A C) (c : Addr) (rest : List Value) : Gr K hb (A.under (.builtin "type.__call__" ⟨.ref c :: rest, []⟩)) X :=
  ⟨G.kp, G.KX, G.T, G.mods, by rw [under_type.1]; exact G.hd, by rw [under_type.2.1]; have := O.room; omega, G.ok, by rw [under_type.2.2.2]; exact G.frs, G.hfr⟩

theorem callFn_some {f : Addr} {as : List AV} {st st' : ASt} {r : Except Nat AV} (h : callFn C f as st = some (r, st')) : C f as st.σ = some (r, st'.σ) ∧ st'.ρ = st.ρ := by
  unfold callFn at h
  split at h
  · rename_i e; cases h; exact ⟨e, rfl⟩
  · first | exact no_some h | cases h

theorem attrBase_plain {o : Expr} {name : Str} {env : Env} (hp : plainBase o = true) : attributeBase o name env (eval o env) = eval o env := by
  cases o with
  | Call f as kw p => cases f with
    | Name id q => cases as with
      | nil => cases kw with
        | nil => cases hp
        | cons _ _ => rfl
      | cons _ _ => rfl
    | _ => rfl
  | _ => rfl
theorem s_attr {o : Expr} {ao : AE} {name : Str} {c : Addr} {pos : Pos} (hp : plainBase o = true) (h : S2 prog w K hb A P C rs k o ao) (ok : AttrOk K c name) : S2 prog w K hb A P C rs k (.Attribute o name pos) (.attr ao c name) := by
  refine test_plain (fun X env ι st s G EO R r st' ee Q E kk => ?_) (fun _ _ => rfl) rfl
  refine bnd_elim ee fun a st₁ g1 g2 => ?_
  have hb' := attrBase_plain (name := name) (env := env) hp
  refine Attribute_any_ (h.1 X env ι st s G EO R a st₁ g1 _ _ fun ι₁ s₁ v p₁ R₁ hv => ?_) (by rw [arm_eval_Attribute, hb'])
  exact sim_getAttr R₁ (G.inK R₁) ok hv true r st' g2 Q E fun ι₂ s₂ y p₂ R₂ hy => kk ι₂ s₂ y (p₁.trans p₂) R₂ hy

theorem isInst_some {c : Addr} {name : Str} {o : AV} {st st' : ASt} {x : Unit} (h : isInst c name o st = some (.ok x, st')) :
    st' = st ∧ ∃ i d fs, o = .obj i ∧ st.σ[i]? = some (.inst c d) ∧ st.σ[d]? = some (.ns fs) ∧ lookS fs name = none := by
  refine bnd_elim h fun df st₁ e1 e2 => ?_
  obtain ⟨rfl, i, rfl, q1, q2⟩ := fields_some e1
  obtain ⟨g, rfl⟩ := guard_some e2
  exact ⟨rfl, i, df.1, df.2, rfl, q1, q2, Option.isNone_iff_eq_none.mp g⟩

theorem MethodCall2_ {o : Expr} {name : Str} {apos pos : Pos} {args : List Expr} {Q : Value → Shared → Prop} {E : Value → Shared → Prop} (hp : plainBase o = true) (hpos : apos.endLine = pos.line) (hst : (backTo pos (starEach args env)).any (·.1) = false) (hlen : args.length < 25)
    (h : wpAny (model prog w) A (eval o env) (fun ov s₁ => ∀ pl, wpAny (model prog w) A (getMethod ov name pl) (fun fx s₂ => wpAny (model prog w) A (callWith pos fx.1 fx.2 (backTo pos (starEach args env)) []) Q E s₂) E s₁) E s) :
    wpAny (model prog w) A (eval (.Call (.Attribute o name apos) args [] pos) env) Q E s := by
  have hb' := attrBase_plain (name := name) (env := env) hp
  have hform : methodCallForm (args.length + ([] : List Keyword).length) (backTo pos (starEach args env)) (backToKw pos (keywordEach [] env)) = true := by
    unfold methodCallForm
    have h1 : (backTo pos (starEach args env)).all (!·.1) = true := by
      rw [List.all_eq_not_any_not]; simpa using hst
    rw [h1]
    have : (backToKw pos (keywordEach [] env)) = [] := rfl
    rw [this]
    simp; omega
  show wpAny _ A (do
    let ov ← attributeBase o name env (eval o env)
    standAt apos.atName
    methodCall o name apos pos env ov (args.length + ([] : List Keyword).length) (backTo pos (starEach args env)) (backToKw pos (keywordEach [] env))) Q E s
  rw [hb']
  refine wpAny_bind (wpAny_mono h (fun ov s₁ h₁ => wpAny_bind (wpAny_standAt ?_)) fun _ _ x => x)
  unfold methodCall
  rw [hform]
  have hc : ∀ ov, calleeOf true o env ov name = getMethod ov name (do return (← importBound o env).getD true) := fun ov => rfl
  rw [hc]
  refine wpAny_bind (wpAny_holding (wpAny_mono (h₁ _) (fun fx s₂ h₂ => ?_) fun _ _ x => x))
  have hm : methodCallPos true o env apos pos = pure pos := by
    unfold methodCallPos
    rw [hpos]; simp
  show wpAny _ A (methodCallPos true o env apos pos >>= fun callPos => callWith callPos fx.1 fx.2 (backTo pos (starEach args env)) (backToKw pos (keywordEach [] env))) Q E s₂
  rw [hm]
  exact wpAny_bind (wpAny_pure h₂)

theorem own_rule {o : Expr} {ao : AE} {name : Str} {c f : Addr} {apos pos : Pos} (G : Gr K hb A X) (EO : EnvOk K X env rs k) (R : Rel prog w X ι st s) (hp : plainBase o = true) (hpos : apos.endLine = pos.line) (hlen : es.length < 25) (h : S2 prog w K hb A P C rs k o ao) (L : SL prog w K hb A P C rs k es aes)
    (ok : findIn K (.ref c) "__getattribute__" = some (some (.builtin "object.__getattribute__")) ∧ findIn K (.ref c) "__getattr__" = some none ∧
    findIn K (.ref c) name = some (some (.ref f)) ∧ typeIn K (.ref f) = some (.type "function") ∧ keepIn K (.ref f) = true) {a : AV} {as : List AV} {st₁ st₂ st₃ : ASt} {u : Unit} (g1 : aeval P C ao st = some (.ok a, st₁)) (g3 : isInst c name a st₁ = some (.ok u, st₂)) (g5 : aevals P C aes st₂ = some (.ok as, st₃))
    {Q : Value → Shared → Prop} {E : Value → Shared → Prop} (kk : ∀ ι₂ s₂ vs, Pre ι ι₂ → Rel prog w X ι₂ st₃ s₂ → F2 (VRel ι₂) vs (a :: as) → wpAny (model prog w) A (call (.ref f) vs) Q E s₂) : wpAny (model prog w) A (eval (.Call (.Attribute o name apos) es [] pos) env) Q E s := by
  obtain ⟨rfl, i, d, fs, rfl, q1, q2, q3⟩ := isInst_some g3
  refine MethodCall2_ hp hpos (plain_args L) hlen (h.1 X env ι st s G EO R _ st₂ g1 _ _ fun ι₁ s₁ v p₁ R₁ hv pl => ?_)
  obtain ⟨x, rfl, hx⟩ := hv.obj_inv
  obtain ⟨ox, dx, od, es', ep, I, hd, hi, hod, hde, hk, hn, hl, hl'⟩ := R₁.instAt hx q1 q2
  have hnn := hn name
  rw [q3] at hnn
  refine method_fn (G.inK R₁) I ok.1 ok.2.1 ok.2.2.1 ok.2.2.2.1 ?_ ?_
  · show (lookIn name od).map (·.isSome) = some false
    rw [lookIn_of hde hk]
    cases q : nsFind es' name with
    | none => rfl
    | some _ => rw [q] at hnn; exact hnn.elim
  · exact callWith_of (P := fun h => K.In h) (by rw [plain_args L]; rfl) (keeps_K ok.2.2.2.2) (sim_evalArgs L G EO R₁ g5 fun ι₂ s₂ vs p₂ R₂ hvs => ⟨G.inK R₂, kk ι₂ s₂ (.ref x :: vs) (p₁.trans p₂) R₂ ⟨hv.mono p₂, hvs⟩⟩)
theorem s_own {o : Expr} {ao : AE} {name : Str} {c f : Addr} {apos pos : Pos} (O : Oracle prog w K hb A C) (hp : plainBase o = true) (hpos : apos.endLine = pos.line) (hlen : es.length < 25) (h : S2 prog w K hb A P C rs k o ao) (L : SL prog w K hb A P C rs k es aes)
    (ok : findIn K (.ref c) "__getattribute__" = some (some (.builtin "object.__getattribute__")) ∧ findIn K (.ref c) "__getattr__" = some none ∧
    findIn K (.ref c) name = some (some (.ref f)) ∧ typeIn K (.ref f) = some (.type "function") ∧ keepIn K (.ref f) = true) :
    S2 prog w K hb A P C rs k (.Call (.Attribute o name apos) es [] pos) (.own ao c f name aes) := by
  refine test_plain (fun X env ι st s G EO R r st' ee Q E kk => ?_) (fun _ _ => rfl) rfl (fun X env ι st s G EO FE R r st' ee Q E kk => ?_)
  · refine bnd_elim ee fun a st₁ g1 g2 => ?_
    refine bnd_elim g2 fun _ st₂ g3 g4 => ?_
    refine bnd_elim g4 fun as st₃ g5 g6 => ?_
    exact own_rule G EO R hp hpos hlen h L ok g1 g3 g5 fun ι₂ s₂ vs p₂ R₂ hvs => (O.call f X ι₂ st₃ s₂ vs (a :: as) G R₂ hvs).1 r st' g6 Q E fun ι₃ s₃ y p₃ R₃ hy => kk ι₃ s₃ y (p₂.trans p₃) R₃ hy
  · refine bnd_err ee (fun q => (noerr_no q).elim) fun a st₁ g1 g2 => ?_
    refine bnd_err g2 (fun q => (noerr_no q).elim) fun _ st₂ g3 g4 => ?_
    refine bnd_err g4 (fun q => (noerr_no q).elim) fun as st₃ g5 g6 => ?_
    exact own_rule G EO R hp hpos hlen h L ok (noerr_ok g1) (noerr_ok g3) (noerr_ok g5) fun ι₂ s₂ vs p₂ R₂ hvs => (O.call f X ι₂ st₃ s₂ vs (a :: as) G R₂ hvs).2 r st' g6 Q E fun ι₃ s₃ y p₃ R₃ hy => kk ι₃ s₃ y (p₂.trans p₃) R₃ hy

theorem s_meth {o : Expr} {ao : AE} {m : ME} {apos pos : Pos} (hp : plainBase o = true) (hpos : apos.endLine = pos.line) (hlen : es.length < 25) (h : S2 prog w K hb A P C rs k o ao) (L : SL prog w K hb A P C rs k es aes) :
    S2 prog w K hb A P C rs k (.Call (.Attribute o (Str.ofString (meName m)) apos) es [] pos) (.meth ao m aes) := by
  refine test_plain (fun X env ι st s G EO R r st' ee Q E kk => ?_) (fun _ _ => rfl) rfl
  refine bnd_elim ee fun a st₁ g1 g2 => ?_
  refine bnd_elim g2 fun kd st₂ g3 g4 => ?_
  refine bnd_elim g4 fun as st₃ g5 g6 => ?_
  have e12 := (kindOf_some g3).1
  subst e12
  have hs : served kd m = true := by
    cases kd with
    | list =>
      unfold callMeth at g6
      cases a with
      | obj i =>
        refine bnd_elim g6 fun o st₄ e1 e2 => ?_
        cases o with
        | list xs => cases m <;> first | rfl | exact no_some e2
        | _ => exact (fail_some e2).elim
      | _ => first | exact no_some g6 | cases g6
    | dict =>
      unfold callMeth at g6
      cases a with
      | obj i =>
        refine bnd_elim g6 fun o st₄ e1 e2 => ?_
        cases o with
        | dict xs => cases m <;> first | rfl | exact no_some e2
        | _ => exact (fail_some e2).elim
      | _ => first | exact no_some g6 | cases g6
    | str =>
      cases a with
      | str x => cases m <;> first | rfl | exact no_some g6
      | _ => first | exact no_some g6 | cases g6
  refine MethodCall2_ hp hpos (plain_args L) hlen (h.1 X env ι st s G EO R _ st₂ g1 _ _ fun ι₁ s₁ v p₁ R₁ hv pl => ?_)
  refine getMeth R₁ hv g3 hs ?_
  refine Calls.callWith_builtin (plain_args L) (sim_evalArgs L G EO R₁ g5 fun ι₂ s₂ vs p₂ R₂ hvs => ?_)
  obtain ⟨_, hk⟩ := kindOf_some g3
  show wpAny _ A (call _ (v :: vs) []) Q E s₂
  have hv₂ := hv.mono p₂
  cases kd with
  | list =>
    obtain ⟨i, xs, rfl, _⟩ := hk
    obtain ⟨x, rfl, hx⟩ := hv₂.obj_inv
    refine bnd_elim g6 fun o st₄ e1 e2 => ?_
    obtain ⟨q1, rfl⟩ := deref_some e1
    cases o with
    | list xs => exact sim_meList R₂ hx q1 hs hvs r st' e2 Q E fun ι₃ s₃ y p₃ R₃ hy => kk ι₃ s₃ y ((p₁.trans p₂).trans p₃) R₃ hy
    | _ => exact (fail_some e2).elim
  | dict =>
    obtain ⟨i, xs, rfl, _⟩ := hk
    obtain ⟨x, rfl, hx⟩ := hv₂.obj_inv
    refine bnd_elim g6 fun o st₄ e1 e2 => ?_
    obtain ⟨q1, rfl⟩ := deref_some e1
    cases o with
    | dict xs => exact sim_meDict G.kp G.mods R₂ hx q1 hs hvs r st' e2 Q E fun ι₃ s₃ y p₃ R₃ hy => kk ι₃ s₃ y ((p₁.trans p₂).trans p₃) R₃ hy
    | _ => exact (fail_some e2).elim
  | str =>
    obtain ⟨x, rfl⟩ := hk
    cases hv₂ with
    | str _ t => exact sim_meStr R₂ hvs r st' g6 Q E fun ι₃ s₃ y p₃ R₃ hy => kk ι₃ s₃ y ((p₁.trans p₂).trans p₃) R₃ hy

theorem getItem_obj {a b : AV} {st st' : ASt} {r : AV} (h : getItem a b st = some (.ok r, st')) : (∃ i, a = .obj i) ∨ ∃ x, a = .str x := by
  cases a with
  | obj i => exact .inl ⟨_, rfl⟩
  | str x => exact .inr ⟨_, rfl⟩
  | _ => exact no_some h
theorem isStr_self (x : Str) (t : Tok) : Value.isStrOf x (.str x t) = true := by simp [Value.isStrOf]
theorem isStrOf_eq (x : Str) (v : Value) : Value.isStrOf x v = v.isStr x := by cases v <;> rfl
theorem findStr (es : Array DictEntry) (x : Str) : findBy (PySem.strKind prog w).is es x = nsFind es x := by
  unfold nsFind findBy
  have : (fun e : DictEntry => (PySem.strKind prog w).is x e.key) = fun e => e.key.isStr x := funext fun e => isStrOf_eq x e.key
  rw [this]
theorem tab_of : ∀ {es : List DictEntry} {l : List (Str × AV)}, F2 (fun e p => (∃ t, e.key = .str p.1 t) ∧ VRel [] e.val p.2) es l → ∀ x, NsAt [] ((es.find? fun e => e.key.isStr x).map (·.val)) (lookS l x)
  | [], [], _, _ => trivial
  | e :: es, (y, a) :: l, h, x => by
    obtain ⟨⟨t, ht⟩, hv⟩ := h.1
    have hk : e.key.isStr x = decide (y = x) := by
      rw [ht]
      show (y == x) = _
      by_cases q : y = x
      · subst q; simp
      · simp [q]
    unfold lookS
    by_cases q : y = x
    · rw [List.find?_cons_of_pos (by rw [hk]; exact decide_eq_true q), if_pos q]; exact hv
    · rw [List.find?_cons_of_neg (by rw [hk]; simpa using q), if_neg q]; exact tab_of h.2 x
  | [], _ :: _, h, _ => h.elim
  | _ :: _, [], h, _ => h.elim
theorem tab_arr {es : Array DictEntry} {l : List (Str × AV)} (h : F2 (fun e p => (∃ t, e.key = .str p.1 t) ∧ VRel [] e.val p.2) es.toList l) (x : Str) : NsAt [] (nsFind es x) (lookS l x) := by
  have := tab_of h x
  unfold nsFind findBy
  rw [← Array.find?_toList]; exact this
/-- a table of the text, asked with get -/
theorem s_tget {y : Str} {l : List (Str × AV)} {p apos pos : Pos} {ex ed : Expr} {ax ad : AE} (O : Oracle prog w K hb A C) (hd : y ≠ dbg) (hx : rs.slot y = none) (hg : rs.glob y = some (.tab l)) (hn1 : notStar ex = true) (hn2 : notStar ed = true) (hpos : apos.endLine = pos.line)
    (h1 : S2 prog w K hb A P C rs k ex ax) (h2 : S2 prog w K hb A P C rs k ed ad) : S2 prog w K hb A P C rs k (.Call (.Attribute (.Name y p) "get" apos) [ex, ed] [] pos) (.tget l ax ad) := by
  refine ⟨fun X env ι st s G EO R r st' ee Q E kk => ?_, fun X env ι st s G EO R => SimAt.fail, .calm rfl⟩
  refine bnd_elim ee fun a st₁ g1 g2 => ?_
  refine bnd_elim g2 fun b st₂ g3 g4 => ?_
  have L : SL prog w K hb A P C rs k [ex, ed] [ax, ad] := .cons hn1 h1 (.cons hn2 h2 .nil)
  have g5 : aevals P C [ax, ad] st = some (.ok [a, b], st₂) := by
    show bnd (aeval P C ax) (fun v => bnd (bnd (aeval P C ad) fun v => bnd (aevals P C []) fun vs => ret (v :: vs)) fun vs => ret (v :: vs)) st = _
    unfold bnd; rw [g1]; dsimp only; rw [g3]; rfl
  refine MethodCall2_ rfl hpos (plain_args L) (show 2 < 25 by decide) (rd_glob G R EO hd hx hg fun v hv pl => ?_)
  obtain ⟨c, o, es, ep, rfl, ho, htab, hmod, hex, hdat, hlook⟩ := hv
  have hmap : ∀ {h : Heap}, K.In h → h.MapOf (PySem.strKind prog w) c (nsFind es) := fun hK => ⟨o, es, ep, hK _ _ ho, hex, hdat, O.tabs c o ho htab prog es ep hdat, fun x => findStr es x⟩
  refine getMethod_builtin (T := "dict") (hmap (G.inK R)).typeIs PySem.F.plainAttrs_dict PySem.F.slot_dict_get PySem.F.type_dict_get (hmap (G.inK R)).noDict ?_
  refine Calls.callWith_builtin (plain_args L) (sim_evalArgs L G EO R g5 fun ι₂ s₂ vs p₂ R₂ hvs => ?_)
  obtain ⟨v1, v2, rfl, hv1, hv2⟩ := f2_two hvs
  cases hv1 with
  | str x t =>
    obtain ⟨rfl, rfl⟩ := ret_some g4
    have hm := hmap (G.inK R₂)
    refine call_meetsIn PySem.F.slot_dict_get hm.typeIs PySem.F.entry_dict_get (PySem.F.args_dict_get_3 _ _ _) (meets_dict_get_default (PySem.strKind prog w) c (k := x) (key := .str x t) (isStr_self x t) hmod v2) ⟨_, hm, ?_⟩
    refine kk ι₂ _ _ p₂ (R₂.toks _) ?_
    have hl := hlook x
    cases q : nsFind es x with
    | none =>
      rw [q] at hl
      cases q' : lookS l x with
      | none => exact hv2
      | some _ => rw [q'] at hl; exact hl.elim
    | some z =>
      rw [q] at hl
      cases q' : lookS l x with
      | none => rw [q'] at hl; exact hl.elim
      | some _ => rw [q'] at hl; exact vrel_any hl _
  | _ => exact no_some g4
end
end Mine
namespace Mine
open PySem PySem.W PyProof.Rows

section
variable {prog : Program} {w : World} {A : Around} {X : Cx} {ι : List Addr} {st : ASt} {s : Shared} {v u : Value} {a b : AV} {K : Frag} {hb : Heap} {env : Env} {rs : Rsv} {k : Nat}
  {P : AProg} {C : Calls} {e e₁ e₂ : Expr} {ae ae₁ ae₂ : AE} {es : List Expr} {aes : List AE}

theorem subscripted_of {sl : Expr} {o i : Value} {Q : Value → Shared → Prop} {E : Value → Shared → Prop} (h : wpAny (model prog w) A (PySem.getItem o i) Q E s) : wpAny (model prog w) A (subscripted sl false o i) Q E s := by
  cases sl with
  | Slice a b c p => cases c with
    | none => exact wpAny_operating h
    | some _ => exact wpAny_operating h
  | _ => exact wpAny_operating h

theorem giPy_of {o : Value} {T id : String} {Q : Bool → Shared → Prop} {E : Value → Shared → Prop} (hT : s.TypeIs o T) (hl : typeLookup (.type T) "__getitem__" = pure (some (.builtin id))) (h : Q false s) : wpAny (model prog w) A (getitemInPython o) Q E s := by
  unfold getitemInPython
  refine wpAny_bind (wpAny_specialOf hT hl ?_)
  exact wpAny_pure h

theorem getItem_safe {i : Nat} {c : Addr} {b : AV} {r : AV} {st' : ASt} (R : Rel prog w X ι st s) (hc : ι[i]? = some c) (h : getItem (.obj i) b st = some (.ok r, st')) {Q : Bool → Shared → Prop} {E : Value → Shared → Prop} (q : Q false s) :
    wpAny (model prog w) A (getitemInPython (.ref c)) Q E s := by
  cases b with
  | int k =>
    have h : getIdx i k st = some (.ok r, st') := h
    refine bnd_elim h fun o st₁ e1 e2 => ?_
    obtain ⟨q1, rfl⟩ := deref_some e1
    cases o with
    | ro xs => obtain ⟨o, ho, ⟨vs, n, hcl, _⟩, _⟩ := R.get hc q1; exact giPy_of (T := "list") ⟨o, ho, hcl⟩ PySem.F.slot_list_getitem.lookup q
    | list xs => obtain ⟨vs, n, ho, _⟩ := R.plainList hc q1; exact giPy_of (T := "list") ⟨_, ho, rfl⟩ PySem.F.slot_list_getitem.lookup q
    | tuple xs => obtain ⟨o, ho, ⟨vs, n, rfl, _⟩, _⟩ := R.get hc q1; exact giPy_of (T := "tuple") ⟨_, ho, rfl⟩ PySem.F.slot_tuple_getitem.lookup q
    | dict es => obtain ⟨kvs, hD, _, _⟩ := R.isDict hc q1; exact giPy_of (T := "dict") hD.typeIs PySem.F.slot_dict_getitem.lookup q
    | _ => exact (fail_some e2).elim
  | _ => first | exact no_some h | cases h

theorem sim_getItem (R : Rel prog w X ι st s) (hv : VRel ι v a) (hu : VRel ι u b) : SimAt prog w A X ι st s (PySem.getItem v u) (getItem a b) VR0 := by
  intro r st' e
  cases hv with
  | obj hc =>
    cases hu with
    | int k t => exact sim_getIdx R hc r st' e
    | _ => first | exact no_some e | cases e
  | str x t =>
    cases hu with
    | int k t' =>
      intro Q E kk
      refine bnd_elim e fun _ st₃ e1 e2 => ?_
      obtain ⟨hx, rfl⟩ := guard_some e1
      obtain ⟨rfl, rfl⟩ := ret_some e2
      rw [Bool.and_eq_true] at hx
      exact SB.getItem hx.1 hx.2 (kk ι _ _ (Pre.refl ι) (R.toks _) (.str _ _))
    | _ => exact no_some e
  | _ => first | exact no_some e | cases e
theorem sim_setItem {v' : Value} {a' : AV} (R : Rel prog w X ι st s) (hv : VRel ι v a) (hu : VRel ι u b) (hv' : VRel ι v' a') : SimAt prog w A X ι st s (PySem.setItem v u v') (setItem a b a') UR := by
  intro r st' e
  cases hv with
  | obj hc =>
    cases hu with
    | int k t => exact sim_setIdx R hc hv' r st' e
    | _ => first | exact no_some e | cases e
  | _ => first | exact no_some e | cases e

theorem s_sub {o i : Expr} {ao ai : AE} {pos : Pos} (h₁ : S2 prog w K hb A P C rs k o ao) (h₂ : S2 prog w K hb A P C rs k i ai) : S2 prog w K hb A P C rs k (.Subscript o i pos) (.sub ao ai) := by
  refine test_plain (fun X env ι st s G EO R r st' ee Q E kk => ?_) (fun _ _ => rfl) rfl
  refine bnd_elim ee fun a st₁ g1 g2 => ?_
  refine bnd_elim g2 fun b st₂ g3 g4 => ?_
  rw [eval_Subscript]
  refine wpAny_bind (h₁.1 X env ι st s G EO R a st₁ g1 _ _ fun ι₁ s₁ v p₁ R₁ hv => wpAny_bind (wpAny_holding (h₂.1 X env ι₁ st₁ s₁ G EO R₁ b st₂ g3 _ _ fun ι₂ s₂ u p₂ R₂ hu => wpAny_bind (wpAny_standAt ?_))))
  have hv := hv.mono p₂
  rcases getItem_obj g4 with ⟨i, rfl⟩ | ⟨x, rfl⟩
  case inr =>
    cases hv with
    | str _ t =>
      cases hu with
      | int j t' =>
        refine bnd_elim g4 fun _ st₃ e1 e2 => ?_
        obtain ⟨hx, rfl⟩ := guard_some e1
        obtain ⟨rfl, rfl⟩ := ret_some e2
        rw [Bool.and_eq_true] at hx
        refine wpAny_bind (giPy_of (T := "str") (typeIs_str _ _ _) PySem.F.slot_str_getitem.lookup ?_)
        refine wpAny_bind (subscripted_of (SB.getItem hx.1 hx.2 ?_))
        exact wpAny_bind (wpAny_letTemporaryGo (wpAny_pure (kk ι₂ _ _ (p₁.trans p₂) (R₂.toks _) (.str _ _))))
      | _ => exact no_some g4
  obtain ⟨c, rfl, hc⟩ := hv.obj_inv
  refine wpAny_bind (getItem_safe R₂ hc g4 ?_)
  refine wpAny_bind (subscripted_of (sim_getItem R₂ hv hu r st' g4 _ _ fun ι₃ s₃ y p₃ R₃ hy => ?_))
  exact wpAny_bind (wpAny_letTemporaryGo (wpAny_pure (kk ι₃ s₃ y ((p₁.trans p₂).trans p₃) R₃ hy)))

/-- a bound that may be lacking -/
noncomputable def OptS (prog : Program) (w : World) (K : Frag) (hb : Heap) (A : Around) (P : AProg) (C : Calls) (rs : Rsv) (k : Nat) (o : Option Expr) (ae : AE) : Prop := match o with
  | none => ae = .cst .none
  | some e => S2 prog w K hb A P C rs k e ae
theorem opt_ev {o : Option Expr} {ae : AE} (h : OptS prog w K hb A P C rs k o ae) (G : Gr K hb A X) (EO : EnvOk K X env rs k) (R : Rel prog w X ι st s) : SimAt prog w A X ι st s (evalPart o env) (aeval P C ae) VR0 := by
  cases o with
  | none =>
    have h : ae = .cst .none := h
    subst h
    exact SimAt.pure R .none
  | some e => exact h.1 X env ι st s G EO R
theorem part_is {l : AV} {lo : Option Int} {v : Value} (h : partOf l = some lo) (hv : VRel ι v l) : IsPart v lo ∧ ∀ a, lo = some a → 0 ≤ a := by
  cases hv with
  | none => cases h; exact ⟨.none, fun _ e => by cases e⟩
  | int i t =>
    unfold partOf at h
    dsimp only at h
    split at h
    · rename_i h0; cases h; exact ⟨.int i t, fun a e => by cases e; exact h0⟩
    · exact no_some h
  | _ => exact no_some h
theorem F2.cut {α β : Type} {R : α → β → Prop} {as : List α} {bs : List β} (h : F2 R as bs) (lo hi : Option Int) : F2 R (cutL as lo hi) (cutL bs lo hi) := by
  cases lo with
  | none => cases hi with
    | none => exact h
    | some b => exact h.take _
  | some a => cases hi with
    | none => exact h.drop _
    | some b => exact (h.take _).drop _
theorem cut_len {α : Type} (xs : List α) (lo hi : Option Int) : (cutL xs lo hi).length ≤ xs.length := by
  cases lo with
  | none => cases hi with
    | none => exact Nat.le_refl _
    | some b => show (xs.take _).length ≤ _; rw [List.length_take]; omega
  | some a => cases hi with
    | none => show (xs.drop _).length ≤ _; rw [List.length_drop]; omega
    | some b => show ((xs.take _).drop _).length ≤ _; rw [List.length_drop, List.length_take]; omega
theorem pick_cut {vs : Array Value} {lo hi : Option Int} (h1 : ∀ a, lo = some a → 0 ≤ a) (h2 : ∀ a, hi = some a → 0 ≤ a) : slicePick vs lo hi none = (cutL vs.toList lo hi).toArray := by
  cases lo with
  | none => cases hi with
    | none => rw [slicePick_all]; rfl
    | some b =>
      obtain ⟨b, rfl⟩ := Int.eq_ofNat_of_zero_le (h2 b rfl)
      exact slicePick_upto' vs b
  | some a => cases hi with
    | none =>
      obtain ⟨a, rfl⟩ := Int.eq_ofNat_of_zero_le (h1 a rfl)
      exact slicePick_from' vs a
    | some b =>
      obtain ⟨a, rfl⟩ := Int.eq_ofNat_of_zero_le (h1 a rfl)
      obtain ⟨b, rfl⟩ := Int.eq_ofNat_of_zero_le (h2 b rfl)
      rw [slicePick_plain]
      simp only [Option.elim, clipAt_nat]
      show _ = ((vs.toList.take b).drop a).toArray
      congr 1
      rw [List.drop_take]
      by_cases ha : a ≤ vs.size
      · rw [Nat.min_eq_left ha]
        by_cases hb : b ≤ vs.size
        · rw [Nat.min_eq_left hb]
        · rw [Nat.min_eq_right (by omega), List.take_of_length_le (by rw [List.length_drop, Array.length_toList]; omega), List.take_of_length_le (by rw [List.length_drop, Array.length_toList]; omega)]
      · rw [List.drop_of_length_le (by rw [Array.length_toList]; omega), List.drop_of_length_le (by rw [Array.length_toList]; omega), List.take_nil, List.take_nil]
theorem s_slc {o : Expr} {lo hi : Option Expr} {ps pos : Pos} {ao al au : AE} (h₁ : S2 prog w K hb A P C rs k o ao) (h₂ : OptS prog w K hb A P C rs k lo al) (h₃ : OptS prog w K hb A P C rs k hi au) : S2 prog w K hb A P C rs k (.Subscript o (.Slice lo hi none ps) pos) (.slc ao al au) := by
  refine ⟨fun X env ι st s G EO R r st' ee Q E kk => ?_, fun X env ι st s G EO R => SimAt.fail, .calm rfl⟩
  refine bnd_elim ee fun a st₁ g1 g2 => ?_
  refine bnd_elim g2 fun l st₂ g3 g4 => ?_
  refine bnd_elim g4 fun u st₃ g5 g6 => ?_
  refine bnd_elim g6 fun lo' st₄ g7 g8 => ?_
  obtain ⟨q7, rfl⟩ := ofOpt_some g7
  refine bnd_elim g8 fun hi' st₅ g9 g10 => ?_
  obtain ⟨q9, rfl⟩ := ofOpt_some g9
  rw [eval_Subscript]
  refine wpAny_bind (h₁.1 X env ι st s G EO R a st₁ g1 _ _ fun ι₁ s₁ v p₁ R₁ hv => wpAny_bind (wpAny_holding (wpAny_Slice ?_)))
  refine opt_ev h₂ G EO R₁ l st₂ g3 _ _ fun ι₂ s₂ vl p₂ R₂ hvl => opt_ev h₃ G EO R₂ u st₅ g5 _ _ fun ι₃ s₃ vu p₃ R₃ hvu => ?_
  rw [evalPart_none]
  refine wpAny_pure (wpAny_bind (wpAny_standAt ?_))
  have hv := (hv.mono p₂).mono p₃
  have hvl := hvl.mono p₃
  obtain ⟨pl, pl0⟩ := part_is q7 hvl
  obtain ⟨pu, pu0⟩ := part_is q9 hvu
  have R₄ := R₃.push (tk := s₃.toks) (o := { cls := .type "slice", data := .fields #[vl, vu, .none] }) (ao := .slice l u) rfl ⟨rfl, _, _, rfl, hvl.mono (Pre.snoc _ _), hvu.mono (Pre.snoc _ _)⟩
  have p4 := Pre.snoc ι₃ s₃.heap.objs.size
  have hs : (s₃.heap.push { cls := .type "slice", data := .fields #[vl, vu, .none] }).IsSliceOf s₃.heap.objs.size vl vu .none := Heap.IsSliceOf.new ..
  have seqs : ∀ {i : Nat} {c : Addr} {xs : List AV} {ob : Obj} {vs : Array Value} {nn : Nat}, ι₃[i]? = some c → s₃.heap.get? c = some ob → ob.cls = .type "list" → ob.data = .seq vs nn → F2 (VRel ι₃) vs.toList xs → xs.length ≤ line → v = .ref c →
      (bnd (alloc (.slice l u)) fun _ => alloc (.list (cutL xs lo' hi'))) st₅ = some (.ok r, st') → wpAny (model prog w) A (do
        let py ← getitemInPython v
        let r ← subscripted (.Slice lo hi none ps) py v (.ref s₃.heap.objs.size)
        letTemporaryGo o v r
        pure r) Q E { s₃ with heap := s₃.heap.push { cls := .type "slice", data := .fields #[vl, vu, .none] } } := by
    intro i c xs ob vs nn hc ho hcl hda hf hl hvc g
    subst hvc
    refine bnd_elim g fun _ st₆ g11 g12 => ?_
    obtain ⟨rfl, rfl⟩ := alloc_some g11
    obtain ⟨rfl, rfl⟩ := alloc_some g12
    have hl' : (s₃.heap.push { cls := .type "slice", data := .fields #[vl, vu, .none] }).IsList c vs := ⟨ob, Heap.get?_push_of_some _ ho, hcl, nn, hda⟩
    have hsz := f2_size hf
    refine wpAny_bind (giPy_of (T := "list") hl'.typeIs PySem.F.slot_list_getitem.lookup ?_)
    refine wpAny_bind (subscripted_of (wpAny_getItem_list_slice hl' hs pl pu .none (by simp) ?_ (by rw [line_val] at hl; rw [sizeLine_val]; omega)))
    rw [pick_cut pl0 pu0]
    refine wpAny_bind (wpAny_letTemporaryGo (wpAny_pure ?_))
    have R₅ := R₄.push (tk := s₃.toks) (o := { cls := .type "list", data := .seq (cutL vs.toList lo' hi').toArray }) (ao := .list (cutL xs lo' hi')) rfl ⟨⟨_, _, rfl, (hf.cut lo' hi').mono fun _ _ h => (VRel.mono (Pre.snoc _ _) (VRel.mono p4 h))⟩, Nat.le_trans (cut_len _ _ _) hl⟩
    refine kk _ _ _ (((p₁.trans p₂).trans p₃).trans (p4.trans (Pre.snoc _ _))) R₅ (.obj ?_)
    exact R₄.newIdx _
  cases hv with
  | obj hc =>
    refine bnd_elim g10 fun ob st₆ g11 g12 => ?_
    obtain ⟨q11, rfl⟩ := deref_some g11
    cases ob with
    | list xs =>
      obtain ⟨vs, n, ho, hf, hl⟩ := R₃.plainList hc q11
      exact seqs hc ho rfl rfl hf hl rfl g12
    | ro xs =>
      obtain ⟨ob, ho, ⟨vs, n, hcl, hda, hf⟩, hl⟩ := R₃.get hc q11
      exact seqs hc ho hcl hda hf hl rfl g12
    | tuple xs =>
      refine bnd_elim g12 fun _ st₆ g13 g14 => ?_
      obtain ⟨hg, rfl⟩ := guard_some g13
      rw [Bool.and_eq_true] at hg
      refine bnd_elim g14 fun _ st₇ g15 g16 => ?_
      obtain ⟨rfl, rfl⟩ := alloc_some g15
      obtain ⟨rfl, rfl⟩ := alloc_some g16
      obtain ⟨vs, hl, hf, hlen⟩ := R₃.isTuple hc q11
      cases hi' with
      | some _ => cases hg.2
      | none =>
        cases lo' with
        | none => cases hg.1
        | some j =>
          have hj0 : 1 ≤ j ∧ j ≤ (xs.length : Int) := of_decide_eq_true hg.1
          have hj1 := hj0.1
          cases pl with
          | int _ t =>
            cases pu
            have hl' : IsTup (s₃.heap.push { cls := .type "slice", data := .fields #[.int j t, .none, .none] }) _ vs := hl.keeps fun _ _ e => Heap.get?_push_of_some _ e
            have hsz := f2_size hf
            refine wpAny_bind (giPy_of (T := "tuple") hl'.typeIs PySem.F.slot_tuple_getitem.lookup ?_)
            obtain ⟨m, rfl⟩ := Int.eq_ofNat_of_zero_le (Int.le_trans (by decide) hj1)
            refine wpAny_bind (subscripted_of (PyProof.Rows.getItem_tuple_from hl' hs (by omega) (by omega) ?_ (by rw [line_val] at hlen; rw [sizeLine_val]; omega)))
            refine wpAny_bind (wpAny_letTemporaryGo (wpAny_pure ?_))
            have R₅ := R₄.push (tk := s₃.toks) (o := { cls := .type "tuple", data := .seq (vs.toList.drop m).toArray }) (ao := .tuple (xs.drop m)) rfl ⟨⟨_, _, rfl, (hf.drop m).mono fun _ _ h => (VRel.mono (Pre.snoc _ _) (VRel.mono p4 h))⟩, by rw [List.length_drop]; omega⟩
            refine kk _ _ _ (((p₁.trans p₂).trans p₃).trans (p4.trans (Pre.snoc _ _))) R₅ (.obj ?_)
            exact R₄.newIdx _
    | _ => exact no_some g12
  | str x t =>
    refine bnd_elim g10 fun _ st₆ g11 g12 => ?_
    obtain ⟨hx, rfl⟩ := guard_some g11
    have hx := of_decide_eq_true hx
    rw [line_val] at hx
    refine bnd_elim g12 fun _ st₇ g13 g14 => ?_
    obtain ⟨rfl, rfl⟩ := alloc_some g13
    obtain ⟨rfl, rfl⟩ := ret_some g14
    have hsz : x.length ≤ sizeLine := by rw [sizeLine_val]; omega
    refine wpAny_bind (giPy_of (T := "str") (typeIs_str _ _ _) PySem.F.slot_str_getitem.lookup ?_)
    have fin : ∀ t' tk, wpAny (model prog w) A (letTemporaryGo o (.str x t) (.str (Txt.slice x lo' hi') t') >>= fun _ => pure (.str (Txt.slice x lo' hi') t')) Q E { s₃ with heap := s₃.heap.push { cls := .type "slice", data := .fields #[vl, vu, .none] }, toks := tk } := fun t' tk =>
      wpAny_bind (wpAny_letTemporaryGo (wpAny_pure (kk _ _ _ (((p₁.trans p₂).trans p₃).trans p4) (R₄.toks tk) (.str _ _))))
    refine wpAny_bind (subscripted_of ?_)
    cases pl with
    | none => cases pu with
      | none => exact wpAny_getItem_str_slice (l := none) (u := none) (st := none) ⟨_, Heap.get?_push_size _ rfl, rfl, rfl⟩ rfl (post_val_or_str ⟨Nat.le_trans (Txt.slice_le x _ _) hsz, fun t' tk => fin t' tk⟩)
      | int b tb => exact wpAny_getItem_str_slice (l := none) (u := some (b, tb)) (st := none) ⟨_, Heap.get?_push_size _ rfl, rfl, rfl⟩ rfl (post_val_or_str ⟨Nat.le_trans (Txt.slice_le x _ _) hsz, fun t' tk => fin t' tk⟩)
    | int a ta => cases pu with
      | none => exact wpAny_getItem_str_slice (l := some (a, ta)) (u := none) (st := none) ⟨_, Heap.get?_push_size _ rfl, rfl, rfl⟩ rfl (post_val_or_str ⟨Nat.le_trans (Txt.slice_le x _ _) hsz, fun t' tk => fin t' tk⟩)
      | int b tb => exact wpAny_getItem_str_slice (l := some (a, ta)) (u := some (b, tb)) (st := none) ⟨_, Heap.get?_push_size _ rfl, rfl, rfl⟩ rfl (post_val_or_str ⟨Nat.le_trans (Txt.slice_le x _ _) hsz, fun t' tk => fin t' tk⟩)
  | _ => exact no_some g10
theorem sl_len (L : SL prog w K hb A P C rs k es aes) : es.length = aes.length := by
  induction L with
  | nil => rfl
  | cons _ _ _ ih => simp [ih]
theorem aevals_len : ∀ {aes : List AE} {st st' : ASt} {as : List AV}, aevals P C aes st = some (.ok as, st') → as.length = aes.length
  | [], _, _, _, h => by obtain ⟨rfl, rfl⟩ := ret_some h; rfl
  | _ :: _, _, _, _, h => by
    refine bnd_elim h fun a st₁ e1 e2 => ?_
    refine bnd_elim e2 fun as st₂ e3 e4 => ?_
    obtain ⟨rfl, rfl⟩ := ret_some e4
    simp [aevals_len e3]

theorem s_list {pos : Pos} (L : SL prog w K hb A P C rs k es aes) (hn : es.length < 1000) : S2 prog w K hb A P C rs k (.List es pos) (.list aes) := by
  refine ⟨fun X env ι st s G EO R r st' ee Q E kk => ?_, fun X env ι st s G EO R => SimAt.fail, .calm rfl⟩
  refine bnd_elim ee fun as st₁ g1 g2 => ?_
  have hlen := aevals_len g1
  have hlen' := sl_len L
  show wpAny _ A (do standAt pos; newList (← spliced (backTo pos (starEach es env)))) Q E s
  refine wpAny_bind (wpAny_standAt (wpAny_bind (sim_args L X env ι st s G EO R as st₁ g1 _ _ fun ι₁ s₁ vs p₁ R₁ hvs => ?_)))
  have hl := F2.length hvs
  refine sim_push (A := A) R₁ (ao := .list as) (o := { cls := .type "list", data := .seq vs.toArray }) s₁.toks ⟨rfl, rfl⟩ ⟨⟨vs.toArray, 0, rfl, ?_⟩, by rw [line_val]; omega⟩ (fun Q E q => wpAny_newList q (by rw [sizeLine_val]; omega)) r st' g2 Q E fun ι₂ s₂ y p₂ R₂ hy => kk ι₂ s₂ y (p₁.trans p₂) R₂ hy
  exact hvs.mono fun _ _ => VRel.mono (Pre.snoc _ _)
theorem s_tuple {pos : Pos} {n : Nat} (L : SL prog w K hb A P C rs k es aes) (hn : es.length < 1000) : S2 prog w K hb A P C rs k (.Tuple es n pos) (.tuple aes) := by
  refine ⟨fun X env ι st s G EO R r st' ee Q E kk => ?_, fun X env ι st s G EO R => SimAt.fail, .calm rfl⟩
  refine bnd_elim ee fun as st₁ g1 g2 => ?_
  have hlen := aevals_len g1
  have hlen' := sl_len L
  show wpAny _ A (do standAt pos; newTuple (← spliced (backTo pos (starEach es env)))) Q E s
  refine wpAny_bind (wpAny_standAt (wpAny_bind (sim_args L X env ι st s G EO R as st₁ g1 _ _ fun ι₁ s₁ vs p₁ R₁ hvs => ?_)))
  have hl := F2.length hvs
  refine sim_push (A := A) R₁ (ao := .tuple as) (o := { cls := .type "tuple", data := .seq vs.toArray }) s₁.toks ⟨rfl, rfl⟩ ⟨⟨vs.toArray, 0, rfl, ?_⟩, by rw [line_val]; omega⟩ (fun Q E q => wpAny_newTuple q (by rw [sizeLine_val]; omega)) r st' g2 Q E fun ι₂ s₂ y p₂ R₂ hy => kk ι₂ s₂ y (p₁.trans p₂) R₂ hy
  exact hvs.mono fun _ _ => VRel.mono (Pre.snoc _ _)
theorem s_dict0 {pos : Pos} : S2 prog w K hb A P C rs k (.Dict [] [] pos) .dict0 := by
  refine ⟨fun X env ι st s G EO R r st' ee Q E kk => ?_, fun X env ι st s G EO R => SimAt.fail, .calm rfl⟩
  refine sim_push (A := A) R (ao := .dict []) (o := { cls := .type "dict", data := .dict #[] }) s.toks ⟨rfl, rfl⟩ ⟨⟨[], ⟨#[], 0, ⟨rfl, rfl, rfl⟩, rfl, fun _ he => by simp at he, Pairs.nil, List.nodup_nil⟩, trivial⟩, Nat.zero_le _⟩ (fun Q E q => wpAny_Dict_empty q) r st' ee Q E kk

theorem make_way {x : Str} {c f : Addr} {p pos : Pos} (O : Oracle prog w K hb A C) (hd : x ≠ dbg) (hx : rs.slot x = none) (hg : rs.glob x = some (.cls c f)) (L : SL prog w K hb A P C rs k es aes) (G : Gr K hb A X) (EO : EnvOk K X env rs k) (R : Rel prog w X ι st s) {as : List AV} {st₁ st₂ : ASt} (g1 : aevals P C aes st = some (.ok as, st₁)) {q : Except Nat AV} (g3 : callFn C f (.obj (st₁.σ.length + 1) :: as) ⟨st₁.σ ++ [.ns [], .inst c st₁.σ.length], st₁.ρ⟩ = some (q, st₂)) {Q : Value → Shared → Prop} {E : Value → Shared → Prop}
    (kk : ∀ ι' s' y, Pre ι ι' → Rel prog w X ι' st₂ s' → ∀ (z : Addr), VRel ι' (.ref z) (.obj (st₁.σ.length + 1)) → Outs X ι' st₂.σ q y s'.heap → (match resOf q y with | .ok (.ret v) => v = .none ∧ Q (.ref z) s' | .ok _ => False | .error e => E e s')) : wpAny (model prog w) A (eval (.Call (.Name x p) es [] pos) env) Q E s := by
  refine wpAny_Call_Name_kw (rd_glob G R EO hd hx hg fun v hv => ?_)
  obtain ⟨rfl, hk, hm, hi, hf⟩ := hv
  refine callWith_of (P := fun h => K.In h) (by rw [plain_args L]; rfl) (keeps_K hk) (sim_evalArgs L G EO R g1 fun ι₁ s₁ vs p₁ R₁ hvs => ⟨G.inK R₁, ?_⟩)
  have hK := G.inK R₁
  obtain ⟨h, g, d, t, os⟩ := s₁
  have R₂ := R₁.push (tk := t) (o := emptyDict) (ao := .ns []) rfl ⟨⟨#[], 0, rfl, fun _ he => by simp at he, fun _ => trivial⟩, ⟨#[], 0, rfl, Nat.le_refl _⟩, Nat.zero_le _⟩
  have R₃ := R₂.push (tk := t) (o := instObj c h.objs.size) (ao := .inst c st₁.σ.length) rfl ⟨rfl, rfl, h.objs.size, rfl, by rw [← R₁.len]; simp⟩
  have hp : Pre ι₁ ((ι₁ ++ [h.objs.size]) ++ [(h.push emptyDict).objs.size]) := ⟨[h.objs.size, (h.push emptyDict).objs.size], by rw [List.append_assoc]; rfl⟩
  refine wpAny_call (make_core (makes_of hK hm) (looks_findIn hK hi) (fun self => bind_fn hK self (beq_iff_eq.mp hf)) (.inl rfl) ?_)
  have hsz : (h.push emptyDict).objs.size = h.objs.size + 1 := Heap.size_push _ _
  have hnew : VRel ((ι₁ ++ [h.objs.size]) ++ [(h.push emptyDict).objs.size]) (.ref (h.objs.size + 1)) (.obj (st₁.σ.length + 1)) := by
    refine .obj ?_
    rw [← hsz, ← R₁.len, List.append_assoc]
    rw [List.getElem?_append_right (by omega)]
    simp
  have e3 : (⟨(st₁.σ ++ [AO.ns []]) ++ [AO.inst c st₁.σ.length], st₁.ρ⟩ : ASt) = ⟨st₁.σ ++ [.ns [], .inst c st₁.σ.length], st₁.ρ⟩ := by simp
  rw [← e3] at g3
  refine O.made c vs f X _ _ _ (.ref (h.objs.size + 1) :: vs) (.obj (st₁.σ.length + 1) :: as) (G.made O c vs) R₃ ⟨hnew, hvs.mono fun _ _ => VRel.mono hp⟩ q st₂ g3 _ fun ι₄ s₄ y p₄ R₄ hy _ => ?_
  have := kk ι₄ s₄ y ((p₁.trans hp).trans p₄) R₄ _ (hnew.mono p₄) hy
  cases q with
  | ok a => exact this
  | error e => exact this
theorem s_make {x : Str} {c f : Addr} {p pos : Pos} (O : Oracle prog w K hb A C) (hd : x ≠ dbg) (hx : rs.slot x = none) (hg : rs.glob x = some (.cls c f)) (L : SL prog w K hb A P C rs k es aes) : S2 prog w K hb A P C rs k (.Call (.Name x p) es [] pos) (.make c f aes) := by
  refine ⟨fun X env ι st s G EO R r st' ee Q E kk => ?_, fun X env ι st s G EO R => SimAt.fail, fun X env ι st s G EO FE R r st' ee Q E kk => ?_⟩
  · refine bnd_elim ee fun as st₁ g1 g2 => ?_
    refine bnd_elim g2 fun q st₂ g3 g4 => ?_
    refine make_way O hd hx hg L G EO R g1 g3 fun ι₄ s₄ y p₄ R₄ z hnew hy => ?_
    cases q with
    | none =>
      obtain ⟨rfl, rfl⟩ := ret_some g4
      cases hy
      exact ⟨rfl, kk ι₄ s₄ _ p₄ R₄ hnew⟩
    | _ => exact (fail_some g4).elim
  · rcases bnd_er ee with g | ⟨as, st₁, g1, g2⟩
    · exact (noerr_no g).elim
    rcases bnd_er g2 with g3 | ⟨q, st₂, g3, g4⟩
    · exact make_way O hd hx hg L G EO R (noerr_ok g1) g3 fun ι₄ s₄ y p₄ R₄ _ _ hy => kk ι₄ s₄ _ p₄ R₄ hy
    · cases q <;> cases g4
end
end Mine
namespace Mine
open PySem PySem.W PyProof.Rows

/-- things held aside, unseen by the abstract machine -/
noncomputable def Cx.hold (X : Cx) (l : List (Addr × Obj)) : Cx := { X with Kp := fun b => match l.lookup b with | some o => some o | none => X.Kp b }

section
variable {prog : Program} {w : World} {A : Around} {X : Cx} {ι : List Addr} {st : ASt} {s : Shared} {v u : Value} {a b : AV} {K : Frag} {hb : Heap} {env : Env} {rs : Rsv} {k : Nat}
  {P : AProg} {C : Calls}

theorem Rel.apart (R : Rel prog w X ι st s) {b : Addr} (h : s.heap.get? b = none) : Apart X ι b := by
  refine ⟨R.kp_none h, fun hm => ?_, fun e => ?_, fun i c hc e => ?_⟩
  · obtain ⟨_, _, ob, _, _, e⟩ := R.mem_get hm; rw [h] at e; cases e
  · obtain ⟨m, ⟨oL, _, _, hL, _⟩, _⟩ := R.ns; rw [← e, h] at hL; cases hL
  · obtain ⟨_, ob, v, h2, _⟩ := R.cells i c hc; rw [e, h] at h2; cases h2

/-- a change of a thing apart -/
theorem Rel.aside (R : Rel prog w X ι st s) {b : Addr} {h' : Heap} {tk : Nat} (ap : Apart X ι b) (hext : ∀ c o, c ≠ b → s.heap.get? c = some o → h'.get? c = some o) : Rel prog w X ι st { s with heap := h', toks := tk } := by
  refine ⟨fun c o e => (R.frozen c o e).ext fun o' => hext c o' fun q => (by subst q; rw [ap.kp] at e; cases e), ?_, R.len, R.nodup, R.free, ?_, ?_, R.comps, R.rlen, by rw [R.shape]⟩
  · obtain ⟨m, hm, hv⟩ := R.ns; exact ⟨m, hm.at' fun ob e => hext _ ob (fun q => ap.nL q.symm) e, hv⟩
  · intro i c e; obtain ⟨a', ob, h1, h2, h3⟩ := R.objs i c e; exact ⟨a', ob, h1, hext _ _ (fun q => ap.nin (q ▸ Rel.mem h1)) h2, h3⟩
  · intro i c hc
    obtain ⟨h1, ob, v, h2, h3, h4⟩ := R.cells i c hc
    exact ⟨h1, ob, v, hext _ _ (ap.nc i c hc) h2, h3, h4⟩

theorem lookup_mem {l : List (Addr × Obj)} {b : Addr} {o : Obj} (h : l.lookup b = some o) : (b, o) ∈ l := by
  induction l with
  | nil => first | exact no_some h | cases h
  | cons x r ih =>
    rw [List.lookup_cons] at h
    split at h
    · rename_i e; cases h; rw [beq_iff_eq.mp e]; exact .head _
    · exact .tail _ (ih h)

theorem hold_kp {l : List (Addr × Obj)} (hn : ∀ p ∈ l, X.Kp p.1 = none) {b : Addr} {o : Obj} (h : X.Kp b = some o) : (X.hold l).Kp b = some o := by
  show (match l.lookup b with | some o => some o | none => X.Kp b) = some o
  cases q : l.lookup b with
  | none => exact h
  | some o' => have := hn _ (lookup_mem q); rw [h] at this; cases this

/-- things apart may be held -/
theorem Rel.hold (R : Rel prog w X ι st s) {l : List (Addr × Obj)} (hl : ∀ p ∈ l, Apart X ι p.1 ∧ s.heap.get? p.1 = some p.2) : Rel prog w (X.hold l) ι st s := by
  have hn : ∀ p ∈ l, X.Kp p.1 = none := fun p hp => (hl p hp).1.kp
  refine ⟨fun b o e => ?_, R.ns, R.len, R.nodup, ?_, R.objs, R.cells, ?_, R.rlen, R.shape⟩
  · have e : (match l.lookup b with | some o => some o | none => X.Kp b) = some o := e
    cases q : l.lookup b with
    | none => rw [q] at e; exact R.frozen b o e
    | some o' => rw [q] at e; cases e; exact ⟨_, (hl _ (lookup_mem q)).2, .inl rfl⟩
  · intro i c ao hi hs
    obtain ⟨f1, f2, f3⟩ := R.free i c ao hi hs
    refine ⟨fun q => ?_, f2, f3⟩
    show (match l.lookup c with | some o => some o | none => X.Kp c) = none
    cases q' : l.lookup c with
    | none => exact f1 q
    | some o' => exact absurd (Rel.mem hi) (hl _ (lookup_mem q')).1.nin
  · intro i C x hc a ha
    obtain ⟨o, es, ep, v, h1, h2⟩ := R.comps i C x hc a ha
    exact ⟨o, es, ep, v, hold_kp hn h1, h2⟩

/-- and let go again -/
theorem Rel.letgo {l : List (Addr × Obj)} (R : Rel prog w (X.hold l) ι st s) (ok : CxOk X) (hn : ∀ p ∈ l, X.Kp p.1 = none ∧ p.1 ≠ X.L) : Rel prog w X ι st s := by
  have hn' : ∀ p ∈ l, X.Kp p.1 = none := fun p hp => (hn p hp).1
  refine ⟨fun b o e => R.frozen b o (hold_kp hn' e), R.ns, R.len, R.nodup, ?_, R.objs, R.cells, ?_, R.rlen, R.shape⟩
  · intro i c ao hi hs
    obtain ⟨f1, f2, f3⟩ := R.free i c ao hi hs
    refine ⟨fun q => ?_, f2, f3⟩
    have f1 : (match l.lookup c with | some o => some o | none => X.Kp c) = none := f1 q
    cases q' : l.lookup c with
    | none => rw [q'] at f1; exact f1
    | some o' => rw [q'] at f1; cases f1
  · intro i C x hc a ha
    obtain ⟨o, es, ep, v, h1, h2⟩ := R.comps i C x hc a ha
    obtain ⟨o', h'⟩ := ok.ats i C x hc
    have := hold_kp hn' h'
    rw [h1] at this; cases this
    exact ⟨o, es, ep, v, h', h2⟩
/-- what was held lies apart still -/
theorem Rel.held {l : List (Addr × Obj)} (R : Rel prog w (X.hold l) ι st s) (ok : CxOk X) {b : Addr} {o : Obj} (hb : l.lookup b = some o) (hn : X.Kp b = none) (hL : b ≠ X.L) (hc : ∀ (i : Nat) (c : Addr), X.locs[i]? = some (Loc.cell c) → c ≠ b) : Apart X ι b ∧ s.heap.get? b = some o := by
  have hk : (X.hold l).Kp b = some o := by show (match l.lookup b with | some o => some o | none => X.Kp b) = some o; rw [hb]
  refine ⟨⟨hn, fun hm => ?_, hL, hc⟩, (R.frozen b o hk).get fun q => by obtain ⟨o', h', _⟩ := ok.frk b q; rw [hn] at h'; cases h'⟩
  obtain ⟨i, ao, ob, hi, hs, _⟩ := R.mem_get hm
  obtain ⟨f1, f2, f3⟩ := R.free i b ao hi hs
  cases q : isRo ao with
  | false => rw [f1 q] at hk; cases hk
  | true => obtain ⟨o', h'⟩ := ok.ro b (f3 q); rw [hn] at h'; cases h'

theorem Gr.hold (G : Gr K hb A X) {l : List (Addr × Obj)} (hl : ∀ p ∈ l, Apart X ι p.1) : Gr K hb A (X.hold l) := by
  have hn : ∀ p ∈ l, X.Kp p.1 = none := fun p hp => (hl p hp).kp
  refine ⟨fun b o e => hold_kp hn (G.kp b o e), G.KX, G.T, G.mods, fun v hv => (let ⟨eh, oe, vs, h1, h2, h3⟩ := G.hd v hv; ⟨eh, oe, vs, h1, hold_kp hn h2, h3⟩), G.hU, ⟨G.ok.inj, G.ok.cinj, ?_, ?_, ?_, ?_, G.ok.rof, fun a ha => let ⟨o, h, q⟩ := G.ok.frk a ha; ⟨o, hold_kp hn h, q⟩⟩, G.frs, G.hfr⟩
  · show (match l.lookup X.L with | some o => some o | none => X.Kp X.L) = none
    cases q : l.lookup X.L with
    | none => exact G.ok.kL
    | some o => exact absurd rfl (hl _ (lookup_mem q)).nL
  · intro i c hc
    refine ⟨?_, (G.ok.kc i c hc).2⟩
    show (match l.lookup c with | some o => some o | none => X.Kp c) = none
    cases q : l.lookup c with
    | none => exact (G.ok.kc i c hc).1
    | some o => exact absurd rfl ((hl _ (lookup_mem q)).nc i c hc)
  · intro i C x hc; obtain ⟨o, h⟩ := G.ok.ats i C x hc; exact ⟨o, hold_kp hn h⟩
  · intro c hc; obtain ⟨o, h⟩ := G.ok.ro c hc; exact ⟨o, hold_kp hn h⟩
theorem EnvOk.hold (EO : EnvOk K X env rs k) (l : List (Addr × Obj)) : EnvOk K (X.hold l) env rs k := ⟨EO.len, EO.gone, EO.kind, EO.glb, EO.bns, EO.slots, EO.cel, EO.globs, EO.gt, EO.loc⟩

theorem Apart.mono {ι' : List Addr} {b : Addr} (ap : Apart X ι b) (h : b ∉ ι') : Apart X ι' b := ⟨ap.kp, h, ap.nL, ap.nc⟩

/-- an iterator at turn j -/
noncomputable def ItH (ι : List Addr) (q : IK) (v : AV) (n j : Nat) (I : Addr) (h : Heap) : Prop := match q with
  | .list => ∃ i c, v = .obj i ∧ ι[i]? = some c ∧ h.IsListIter I c j
  | .tuple => ∃ i c, v = .obj i ∧ ι[i]? = some c ∧ h.IsTupleIter I c j
  | .range a => IsRangeIter h I (a + j) ((n : Int) - j) 1
  | .str => ∃ x t, v = .str x ∧ h.IsStrIter I "str_ascii_iterator" x t j
theorem ItH.at {q : IK} {n j : Nat} {I : Addr} {h h' : Heap} {ι' : List Addr} (x : ItH ι q a n j I h) (p : Pre ι ι') (e : ∀ o, h.get? I = some o → h'.get? I = some o) : ItH ι' q a n j I h' := by
  cases q with
  | list => obtain ⟨i, c, rfl, hc, o, ho, hr⟩ := x; exact ⟨i, c, rfl, p.get hc, o, e o ho, hr⟩
  | tuple => obtain ⟨i, c, rfl, hc, o, ho, hr⟩ := x; exact ⟨i, c, rfl, p.get hc, o, e o ho, hr⟩
  | range y => exact e _ x
  | str => obtain ⟨y, t, rfl, o, ho, hr⟩ := x; exact ⟨y, t, rfl, o, e o ho, hr⟩
theorem ItH.obj {q : IK} {n j : Nat} {I : Addr} {h : Heap} (x : ItH ι q a n j I h) : ∃ o, h.get? I = some o := by
  cases q with
  | list => obtain ⟨i, c, rfl, hc, o, ho, hr⟩ := x; exact ⟨o, ho⟩
  | tuple => obtain ⟨i, c, rfl, hc, o, ho, hr⟩ := x; exact ⟨o, ho⟩
  | range y => exact ⟨_, x⟩
  | str => obtain ⟨y, t, rfl, o, ho, hr⟩ := x; exact ⟨o, ho⟩

theorem it_new (R : Rel prog w X ι st s) (hv : VRel ι v a) {q : IK} {n : Nat} {st' : ASt} (e : iterLen a st = some (.ok (q, n), st')) :
    st' = st ∧ ∀ (Q : Value → Shared → Prop) (E : Value → Shared → Prop), (∀ I h', s.heap.get? I = none → (∀ b o, s.heap.get? b = some o → h'.get? b = some o) → ItH ι q a n 0 I h' → Q (.ref I) { s with heap := h' }) → wpAny (model prog w) A (pyIter v) Q E s := by
  cases hv with
  | obj hc =>
    refine bnd_elim e fun o st₁ e1 e2 => ?_
    obtain ⟨q1, rfl⟩ := deref_some e1
    cases o with
    | list xs =>
      obtain ⟨e3, rfl⟩ := ret_some e2
      cases e3
      obtain ⟨vs, hl, hf, hb⟩ := R.isList hc q1
      exact ⟨rfl, fun Q E h => wpAny_pyIter_list hl (h _ _ (get_size_none _) (fun _ _ e => Heap.get?_push_of_some _ e) ⟨_, _, rfl, hc, _, Heap.get?_push_size _ rfl, rfl, rfl⟩)⟩
    | tuple xs =>
      obtain ⟨e3, rfl⟩ := ret_some e2
      cases e3
      obtain ⟨o, ho, ⟨vs, nn, rfl, hf⟩, hb⟩ := R.get hc q1
      exact ⟨rfl, fun Q E h => wpAny_pyIter_tuple ⟨_, ho, rfl, _, rfl⟩ (h _ _ (get_size_none _) (fun _ _ e => Heap.get?_push_of_some _ e) ⟨_, _, rfl, hc, _, Heap.get?_push_size _ rfl, rfl, rfl⟩)⟩
    | range x y =>
      obtain ⟨e3, rfl⟩ := ret_some e2
      cases e3
      obtain ⟨o, ho, ⟨t, u, v, rfl⟩, hb⟩ := R.get hc q1
      obtain ⟨⟨⟨h1, h2⟩, h3⟩, h4⟩ : ((-1000000000 ≤ x ∧ x ≤ 1000000000) ∧ -1000000000 ≤ y) ∧ y ≤ 1000000000 := by simpa [smallR] using hb
      refine ⟨rfl, fun Q E h => wpAny_pyIter_range ho (small_one (by omega) (by omega) (by omega) (by omega)) (h _ _ (get_size_none _) (fun _ _ e => Heap.get?_push_of_some _ e) ?_)⟩
      have hsz : Builtin.Range.rangeSize x y 1 = ((y - x).toNat : Int) := by rw [rangeSize_one]; split <;> omega
      show IsRangeIter _ _ (x + ((0 : Nat) : Int)) (((y - x).toNat : Int) - ((0 : Nat) : Int)) 1
      have e1 : (x + ((0 : Nat) : Int)) = x := by simp
      have e2 : (((y - x).toNat : Int) - ((0 : Nat) : Int)) = Builtin.Range.rangeSize x y 1 := by rw [hsz]; simp
      rw [e1, e2]
      exact Heap.get?_push_size _ rfl
    | _ => exact (fail_some e2).elim
  | str x t =>
    refine bnd_elim e fun _ st₁ e1 e2 => ?_
    obtain ⟨hx, rfl⟩ := guard_some e1
    obtain ⟨e3, rfl⟩ := ret_some e2
    cases e3
    exact ⟨rfl, fun Q E h => wpAny_pyIter_ascii hx (h _ _ (get_size_none _) (fun _ _ e => Heap.get?_push_of_some _ e) ⟨x, t, rfl, _, Heap.get?_push_size _ rfl, rfl, rfl⟩)⟩
  | _ => first | exact no_some e | cases e

theorem iterSeq_some {q : IK} {n : Nat} {st st' : ASt} {xs : List AV} (h : iterSeq q a n st = some (.ok xs, st')) : st' = st ∧ xs.length = n ∧ ∃ i, a = .obj i ∧ ((q = .list ∧ st.σ[i]? = some (.list xs)) ∨ (q = .tuple ∧ st.σ[i]? = some (.tuple xs))) := by
  cases a with
  | obj i =>
    refine bnd_elim h fun o st₁ e1 e2 => ?_
    obtain ⟨q1, rfl⟩ := deref_some e1
    cases q with
    | list =>
      cases o with
      | list ys =>
        refine bnd_elim e2 fun _ st₂ e3 e4 => ?_
        obtain ⟨g, rfl⟩ := guard_some e3
        obtain ⟨rfl, rfl⟩ := ret_some e4
        exact ⟨rfl, of_decide_eq_true g, i, rfl, .inl ⟨rfl, q1⟩⟩
      | _ => exact (fail_some e2).elim
    | tuple =>
      cases o with
      | tuple ys =>
        refine bnd_elim e2 fun _ st₂ e3 e4 => ?_
        obtain ⟨g, rfl⟩ := guard_some e3
        obtain ⟨rfl, rfl⟩ := ret_some e4
        exact ⟨rfl, of_decide_eq_true g, i, rfl, .inr ⟨rfl, q1⟩⟩
      | _ => exact (fail_some e2).elim
    | range y => exact (fail_some e2).elim
    | str => exact (fail_some e2).elim
  | _ => first | exact no_some h | cases h

theorem it_next (R : Rel prog w X ι st s) {q : IK} {n j : Nat} {I : Addr} (hi : ItH ι q a n j I s.heap) (hj : j < n) {x : AV} {st' : ASt} (e : iterAt q a n j st = some (.ok x, st')) :
    st' = st ∧ ∀ (Q : Option Value → Shared → Prop) (E : Value → Shared → Prop), (∀ v h' tk, VRel ι v x → ItH ι q a n (j + 1) I h' → (∀ b o, b ≠ I → s.heap.get? b = some o → h'.get? b = some o) → Q (some v) { s with heap := h', toks := tk }) → wpAny (model prog w) A (pyNext (.ref I)) Q E s := by
  cases q with
  | range y =>
    obtain ⟨rfl, rfl⟩ := ret_some e
    refine ⟨rfl, fun Q E h => wpAny_pyNext_range_item hi (by omega) fun h' hit hs => h _ _ _ (.int _ _) ?_ (fun b o hb e => hs.extBut b o hb e)⟩
    show IsRangeIter _ _ (y + ((j + 1 : Nat) : Int)) ((n : Int) - ((j + 1 : Nat) : Int)) 1
    have e1 : y + ((j + 1 : Nat) : Int) = y + j + 1 := by omega
    have e2 : (n : Int) - ((j + 1 : Nat) : Int) = (n : Int) - j - 1 := by omega
    rw [e1, e2]; exact hit
  | str =>
    obtain ⟨x', t, rfl, hit⟩ := hi
    refine bnd_elim e fun _ st₁ e1 e2 => ?_
    obtain ⟨_, rfl⟩ := guard_some e1
    obtain ⟨g, rfl⟩ := ofOpt_some e2
    obtain ⟨c, hc, rfl⟩ := Option.map_eq_some_iff.mp g
    exact ⟨rfl, fun Q E h => wpAny_pyNext_ascii_item hit hc fun h' hit' hs => h _ h' _ (.str _ _) ⟨x', t, rfl, hit'⟩ (fun b o hb e => hs.extBut b o hb e)⟩
  | list =>
    refine bnd_elim e fun xs st₁ e1 e2 => ?_
    obtain ⟨rfl, hn, i, rfl, ⟨_, q1⟩ | ⟨q0, _⟩⟩ := iterSeq_some e1
    · obtain ⟨g, rfl⟩ := ofOpt_some e2
      obtain ⟨i', c, hi', hc, hit⟩ := hi
      cases hi'
      obtain ⟨vs, hl, hf, _⟩ := R.isList hc q1
      obtain ⟨y, hy, hyr⟩ := hf.get g
      exact ⟨rfl, fun Q E h => wpAny_pyNext_list_item hit hl (x := y) (by simpa using hy) fun h' hit' hs => h y h' s.toks hyr ⟨i, c, rfl, hc, hit'⟩ (fun b o hb e => hs.extBut b o hb e)⟩
    · first | exact no_some q0 | cases q0
  | tuple =>
    refine bnd_elim e fun xs st₁ e1 e2 => ?_
    obtain ⟨rfl, hn, i, rfl, ⟨q0, _⟩ | ⟨_, q1⟩⟩ := iterSeq_some e1
    · first | exact no_some q0 | cases q0
    · obtain ⟨g, rfl⟩ := ofOpt_some e2
      obtain ⟨i', c, hi', hc, hit⟩ := hi
      cases hi'
      obtain ⟨vs, hl, hf, _⟩ := R.isTuple hc q1
      obtain ⟨y, hy, hyr⟩ := hf.get g
      exact ⟨rfl, fun Q E h => wpAny_pyNext_tuple_item hit hl (x := y) (by simpa using hy) fun h' hit' hs => h y h' s.toks hyr ⟨i, c, rfl, hc, hit'⟩ (fun b o hb e => hs.extBut b o hb e)⟩

theorem it_end (hh : A.handled = none) (R : Rel prog w X ι st s) {q : IK} {n : Nat} {I : Addr} (hi : ItH ι q a n n I s.heap) {x : Unit} {st' : ASt} (e : iterEnd q a n st = some (.ok x, st')) :
    st' = st ∧ ∀ (Q : Option Value → Shared → Prop) (E : Value → Shared → Prop), (∀ h', (∀ b o, b ≠ I → s.heap.get? b = some o → h'.get? b = some o) → Q none { s with heap := h' }) → wpAny (model prog w) A (pyNext (.ref I)) Q E s := by
  cases q with
  | range y =>
    obtain ⟨_, rfl⟩ := ret_some e
    exact ⟨rfl, fun Q E h => wpAny_pyNext_range_end hh hi (by omega) fun h' hs => h h' fun b o hb e => hs b o hb e⟩
  | str =>
    obtain ⟨x', t, rfl, hit⟩ := hi
    obtain ⟨hn, rfl⟩ := guard_some e
    have hn : x'.length = n := of_decide_eq_true hn
    exact ⟨rfl, fun Q E h => wpAny_pyNext_ascii_end hh hit (Array.getElem?_eq_none (by have : x'.cps.size = n := hn; omega)) fun h' hs => h h' fun b o hb e => hs b o hb e⟩
  | list =>
    refine bnd_elim e fun xs st₁ e1 e2 => ?_
    obtain ⟨rfl, hn, i, rfl, ⟨_, q1⟩ | ⟨q0, _⟩⟩ := iterSeq_some e1
    · obtain ⟨_, rfl⟩ := ret_some e2
      obtain ⟨i', c, hi', hc, hit⟩ := hi
      cases hi'
      obtain ⟨vs, hl, hf, _⟩ := R.isList hc q1
      have hsz := f2_size hf
      exact ⟨rfl, fun Q E h => wpAny_pyNext_list_end hh hit hl (Array.getElem?_eq_none (by omega)) fun h' hs => h h' fun b o hb e => hs b o hb e⟩
    · first | exact no_some q0 | cases q0
  | tuple =>
    refine bnd_elim e fun xs st₁ e1 e2 => ?_
    obtain ⟨rfl, hn, i, rfl, ⟨q0, _⟩ | ⟨_, q1⟩⟩ := iterSeq_some e1
    · first | exact no_some q0 | cases q0
    · obtain ⟨_, rfl⟩ := ret_some e2
      obtain ⟨i', c, hi', hc, hit⟩ := hi
      cases hi'
      obtain ⟨vs, hl, hf, _⟩ := R.isTuple hc q1
      have hsz := f2_size hf
      exact ⟨rfl, fun Q E h => wpAny_pyNext_tuple_end hh hit hl (Array.getElem?_eq_none (by omega)) fun h' hs => h h' fun b o hb e => hs b o hb e⟩
end
end Mine
namespace Mine
open PySem PySem.W PyProof.Rows

noncomputable def Cx.seat (X : Cx) (k : Nat) (C : Addr) (x : Str) : Cx := { X with locs := X.locs.set k (Loc.at C x) }

section
variable {prog : Program} {w : World} {A : Around} {X : Cx} {ι : List Addr} {st : ASt} {s : Shared} {v u : Value} {a b : AV} {K : Frag} {hb : Heap} {env : Env} {rs : Rsv} {k : Nat}
  {P : AProg} {C : Calls} {e e₁ e₂ : Expr} {ae ae₁ ae₂ : AE} {es : List Expr} {aes : List AE}

theorem Rel.setGone (R : Rel prog w X ι st s) (hg : X.locs[k]? = some Loc.gone) (y : Option AV) : Rel prog w X ι ⟨st.σ, st.ρ.set k y⟩ s := by
  have ne : ∀ {i : Nat} {l : Loc}, X.locs[i]? = some l → l ≠ Loc.gone → (st.ρ.set k y)[i]? = st.ρ[i]? := by
    intro i l h1 h2
    rw [List.getElem?_set_ne]
    rintro rfl
    rw [hg] at h1; cases h1; exact h2 rfl
  refine ⟨R.frozen, ?_, R.len, R.nodup, R.free, R.objs, ?_, ?_, by simp [R.rlen], R.shape⟩
  · obtain ⟨m, hm, hv⟩ := R.ns
    exact ⟨m, hm, fun i x b h1 h2 => hv i x b h1 (by rw [ne h1 (by simp)] at h2; exact h2)⟩
  · intro i c hc
    obtain ⟨h1, o, v, h2, h3, h4⟩ := R.cells i c hc
    exact ⟨h1, o, v, h2, h3, fun b h => h4 b (by rw [ne hc (by simp)] at h; exact h)⟩
  · intro i D x hc b h
    exact R.comps i D x hc b (by rw [ne hc (by simp)] at h; exact h)

theorem seat_ne {D : Addr} {x : Str} {i : Nat} {l : Loc} (h : (X.seat k D x).locs[i]? = some l) (hne : ∀ y, l ≠ Loc.at D y) : X.locs[i]? = some l ∧ i ≠ k := by
  have h : (X.locs.set k (Loc.at D x))[i]? = some l := h
  by_cases q : k = i
  · subst q
    rw [List.getElem?_set] at h
    simp only [if_true] at h
    split at h
    · cases h; exact absurd rfl (hne x)
    · first | exact no_some h | cases h
  · rw [List.getElem?_set_ne q] at h
    exact ⟨h, fun e => q e.symm⟩

theorem Rel.seat (R : Rel prog w X ι st s) (hg : X.locs[k]? = some Loc.gone) {D : Addr} {x : Str} (hD : ∀ a, st.ρ[k]? = some (some a) → ∃ o es ep v, X.Kp D = some o ∧ o.data = .dict es ep ∧ StrKeys es ∧ nsFind es x = some v ∧ VRel ι v a) :
    Rel prog w (X.seat k D x) ι st s := by
  refine ⟨R.frozen, ?_, R.len, R.nodup, R.free, R.objs, ?_, ?_, by show _ = (X.locs.set k _).length; rw [List.length_set]; exact R.rlen, R.shape⟩
  · obtain ⟨m, hm, hv⟩ := R.ns
    exact ⟨m, hm, fun i y b h1 h2 => hv i y b (seat_ne h1 (by intro _ h; cases h)).1 h2⟩
  · intro i c hc; exact R.cells i c (seat_ne hc (by intro _ h; cases h)).1
  · intro i D' y hc b h
    by_cases q : k = i
    · subst q
      have hc : (X.locs.set k (Loc.at D x))[k]? = some (Loc.at D' y) := hc
      rw [List.getElem?_set_self (List.getElem?_eq_some_iff.mp hg).1] at hc
      cases hc
      exact hD b h
    · have hc : (X.locs.set k (Loc.at D x))[i]? = some (Loc.at D' y) := hc
      rw [List.getElem?_set_ne q] at hc
      exact R.comps i D' y hc b h
theorem Rel.unseat {D : Addr} {x : Str} (R : Rel prog w (X.seat k D x) ι st s) (hg : X.locs[k]? = some Loc.gone) : Rel prog w X ι st s := by
  have up : ∀ {i : Nat} {l : Loc}, X.locs[i]? = some l → l ≠ Loc.gone → (X.seat k D x).locs[i]? = some l := by
    intro i l h1 h2
    show (X.locs.set k _)[i]? = _
    rw [List.getElem?_set_ne, h1]
    rintro rfl
    rw [hg] at h1; cases h1; exact h2 rfl
  refine ⟨R.frozen, ?_, R.len, R.nodup, R.free, R.objs, ?_, ?_, by have := R.rlen; rw [this]; show (X.locs.set k _).length = _; simp, R.shape⟩
  · obtain ⟨m, hm, hv⟩ := R.ns
    exact ⟨m, hm, fun i y b h1 h2 => hv i y b (up h1 (by simp)) h2⟩
  · intro i c hc; exact R.cells i c (up hc (by simp))
  · intro i D' y hc; exact R.comps i D' y (up hc (by simp))

theorem Gr.seat (G : Gr K hb A X) {D : Addr} {x : Str} {o : Obj} (hD : X.Kp D = some o) : Gr K hb A (X.seat k D x) := by
  refine ⟨G.kp, G.KX, G.T, G.mods, G.hd, G.hU, ⟨?_, ?_, G.ok.kL, ?_, ?_, G.ok.ro, G.ok.rof, G.ok.frk⟩, G.frs, G.hfr⟩
  · intro i j y h1 h2; exact G.ok.inj i j y (seat_ne h1 (by intro _ h; cases h)).1 (seat_ne h2 (by intro _ h; cases h)).1
  · intro i j y h1 h2; exact G.ok.cinj i j y (seat_ne h1 (by intro _ h; cases h)).1 (seat_ne h2 (by intro _ h; cases h)).1
  · intro i c hc; exact G.ok.kc i c (seat_ne hc (by intro _ h; cases h)).1
  · intro i D' y hc
    by_cases q : D' = D
    · subst q; exact ⟨o, hD⟩
    · exact G.ok.ats i D' y (seat_ne hc (by intro _ h; cases h; exact q rfl)).1

/-- the closure of an inlined block -/
noncomputable def clOf (env : Env) : List (Str × NameKind) → List (Str × Addr) → List (Str × Addr)
  | [], acc => acc
  | (n, kd) :: r, acc => clOf env r (if kd = .free then (match env.cells.lookup n with | some c => (n, c) :: acc | none => acc) else acc)
theorem closureFor_of {sc : Scope} (h : ∀ y ∈ sc.names, y.2 = .free → ∃ c, env.cells.lookup y.1 = some c) : closureFor sc env = pure (clOf env sc.names []) := by
  unfold closureFor
  have key : ∀ (l : List (Str × NameKind)) (acc : List (Str × Addr)), (∀ y ∈ l, y.2 = .free → ∃ c, env.cells.lookup y.1 = some c) →
      (do
        let r ← forIn l acc fun (x : Str × NameKind) (r : List (Str × Addr)) =>
          if (x.2 == NameKind.free) = true then do let c ← cellOf env x.1; pure (ForInStep.yield ((x.1, c) :: r)) else pure (ForInStep.yield r)
        pure r : Sem (List (Str × Addr))) = pure (clOf env l acc) := by
    intro l
    induction l with
    | nil => intro acc _; rfl
    | cons y r ih =>
      intro acc hl
      obtain ⟨n, kd⟩ := y
      rw [List.forIn_cons]
      by_cases q : kd = .free
      · subst q
        obtain ⟨c, hc⟩ := hl _ (.head _) rfl
        have hc : env.cells.lookup n = some c := hc
        have e1 : cellOf env n = pure c := by unfold cellOf; rw [hc]
        have := ih ((n, c) :: acc) fun y hy => hl y (.tail _ hy)
        simp only [beq_self_eq_true, if_true, e1, pure_bind, clOf, hc]
        exact this
      · have := ih acc fun y hy => hl y (.tail _ hy)
        have q' : (kd == NameKind.free) = false := beq_eq_false_iff_ne.mpr q
        simp only [q', Bool.false_eq_true, if_false, pure_bind, clOf, if_neg q]
        exact this
  have := key sc.names [] h
  refine Eq.trans ?_ this
  exact bind_pure _
theorem clOf_lookup {n : Str} {c : Addr} (hc : env.cells.lookup n = some c) : ∀ (l : List (Str × NameKind)) (acc : List (Str × Addr)), (acc.lookup n = some c ∨ (n, NameKind.free) ∈ l) → (∀ p ∈ acc, p.1 = n → p.2 = c) → (clOf env l acc).lookup n = some c
  | [], acc, h, _ => by
    rcases h with h | h
    · exact h
    · first | exact no_some h | cases h
  | (m, kd) :: r, acc, h, hacc => by
    unfold clOf
    apply clOf_lookup hc r
    · rcases h with h | h
      · left
        by_cases q : kd = .free
        · rw [if_pos q]
          cases q' : env.cells.lookup m with
          | none => exact h
          | some c' =>
            show List.lookup n ((m, c') :: acc) = some c
            rw [List.lookup_cons]
            split
            · rename_i e; rw [← beq_iff_eq.mp e, hc] at q'; cases q'; rfl
            · exact h
        · rw [if_neg q]; exact h
      · rcases List.mem_cons.mp h with h | h
        · first | exact no_some h | cases h
          left
          rw [if_pos rfl, hc]
          simp
        · right; exact h
    · intro p hp hpn
      by_cases q : kd = .free
      · rw [if_pos q] at hp
        cases q' : env.cells.lookup m with
        | none => rw [q'] at hp; exact hacc p hp hpn
        | some c' =>
          rw [q'] at hp
          rcases List.mem_cons.mp hp with hp | hp
          · subst hp; subst hpn; rw [hc] at q'; cases q'; rfl
          · exact hacc p hp hpn
      · rw [if_neg q] at hp; exact hacc p hp hpn

theorem lookup_relabel {y : Str} {kd : NameKind} : ∀ {names : List (Str × NameKind)}, names.lookup y = some kd →
    (names.map fun (n, k) => if (k == NameKind.free && env.scope.kind == .function && env.kindOf n == some .cell) then (n, NameKind.cell) else (n, k)).lookup y = some (if (kd == NameKind.free && env.scope.kind == .function && env.kindOf y == some .cell) then NameKind.cell else kd)
  | [], h => by cases h
  | (n, kk) :: r, h => by
    rw [List.lookup_cons] at h
    rw [List.map_cons]
    have e1 : (if (kk == NameKind.free && env.scope.kind == .function && env.kindOf n == some .cell) = true then (n, NameKind.cell) else (n, kk)) = (n, if (kk == NameKind.free && env.scope.kind == .function && env.kindOf n == some .cell) = true then NameKind.cell else kk) := by split <;> rfl
    show List.lookup y ((if (kk == NameKind.free && env.scope.kind == .function && env.kindOf n == some .cell) = true then (n, NameKind.cell) else (n, kk)) :: _) = _
    rw [e1, List.lookup_cons]
    split at h
    · rename_i e
      cases h
      rw [beq_iff_eq.mp e]
    · exact lookup_relabel h

theorem mem_of_lookup {y : Str} {kd : NameKind} : ∀ {names : List (Str × NameKind)}, names.lookup y = some kd → (y, kd) ∈ names
  | [], h => by cases h
  | (n, kk) :: r, h => by
    rw [List.lookup_cons] at h
    split at h
    · rename_i e; cases h; rw [beq_iff_eq.mp e]; exact .head _
    · exact .tail _ (mem_of_lookup h)

theorem EnvOk.comp {sc : Scope} {x : Str} {D : Addr} {l : List (Addr × Obj)} (EO : EnvOk K X env rs k) (hsk : sc.kind = .function) (hn : compNames rs sc.names x = true) (hk : k < rs.N) :
    EnvOk K ((X.hold l).seat k D x) (compEnvC sc (clOf env sc.names []) D env) (rsComp rs sc.names x k) (k + 1) := by
  obtain ⟨⟨⟨hx, hxd⟩, hxc⟩, hall⟩ : ((sc.names.lookup x = some .local ∧ x ≠ dbg) ∧ x ≠ "__classdict__") ∧ ∀ y ∈ sc.names, kindFine rs x y = true ∧ sc.names.lookup y.1 = some y.2 := by
    simpa [compNames, List.all_eq_true] using hn
  have hgone := EO.gone k (Nat.le_refl _) hk
  have hlen : k < X.locs.length := by rw [EO.len]; exact hk
  have locs_ne : ∀ {i : Nat} {l' : Loc}, X.locs[i]? = some l' → l' ≠ Loc.gone → ((X.hold l).seat k D x).locs[i]? = some l' := by
    intro i l' h1 h2
    show (X.locs.set k _)[i]? = _
    rw [List.getElem?_set_ne, h1]
    rintro rfl
    rw [hgone] at h1; cases h1; exact h2 rfl
  have kx : (compEnvC sc (clOf env sc.names []) D env).kindOf x = some .local := lookup_relabel_local hx
  have kfree : ∀ {y : Str}, sc.names.lookup y = some .free → ((compEnvC sc (clOf env sc.names []) D env).kindOf y = some .cell ∨ (compEnvC sc (clOf env sc.names []) D env).kindOf y = some .free) := by
    intro y hy
    have := lookup_relabel (env := env) hy
    by_cases q : (NameKind.free == NameKind.free && env.scope.kind == .function && env.kindOf y == some .cell) = true
    · rw [if_pos q] at this; exact .inl this
    · rw [if_neg q] at this; exact .inr this
  have cel' : ∀ {y : Str}, sc.names.lookup y = some .free → rs.cel y = true → ((compEnvC sc (clOf env sc.names []) D env).kindOf y = some .cell ∨ (compEnvC sc (clOf env sc.names []) D env).kindOf y = some .free) ∧ y ≠ dbg ∧ y ≠ cld ∧ ∃ i c, rs.slot y = some i ∧ (compEnvC sc (clOf env sc.names []) D env).cells.lookup y = some c ∧ ((X.hold l).seat k D x).locs[i]? = some (Loc.cell c) := by
    intro y hy hc
    obtain ⟨_, hd, hcd, i, c, hi, hcl, hl⟩ := EO.cel y hc
    exact ⟨kfree hy, hd, hcd, i, c, hi, clOf_lookup hcl _ _ (.inr (mem_of_lookup hy)) (fun _ h => by cases h), locs_ne hl (by simp)⟩
  refine ⟨by show (X.locs.set k _).length = rs.N; rw [List.length_set]; exact EO.len, ?_, hsk, EO.glb, EO.bns, ?_, ?_, ?_, EO.gt, ?_⟩
  · intro j h1 h2
    show (X.locs.set k _)[j]? = _
    rw [List.getElem?_set_ne (by omega)]
    exact EO.gone j (by omega) h2
  · intro y i hy
    have hy : (if y = x then some k else (match sc.names.lookup y with | some .free => if rs.cel y then rs.slot y else none | _ => none)) = some i := hy
    by_cases q : y = x
    · subst q
      rw [if_pos rfl] at hy
      cases hy
      refine ⟨hxd, hxc, .inl ⟨kx, .inr ?_⟩⟩
      show (X.locs.set k _)[k]? = _
      rw [List.getElem?_set_self hlen]
      rfl
    · rw [if_neg q] at hy
      split at hy
      · rename_i hfr
        split at hy
        · rename_i hc
          obtain ⟨h1, h2, h3, i', c, h4, h5, h6⟩ := cel' hfr hc
          rw [hy] at h4; cases h4
          exact ⟨h2, h3, .inr ⟨h1, c, h5, h6⟩⟩
        · first | exact no_some hy | cases hy
      · first | exact no_some hy | cases hy
  · intro y hy
    have hy : (if y = x then false else (match sc.names.lookup y with | some .free => rs.cel y | _ => false)) = true := hy
    by_cases q : y = x
    · rw [if_pos q] at hy; cases hy
    · rw [if_neg q] at hy
      split at hy
      · rename_i hfr
        obtain ⟨h1, h2, h3, i, c, h4, h5, h6⟩ := cel' hfr hy
        refine ⟨h1, h2, h3, i, c, ?_, h5, h6⟩
        show (if y = x then some k else (match sc.names.lookup y with | some .free => if rs.cel y then rs.slot y else none | _ => none)) = some i
        rw [if_neg q, hfr]
        simp only [hy, if_true]
        exact h4
      · first | exact no_some hy | cases hy
  · intro y g _ hg
    have hg : (match sc.names.lookup y with
      | some .globalImplicit => rs.gtab y
      | _ => none) = some g := hg
    split at hg
    · rename_i hgl
      exact ⟨lookup_relabel (env := env) hgl, EO.gt y g hg⟩
    · first | exact no_some hg | cases hg
  · intro y i hy hc
    have hy : (if y = x then some k else (match sc.names.lookup y with | some .free => if rs.cel y then rs.slot y else none | _ => none)) = some i := hy
    have hc : (if y = x then false else (match sc.names.lookup y with | some .free => rs.cel y | _ => false)) = false := hc
    by_cases q : y = x
    · subst q; exact kx
    · rw [if_neg q] at hy hc
      split at hy
      · rename_i hfr
        rw [hfr] at hc
        have hc : rs.cel y = false := hc
        rw [hc] at hy
        exact no_some hy
      · first | exact no_some hy | cases hy

theorem sim_tests (L : SL prog w K hb A P C rs k es aes) : ∀ X env ι st s (r : Bool), Gr K hb A X → EnvOk K X env rs k → Rel prog w X ι st s →
    SimAt prog w A X ι st s (forIn es r fun c r => if r = true then do let ok ← isTrue c env (eval c env); pure (ForInStep.yield ok) else pure (ForInStep.yield r)) (if r = true then atests P C aes else ret false) BR := by
  induction L with
  | nil =>
    intro X env ι st s r G EO R
    cases r with
    | true => simp only [if_true]; exact SimAt.pure R rfl
    | false => exact SimAt.pure R rfl
  | @cons e ae es aes hn h L ih =>
    intro X env ι st s r G EO R x st' ee Q E kk
    rw [List.forIn_cons]
    cases r with
    | false =>
      have := ih X env ι st s false G EO R x st' ee Q E kk
      simp only [Bool.false_eq_true, if_false, pure_bind] at this ⊢
      exact this
    | true =>
      simp only [if_true] at ee ⊢
      refine bnd_elim ee fun b st₁ g1 g2 => ?_
      rw [bind_assoc]
      refine wpAny_bind (h.2 X env ι st s G EO R b st₁ g1 _ _ fun ι₁ s₁ t p₁ R₁ ht => ?_)
      subst ht
      rw [pure_bind]
      exact ih X env ι₁ st₁ s₁ t G EO R₁ x st' g2 Q E fun ι₂ s₂ y p₂ R₂ hy => kk ι₂ s₂ y (p₁.trans p₂) R₂ hy
end
end Mine
namespace Mine
open PySem PySem.W PyProof.Rows

section
variable {prog : Program} {w : World} {A : Around} {X : Cx} {ι : List Addr} {st : ASt} {s : Shared} {v : Value} {K : Frag} {hb : Heap} {env : Env} {M : Model} {l outer : List Env} {e : Nat} {x c : Addr} {a0 fl : Value} {oe : Obj} {E : Value → Shared → Prop} {Q : Unit → Shared → Prop}

theorem Tr.at {h : Heap} {σ : List AO} (T : Tr X ι σ e fl h v) : ∃ x, v = .ref x ∧ ι[e]? = some x := by
  cases T with | mk hx => exact ⟨_, rfl, hx⟩
/-- the frames of the stack, as they lie -/
noncomputable def Stk (X : Cx) (h : Heap) (l : List Env) : Prop := ∀ f ∈ l, f.scope.kind ≠ .module ∧ ∃ L o, f.frame = some L ∧ (L = X.L ∨ L ∈ X.fr) ∧ h.get? L = some o ∧ ∀ vs, o.data ≠ .fields vs
theorem Rel.stk (R : Rel prog w X ι st s) (ok : CxOk X) (h : ∀ f ∈ l, f.scope.kind ≠ .module ∧ ∃ L, f.frame = some L ∧ (L = X.L ∨ L ∈ X.fr)) : Stk X s.heap l := by
  intro f hf
  obtain ⟨hk, L, hL, hq⟩ := h f hf
  refine ⟨hk, L, ?_⟩
  rcases hq with rfl | hq
  · obtain ⟨m, ⟨o, es, ep, ho, hd, _⟩, _⟩ := R.ns
    exact ⟨o, hL, .inl rfl, ho, fun vs q => by rw [hd] at q; cases q⟩
  · obtain ⟨o, hk, hn⟩ := ok.frk L hq
    obtain ⟨o', h1, h2⟩ := (R.frozen L o hk).data
    exact ⟨o', hL, .inr hq, h1, fun vs q => hn vs (h2 ▸ q)⟩
theorem Stk.frames {base h : Heap} : ∀ {l : List Env}, Stk X h l → (∀ f ∈ l, ∀ L, f.frame = some L → base.get? L = none) → h.FunFrames base l
  | [], _, _ => trivial
  | f :: r, S, hb => by
    obtain ⟨hk, L, o, hL, _, ho, hn⟩ := S f (.head _)
    exact ⟨hk, ⟨L, o, hL, hb f (.head _) L hL, ho, hn⟩, Stk.frames (fun g hg => S g (.tail _ hg)) fun g hg => hb g (.tail _ hg)⟩
/-- what a note on the exception does to the heap keeps all -/
theorem Rel.after (R : Rel prog w X ι st s) (ok : CxOk X) (S : Stk X s.heap l) (hx : ι[e]? = some x) (hs : st.σ[e]? = some (.exc c)) (ho : s.heap.get? x = some oe) {hid : List Addr} (Ts : ∀ b ∈ hid, (∃ f ∈ l, f.frame = some b) ∨ b = x ∨ Apart X ι b) {h' : Heap}
    (n1 : (hideAll s.heap hid).StaysIn h') (n2 : h'.FunFrames (hideAll s.heap hid) l) (n3 : h'.TracedAtW (hideAll s.heap hid) x oe.cls a0 fl) (n4 : s.heap.UpToSlots h') : Rel prog w X ι st { s with heap := h' } ∧ Tr X ι st.σ e fl h' (.ref x) := by
  have keepb : ∀ b o, b ∉ hid → s.heap.get? b = some o → h'.get? b = some o := fun b o nb hb => n1 b o (hideAll_get _ hb nb)
  have hkx : X.Kp x = none := (R.free e x _ hx hs).1 rfl
  have fr : ∀ {b : Addr}, (∃ f ∈ l, f.frame = some b) → b = X.L ∨ b ∈ X.fr := fun ⟨f, hf, hb⟩ => by
    obtain ⟨_, L, _, hL, hq, _⟩ := S f hf
    rw [hb] at hL; cases hL; exact hq
  obtain ⟨oe', vs', T', oT', ts', g1, ⟨g2, g3⟩, g4, g5, g6, g7, g8, g9, g10⟩ := n3
  constructor
  · refine ⟨fun b o q => ?_, ?_, R.len, R.nodup, R.free, ?_, ?_, R.comps, R.rlen, by rw [R.shape]⟩
    · obtain ⟨o', h1, h2⟩ := R.frozen b o q
      by_cases hm : b ∈ hid
      · rcases Ts b hm with hf | rfl | ap
        · rcases fr hf with rfl | hf
          · rw [ok.kL] at q; cases q
          · obtain ⟨o2, k1, k2⟩ := ok.frk b hf
            rw [q] at k1; cases k1
            obtain ⟨sl, h3⟩ := n4 b o' h1 (fun vs z => by
              rcases h2 with rfl | ⟨_, sl, rfl⟩
              · exact k2 vs z
              · exact k2 vs z)
            refine ⟨_, h3, .inr ⟨hf, sl, ?_⟩⟩
            rcases h2 with rfl | ⟨_, sl', rfl⟩
            · rfl
            · rfl
        · rw [hkx] at q; cases q
        · rw [ap.kp] at q; cases q
      · exact ⟨o', keepb b o' hm h1, h2⟩
    · obtain ⟨m, hm, hv⟩ := R.ns
      exact ⟨m, n4.ns hm, hv⟩
    · intro i ao hi
      obtain ⟨a', ob, h1, h2, h3⟩ := R.objs i ao hi
      by_cases hm : a' ∈ hid
      · rcases Ts a' hm with hf | rfl | ap
        · obtain ⟨f1, f2, f3⟩ := R.free i a' ao h1 hi
          rcases fr hf with rfl | hf
          · exact absurd rfl f2
          · cases q : isRo ao with
            | false => obtain ⟨o2, k1, _⟩ := ok.frk a' hf; rw [f1 q] at k1; cases k1
            | true => exact absurd hf (ok.rof a' (f3 q))
        · have := nodup_idx R.nodup h1 hx
          subst this
          rw [hs] at hi; cases hi
          rw [ho] at h2; cases h2
          exact ⟨a', oe', hx, g1, g2.trans h3.1, vs', g4⟩
        · exact absurd (Rel.mem h1) ap.nin
      · exact ⟨a', ob, h1, keepb _ _ hm h2, h3⟩
    · intro i d hd
      obtain ⟨h1, ob, u, h2, h3, h4⟩ := R.cells i d hd
      refine ⟨h1, ob, u, keepb _ _ (fun hm => ?_) h2, h3, h4⟩
      obtain ⟨k1, k2⟩ := ok.kc i d hd
      rcases Ts d hm with hf | rfl | ap
      · rcases fr hf with rfl | hf
        · exact k2 rfl
        · obtain ⟨o2, k3, _⟩ := ok.frk d hf; rw [k1] at k3; cases k3
      · exact h1 (Rel.mem hx)
      · exact ap.nc i d hd rfl
  · refine .mk hx hs g1 g4 g3 g5 g7 ?_ g8 g9 g10
    cases q : s.heap.get? T' with
    | none => exact R.apart q
    | some o =>
      by_cases hm : T' ∈ hid
      · rcases Ts T' hm with ⟨f, hf, hq⟩ | hq | ap
        · obtain ⟨_, o2, k1, k2⟩ := n2.mem (List.mem_filterMap.mpr ⟨f, hf, hq⟩)
          rw [g8] at k1; cases k1
          exact absurd g9 (k2 _)
        · exact absurd hq g7
        · exact ap
      · rw [hideAll_get _ q hm] at g6; cases g6
/-- the entry's mark -/
theorem mark_ (R : Rel prog w X ι st s) (F : Tr X ι st.σ e fl s.heap v) {o : Option Addr} (h : ∀ s', Rel prog w X ι st s' → Tr X ι st.σ e (o.elim .none fun f => rawInt f) s'.heap v → Q () s') : wpAny M A (setFlight v o) Q E s := by
  cases F with
  | @mk x c oe vs a0 T oT ts hx hs ho hd h0 h1 hT ap hoT hdT h3 =>
  have hsz3 : 3 < ts.size := (Array.getElem?_eq_some_iff.mp h3).1
  unfold setFlight
  refine wpAny_bind (wpAny_field ho hd h1 ?_)
  rw [if_pos (show (Value.ref T != Value.none) = true by simp)]
  refine wpAny_setField hoT hdT hsz3 (h _ (R.aside (tk := s.toks) ap fun b ob hb q => (Heap.get?_update_other _ _ (Ne.symm hb)).trans q) ?_)
  exact .mk hx hs ((Heap.get?_update_other _ _ hT).trans ho) hd h0 h1 hT ap (Heap.get?_update_self _ hoT (Obj.isFreed_of_fields (Obj.data_mapFields hdT _))) (Obj.data_mapFields hdT _) (by simp [hsz3])
/-- a note of this frame -/
theorem note0 (R : Rel prog w X ι st s) (ok : CxOk X) (hfr : A.frames = some (env :: outer)) (S : Stk X s.heap (env :: outer)) (hf : env.frame = some X.L) (F : Fly0 X ι st.σ e s.heap v)
    (h : ∀ s', Rel prog w X ι st s' → Tr X ι st.σ e (rawInt X.L) s'.heap v → Q () s') : wpAny M A (noteFrame v env) Q E s := by
  have inF : ∀ (r : List Addr), ∀ f ∈ env :: outer, ∀ L, f.frame = some L → (hideAll s.heap ((env :: outer).filterMap (·.frame) ++ r)).get? L = none := fun r f hf L hL => hideAll_none _ (List.mem_append.mpr (.inl (List.mem_filterMap.mpr ⟨f, hf, hL⟩)))
  cases F with
  | @new x c oe vs a0 hx hs ho hd h0 h1 =>
    unfold noteFrame
    simp only [hf]
    refine wpAny_bind (wpAny_field ho hd h1 ?_)
    rw [if_neg (by decide)]
    refine wpAny_entryW hfr (S.frames (inF [x])) hf ho (fun b o q => of_hideAll _ q) (hideAll_none _ (List.mem_append.mpr (.inr (.head _)))) hd (Array.getElem?_eq_some_iff.mp h1).1 h0 fun h' k => ?_
    obtain ⟨k1, k2, k3, k4⟩ := k
    obtain ⟨R', T⟩ := R.after ok S hx hs ho (fun b hb => (List.mem_append.mp hb).elim (fun hb => let ⟨f, hf, q⟩ := List.mem_filterMap.mp hb; .inl ⟨f, hf, q⟩) fun hb => .inr (.inl (List.mem_singleton.mp hb))) k1 k2 k3 k4
    exact h _ R' T
  | @on _ fl t =>
    cases t with
    | @mk x c oe vs a0 T oT ts hx hs ho hd h0 h1 hT ap hoT hdT h3 =>
    unfold noteFrame
    simp only [hf]
    refine wpAny_bind (wpAny_field ho hd h1 ?_)
    rw [if_pos (show (Value.ref T != Value.none) = true by simp)]
    refine wpAny_bind (wpAny_field hoT hdT h3 ?_)
    by_cases q : (fl == rawInt X.L) = true
    · rw [if_pos q]
      have q := eq_of_beq q
      exact wpAny_pure (h _ R (.mk hx hs ho hd h0 h1 hT ap hoT hdT (q ▸ h3)))
    · rw [if_neg q]
      refine wpAny_bind (wpAny_setField hoT hdT (Array.getElem?_eq_some_iff.mp h3).1 ?_)
      have R₁ := R.aside (tk := s.toks) (h' := s.heap.update T (Obj.mapFields (·.setIfInBounds 3 Value.none))) ap fun b ob hb z => (Heap.get?_update_other _ _ (Ne.symm hb)).trans z
      have ho₁ : (s.heap.update T (Obj.mapFields (·.setIfInBounds 3 Value.none))).get? x = some oe := (Heap.get?_update_other _ _ hT).trans ho
      have S₁ : Stk X (s.heap.update T (Obj.mapFields (·.setIfInBounds 3 Value.none))) (env :: outer) := fun f hf => by
        obtain ⟨h1, L, o, h2, h3, h4, h5⟩ := S f hf
        refine ⟨h1, L, o, h2, h3, (Heap.get?_update_other _ _ ?_).trans h4, h5⟩
        rintro rfl
        rcases h3 with h3 | h3
        · exact ap.nL h3
        · obtain ⟨o', k, _⟩ := ok.frk _ h3
          rw [ap.kp] at k; cases k
      generalize s.heap.update T (Obj.mapFields (·.setIfInBounds 3 Value.none)) = H at *
      have inF' : ∀ (r : List Addr), ∀ f ∈ env :: outer, ∀ L, f.frame = some L → (hideAll H ((env :: outer).filterMap (·.frame) ++ r)).get? L = none := fun r f hf L hL => hideAll_none _ (List.mem_append.mpr (.inl (List.mem_filterMap.mpr ⟨f, hf, hL⟩)))
      refine wpAny_entryW (s := { s with heap := H }) hfr (S₁.frames (inF' [x])) hf ho₁ (fun b o q => of_hideAll _ q) (hideAll_none _ (List.mem_append.mpr (.inr (.head _)))) hd (Array.getElem?_eq_some_iff.mp h1).1 h0 fun h' k => ?_
      obtain ⟨k1, k2, k3, k4⟩ := k
      obtain ⟨R', T⟩ := R₁.after ok S₁ hx hs ho₁ (fun b hb => (List.mem_append.mp hb).elim (fun hb => let ⟨f, hf, q⟩ := List.mem_filterMap.mp hb; .inl ⟨f, hf, q⟩) fun hb => .inr (.inl (List.mem_singleton.mp hb))) k1 k2 k3 k4
      exact h _ R' T
theorem note_ (R : Rel prog w X ι st s) (ok : CxOk X) (hfr : A.frames = some (env :: outer)) (S : Stk X s.heap (env :: outer)) (hf : env.frame = some X.L) (F : Fly X ι st.σ e s.heap v)
    (h : ∀ s', Rel prog w X ι st s' → Tr X ι st.σ e (rawInt X.L) s'.heap v → (∃ x, v = .ref x ∧ ExI x s'.heap) → Q () s') : wpAny M A (noteFrame v env) Q E s := by
  obtain ⟨x, rfl, hx⟩ := F.ex
  exact wpAny_mono (wpAny_pres pres_note hx (note0 (Q := fun _ s' => Rel prog w X ι st s' ∧ Tr X ι st.σ e (rawInt X.L) s'.heap (.ref x)) R ok hfr S hf F.o fun s' a b => ⟨a, b⟩)) (fun _ s' q => h s' q.1.1 q.1.2 ⟨x, rfl, q.2⟩) fun _ _ q => q.1
theorem flight_ (R : Rel prog w X ι st s) (F : Tr X ι st.σ e fl s.heap v) (F' : ∃ x, v = .ref x ∧ ExI x s.heap) {o : Option Addr} (h : ∀ s', Rel prog w X ι st s' → Tr X ι st.σ e (o.elim .none fun f => rawInt f) s'.heap v → (∃ x, v = .ref x ∧ ExI x s'.heap) → Q () s') : wpAny M A (setFlight v o) Q E s := by
  obtain ⟨x, rfl, hx⟩ := F'
  exact wpAny_mono (wpAny_pres pres_flight hx (mark_ (Q := fun _ s' => Rel prog w X ι st s' ∧ Tr X ι st.σ e (o.elim .none fun f => rawInt f) s'.heap (.ref x)) R F fun s' a b => ⟨a, b⟩)) (fun _ s' q => h s' q.1.1 q.1.2 ⟨x, rfl, q.2⟩) fun _ _ q => q.1
/-- into a handler -/
theorem land_ (R : Rel prog w X ι st s) (ok : CxOk X) (hfr : A.frames = some (env :: outer)) (S : Stk X s.heap (env :: outer)) (hf : env.frame = some X.L) (F : Fly X ι st.σ e s.heap v)
    (h : ∀ s', Rel prog w X ι st s' → Tr X ι st.σ e .none s'.heap v → (∃ x, v = .ref x ∧ ExI x s'.heap) → Q () s') : wpAny M A (noteFrame v env) (fun _ s₂ => wpAny M A (setFlight v none) Q E s₂) E s :=
  note_ R ok hfr S hf F fun _ R' T' x' => flight_ (o := none) R' T' x' h
/-- out of a call -/
theorem leave_ (R : Rel prog w X ι st s) (ok : CxOk X) (hfr : A.frames = some (env :: outer)) (S : Stk X s.heap (env :: outer)) (hf : env.frame = some X.L) (F : Fly X ι st.σ e s.heap v)
    (h : ∀ s', Rel prog w X ι st s' → Tr X ι st.σ e .none s'.heap v → (∃ x, v = .ref x ∧ ExI x s'.heap) → Q () s') : wpAny M A (leaving env v) Q E s :=
  wpAny_bind (land_ R ok hfr S hf F h)
/-- out of a loop of its own frame -/
theorem came_ (R : Rel prog w X ι st s) (ok : CxOk X) (hfr : A.frames = some (env :: outer)) (S : Stk X s.heap (env :: outer)) (hf : env.frame = some X.L) (F : Fly X ι st.σ e s.heap v)
    (h : ∀ s', Rel prog w X ι st s' → Fly X ι st.σ e s'.heap v → E v s') : notedBy M A env (fun x s' => cameBackBy M A env E x s') v s := by
  refine note_ R ok hfr S hf F fun s₁ R₁ T₁ x₁ => ?_
  have T₂ := T₁
  cases T₁ with
  | mk hx hs ho hd h0 h1 hT ap hoT hdT h3 =>
  refine wpAny_bind (wpAny_field ho hd h1 ?_)
  rw [if_neg (show ¬ ((Value.ref _ == Value.none) = true) from Bool.false_ne_true), hf]
  exact flight_ (o := some X.L) R₁ T₂ x₁ fun s' R' T' x' => h s' R' ⟨.on T', x'⟩
end
end Mine
namespace Mine
open PySem PySem.W PyProof.Rows

section
variable {prog : Program} {w : World} {A : Around} {X : Cx} {ι : List Addr} {st : ASt} {s : Shared} {v u : Value} {a b : AV} {K : Frag} {hb : Heap} {env : Env} {rs : Rsv} {k : Nat}
  {P : AProg} {C : Calls} {e e₁ e₂ : Expr} {ae ae₁ ae₂ : AE} {es : List Expr} {aes : List AE}

/-- a thing apart enters the abstract machine -/
theorem Rel.adopt (R : Rel prog w X ι st s) {o : Obj} {ao : AO} {D : Addr} (ap : Apart X ι D) (ho : s.heap.get? D = some o) (hr : ORel prog w (ι ++ [D]) o ao) (hro : isRo ao = false) : Rel prog w X (ι ++ [D]) ⟨st.σ ++ [ao], st.ρ⟩ s := by
  have p := Pre.snoc ι D
  refine ⟨R.frozen, ?_, by simp [R.len], ?_, ?_, ?_, ?_, ?_, R.rlen, R.shape⟩
  · obtain ⟨m, hm, hv⟩ := R.ns
    exact ⟨m, hm, fun i x b h1 h2 => by obtain ⟨v, e1, e2⟩ := hv i x b h1 h2; exact ⟨v, e1, e2.mono p⟩⟩
  · rw [List.nodup_append]
    exact ⟨R.nodup, by simp, fun b hb c hc e => by simp at hc; subst hc; subst e; exact ap.nin hb⟩
  · intro i b bo hb hbo
    by_cases hi : i < ι.length
    · rw [List.getElem?_append_left hi] at hb
      rw [List.getElem?_append_left (R.len ▸ hi)] at hbo
      exact R.free i b bo hb hbo
    · have : i = ι.length := by
        have := (List.getElem?_eq_some_iff.mp hb).1
        simp at this; omega
      subst this
      simp at hb; subst hb
      have hbo' : bo = ao := by rw [R.len] at hbo; simpa using hbo.symm
      subst hbo'
      exact ⟨fun _ => ap.kp, ap.nL, fun q => by rw [hro] at q; cases q⟩
  · intro i b e
    by_cases hi : i < st.σ.length
    · rw [List.getElem?_append_left hi] at e
      obtain ⟨a', ob, h1, h2, h3⟩ := R.objs i b e
      exact ⟨a', ob, p.get h1, h2, h3.mono p⟩
    · have : i = st.σ.length := by
        have := (List.getElem?_eq_some_iff.mp e).1
        simp at this; omega
      subst this
      simp at e; subst e
      refine ⟨D, o, ?_, ho, hr⟩
      rw [← R.len]; simp
  · intro i c hc
    obtain ⟨h1, ob, v, h2, h3, h4⟩ := R.cells i c hc
    refine ⟨fun hm => ?_, ob, v, h2, h3, fun b hb => by obtain ⟨u, e1, e2⟩ := h4 b hb; exact ⟨u, e1, e2.mono p⟩⟩
    rcases List.mem_append.mp hm with hm | hm
    · exact h1 hm
    · simp at hm; subst hm; exact ap.nc i c hc rfl
  · intro i D' x hc b hb
    obtain ⟨ob, es, ep, v, h1, h2, h3, h4, h5⟩ := R.comps i D' x hc b hb
    exact ⟨ob, es, ep, v, h1, h2, h3, h4, h5.mono p⟩

theorem setLoc_some {i : Nat} {v : AV} {st st' : ASt} {x : Unit} (h : setLoc i v st = some (.ok x, st')) : st' = ⟨st.σ, st.ρ.set i (some v)⟩ := by unfold setLoc at h; cases h; rfl

/-- three things held aside at once -/
theorem hold3 {h : Heap} {Cc D I : Addr} {oC oD oI : Obj} (hID : I ≠ D) (hIC : I ≠ Cc) (hDC : D ≠ Cc) (aC : Apart X ι Cc) (aD : Apart X ι D) (aI : Apart X ι I) (h1 : h.get? Cc = some oC) (h2 : h.get? D = some oD) (h3 : h.get? I = some oI) :
    ∃ l : List (Addr × Obj), (∀ p ∈ l, Apart X ι p.1 ∧ h.get? p.1 = some p.2) ∧ l.lookup Cc = some oC ∧ l.lookup D = some oD ∧ l.lookup I = some oI := by
  refine ⟨[(Cc, oC), (D, oD), (I, oI)], fun p hp => ?_, by rw [List.lookup_cons]; simp, by rw [List.lookup_cons, beq_eq_false_iff_ne.mpr hDC, List.lookup_cons]; simp, by rw [List.lookup_cons, beq_eq_false_iff_ne.mpr hIC, List.lookup_cons, beq_eq_false_iff_ne.mpr hID, List.lookup_cons]; simp⟩
  simp only [List.mem_cons, List.not_mem_nil, or_false] at hp
  rcases hp with rfl | rfl | rfl
  · exact ⟨aC, h1⟩
  · exact ⟨aD, h2⟩
  · exact ⟨aI, h3⟩
theorem ite_ff {A B : Prop} (h : B) : if false = true then A else B := h
theorem ite_tt {A B : Prop} (h : A) : if true = true then A else B := h
noncomputable def Clm {α : Type} (m : M α) : Prop := ∀ st e st', m st ≠ some (.error e, st')
theorem Clm.bnd {α β : Type} {m : M α} {f : α → M β} (h : Clm m) (g : ∀ a, Clm (f a)) : Clm (bnd m f) := fun st e st' q => by
  rcases bnd_er q with q | ⟨a, st₁, _, q⟩
  · exact h _ _ _ q
  · exact g a _ _ _ q
theorem clm_ret {α : Type} {a : α} : Clm (ret a) := fun _ _ _ q => by cases q
theorem clm_fail {α : Type} : Clm (fail : M α) := fun _ _ _ q => by cases q
theorem clm_ofOpt {α : Type} {o : Option α} : Clm (ofOpt o) := fun _ _ _ q => by cases o <;> cases q
theorem clm_guard {b : Bool} : Clm (guard b) := fun _ _ _ q => by cases b <;> cases q
theorem clm_deref {i : Nat} : Clm (deref i) := fun st e st' q => by
  unfold deref at q
  split at q <;> cases q
theorem clm_set {i : Nat} {v : AV} : Clm (setLoc i v) := fun _ _ _ q => by cases q
theorem clm_seq {q : IK} {v : AV} {n : Nat} : Clm (iterSeq q v n) := by
  unfold iterSeq
  cases v with
  | obj i =>
    refine clm_deref.bnd fun o => ?_
    cases q <;> cases o <;> first | exact clm_fail | exact clm_guard.bnd fun _ => clm_ret
  | _ => exact clm_fail
theorem clm_at {q : IK} {v : AV} {n j : Nat} : Clm (iterAt q v n j) := by
  cases q with
  | range a => exact clm_ret
  | list => exact clm_seq.bnd fun _ => clm_ofOpt
  | tuple => exact clm_seq.bnd fun _ => clm_ofOpt
  | str => cases v <;> first | exact clm_fail | exact clm_guard.bnd fun _ => clm_ofOpt
theorem clm_end {q : IK} {v : AV} {n : Nat} : Clm (iterEnd q v n) := by
  cases q with
  | range a => exact clm_ret
  | list => exact clm_seq.bnd fun _ => clm_ret
  | tuple => exact clm_seq.bnd fun _ => clm_ret
  | str => cases v <;> first | exact clm_fail | exact clm_guard
/-- the first part of a run ends well, or is where it ends -/
theorem bnd_two {α β : Type} {m : M α} {f : α → M β} {st st' : ASt} {o : Except Nat β} (h : bnd m f st = some (o, st')) : (∃ e, o = .error e ∧ m st = some (.error e, st')) ∨ ∃ a st₁, m st = some (.ok a, st₁) ∧ f a st₁ = some (o, st') := by
  cases o with
  | ok x => refine bnd_elim h fun a st₁ g1 g2 => .inr ⟨a, st₁, g1, g2⟩
  | error e => exact (bnd_er h).imp (fun q => ⟨e, rfl, q⟩) id
theorem bnd_clm {α β : Type} {m : M α} {f : α → M β} {st st' : ASt} {o : Except Nat β} (c : Clm m) (h : bnd m f st = some (o, st')) : ∃ a st₁, m st = some (.ok a, st₁) ∧ f a st₁ = some (o, st') :=
  (bnd_two h).resolve_left fun ⟨_, _, q⟩ => c _ _ _ q
theorem noteFrame_frame {a b : Env} (h : a.frame = b.frame) (x : Value) : noteFrame x a = noteFrame x b := by
  unfold noteFrame frameOf
  rw [h]
theorem Tr.unseat {l : List (Addr × Obj)} {Cc : Addr} {x : Str} {σ : List AO} {e : Nat} {fl : Value} {h : Heap} (hg : X.locs[k]? = some Loc.gone) (t : Tr ((X.hold l).seat k Cc x) ι σ e fl h v) : Tr X ι σ e fl h v := by
  cases t with
  | mk hx hs ho hd h0 h1 hT ap hoT hdT h3 =>
  refine .mk hx hs ho hd h0 h1 hT ⟨?_, ap.nin, ap.nL, fun i c hc => ap.nc i c ?_⟩ hoT hdT h3
  · have q := ap.kp
    have q : (match List.lookup _ l with | some o => some o | none => X.Kp _) = none := q
    split at q
    · cases q
    · exact q
  · show (X.locs.set k _)[i]? = _
    rw [List.getElem?_set_ne]
    · exact hc
    · rintro rfl
      rw [hg] at hc; cases hc
/-- what holds between two turns of a comprehension -/
inductive CInv (prog : Program) (w : World) (X : Cx) (ι : List Addr) (q : IK) (a : AV) (n : Nat) (go : Nat → Nat → List AV → M (List AV)) (out : Option (Except Nat (List AV) × ASt)) (I D Cc : Addr) (r : Nat) (s : Shared) : Prop
  | mk (ι' : List Addr) (st₁ : ASt) (j : Nat) (acc : List AV) (ys : Array Value) (nn : Nat) (m : Str → Option Value) (hr : r = n - j) (hj : j ≤ n) (p : Pre ι ι') (R : Rel prog w X ι' st₁ s) (e : go (n - j) j acc st₁ = out) (hit : ItH ι' q a n j I s.heap) (aI : Apart X ι' I) (aD : Apart X ι' D) (aC : Apart X ι' Cc) (hD : s.heap.get? D = some { cls := .type "list", data := .seq ys nn }) (hys : F2 (VRel ι') ys.toList acc) (hacc : acc.length ≤ j) (hC : s.heap.Ns Cc m) : CInv prog w X ι q a n go out I D Cc r s
theorem comp_loop {elt iter : Expr} {x : Str} {px : Pos} {ifs : List Expr} {sc : Scope} {pos : Pos} {aelt : AE} {aifs : List AE} (hh : A.handled = none) (G : Gr K hb A X) (EO : EnvOk K X env rs k)
    (hel : S2 prog w K hb A P C (rsComp rs sc.names x k) (k + 1) elt aelt) (hifs : SL prog w K hb A P C (rsComp rs sc.names x k) (k + 1) ifs aifs)
    (hsk : sc.kind = .function) (hn : compNames rs sc.names x = true) (hk : k < rs.N) {q : IK} {n : Nat} (hsz : n ≤ line) {out : Except Nat (List AV)} {tests : M Bool} {el : M AV} (hT : ∀ st b st', tests st = some (.ok b, st') → atests P C aifs st = some (.ok b, st')) (hTe : ∀ e, out = .error e → ∀ st st', tests st ≠ some (.error e, st'))
    (hL : ∀ st y st', el st = some (.ok y, st') → aeval P C aelt st = some (.ok y, st')) (hLe : ∀ e, out = .error e → el = axval P C aelt ∧ FEnv A X env) {st' : ASt} {I D Cc : Addr} (hID : I ≠ D) (hIC : I ≠ Cc) (hDC : D ≠ Cc)
    {R : Result → Shared → Prop} (hE : ∀ e, out = .error e → ∀ ι' s' v, Pre ι ι' → Rel prog w X ι' st' s' → Tr X ι' st'.σ e (rawInt X.L) s'.heap v → (∃ x, v = .ref x ∧ ExI x s'.heap) → Apart X ι' Cc → (∃ m, s'.heap.Ns Cc m) → R (.error v) s') (hR : ∀ xs, out = .ok xs → ∀ ι' s', Pre ι ι' → Rel prog w X (ι' ++ [D]) ⟨st'.σ ++ [.list xs], st'.ρ⟩ s' → Apart X (ι' ++ [D]) Cc → (∃ m, s'.heap.Ns Cc m) → R (.ok .next) s')
    {st₀ : ASt} {s₀ : Shared} (e0 : compLoop q a n k tests el n 0 [] st₀ = some (out, st')) (R₀ : Rel prog w X ι st₀ s₀) (hit₀ : ItH ι q a n 0 I s₀.heap) (aI : Apart X ι I) (aD : Apart X ι D) (aC : Apart X ι Cc)
    {n0 : Nat} (hD₀ : s₀.heap.get? D = some { cls := .type "list", data := .seq #[] n0 }) {m₀ : Str → Option Value} (hC₀ : s₀.heap.Ns Cc m₀) :
    codeAny (model prog w) A (.compLoop (.ListComp elt [⟨.Name x px, iter, ifs, 0⟩] sc pos) 0 (.ref I) (.ref D) (compEnvC sc (clOf env sc.names []) Cc env)) R s₀ := by
  have hgone := EO.gone k (Nat.le_refl _) hk
  have hlenk : k < X.locs.length := by rw [EO.len]; exact hk
  obtain ⟨⟨⟨hx, _⟩, _⟩, _⟩ : ((sc.names.lookup x = some .local ∧ x ≠ dbg) ∧ x ≠ "__classdict__") ∧ ∀ y ∈ sc.names, kindFine rs x y = true ∧ sc.names.lookup y.1 = some y.2 := by
    simpa [compNames, List.all_eq_true] using hn
  have kx : (compEnvC sc (clOf env sc.names []) Cc env).kindOf x = some .local := lookup_relabel_local hx
  refine codeAny_compLoop_tests (CInv prog w X ι q a n (compLoop q a n k tests el) (some (out, st')) I D Cc) ?_ n ⟨ι, st₀, 0, [], #[], n0, m₀, rfl, Nat.zero_le _, Pre.refl ι, R₀, e0, hit₀, aI, aD, aC, hD₀, trivial, Nat.le_refl _, hC₀⟩
  rintro r s ⟨ι₁, st₁, j, acc, ys, nn, m, rfl, hj, p₁, R₁, e1, hit, aI, aD, aC, hD, hys, hacc, hC⟩
  by_cases hjn : j = n
  · subst hjn
    rw [Nat.sub_self] at e1
    obtain ⟨_, st₂, g1, g2⟩ := bnd_clm clm_end e1
    obtain ⟨rfl, hend⟩ := it_end (A := A) hh R₁ hit g1
    have g2 : some (Except.ok acc, st₂) = some (out, st') := g2
    obtain ⟨rfl, rfl⟩ : out = .ok acc ∧ st' = st₂ := by cases g2; exact ⟨rfl, rfl⟩
    refine hend _ _ fun h' hext => ?_
    have R₂ := R₁.aside (tk := s.toks) (h' := h') aI hext
    have R₃ := R₂.adopt (ao := .list acc) aD (hext D _ (Ne.symm hID) hD) ⟨⟨_, _, rfl, hys.mono fun _ _ => VRel.mono (Pre.snoc _ _)⟩, by omega⟩ rfl
    refine hR acc rfl ι₁ _ p₁ R₃ (aC.mono fun hm => ?_) ⟨m, hC.at' fun o e => hext _ o (Ne.symm hIC) e⟩
    rcases List.mem_append.mp hm with hm | hm
    · exact aC.nin hm
    · simp at hm; exact hDC hm.symm
  · have hlt : j < n := by omega
    have hr : n - j = (n - (j + 1)) + 1 := by omega
    rw [hr] at e1
    obtain ⟨y, st₂, g1, g2⟩ := bnd_clm clm_at e1
    obtain ⟨rfl, hnext⟩ := it_next (A := A) R₁ hit hlt g1
    obtain ⟨_, st₃, g3, g4⟩ := bnd_clm clm_set g2
    have g3 := setLoc_some g3
    subst g3
    obtain ⟨t, st₄, g5, g6⟩ := (bnd_two g4).resolve_left fun ⟨e, he, q⟩ => hTe e he _ _ q
    have g5 := hT _ _ _ g5
    refine hnext _ _ fun v h₁ tk₁ hv hit₁ hext₁ => ?_
    have R₂ := R₁.aside (tk := tk₁) (h' := h₁) aI hext₁
    have hC₁ : h₁.Ns Cc m := hC.at' fun o e => hext₁ _ o (Ne.symm hIC) e
    refine wpAny_assign_Name (wpAny_storeName_local (env := compEnvC sc (clOf env sc.names []) Cc env) kx hC₁ (fun h₂ hn₂ hs₂ => ?_) (by simp [compEnvC, relabel, hsk]))
    have hext₂ : ∀ c o, c ≠ Cc → h₁.get? c = some o → h₂.get? c = some o := fun c o hc e => hs₂.extBut c o hc e
    have R₃ := (R₂.aside (tk := tk₁ + 1) (h' := h₂) aC hext₂).setGone hgone (some y)
    obtain ⟨oC, esC, epC, hoC, hdC, hkC, hfC⟩ := id hn₂
    have hoC : h₂.get? Cc = some oC := hoC
    have hD₂ : h₂.get? D = some { cls := .type "list", data := .seq ys nn } := hext₂ _ _ hDC (hext₁ _ _ (Ne.symm hID) hD)
    obtain ⟨oI, hoI⟩ := hit₁.obj
    have hI₂ : h₂.get? I = some oI := hext₂ _ _ hIC hoI
    obtain ⟨l, hl, lk1, lk2, lk3⟩ := hold3 hID hIC hDC aC aD aI hoC hD₂ hI₂
    have R₄ := R₃.hold hl
    have hKC : (X.hold l).Kp Cc = some oC := by
      show (match List.lookup Cc _ with | some o => some o | none => X.Kp Cc) = some oC
      rw [lk1]
    have R₅ := R₄.seat (k := k) (D := Cc) (x := x) hgone (by
      intro b hb
      have hb : (st₂.ρ.set k (some y))[k]? = some (some b) := hb
      rw [List.getElem?_set_self (by rw [R₁.rlen]; exact hlenk)] at hb
      cases hb
      exact ⟨oC, esC, epC, v, hKC, hdC, hkC, by rw [hfC]; simp, hv⟩)
    have G' := (G.hold (l := l) (fun p hp => (hl p hp).1)).seat (k := k) (x := x) hKC
    have EO' := EO.comp (D := Cc) (l := l) hsk hn hk
    have hkn : ∀ p ∈ l, X.Kp p.1 = none ∧ p.1 ≠ X.L := fun p hp => ⟨(hl p hp).1.kp, (hl p hp).1.nL⟩
    have back : ∀ {ι₃ : List Addr} {s₃ : Shared} {st₃ : ASt}, Rel prog w ((X.hold l).seat k Cc x) ι₃ st₃ s₃ → Pre ι₁ ι₃ →
        Rel prog w X ι₃ st₃ s₃ ∧ Apart X ι₃ I ∧ Apart X ι₃ D ∧ Apart X ι₃ Cc ∧ s₃.heap.get? D = some { cls := .type "list", data := .seq ys nn } ∧ s₃.heap.Ns Cc (fun z => if z = x then some v else m z) ∧ ItH ι₃ q a n (j + 1) I s₃.heap := by
      intro ι₃ s₃ st₃ R' p'
      have R'' := R'.unseat hgone
      obtain ⟨c1, c2⟩ := R''.held G.ok lk1 aC.kp aC.nL aC.nc
      obtain ⟨d1, d2⟩ := R''.held G.ok lk2 aD.kp aD.nL aD.nc
      obtain ⟨i1, i2⟩ := R''.held G.ok lk3 aI.kp aI.nL aI.nc
      exact ⟨R''.letgo G.ok hkn, i1, d1, c1, d2, ⟨oC, esC, epC, c2, hdC, hkC, hfC⟩, hit₁.at p' fun o e => by rw [hoI] at e; cases e; exact i2⟩
    refine sim_tests hifs _ _ _ _ _ true G' EO' R₅ t st₄ (by simpa using g5) _ _ fun ι₃ s₃ t' p₃ R₆ ht => ?_
    subst ht
    cases t' with
    | false =>
      rw [if_neg Bool.false_ne_true] at g6
      refine ite_ff ?_
      obtain ⟨b1, b2, b3, b4, b5, b6, b7⟩ := back R₆ p₃
      exact ⟨n - (j + 1), by omega, ι₃, st₄, j + 1, acc, ys, nn, _, rfl, hlt, p₁.trans p₃, b1, g6, b7, b2, b3, b4, b5, hys.mono fun _ _ => VRel.mono p₃, by omega, b6⟩
    | true =>
      rw [if_pos rfl] at g6
      refine ite_tt ?_
      rcases bnd_two g6 with ⟨e, he, g7⟩ | ⟨z, st₅, g7, g8⟩
      · obtain ⟨rfl, FE⟩ := hLe e he
        obtain ⟨fr1, e0', outer, fr2, fr3⟩ := FE
        refine hel.er _ _ _ _ _ G' EO' ⟨fr1, e0', outer, fr2, fr3⟩ R₆ e st' g7 _ _ fun ι₄ s₄ zv p₄ R₇ F => ?_
        obtain ⟨fl, hfl, hfs⟩ := G'.frs
        rw [fr2] at hfl; cases hfl
        show wpAny _ _ (noteFrame zv _) _ _ _
        rw [noteFrame_frame (a := compEnvC sc (clOf env sc.names []) Cc env) (b := e0') (fr1.trans fr3.symm)]
        refine note_ R₇ G'.ok fr2 (R₇.stk G'.ok hfs) fr3 F fun s₅ R₈ T₈ x₈ => ?_
        obtain ⟨b1, b2, b3, b4, b5, b6, b7⟩ := back R₈ (p₃.trans p₄)
        exact hE e he ι₄ s₅ zv ((p₁.trans p₃).trans p₄) b1 (T₈.unseat hgone) x₈ b4 ⟨_, b6⟩
      refine hel.1 _ _ _ _ _ G' EO' R₆ z st₅ (hL _ _ _ g7) _ _ fun ι₄ s₄ zv p₄ R₇ hz => ?_
      obtain ⟨b1, b2, b3, b4, b5, b6, b7⟩ := back R₇ (p₃.trans p₄)
      have hsz' := f2_size hys
      refine wpAny_list_append_plain ⟨nn, b5⟩ (fun h₅ hl₅ hs₅ => ?_) (by rw [sizeLine_val]; rw [line_val] at hsz; omega)
      obtain ⟨n₅, ho₅⟩ := hl₅
      have hext₅ : ∀ c o, c ≠ D → s₄.heap.get? c = some o → h₅.get? c = some o := fun c o hc e => hs₅.extBut c o hc e
      have R₈ := b1.aside (tk := s₄.toks) (h' := h₅) b3 hext₅
      exact ⟨n - (j + 1), by omega, ι₄, st₅, j + 1, acc ++ [z], ys.push zv, n₅, _, rfl, hlt, (p₁.trans p₃).trans p₄, R₈, g8, b7.at (Pre.refl _) fun o e => hext₅ _ o hID e, b2, b3, b4, ho₅,
        by rw [Array.toList_push]; exact (hys.mono fun _ _ => VRel.mono (p₃.trans p₄)).snoc hz, by rw [List.length_append]; exact Nat.succ_le_succ hacc, b6.at' fun o e => hext₅ _ o (Ne.symm hDC) e⟩

theorem comp_core {elt iter : Expr} {x : Str} {px : Pos} {ifs : List Expr} {sc : Scope} {pos : Pos} {aelt : AE} {aifs : List AE} (hh : A.handled = none) (G : Gr K hb A X) (EO : EnvOk K X env rs k)
    (hel : S2 prog w K hb A P C (rsComp rs sc.names x k) (k + 1) elt aelt) (hifs : SL prog w K hb A P C (rsComp rs sc.names x k) (k + 1) ifs aifs)
    (hsk : sc.kind = .function) (hn : compNames rs sc.names x = true) (hk : k < rs.N) {q : IK} {n : Nat} (hsz : n ≤ line) {out : Except Nat (List AV)} {tests : M Bool} {el : M AV} (hT : ∀ st b st', tests st = some (.ok b, st') → atests P C aifs st = some (.ok b, st')) (hTe : ∀ e, out = .error e → ∀ st st', tests st ≠ some (.error e, st'))
    (hL : ∀ st y st', el st = some (.ok y, st') → aeval P C aelt st = some (.ok y, st')) (hLe : ∀ e, out = .error e → el = axval P C aelt ∧ FEnv A X env) {st₁ st' : ASt} (R : Rel prog w X ι st s) (hv : VRel ι v a)
    (e1 : iterLen a st = some (.ok (q, n), st₁)) (e2 : compLoop q a n k tests el n 0 [] st₁ = some (out, st'))
    {E : Value → Shared → Prop} {RR : Value → Addr → Result → Shared → Prop} (hE : ∀ e, out = .error e → ∀ D Cc ι' s' v, Pre ι ι' → Rel prog w X ι' st' s' → Tr X ι' st'.σ e (rawInt X.L) s'.heap v → (∃ x, v = .ref x ∧ ExI x s'.heap) → Apart X ι' Cc → (∃ m, s'.heap.Ns Cc m) → RR (.ref D) Cc (.error v) s') (hR : ∀ xs, out = .ok xs → ∀ D Cc ι' s', Pre ι ι' → Rel prog w X (ι' ++ [D]) ⟨st'.σ ++ [.list xs], st'.ρ⟩ s' → Apart X (ι' ++ [D]) Cc → (∃ m, s'.heap.Ns Cc m) → RR (.ref D) Cc (.ok .next) s') :
    wpAny (model prog w) A (pyIter v) (fun it s₂ => wpAny (model prog w) A (newList []) (fun acc s₃ => wpAny (model prog w) A (newFunctionEnv sc env.globals (clOf env sc.names []) [] env.qual none .none (some env)) (fun cenv s₄ =>
      codeAny (model prog w) A (.compStart (.ListComp elt [⟨.Name x px, iter, ifs, 0⟩] sc pos) 0 it acc { cenv with scope := relabel sc env }) (RR acc cenv.locals) s₄) E s₃) E s₂) E s := by
  obtain ⟨rfl, hnew⟩ := it_new (A := A) R hv e1
  have hall : ∀ y ∈ sc.names, kindFine rs x y = true := by
    have : ((sc.names.lookup x = some .local ∧ x ≠ dbg) ∧ x ≠ "__classdict__") ∧ ∀ y ∈ sc.names, kindFine rs x y = true ∧ sc.names.lookup y.1 = some y.2 := by
      simpa [compNames, List.all_eq_true] using hn
    exact fun y hy => (this.2 y hy).1
  have hcell : ∀ y ∈ sc.names, y.2 ≠ .cell := by
    intro y hy e
    have := hall y hy
    unfold kindFine at this
    rw [e] at this; cases this
  refine hnew _ _ fun I h₁ hI hext₁ hit₁ => ?_
  refine wpAny_newObj_type (wpAny_newFunctionEnv hcell (by intro y hy; simp at hy) (fun h₃ hns₃ hsb₃ => ?_) hsk)
  dsimp only at hns₃ hsb₃ ⊢
  generalize hH2 : h₁.push { cls := .type "list", dict := none, data := .seq ([] : List Value).toArray } = H2 at hns₃ hsb₃ ⊢
  have hsz2 : H2.objs.size = h₁.objs.size + 1 := by rw [← hH2, Heap.size_push]
  have hIlt : I < h₁.objs.size := by obtain ⟨o, ho⟩ := hit₁.obj; exact Heap.lt_size ho
  have R₁ := R.ext (tk := s.toks) hext₁
  have aI : Apart X ι I := R.apart hI
  have fr : ∀ {b : Addr}, h₁.objs.size ≤ b → s.heap.get? b = none := by
    intro b hb
    cases e : s.heap.get? b with
    | none => rfl
    | some o => exact absurd (Heap.lt_size (hext₁ _ _ e)) (Nat.not_lt.mpr hb)
  have aD : Apart X ι h₁.objs.size := R.apart (fr (Nat.le_refl _))
  have aC : Apart X ι H2.objs.size := R.apart (fr (by omega))
  have hDC : h₁.objs.size ≠ H2.objs.size := by omega
  have hID : I ≠ h₁.objs.size := Nat.ne_of_lt hIlt
  have hIC : I ≠ H2.objs.size := Nat.ne_of_lt (by rw [hsz2]; exact Nat.lt_succ_of_lt hIlt)
  have old : ∀ b o, h₁.get? b = some o → h₃.get? b = some o := fun b o e => hsb₃.extBut b o (Nat.ne_of_lt (by rw [hsz2]; exact Nat.lt_succ_of_lt (Heap.lt_size e))) (Heap.get?_push_of_some _ (hH2 ▸ Heap.get?_push_of_some _ e))
  have hD : h₃.get? h₁.objs.size = some { cls := .type "list", data := .seq #[] } := hsb₃.extBut _ _ hDC (Heap.get?_push_of_some _ (hH2 ▸ Heap.get?_push_size _ rfl))
  have R₃ := R.ext (h' := h₃) (tk := s.toks + ([] : List (Str × Value)).length) fun b o e => old b o (hext₁ b o e)
  have loop : codeAny (model prog w) A (.compLoop (.ListComp elt [⟨.Name x px, iter, ifs, 0⟩] sc pos) 0 (.ref I) (.ref h₁.objs.size) (compEnvC sc (clOf env sc.names []) H2.objs.size env)) (RR (.ref h₁.objs.size) H2.objs.size) { s with heap := h₃, toks := s.toks + ([] : List (Str × Value)).length } :=
    comp_loop (ι := ι) hh G EO hel hifs hsk hn hk hsz hT hTe hL hLe hID hIC hDC (fun e he ι' s' v p R' F F' aC' hns => hE e he _ _ ι' s' v p R' F F' aC' hns) (fun xs hx ι' s' p R' aC' hns => hR xs hx _ _ ι' s' p R' aC' hns) e2 R₃ (hit₁.at (Pre.refl ι) fun o e => old I o e) aI aD aC hD hns₃
  refine codeAny_compStart_list loop ?_
  have hit₃ : ItH ι q a n 0 I h₃ := hit₁.at (Pre.refl ι) fun o e => old I o e
  cases q with
  | list => obtain ⟨i, c, rfl, hc, hit⟩ := hit₃; exact wpAny_pyIter_listiter hit loop
  | tuple => obtain ⟨i, c, rfl, hc, hit⟩ := hit₃; exact wpAny_pyIter_tupleiter hit loop
  | range y => exact wpAny_pyIter_rangeiter hit₃ loop
  | str => obtain ⟨y, t, rfl, hit⟩ := hit₃; exact wpAny_pyIter_striter_ascii hit loop

theorem folded_plain (hn : notStar e = true) (x : Value) : foldedSetIterable e env x = pure x := by
  cases e with
  | Set _ _ _ => cases hn
  | _ => rfl

theorem comp_facts {sc : Scope} {x : Str} (EO : EnvOk K X env rs k) (hn : compNames rs sc.names x = true) :
    closureFor sc env = pure (clOf env sc.names []) ∧ (∀ y ∈ sc.names, y.2 = .local → sc.names.lookup y.1 = some .local) ∧ (∀ y ∈ sc.names, kindFine rs x y = true) := by
  have h : ((sc.names.lookup x = some .local ∧ x ≠ dbg) ∧ x ≠ "__classdict__") ∧ ∀ y ∈ sc.names, kindFine rs x y = true ∧ sc.names.lookup y.1 = some y.2 := by
    simpa [compNames, List.all_eq_true] using hn
  refine ⟨closureFor_of fun y hy hf => ?_, fun y hy hl => by rw [← hl]; exact (h.2 y hy).2, fun y hy => (h.2 y hy).1⟩
  have hc := (h.2 y hy).1
  unfold kindFine at hc
  rw [hf] at hc
  obtain ⟨_, _, _, i, c, _, h5, _⟩ := EO.cel y.1 hc
  exact ⟨c, h5⟩

theorem s_comp {elt iter : Expr} {x : Str} {px : Pos} {ifs : List Expr} {sc : Scope} {pos : Pos} {aelt aiter : AE} {aifs : List AE}
    (hh : A.handled = none) (hit : S2 prog w K hb A P C rs k iter aiter) (hel : S2 prog w K hb A P C (rsComp rs sc.names x k) (k + 1) elt aelt) (hifs : SL prog w K hb A P C (rsComp rs sc.names x k) (k + 1) ifs aifs)
    (hsk : sc.kind = .function) (hn : compNames rs sc.names x = true) (hk : k < rs.N) (hst : notStar iter = true) :
    S2 prog w K hb A P C rs k (.ListComp elt [⟨.Name x px, iter, ifs, 0⟩] sc pos) (.comp k aelt aiter aifs) := by
  refine ⟨fun X env ι st s G EO R r st' ee Q E kk => ?_, fun X env ι st s G EO R => SimAt.fail, fun X env ι st s G EO FE R r st' ee Q E kk => ?_⟩
  rotate_left
  · rcases bnd_er ee with g | ⟨⟨a, q, n⟩, st₁, g1, g2⟩
    · exact (noerr_no g).elim
    obtain ⟨st₀, q1, q2, q3⟩ := aover_ok (noerr_ok g1)
    rcases bnd_er g2 with g3 | ⟨xs, st₂, _, g4⟩
    case inr => cases g4
    obtain ⟨f1, f2, f3⟩ := comp_facts EO hn
    rw [eval_ListComp]
    refine wpAny_comprehension_free (use := none) rfl (folded_plain hst) f1 hsk f2 (hit.1 X env ι st s G EO R a st₀ q1 _ _ fun ι₁ s₁ v p₁ R₁ hv => ?_)
    refine comp_core (out := .error r) hh G EO hel hifs hsk hn hk q3 (fun _ _ _ q => noerr_ok q) (fun _ _ _ _ q => noerr_no q) (fun _ _ _ q => axval_ok _ q) (fun _ _ => ⟨rfl, FE⟩) R₁ hv q2 g3 (fun e he D Cc ι₂ s₂ u p₂ R₂ F F' aC hns => ?_) (fun _ q => nomatch q)
    cases he
    obtain ⟨m, hm⟩ := hns
    refine ⟨m, hm, fun h' hs' cenv hc => ?_⟩
    have R₃ := R₂.aside (tk := s₂.toks) (h' := h') aC fun c o hc e => hs'.extBut c o hc e
    cases F with
    | @mk x c oe vs a0 T oT ts hx hs ho hd h0 h1 hT ap hoT hdT h3 =>
    have hxc : x ≠ Cc := fun z => aC.nin (z ▸ Rel.mem hx)
    have hTc : T ≠ Cc := fun z => by
      subst z
      obtain ⟨o, es, ep, ho', hd', _⟩ := hm
      rw [hoT] at ho'; cases ho'
      rw [hdT] at hd'; cases hd'
    have ho' := hs'.extBut _ _ hxc ho
    have T' : Tr X ι₂ st'.σ r (rawInt X.L) h' (.ref x) := .mk hx hs ho' hd h0 h1 hT ap (hs'.extBut _ _ hTc hoT) hdT h3
    have x' : ∃ y, Value.ref x = .ref y ∧ ExI y h' := by
      obtain ⟨y, hy, oy, vy, z1, z2⟩ := F'
      cases hy
      exact ⟨x, rfl, oy, vy, hs'.extBut _ _ hxc z1, z2⟩
    unfold PySem.passOn
    refine wpAny_bind (wpAny_field ho' hd h1 ?_)
    rw [if_neg (show ¬ ((Value.ref T == Value.none) = true) from Bool.false_ne_true)]
    exact wpAny_bind (flight_ (o := cenv.frame) R₃ T' x' fun s₃ R₄ T₄ x₄ => wpAny_throw (kk ι₂ s₃ _ (p₁.trans p₂) R₄ ⟨.on T₄, x₄⟩))
  refine bnd_elim ee fun a st₁ g1 g2 => ?_
  obtain ⟨⟨q, n⟩, st₂, g3, g4⟩ := bnd_some g2
  refine bnd_elim g4 fun _ st₃ g5 g6 => ?_
  obtain ⟨h5, rfl⟩ := guard_some g5
  refine bnd_elim g6 fun xs st₄ g7 g8 => ?_
  obtain ⟨rfl, rfl⟩ := alloc_some g8
  obtain ⟨f1, f2, f3⟩ := comp_facts EO hn
  rw [eval_ListComp]
  refine wpAny_comprehension_free (use := none) rfl (folded_plain hst) f1 hsk f2 (hit.1 X env ι st s G EO R a st₁ g1 _ _ fun ι₁ s₁ v p₁ R₁ hv => ?_)
  refine comp_core (out := .ok xs) hh G EO hel hifs hsk hn hk (of_decide_eq_true h5) (fun _ _ _ q => q) (fun _ q => nomatch q) (fun _ _ _ q => q) (fun _ q => nomatch q) R₁ hv g3 g7 (fun _ q => nomatch q) fun xs' hxs D Cc ι₂ s₂ p₂ R₂ aC ⟨m, hm⟩ => ⟨m, hm, fun h' hs' => ?_⟩
  cases hxs
  have p₃ := Pre.snoc ι₂ D
  refine kk (ι₂ ++ [D]) _ _ ((p₁.trans p₂).trans p₃) (R₂.aside (tk := s₂.toks) (h' := h') aC fun c o hc e => hs'.extBut c o hc e) (.obj ?_)
  have hlen : (ι₂ ++ [D]).length = (st₄.σ ++ [AO.list xs]).length := R₂.len
  simp at hlen
  rw [← hlen]; simp
end
end Mine
namespace Mine
open PySem PySem.W PyProof.Rows

noncomputable def FR (ι : List Addr) (f : Flow) (af : AF) : Prop := match af with
  | .next => f = .next
  | .ret a => ∃ v, f = .ret v ∧ VRel ι v a

/-- the block of a whole def -/
structure SEnv (A : Around) (X : Cx) (env : Env) : Prop where
  L : env.locals = X.L
  nf : ∀ x, env.kindOf x ≠ some .free
  frame : env.frame = some X.L
  stack : ∃ outer, A.frames = some (env :: outer)

section
variable {prog : Program} {w : World} {A : Around} {X : Cx} {ι : List Addr} {st : ASt} {s : Shared} {v u : Value} {a b : AV} {K : Frag} {hb : Heap} {env : Env} {rs : Rsv} {k : Nat}
  {P : AProg} {C : Calls} {e e₁ e₂ : Expr} {ae ae₁ ae₂ : AE} {es : List Expr} {aes : List AE}

theorem Rel.setLocal (R : Rel prog w X ι st s) (ok : CxOk X) {i : Nat} {x : Str} (hl : X.locs[i]? = some (Loc.loc x)) (hv : VRel ι v a) {m : Str → Option Value} (hm : s.heap.Ns X.L m)
    (hmv : ∀ (j : Nat) (y : Str) (b : AV), X.locs[j]? = some (Loc.loc y) → st.ρ[j]? = some (some b) → ∃ v, m y = some v ∧ VRel ι v b) {h' : Heap} {tk : Nat}
    (hn : h'.Ns X.L (fun y => if y = x then some v else m y)) (hext : ∀ c o, c ≠ X.L → s.heap.get? c = some o → h'.get? c = some o) : Rel prog w X ι ⟨st.σ, st.ρ.set i (some a)⟩ { s with heap := h', toks := tk } := by
  have hi : i < st.ρ.length := by rw [R.rlen]; exact (List.getElem?_eq_some_iff.mp hl).1
  have ne : ∀ {j : Nat} {l : Loc}, X.locs[j]? = some l → l ≠ Loc.loc x → (st.ρ.set i (some a))[j]? = st.ρ[j]? := by
    intro j l h1 h2
    rw [List.getElem?_set_ne]
    rintro rfl
    rw [hl] at h1; cases h1; exact h2 rfl
  refine ⟨fun b o e => (R.frozen b o e).ext fun o' => hext b o' fun q => (by subst q; rw [ok.kL] at e; cases e), ⟨_, hn, fun j y b h1 h2 => ?_⟩, R.len, R.nodup, R.free, ?_, ?_, ?_, by simp [R.rlen], by rw [R.shape]⟩
  · by_cases q : y = x
    · subst q
      have := ok.inj j i y h1 hl
      subst this
      have h2 : (st.ρ.set j (some a))[j]? = some (some b) := h2
      rw [List.getElem?_set_self hi] at h2
      cases h2
      exact ⟨v, by simp, hv⟩
    · have h2 : (st.ρ.set i (some a))[j]? = some (some b) := h2
      rw [ne h1 (fun h => q (by cases h; rfl))] at h2
      obtain ⟨v', e1, e2⟩ := hmv j y b h1 h2
      exact ⟨v', by simp [q, e1], e2⟩
  · intro j b e
    obtain ⟨a', ob, h1, h2, h3⟩ := R.objs j b e
    exact ⟨a', ob, h1, hext _ _ ((R.free j a' b h1 e).2.1) h2, h3⟩
  · intro j c hc
    obtain ⟨h1, ob, v', h2, h3, h4⟩ := R.cells j c hc
    refine ⟨h1, ob, v', hext _ _ (ok.kc j c hc).2 h2, h3, fun b hb => h4 b ?_⟩
    have hb : (st.ρ.set i (some a))[j]? = some (some b) := hb
    rw [ne hc (by simp)] at hb; exact hb
  · intro j D y hc b hb
    have hb : (st.ρ.set i (some a))[j]? = some (some b) := hb
    rw [ne hc (by simp)] at hb
    exact R.comps j D y hc b hb

theorem Rel.setCell (R : Rel prog w X ι st s) (ok : CxOk X) {i : Nat} {c : Addr} (hl : X.locs[i]? = some (Loc.cell c)) (hv : VRel ι v a) {h' : Heap} {tk : Nat}
    (hn : h'.IsCell c (some v)) (hext : ∀ d o, d ≠ c → s.heap.get? d = some o → h'.get? d = some o) : Rel prog w X ι ⟨st.σ, st.ρ.set i (some a)⟩ { s with heap := h', toks := tk } := by
  have hi : i < st.ρ.length := by rw [R.rlen]; exact (List.getElem?_eq_some_iff.mp hl).1
  have ne : ∀ {j : Nat} {l : Loc}, X.locs[j]? = some l → l ≠ Loc.cell c → (st.ρ.set i (some a))[j]? = st.ρ[j]? := by
    intro j l h1 h2
    rw [List.getElem?_set_ne]
    rintro rfl
    rw [hl] at h1; cases h1; exact h2 rfl
  have hc0 := R.cells i c hl
  refine ⟨fun b o e => (R.frozen b o e).ext fun o' => hext b o' fun q => (by subst q; rw [(ok.kc i b hl).1] at e; cases e), ?_, R.len, R.nodup, R.free, ?_, ?_, ?_, by simp [R.rlen], by rw [R.shape]⟩
  · obtain ⟨m, hm, hmv⟩ := R.ns
    refine ⟨m, hm.at' fun o e => hext _ o (Ne.symm (ok.kc i c hl).2) e, fun j y b h1 h2 => hmv j y b h1 ?_⟩
    have h2 : (st.ρ.set i (some a))[j]? = some (some b) := h2
    rw [ne h1 (by simp)] at h2; exact h2
  · intro j b e
    obtain ⟨a', ob, h1, h2, h3⟩ := R.objs j b e
    exact ⟨a', ob, h1, hext _ _ (fun q => hc0.1 (q ▸ Rel.mem h1)) h2, h3⟩
  · intro j d hd
    by_cases q : d = c
    · subst q
      have := ok.cinj j i d hd hl
      subst this
      obtain ⟨o, ho, hdat⟩ := hn
      refine ⟨hc0.1, o, some v, ho, hdat, fun b hb => ?_⟩
      have hb : (st.ρ.set j (some a))[j]? = some (some b) := hb
      rw [List.getElem?_set_self hi] at hb
      cases hb
      exact ⟨v, rfl, hv⟩
    · obtain ⟨h1, ob, v', h2, h3, h4⟩ := R.cells j d hd
      refine ⟨h1, ob, v', hext _ _ q h2, h3, fun b hb => h4 b ?_⟩
      have hb : (st.ρ.set i (some a))[j]? = some (some b) := hb
      rw [ne hd (fun h => q (by cases h; rfl))] at hb; exact hb
  · intro j D y hc b hb
    have hb : (st.ρ.set i (some a))[j]? = some (some b) := hb
    rw [ne hc (by simp)] at hb
    exact R.comps j D y hc b hb

theorem st_slot (ok : CxOk X) (EO : EnvOk K X env rs k) (hL0 : env.locals = X.L) (hnf : ∀ x, env.kindOf x ≠ some .free) (R : Rel prog w X ι st s) {x : Str} {i : Nat} (hx : rs.slot x = some i) (hv : VRel ι v a) :
    SimAt prog w A X ι st s (storeName env x v) (setLoc i a) UR := by
  intro r st' e Q E kk
  have := setLoc_some e
  subst this
  obtain ⟨hd, hcd, hs⟩ := EO.slots x i hx
  rcases hs with ⟨hk, hl⟩ | ⟨hk, c, hc, hl⟩
  · rcases hl with ⟨hl, hL⟩ | hl
    · obtain ⟨m, hm, hmv⟩ := R.ns
      refine wpAny_storeName_local hk (hL ▸ hm) (fun h' hn hs => kk ι _ _ (Pre.refl ι) (R.setLocal ok hl hv hm hmv (hL ▸ hn) fun c o hc e => hs.extBut c o (hL ▸ hc) e) trivial) (by simp [EO.kind])
    · obtain ⟨o, ho⟩ := ok.ats i _ x hl
      rw [hL0, ok.kL] at ho; cases ho
  · obtain ⟨_, o, v', h1, h2, h3⟩ := R.cells i c hl
    rcases hk with hk | hk
    · exact wpAny_storeName_cell EO.kind hk hc ⟨o, h1, h2⟩ fun h' hn hs => kk ι _ _ (Pre.refl ι) (R.setCell (tk := s.toks) ok hl hv hn fun d o hd e => hs.extBut d o hd e) trivial
    · exact absurd hk (hnf x)

/-- statements -/
noncomputable def SO (prog : Program) (w : World) (K : Frag) (hb : Heap) (A : Around) (P : AProg) (C : Calls) (rs : Rsv) (k : Nat) (t : Stmt) (at' : AS) : Prop :=
  ∀ X env ι st s, Gr K hb A X → EnvOk K X env rs k → SEnv A X env → Rel prog w X ι st s → SimAt prog w A X ι st s (exec t env) (aexec P C at') FR
noncomputable def SOs (prog : Program) (w : World) (K : Frag) (hb : Heap) (A : Around) (P : AProg) (C : Calls) (rs : Rsv) (k : Nat) (ts : List Stmt) (ats : List AS) : Prop :=
  ∀ X env ι st s, Gr K hb A X → EnvOk K X env rs k → SEnv A X env → Rel prog w X ι st s → SimAt prog w A X ι st s (execs ts env) (aexecs P C ats) FR

theorem ss_nil : SOs prog w K hb A P C rs k [] [] := by
  intro X env ι st s G EO SV R r st' e Q E kk
  obtain ⟨rfl, rfl⟩ := ret_some e
  exact wpAny_execs_nil (kk ι s _ (Pre.refl ι) R rfl)
theorem ss_cons {t : Stmt} {at' : AS} {ts : List Stmt} {ats : List AS} (h₁ : SO prog w K hb A P C rs k t at') (h₂ : SOs prog w K hb A P C rs k ts ats) : SOs prog w K hb A P C rs k (t :: ts) (at' :: ats) := by
  intro X env ι st s G EO SV R r st' e Q E kk
  refine bnd_elim e fun f st₁ g1 g2 => ?_
  refine wpAny_execs_cons (h₁ X env ι st s G EO SV R f st₁ g1 _ _ fun ι₁ s₁ fv p₁ R₁ hf => ?_)
  cases f with
  | next =>
    have hf : fv = .next := hf
    subst hf
    exact h₂ X env ι₁ st₁ s₁ G EO SV R₁ r st' g2 Q E fun ι₂ s₂ y p₂ R₂ hy => kk ι₂ s₂ y (p₁.trans p₂) R₂ hy
  | ret a =>
    obtain ⟨rfl, rfl⟩ := ret_some g2
    obtain ⟨v, rfl, hv⟩ := hf
    exact kk ι₁ s₁ _ p₁ R₁ ⟨v, rfl, hv⟩

theorem ss_pass {pos : Pos} : SO prog w K hb A P C rs k (.Pass pos) .pass := by
  intro X env ι st s G EO SV R r st' e Q E kk
  obtain ⟨rfl, rfl⟩ := ret_some e
  exact wpAny_Pass (kk ι s _ (Pre.refl ι) R rfl)
theorem no_inter (EO : EnvOk K X env rs k) : interactive env = false := by unfold interactive; rw [EO.kind]; rfl
theorem no_swap {t : Option Expr} {n : Nat} (h : isComp e = false) : swapsWith e t n env = pure false := by
  cases e <;> first | rfl | cases h

theorem ss_expr {pos : Pos} (hc : isComp e = false) (h : S2 prog w K hb A P C rs k e ae) : SO prog w K hb A P C rs k (.Expr e pos) (.expr ae) := by
  intro X env ι st s G EO SV R r st' ee Q E kk
  refine bnd_elim ee fun a st₁ g1 g2 => ?_
  obtain ⟨rfl, rfl⟩ := ret_some g2
  exact wpAny_Expr_any (h.1 X env ι st s G EO R a _ (axval_ok _ g1) _ _ fun ι₁ s₁ v p₁ R₁ hv => kk ι₁ s₁ _ p₁ R₁ rfl) (no_inter EO) (no_swap hc)
theorem ss_ret {pos : Pos} (h : S2 prog w K hb A P C rs k e ae) : SO prog w K hb A P C rs k (.Return (some e) pos) (.ret ae) := by
  intro X env ι st s G EO SV R r st' ee Q E kk
  refine bnd_elim ee fun a st₁ g1 g2 => ?_
  obtain ⟨rfl, rfl⟩ := ret_some g2
  exact wpAny_Return_some (h.1 X env ι st s G EO R a _ (axval_ok _ g1) _ _ fun ι₁ s₁ v p₁ R₁ hv => kk ι₁ s₁ _ p₁ R₁ ⟨v, rfl, hv⟩)
theorem ss_ret0 {pos : Pos} : SO prog w K hb A P C rs k (.Return none pos) (.ret (.cst .none)) := by
  intro X env ι st s G EO SV R r st' ee Q E kk
  have ee : bnd (noerr (aeval P C (.cst .none))) (fun v => ret (.ret v)) st = some (.ok r, st') := ee
  refine bnd_elim ee fun a st₁ g1 g2 => ?_
  obtain ⟨rfl, rfl⟩ := ret_some (noerr_ok g1)
  obtain ⟨rfl, rfl⟩ := ret_some g2
  exact wpAny_Return_none (kk ι s _ (Pre.refl ι) R ⟨_, rfl, .none⟩)
theorem ss_if {pos : Pos} {ts os : List Stmt} {ats aos : List AS} (h : S2 prog w K hb A P C rs k e ae) (h₁ : SOs prog w K hb A P C rs k ts ats) (h₂ : SOs prog w K hb A P C rs k os aos) : SO prog w K hb A P C rs k (.If e ts os pos) (.ite ae ats aos) := by
  intro X env ι st s G EO SV R r st' ee Q E kk
  refine bnd_elim ee fun b st₁ g1 g2 => ?_
  refine wpAny_If (h.2 X env ι st s G EO R b st₁ (noerr_ok g1) _ _ fun ι₁ s₁ t p₁ R₁ ht => ?_)
  subst ht
  cases t with
  | true => exact h₁ X env ι₁ st₁ s₁ G EO SV R₁ r st' (by simpa using g2) Q E fun ι₂ s₂ y p₂ R₂ hy => kk ι₂ s₂ y (p₁.trans p₂) R₂ hy
  | false => exact h₂ X env ι₁ st₁ s₁ G EO SV R₁ r st' (by simpa using g2) Q E fun ι₂ s₂ y p₂ R₂ hy => kk ι₂ s₂ y (p₁.trans p₂) R₂ hy

/-- what holds between two turns of a for -/
inductive FInv (prog : Program) (w : World) (X : Cx) (ι : List Addr) (q : IK) (a : AV) (n : Nat) (go : Nat → Nat → M AF) (out : Option (Except Nat AF × ASt)) (I : Addr) (m : Nat) (s : Shared) : Prop
  | mk (ι' : List Addr) (st₁ : ASt) (j : Nat) (hm : m = n - j) (hj : j ≤ n) (p : Pre ι ι') (R : Rel prog w X ι' st₁ s) (e : go (n - j) j st₁ = out) (hit : ItH ι' q a n j I s.heap) (aI : Apart X ι' I) : FInv prog w X ι q a n go out I m s
theorem Tr.unhold {l : List (Addr × Obj)} {σ : List AO} {n : Nat} {fl : Value} {h : Heap} (t : Tr (X.hold l) ι σ n fl h v) : Tr X ι σ n fl h v := by
  cases t with
  | mk hx hs ho hd h0 h1 hT ap hoT hdT h3 =>
  refine .mk hx hs ho hd h0 h1 hT ⟨?_, ap.nin, ap.nL, ap.nc⟩ hoT hdT h3
  have q := ap.kp
  have q : (match List.lookup _ l with | some o => some o | none => X.Kp _) = none := q
  split at q
  · cases q
  · exact q
theorem Fly.unhold {l : List (Addr × Obj)} {σ : List AO} {n : Nat} {h : Heap} (t : Fly (X.hold l) ι σ n h v) : Fly X ι σ n h v := by
  obtain ⟨o, x⟩ := t
  refine ⟨?_, x⟩
  cases o with
  | new hx hs ho hd h0 h1 => exact .new hx hs ho hd h0 h1
  | on t => exact .on t.unhold
/-- a for, however it ends -/
theorem for_core {pos px : Pos} {x : Str} {i : Nat} {ts : List Stmt} {ats : List AS} (hh : A.handled = none) (hx : rs.slot x = some i) (hst : notStar e = true) (h : S2 prog w K hb A P C rs k e ae) (h₁ : SOs prog w K hb A P C rs k ts ats)
    {out : Except Nat AF} (hX : ∀ n, out = .error n → ∀ X env ι st s, Gr K hb A X → EnvOk K X env rs k → SEnv A X env → Rel prog w X ι st s → SimX prog w A X ι st s (execs ts env) (aexecs P C ats))
    (G : Gr K hb A X) (EO : EnvOk K X env rs k) (SV : SEnv A X env) (R : Rel prog w X ι st s) {st' : ASt} (ee : aexec P C (.for i ae ats) st = some (out, st')) {Q : Flow → Shared → Prop} {E : Value → Shared → Prop}
    (kk : ∀ r, out = .ok r → ∀ ι' s' f, Pre ι ι' → Rel prog w X ι' st' s' → FR ι' f r → Q f s') (kE : ∀ n, out = .error n → ∀ ι' s' v, Pre ι ι' → Rel prog w X ι' st' s' → Fly X ι' st'.σ n s'.heap v → E v s') :
    wpAny (model prog w) A (exec (.For (.Name x px) e ts [] pos) env) Q E s := by
  obtain ⟨⟨a, q, n⟩, st₀, g0, g6⟩ := (bnd_two ee).resolve_left fun ⟨_, _, z⟩ => noerr_no z
  obtain ⟨st₁, g1, g3, h5⟩ := aover_ok (noerr_ok g0)
  dsimp only at g1 g3 h5 g6
  refine wpAny_For (h.1 X env ι st s G EO R a st₁ g1 _ _ fun ι₁ s₁ v p₁ R₁ hv => ?_) (folded_plain hst)
  obtain ⟨rfl, hnew⟩ := it_new (A := A) R₁ hv g3
  refine hnew _ _ fun I h' hI hext hit => ?_
  have aI := R₁.apart hI
  have R₂ := R₁.ext (tk := s₁.toks) hext
  refine codeAny_forLoop (FInv prog w X ι q a n (forLoop q a n i (aexecs P C ats)) (some (out, st')) I) ?_ n ⟨ι₁, _, 0, rfl, Nat.zero_le _, p₁, R₂, g6, hit, aI⟩
  rintro m s₂ ⟨ι₂, st₃, j, rfl, hj, p₂, R₂, e1, hit, aI⟩
  by_cases hjn : j = n
  · subst hjn
    rw [Nat.sub_self] at e1
    obtain ⟨_, st₄, g7, g8⟩ := bnd_clm clm_end e1
    obtain ⟨rfl, hend⟩ := it_end (A := A) hh R₂ hit g7
    have g8 : some (Except.ok AF.next, st₄) = some (out, st') := g8
    cases g8
    refine hend _ _ fun h' hext => wpAny_execs_nil ?_
    exact kk _ rfl ι₂ _ _ p₂ (R₂.aside (tk := s₂.toks) (h' := h') aI hext) rfl
  · have hlt : j < n := by omega
    have hr : n - j = (n - (j + 1)) + 1 := by omega
    rw [hr] at e1
    obtain ⟨y, st₄, g7, g8⟩ := bnd_clm clm_at e1
    obtain ⟨rfl, hnext⟩ := it_next (A := A) R₂ hit hlt g7
    obtain ⟨_, st₅, g9, g10⟩ := bnd_clm clm_set g8
    refine hnext _ _ fun v h₁' tk₁ hv hit₁ hext₁ => ?_
    have R₃ := R₂.aside (tk := tk₁) (h' := h₁') aI hext₁
    obtain ⟨oI, hoI⟩ := hit₁.obj
    have hl : ∀ p ∈ [(I, oI)], Apart X ι₂ p.1 ∧ h₁'.get? p.1 = some p.2 := by
      intro p hp
      simp only [List.mem_singleton] at hp
      subst hp
      exact ⟨aI, hoI⟩
    have R₄ := R₃.hold hl
    have G' := G.hold (l := [(I, oI)]) (fun p hp => (hl p hp).1)
    have EO' := EO.hold [(I, oI)]
    have SV' : SEnv A (X.hold [(I, oI)]) env := ⟨SV.L, SV.nf, SV.frame, SV.stack⟩
    have lk : List.lookup I [(I, oI)] = some oI := by rw [List.lookup_cons]; simp
    have lg : ∀ p ∈ [(I, oI)], X.Kp p.1 = none ∧ p.1 ≠ X.L := fun p hp => by simp only [List.mem_singleton] at hp; subst hp; exact ⟨aI.kp, aI.nL⟩
    refine wpAny_assign_Name (st_slot G'.ok EO' SV'.L SV'.nf R₄ hx hv () st₅ g9 _ _ fun ι₅ s₅ _ p₅ R₅ _ => ?_)
    rcases bnd_two g10 with ⟨n', he, g11⟩ | ⟨f, st₆, g11, g12⟩
    · refine hX n' he _ env ι₅ st₅ s₅ G' EO' SV' R₅ n' st' g11 _ _ fun ι₆ s₆ fv p₆ R₆ F => ?_
      obtain ⟨outer, fr2⟩ := SV'.stack
      obtain ⟨fl, hfl, hfs⟩ := G'.frs
      rw [fr2] at hfl; cases hfl
      exact came_ R₆ G'.ok fr2 (R₆.stk G'.ok hfs) SV'.frame F fun s₇ R₇ F₇ => kE n' he ι₆ s₇ fv ((p₂.trans p₅).trans p₆) (R₇.letgo G.ok lg) F₇.unhold
    refine h₁ _ env ι₅ st₅ s₅ G' EO' SV' R₅ f st₆ g11 _ _ fun ι₆ s₆ fv p₆ R₆ hf => ?_
    obtain ⟨i1, i2⟩ := R₆.held G.ok lk aI.kp aI.nL aI.nc
    have R₇ := R₆.letgo G.ok lg
    have hit₆ : ItH ι₆ q a n (j + 1) I s₆.heap := hit₁.at (p₅.trans p₆) fun o e => by rw [hoI] at e; cases e; exact i2
    cases f with
    | next =>
      have hf : fv = .next := hf
      subst hf
      exact ⟨n - (j + 1), by omega, ι₆, st₆, j + 1, rfl, hlt, (p₂.trans p₅).trans p₆, R₇, g12, hit₆, i1⟩
    | ret a =>
      have g12 : some (Except.ok (AF.ret a), st₆) = some (out, st') := g12
      cases g12
      obtain ⟨v, rfl, hv⟩ := hf
      exact kk _ rfl ι₆ s₆ _ ((p₂.trans p₅).trans p₆) R₇ ⟨v, rfl, hv⟩
theorem ss_for {pos px : Pos} {x : Str} {i : Nat} {ts : List Stmt} {ats : List AS} (hh : A.handled = none) (hx : rs.slot x = some i) (hst : notStar e = true) (h : S2 prog w K hb A P C rs k e ae) (h₁ : SOs prog w K hb A P C rs k ts ats) : SO prog w K hb A P C rs k (.For (.Name x px) e ts [] pos) (.for i ae ats) := by
  intro X env ι st s G EO SV R r st' ee Q E kk
  exact for_core (out := .ok r) hh hx hst h h₁ (fun _ q => nomatch q) G EO SV R ee (fun r' hr => by cases hr; exact kk) (fun _ q => nomatch q)

theorem no_swapped {t : Expr} (h : ∀ ts a b, t ≠ .Tuple ts a b) (h' : ∀ ts a, t ≠ .List ts a) : swappedStores [t] e env = pure none := by
  unfold swappedStores
  cases t <;> first | rfl | exact absurd rfl (h _ _ _) | exact absurd rfl (h' _ _)

theorem ss_assign_name {pos px : Pos} {x : Str} {i : Nat} (hx : rs.slot x = some i) (hc : isComp e = false) (h : S2 prog w K hb A P C rs k e ae) : SO prog w K hb A P C rs k (.Assign [.Name x px] e pos) (.assign (.loc i) ae) := by
  intro X env ι st s G EO SV R r st' ee Q E kk
  refine bnd_elim ee fun a st₁ g1 g2 => ?_
  refine bnd_elim (noerr_ok g2) fun _ st₂ g3 g4 => ?_
  obtain ⟨rfl, rfl⟩ := ret_some g4
  refine wpAny_Assign_Name (h.1 X env ι st s G EO R a st₁ (axtop_ok _ g1) _ _ fun ι₁ s₁ v p₁ R₁ hv => ?_) (no_swap hc)
  exact st_slot G.ok EO SV.L SV.nf R₁ hx hv () _ g3 _ _ fun ι₂ s₂ _ p₂ R₂ _ => kk ι₂ s₂ _ (p₁.trans p₂) R₂ rfl

theorem assign_one {t : Expr} {pos : Pos} {Q : Flow → Shared → Prop} {E : Value → Shared → Prop} (h1 : swapsWith e (some t) pos.line env = pure false) (h2 : swappedStores [t] e env = pure none) (h3 : (assignEach [t] env).map (·.2) = [assign t env])
    (h : wpAny (model prog w) A (eval e env) (fun v s₁ => wpAny (model prog w) A (assign t env v) (fun _ => Q .next) E s₁) E s) : wpAny (model prog w) A (exec (.Assign [t] e pos) env) Q E s := by
  refine wpAny_Assign_stores (wpAny_mono h (fun v s₁ h₁ => ?_) fun _ _ x => x) h1 h2
  rw [h3]; exact h₁

theorem swap_other {t : Expr} {n : Nat} (ht : ∀ x p, t ≠ .Name x p) : swapsWith e (some t) n env = pure false := by
  cases e <;> first | rfl | (cases t <;> first | rfl | exact absurd rfl (ht _ _))

theorem ss_assign_attr {pos pa : Pos} {o : Expr} {ao : AE} {name : Str} {c : Addr} (ho : S2 prog w K hb A P C rs k o ao) (ok : AttrOk K c name) (h : S2 prog w K hb A P C rs k e ae) : SO prog w K hb A P C rs k (.Assign [.Attribute o name pa] e pos) (.assign (.attr ao c name) ae) := by
  intro X env ι st s G EO SV R r st' ee Q E kk
  refine bnd_elim ee fun a st₁ g1 g2 => ?_
  refine bnd_elim (noerr_ok g2) fun _ st₂ g3 g4 => ?_
  obtain ⟨rfl, rfl⟩ := ret_some g4
  refine bnd_elim g3 fun b st₃ g5 g6 => ?_
  refine assign_one (swap_other (by intros; simp)) (no_swapped (by intros; simp) (by intros; simp)) rfl (h.1 X env ι st s G EO R a st₁ (axtop_ok _ g1) _ _ fun ι₁ s₁ v p₁ R₁ hv => ?_)
  show wpAny _ A (do
    let ov ← holding [v] (eval o env)
    standAt pa.atName
    holding [v, ov] (PySem.setAttr ov name v)
    release [v, ov] []) _ _ s₁
  refine wpAny_bind (wpAny_holding (ho.1 X env ι₁ st₁ s₁ G EO R₁ b st₃ g5 _ _ fun ι₂ s₂ u p₂ R₂ hu => wpAny_bind (wpAny_standAt (wpAny_bind (wpAny_holding ?_)))))
  exact sim_setAttr R₂ (G.inK R₂) ok hu (hv.mono p₂) () _ g6 _ _ fun ι₃ s₃ _ p₃ R₃ _ => wpAny_release (kk ι₃ s₃ _ ((p₁.trans p₂).trans p₃) R₃ rfl)

theorem ss_assign_sub {pos pa : Pos} {o i : Expr} {ao ai : AE} (ho : S2 prog w K hb A P C rs k o ao) (hi : S2 prog w K hb A P C rs k i ai) (h : S2 prog w K hb A P C rs k e ae) : SO prog w K hb A P C rs k (.Assign [.Subscript o i pa] e pos) (.assign (.sub ao ai) ae) := by
  intro X env ι st s G EO SV R r st' ee Q E kk
  refine bnd_elim ee fun a st₁ g1 g2 => ?_
  refine bnd_elim (noerr_ok g2) fun _ st₂ g3 g4 => ?_
  obtain ⟨rfl, rfl⟩ := ret_some g4
  refine bnd_elim g3 fun b st₃ g5 g6 => ?_
  refine bnd_elim g6 fun c st₄ g7 g8 => ?_
  refine wpAny_Assign_Subscript (h.1 X env ι st s G EO R a st₁ (axtop_ok _ g1) _ _ fun ι₁ s₁ v p₁ R₁ hv => ?_) (swap_other (by intros; simp))
  refine ho.1 X env ι₁ st₁ s₁ G EO R₁ b st₃ g5 _ _ fun ι₂ s₂ u p₂ R₂ hu => ?_
  refine hi.1 X env ι₂ st₃ s₂ G EO R₂ c st₄ g7 _ _ fun ι₃ s₃ y p₃ R₃ hy => ?_
  exact sim_setItem R₃ (hu.mono p₃) hy (hv.mono (p₂.trans p₃)) () _ g8 _ _ fun ι₄ s₄ _ p₄ R₄ _ => kk ι₄ s₄ _ (((p₁.trans p₂).trans p₃).trans p₄) R₄ rfl

theorem ss_assign_comp {elt iter : Expr} {x y : Str} {i : Nat} {px py : Pos} {ifs : List Expr} {sc : Scope} {pos spos : Pos} {aelt aiter : AE} {aifs : List AE}
    (hh : A.handled = none) (hy : rs.slot y = some i) (hit : S2 prog w K hb A P C rs k iter aiter) (hel : S2 prog w K hb A P C (rsComp rs sc.names x k) (k + 1) elt aelt) (hifs : SL prog w K hb A P C (rsComp rs sc.names x k) (k + 1) ifs aifs)
    (hsk : sc.kind = .function) (hn : compNames rs sc.names x = true) (hk : k < rs.N) (hst : notStar iter = true) :
    SO prog w K hb A P C rs k (.Assign [.Name y py] (.ListComp elt [⟨.Name x px, iter, ifs, 0⟩] sc pos) spos) (.assign (.loc i) (.comp k aelt aiter aifs)) := by
  intro X env ι st s G EO SV R r st' ee Q E kk
  have hsw : ∃ b, swapsWith (.ListComp elt [⟨.Name x px, iter, ifs, 0⟩] sc pos) (some (.Name y py)) spos.line env = pure b := ⟨_, rfl⟩
  obtain ⟨bb, hsw⟩ := hsw
  cases bb with
  | false =>
    refine bnd_elim ee fun a st₁ g1 g2 => ?_
    refine bnd_elim (noerr_ok g2) fun _ st₂ g3 g4 => ?_
    obtain ⟨rfl, rfl⟩ := ret_some g4
    refine wpAny_Assign_Name ((s_comp hh hit hel hifs hsk hn hk hst).1 X env ι st s G EO R a st₁ (axtop_ok _ g1) _ _ fun ι₁ s₁ v p₁ R₁ hv => ?_) hsw
    exact st_slot G.ok EO SV.L SV.nf R₁ hy hv () _ g3 _ _ fun ι₂ s₂ _ p₂ R₂ _ => kk ι₂ s₂ _ (p₁.trans p₂) R₂ rfl
  | true =>
    refine bnd_elim ee fun a' st₁' g1' g2' => ?_
    refine bnd_elim (noerr_ok g2') fun _ st₂' g3' g4' => ?_
    obtain ⟨rfl, rfl⟩ := ret_some g4'
    refine bnd_elim (noerr_ok g1') fun a st₁ g1 g2 => ?_
    obtain ⟨⟨q, n⟩, st₂, g3, g4⟩ := bnd_some g2
    refine bnd_elim g4 fun _ st₃ g5 g6 => ?_
    obtain ⟨h5, rfl⟩ := guard_some g5
    refine bnd_elim g6 fun xs st₄ g7 g8 => ?_
    obtain ⟨rfl, rfl⟩ := alloc_some g8
    obtain ⟨f1, f2, f3⟩ := comp_facts EO hn
    rw [exec_Assign_Name_used _ _ _ _ hsw]
    refine wpAny_bind (wpAny_standAt (wpAny_bind ?_))
    show wpAny _ A (do let _ ← comprehension (.ListComp elt [⟨.Name x px, iter, ifs, 0⟩] sc pos) sc env _ (newList []) false (eval iter env) (some (assign (.Name y py) env))) _ _ s
    refine wpAny_bind (wpAny_mono (wpAny_comprehension_free (use := some (assign (.Name y py) env)) (Q := fun _ s' => Q .next s') rfl (folded_plain hst) f1 hsk f2
      (hit.1 X env ι st s G EO R a st₁ g1 _ _ fun ι₁ s₁ v p₁ R₁ hv => ?_)) (fun _ s' hq => wpAny_pure (wpAny_pure hq)) fun _ _ e => e)
    refine comp_core (out := .ok xs) hh G EO hel hifs hsk hn hk (of_decide_eq_true h5) (fun _ _ _ q => q) (fun _ q => nomatch q) (fun _ _ _ q => q) (fun _ q => nomatch q) R₁ hv g3 g7 (fun _ q => nomatch q) fun xs' hxs D Cc ι₂ s₂ p₂ R₂ aC ⟨m, hm⟩ => ?_
    cases hxs
    show wpAny _ A (assign (.Name y py) env (.ref D)) _ _ _
    have hnew : VRel (ι₂ ++ [D]) (.ref D) (.obj st₄.σ.length) := by
      refine .obj ?_
      have hlen : (ι₂ ++ [D]).length = (st₄.σ ++ [AO.list xs]).length := R₂.len
      simp at hlen
      rw [← hlen]; simp
    obtain ⟨oC, hoC⟩ : ∃ o, s₂.heap.get? Cc = some o := by obtain ⟨o, _, _, ho, _⟩ := id hm; exact ⟨o, ho⟩
    have hl : ∀ p ∈ [(Cc, oC)], Apart X (ι₂ ++ [D]) p.1 ∧ s₂.heap.get? p.1 = some p.2 := by
      intro p hp
      simp only [List.mem_singleton] at hp
      subst hp
      exact ⟨aC, hoC⟩
    have lk : List.lookup Cc [(Cc, oC)] = some oC := by rw [List.lookup_cons]; simp
    refine wpAny_assign_Name (st_slot (G.hold (l := [(Cc, oC)]) fun p hp => (hl p hp).1).ok (EO.hold [(Cc, oC)]) SV.L SV.nf (R₂.hold hl) hy hnew () _ g3' _ _ fun ι₃ s₃ _ p₃ R₃ _ => ?_)
    obtain ⟨c1, c2⟩ := R₃.held G.ok lk aC.kp aC.nL aC.nc
    have R₄ := R₃.letgo G.ok (fun p hp => by simp only [List.mem_singleton] at hp; subst hp; exact ⟨aC.kp, aC.nL⟩)
    refine ⟨m, ?_, fun h' hs' => kk ι₃ _ _ (((p₁.trans p₂).trans (Pre.snoc _ _)).trans p₃) (R₄.aside (tk := s₃.toks) (h' := h') c1 fun c o hc e => hs'.extBut c o hc e) rfl⟩
    exact hm.at' fun o e => by rw [hoC] at e; cases e; exact c2
end
end Mine
namespace Mine
open PySem PySem.W PyProof.Rows

/-- the namespace N of a class has no __init__ -/
noncomputable def NsK (K : Frag) (N : Addr) : Prop := ∀ h : Heap, K.In h → ∃ m, h.Ns N m ∧ m "__init__" = none
theorem strK {es : Array DictEntry} (h : (es.toList.all fun e => match e.key with | .str _ _ => true | _ => false) = true) : StrKeys es := by
  intro e he
  have := List.all_eq_true.mp h e (by simpa using he)
  split at this
  · rename_i n t q; exact ⟨n, t, q⟩
  · cases this
theorem NsK.of {K : Frag} {N : Addr} {o : Obj} {es : Array DictEntry} {n : Nat} (h1 : K.lookup N = some o) (hd : o.data = .dict es n) (h2 : (es.toList.all fun e => match e.key with | .str _ _ => true | _ => false) = true) (h3 : (nsFind es "__init__").isNone = true) : NsK K N :=
  fun _ X => ⟨nsFind es, ⟨o, es, n, X _ _ h1, hd, strK h2, fun _ => rfl⟩, Option.isNone_iff_eq_none.mp h3⟩
section
variable {K : Frag} {c N c1 : Addr} {nm q : Str} {bs tl : List Value} {hdct : Bool} {sn : List Str} {sub : List Value} {ab : Bool} {col : Option Bool} {dd : Option Addr} {k0 k1 k2 k3 k5 : Option Value} {o : Obj} {cd : ClassData}
theorem ExcK.base (h1 : K.lookup c = some o) (ho : o = excClassObj nm q c N bs bmVE hdct sn sub ab col dd k0 k1 k2 k3 k5 "ValueError.__new__") (hn : NsK K N) : ExcK K c := fun h X => by
  obtain ⟨m, h2, h3⟩ := hn h X
  exact ⟨rfl, _, _, _, _, _, _, _, _, _, _, _, _, _, _, _, _, m, ho ▸ X _ _ h1, h2, h3, .base⟩
theorem ExcK.own (h1 : K.lookup c = some o) (ho : o = excClassObj nm q c N bs (.ref c1 :: bmVE) hdct sn sub ab col dd k0 k1 k2 k3 k5 "ValueError.__new__") (hn : NsK K N) {o1 : Obj} (h4 : K.lookup c1 = some o1) (hd : o1.data = .cls cd) (hn1 : NsK K cd.ns) : ExcK K c := fun h X => by
  obtain ⟨m, h2, h3⟩ := hn h X
  obtain ⟨m1, h5, h6⟩ := hn1 h X
  obtain ⟨c0, dd', da, sl⟩ := o1
  have hd : da = .cls cd := hd
  subst hd
  exact ⟨rfl, _, _, _, _, _, _, _, _, _, _, _, _, _, _, _, _, m, ho ▸ X _ _ h1, h2, h3, .own (X _ _ h4) h5 h6 .base⟩
end
section
variable {prog : Program} {w : World} {A : Around} {c e : Addr} {mg : Str → Option Value} {x : Str} {E : Value → Shared → Prop}
theorem own_match {M : Model} {s : Shared} {oe : Obj} {Q : Bool → Shared → Prop} (O : OwnCls x c bmVE "ValueError.__new__" mg s.heap) (he : s.heap.get? e = some oe) (hcls : oe.cls = .ref c) (hq : Q true s) : wpAny M A (excMatches (.ref e) (.ref c)) Q E s := by
  obtain ⟨_, tl, N, nm, q, bs, hdct, sn, sub, ab, col, dd, k0, k1, k2, k3, k5, mN, hC, hN, hni, TL⟩ := O
  obtain ⟨hh, g, dr, tk, os⟩ := s
  exact wpAny_excMatches_sub_self hC he hcls (TL.hasType PySem.F.excBase_ValueError.hasBase) hq
theorem own_raise {hb : Heap} {s : Shared} {env : Env} {y : Str} {np cpos pos : Pos} {args : List Expr} {Q : Flow → Shared → Prop} (O : OwnCls x c bmVE "ValueError.__new__" mg hb) (hh : A.handled = none) (hplain : (backTo cpos (starEach args env)).any (·.1) = false)
    (h : wpAny (model prog w) A (eval (.Name y np) env) (fun f s₁ => f = .ref c ∧ wpAny (model prog w) A (evalArgs (.ref c) true (backTo cpos (starEach args env)) []) (fun a s₂ => (a.kw = [] ∧ a.pos.length ≤ sizeLine) ∧ (∀ b o, hb.get? b = some o → s₂.heap.get? b = some o) ∧ ∀ h' e, Heap.MadeExcOf s₂.heap h' e (.ref c) a.pos → E (.ref e) { s₂ with heap := h' }) E s₁) E s) :
    wpAny (model prog w) A (exec (.Raise (some (.Call (.Name y np) args [] cpos)) none pos) env) Q E s := by
  obtain ⟨_, tl, N, nm, q, bs, hdct, sn, sub, ab, col, dd, k0, k1, k2, k3, k5, mN, hC, hN, hni, T⟩ := O
  exact wpAny_Raise_call_subT (mN := mN) PySem.F.excBase_ValueError (T.hasType PySem.F.excBase_ValueError.hasBase) hh hplain hni
    (wpAny_mono h (fun f s₁ h₁ => ⟨h₁.1, wpAny_mono h₁.2 (fun a s₂ h₂ => ⟨h₂.1.1, h₂.1.2, h₂.2.1 _ _ hC, hN.keeps h₂.2.1, T.keeps h₂.2.1, h₂.2.2⟩) fun _ _ y => y⟩) fun _ _ y => y)
end
section
variable {prog : Program} {w : World} {A : Around} {X : Cx} {ι : List Addr} {st : ASt} {s : Shared} {v u : Value} {a b : AV} {K : Frag} {hb : Heap} {env : Env} {rs : Rsv} {k : Nat}
  {P : AProg} {C : Calls} {e e₁ e₂ : Expr} {ae ae₁ ae₂ : AE} {es : List Expr} {aes : List AE} {t : Stmt} {at' : AS} {ts os : List Stmt} {ats aos : List AS}
/-- what a statement raises -/
noncomputable def SQ (prog : Program) (w : World) (K : Frag) (hb : Heap) (A : Around) (P : AProg) (C : Calls) (rs : Rsv) (k : Nat) (t : Stmt) (at' : AS) : Prop :=
  ∀ X env ι st s, Gr K hb A X → EnvOk K X env rs k → SEnv A X env → Rel prog w X ι st s → SimX prog w A X ι st s (exec t env) (aexec P C at')
noncomputable def SQs (prog : Program) (w : World) (K : Frag) (hb : Heap) (A : Around) (P : AProg) (C : Calls) (rs : Rsv) (k : Nat) (ts : List Stmt) (ats : List AS) : Prop :=
  ∀ X env ι st s, Gr K hb A X → EnvOk K X env rs k → SEnv A X env → Rel prog w X ι st s → SimX prog w A X ι st s (execs ts env) (aexecs P C ats)
structure SS (prog : Program) (w : World) (K : Frag) (hb : Heap) (A : Around) (P : AProg) (C : Calls) (rs : Rsv) (k : Nat) (t : Stmt) (at' : AS) : Prop where
  o : SO prog w K hb A P C rs k t at'
  x : SQ prog w K hb A P C rs k t at'
structure SSs (prog : Program) (w : World) (K : Frag) (hb : Heap) (A : Around) (P : AProg) (C : Calls) (rs : Rsv) (k : Nat) (ts : List Stmt) (ats : List AS) : Prop where
  o : SOs prog w K hb A P C rs k ts ats
  x : SQs prog w K hb A P C rs k ts ats
theorem sq_nil : SQs prog w K hb A P C rs k [] [] := fun _ _ _ _ _ _ _ _ _ _ _ q => by cases q
theorem sq_cons (h₁ : SS prog w K hb A P C rs k t at') (h₂ : SQs prog w K hb A P C rs k ts ats) : SQs prog w K hb A P C rs k (t :: ts) (at' :: ats) := by
  intro X env ι st s G EO SV R r st' e Q E kk
  refine bnd_err e (fun g1 => ?_) fun f st₁ g1 g2 => ?_
  · exact wpAny_execs_cons (h₁.x X env ι st s G EO SV R r st' g1 _ _ kk)
  · refine wpAny_execs_cons (h₁.o X env ι st s G EO SV R f st₁ g1 _ _ fun ι₁ s₁ fv p₁ R₁ hf => ?_)
    cases f with
    | next =>
      have hf : fv = .next := hf
      subst hf
      exact h₂ X env ι₁ st₁ s₁ G EO SV R₁ r st' g2 Q E fun ι₂ s₂ y p₂ R₂ hy => kk ι₂ s₂ y (p₁.trans p₂) R₂ hy
    | ret a => cases g2
theorem sq_pass {pos : Pos} : SQ prog w K hb A P C rs k (.Pass pos) .pass := fun _ _ _ _ _ _ _ _ _ _ _ q => by cases q
theorem SEnv.fe (SV : SEnv A X env) : FEnv A X env := let ⟨outer, h⟩ := SV.stack; ⟨SV.frame, env, outer, h, SV.frame⟩
theorem axtop_err {r : Nat} {st' : ASt} (h : axtop P C ae st = some (.error r, st')) : axval P C ae st = some (.error r, st') := by
  cases ae <;> first | exact h | exact (noerr_no h).elim
theorem sq_expr {pos : Pos} (hc : isComp e = false) (h : S2 prog w K hb A P C rs k e ae) : SQ prog w K hb A P C rs k (.Expr e pos) (.expr ae) := by
  intro X env ι st s G EO SV R r st' ee Q E kk
  refine bnd_err ee (fun g1 => ?_) fun f st₁ g1 g2 => by cases g2
  exact wpAny_Expr_any (h.3 X env ι st s G EO SV.fe R r st' g1 _ _ kk) (no_inter EO) (no_swap hc)
theorem sq_ret {pos : Pos} (h : S2 prog w K hb A P C rs k e ae) : SQ prog w K hb A P C rs k (.Return (some e) pos) (.ret ae) := by
  intro X env ι st s G EO SV R r st' ee Q E kk
  refine bnd_err ee (fun g1 => ?_) fun f st₁ g1 g2 => by cases g2
  exact wpAny_Return_some (h.3 X env ι st s G EO SV.fe R r st' g1 _ _ kk)
theorem sq_for {pos px : Pos} {x : Str} {i : Nat} (hh : A.handled = none) (hx : rs.slot x = some i) (hst : notStar e = true) (h : S2 prog w K hb A P C rs k e ae) (h₁ : SSs prog w K hb A P C rs k ts ats) : SQ prog w K hb A P C rs k (.For (.Name x px) e ts [] pos) (.for i ae ats) :=
  fun X env ι st s G EO SV R r st' ee Q E kk => for_core (out := .error r) hh hx hst h h₁.o (fun _ _ => h₁.x) G EO SV R ee (fun _ q => nomatch q) (fun n hn => by cases hn; exact kk)
theorem sq_ret0 {pos : Pos} : SQ prog w K hb A P C rs k (.Return none pos) (.ret (.cst .none)) := by
  intro X env ι st s G EO SV R r st' ee Q E kk
  have ee : bnd (noerr (aeval P C (.cst .none))) (fun v => ret (AF.ret v)) st = some (.error r, st') := ee
  exact bnd_err ee (fun g1 => (noerr_no g1).elim) fun f st₁ g1 g2 => by cases g2
theorem sq_if {pos : Pos} (h : S2 prog w K hb A P C rs k e ae) (h₁ : SQs prog w K hb A P C rs k ts ats) (h₂ : SQs prog w K hb A P C rs k os aos) : SQ prog w K hb A P C rs k (.If e ts os pos) (.ite ae ats aos) := by
  intro X env ι st s G EO SV R r st' ee Q E kk
  refine bnd_err ee (fun g1 => (noerr_no g1).elim) fun b st₁ g1 g2 => ?_
  refine wpAny_If (h.2 X env ι st s G EO R b st₁ (noerr_ok g1) _ _ fun ι₁ s₁ t p₁ R₁ ht => ?_)
  subst ht
  cases t with
  | true => exact h₁ X env ι₁ st₁ s₁ G EO SV R₁ r st' (by simpa using g2) Q E fun ι₂ s₂ y p₂ R₂ hy => kk ι₂ s₂ y (p₁.trans p₂) R₂ hy
  | false => exact h₂ X env ι₁ st₁ s₁ G EO SV R₁ r st' (by simpa using g2) Q E fun ι₂ s₂ y p₂ R₂ hy => kk ι₂ s₂ y (p₁.trans p₂) R₂ hy
theorem assign_err {tt : AT} {st' : ASt} {r : Nat} (h : aexec P C (.assign tt ae) st = some (.error r, st')) : axval P C ae st = some (.error r, st') :=
  bnd_err (G := axval P C ae st = some (.error r, st')) h axtop_err fun _ _ _ g2 => (noerr_no g2).elim
theorem sq_assign_calm {tt : AT} (h : axtop P C ae = noerr (aeval P C ae)) : SQ prog w K hb A P C rs k t (.assign tt ae) :=
  fun _ _ _ _ _ _ _ _ _ _ _ q => bnd_err q (fun g => by rw [h] at g; exact (noerr_no g).elim) fun _ _ _ g2 => (noerr_no g2).elim
theorem sq_assign_name {pos px : Pos} {x : Str} {tt : AT} (hc : isComp e = false) (h : S2 prog w K hb A P C rs k e ae) : SQ prog w K hb A P C rs k (.Assign [.Name x px] e pos) (.assign tt ae) :=
  fun X env ι st s G EO SV R r st' ee Q E kk => wpAny_Assign_Name (h.3 X env ι st s G EO SV.fe R r st' (assign_err ee) _ _ kk) (no_swap hc)
theorem sq_assign_attr {pos pa : Pos} {o : Expr} {name : Str} {tt : AT} (h : S2 prog w K hb A P C rs k e ae) : SQ prog w K hb A P C rs k (.Assign [.Attribute o name pa] e pos) (.assign tt ae) :=
  fun X env ι st s G EO SV R r st' ee Q E kk => assign_one (swap_other (by intros; simp)) (no_swapped (by intros; simp) (by intros; simp)) rfl (h.3 X env ι st s G EO SV.fe R r st' (assign_err ee) _ _ kk)
theorem sq_assign_sub {pos pa : Pos} {o i : Expr} {tt : AT} (h : S2 prog w K hb A P C rs k e ae) : SQ prog w K hb A P C rs k (.Assign [.Subscript o i pa] e pos) (.assign tt ae) :=
  fun X env ι st s G EO SV R r st' ee Q E kk => wpAny_Assign_Subscript (h.3 X env ι st s G EO SV.fe R r st' (assign_err ee) _ _ kk) (swap_other (by intros; simp))
theorem nameOf_at {e : Expr} {x : Str} (h : nameOf e = some x) : ∃ p, e = .Name x p := by
  cases e with
  | Name y p => exact ⟨p, by rw [Option.some.inj h]⟩
  | _ => exact no_some h
theorem excG_some {g : GV} {c : Addr} (h : excG g = some c) : g = .ty (.exc c) := by
  cases g with
  | ty t => cases t with
    | exc d => rw [Option.some.inj h]
    | _ => exact no_some h
  | _ => exact no_some h
theorem excOf_some {e : Expr} {c : Addr} (h : excOf rs e = some c) : ∃ x p, e = .Name x p ∧ x ≠ dbg ∧ rs.slot x = none ∧ rs.glob x = some (.ty (.exc c)) := by
  obtain ⟨x, h1, h⟩ := Option.bind_eq_some_iff.mp h
  have hd : x ≠ dbg := fun q => by rw [if_pos q] at h; exact no_some h
  rw [if_neg hd] at h
  cases hs : rs.slot x with
  | some i => rw [hs] at h; exact no_some h
  | none =>
    rw [hs] at h
    obtain ⟨g, hg, h⟩ := Option.bind_eq_some_iff.mp h
    obtain ⟨p, hp⟩ := nameOf_at h1
    exact ⟨x, p, hp, hd, hs, excG_some h ▸ hg⟩
theorem callOf_some {e f : Expr} {as : List Expr} (h : callOf e = some (f, as)) : ∃ pos, e = .Call f as [] pos := by
  cases e with
  | Call f' as' kw pos =>
    cases kw with
    | nil => cases h; exact ⟨pos, rfl⟩
    | cons _ _ => exact no_some h
  | _ => exact no_some h
theorem strC_some {c : Const} {t : Str} (h : strC c = some t) : c = .str t := by
  cases c with
  | str t' => rw [Option.some.inj h]
  | _ => exact no_some h
theorem strOf_some {e : Expr} {t : Str} (h : strOf e = some t) : ∃ kd cp, e = .Constant (.str t) kd cp := by
  cases e with
  | Constant c kd cp => exact ⟨kd, cp, by rw [strC_some h]⟩
  | _ => exact no_some h
theorem raiseOf_some {eo : Option Expr} {r : Addr × Str} (h : raiseOf rs eo = some r) : ∃ x p kd cp pos, eo = some (.Call (.Name x p) [.Constant (.str r.2) kd cp] [] pos) ∧ x ≠ dbg ∧ rs.slot x = none ∧ rs.glob x = some (.ty (.exc r.1)) := by
  obtain ⟨e, he, h0⟩ := Option.bind_eq_some_iff.mp h
  obtain ⟨⟨f, as⟩, h1, h2⟩ := Option.bind_eq_some_iff.mp h0
  obtain ⟨pos, hp⟩ := callOf_some h1
  match as, h2, hp with
  | [a], h2, hp =>
    obtain ⟨t, h3, h4⟩ := Option.bind_eq_some_iff.mp h2
    obtain ⟨c, h5, h6⟩ := Option.bind_eq_some_iff.mp h4
    obtain ⟨x, px, e1, hd, hs, hg⟩ := excOf_some h5
    obtain ⟨kd, cp, e2⟩ := strOf_some h3
    have e1 : f = _ := e1
    cases h6
    exact ⟨x, px, kd, cp, pos, by rw [he, hp, e1, e2], hd, hs, hg⟩
theorem sq_raise (hh : A.handled = none) {eo : Option Expr} {r : Addr × Str} {pos : Pos} (h : raiseOf rs eo = some r) : SQ prog w K hb A P C rs k (.Raise eo none pos) (.raise r.1 r.2) := by
  intro X env ι st s G EO SV R n st' ee Q E kk
  obtain ⟨x, p, kd, cp, pos', rfl, hd, hs, hg⟩ := raiseOf_some h
  rw [ax_raise] at ee
  refine bnd_err ee (fun g1 => by cases g1) fun v st₁ g1 g2 => ?_
  obtain ⟨rfl, rfl⟩ := alloc_some g1
  cases g2
  have L : SL prog w K hb A P C rs k [.Constant (.str r.2) kd cp] [.cst (.str r.2)] := .cons rfl (s_const rfl) .nil
  obtain ⟨v0, ⟨hv0, hx0⟩, _⟩ := EO.globs x _ hs hg |>.2
  refine own_raise (hx0 r.1 rfl hb G.KX) hh (plain_args L) (rd_glob G R EO hd hs hg fun v hv => ⟨hv.1, ?_⟩)
  refine sim_evalArgs L G EO R (as := [.str r.2]) rfl fun ι' s' vs p' R' hvs => ?_
  obtain ⟨u, rfl, hu⟩ := f2_one hvs
  refine ⟨⟨rfl, by show (1 : Nat) ≤ sizeLine; rw [sizeLine_val]; decide⟩, G.keep R', fun h' x' hm => ?_⟩
  obtain ⟨tp, he, _⟩ := hm.there
  refine kk (ι' ++ [x']) _ _ (p'.trans (Pre.snoc _ _)) (R'.alloc (tk := s'.toks) hm.new (R'.kp_none hm.new) hm.keeps he ⟨rfl, _, rfl⟩) ⟨.new (c := r.1) ?_ ?_ he rfl rfl rfl, _, rfl, _, _, he, rfl, rfl, rfl⟩
  · rw [← R'.len]; simp
  · simp
theorem const_ev {c : Const} {n : Nat} {pos : Pos} (hc : cstOf c = some ae) (R : Rel prog w X ι st s) : SimAt prog w A X ι st s (eval (.Constant c n pos) env) (aeval P C ae) VR0 := by
  intro r st' e Q E kk
  cases c <;> first | cases hc | skip
  · obtain ⟨rfl, rfl⟩ := ret_some e; exact PySem.wpAny_Constant_none (kk ι s _ (Pre.refl ι) R .none)
  · obtain ⟨rfl, rfl⟩ := ret_some e; exact PySem.wpAny_Constant_bool (kk ι s _ (Pre.refl ι) R (.bool _))
  · obtain ⟨rfl, rfl⟩ := ret_some e; exact wpAny_Constant_int (kk ι _ _ (Pre.refl ι) (R.toks _) (.int _ _))
  · obtain ⟨rfl, rfl⟩ := ret_some e; exact PySem.wpAny_Constant_str (kk ι _ _ (Pre.refl ι) (R.toks _) (.str _ _))
theorem constOf_some {e : Expr} {ae : AE} (h : constOf e = some ae) : ∃ c kd pc, e = .Constant c kd pc ∧ cstOf c = some ae := by
  cases e with
  | Constant c kd pc => exact ⟨c, kd, pc, rfl, h⟩
  | _ => exact no_some h
theorem retOf_some {e : Expr} (h : retOf t = some e) : ∃ pos, t = .Return (some e) pos := by
  cases t with
  | Return v pos => exact ⟨pos, congrArg (Stmt.Return · pos) h⟩
  | _ => exact no_some h
theorem asgOf_some {a v : Expr} (h : asgOf t = some (a, v)) : ∃ pos, t = .Assign [a] v pos := by
  cases t with
  | Assign ts v' pos =>
    match ts, h with
    | [b], h => cases h; exact ⟨pos, rfl⟩
  | _ => exact no_some h
theorem calmOf_some (h : calmOf rs t = some at') : (∃ c kd pc pos ae, t = .Return (some (.Constant c kd pc)) pos ∧ cstOf c = some ae ∧ at' = .ret ae) ∨ (∃ y py c kd pc pos i ae, t = .Assign [.Name y py] (.Constant c kd pc) pos ∧ rs.slot y = some i ∧ cstOf c = some ae ∧ at' = .assign (.loc i) ae) := by
  have h : (match retOf t with
    | some e => (constOf e).bind fun a => some (.ret a)
    | none => (asgOf t).bind fun p => (nameOf p.1).bind fun y => (rs.slot y).bind fun i => (constOf p.2).bind fun a => some (.assign (.loc i) a)) = some at' := h
  cases hr : retOf t with
  | some e =>
    rw [hr] at h
    obtain ⟨ae, h1, h2⟩ := Option.bind_eq_some_iff.mp h
    obtain ⟨c, kd, pc, e1, hc⟩ := constOf_some h1
    obtain ⟨pos, e2⟩ := retOf_some hr
    cases h2
    exact .inl ⟨c, kd, pc, pos, ae, by rw [e2, e1], hc, rfl⟩
  | none =>
    rw [hr] at h
    obtain ⟨⟨a, v⟩, h1, hu⟩ := Option.bind_eq_some_iff.mp h
    obtain ⟨y, h2, hv⟩ := Option.bind_eq_some_iff.mp hu
    obtain ⟨i, h3, hw⟩ := Option.bind_eq_some_iff.mp hv
    obtain ⟨ae, h4, hx⟩ := Option.bind_eq_some_iff.mp hw
    obtain ⟨c, kd, pc, e1, hc⟩ := constOf_some h4
    obtain ⟨pos, e2⟩ := asgOf_some h1
    obtain ⟨py, e3⟩ := nameOf_at h2
    cases hx
    exact .inr ⟨y, py, c, kd, pc, pos, i, ae, by rw [e2]; have e1 : v = _ := e1; have e3 : a = _ := e3; rw [e1, e3], h3, hc, rfl⟩
/-- the suite of a handler, whatever is handled -/
theorem calm_sim {A' : Around} (h : calmOf rs t = some at') (ok : CxOk X) (EO : EnvOk K X env rs k) (SV : SEnv A X env) (R : Rel prog w X ι st s) : SimAt prog w A' X ι st s (execs [t] env) (aexecs P C [at']) FR := by
  intro r st' e Q E kk
  refine bnd_elim e fun f st₁ g1 g2 => ?_
  rcases calmOf_some h with ⟨c, kd, pc, pos, ae, rfl, hc, rfl⟩ | ⟨y, py, c, kd, pc, pos, i, ae, rfl, hy, hc, rfl⟩
  · refine bnd_elim g1 fun a st₂ g3 g4 => ?_
    obtain ⟨rfl, rfl⟩ := ret_some g4
    obtain ⟨rfl, rfl⟩ := ret_some g2
    exact wpAny_execs_cons (wpAny_Return_some (const_ev hc R a _ (axval_ok _ g3) _ _ fun ι₁ s₁ v p₁ R₁ hv => kk ι₁ s₁ _ p₁ R₁ ⟨v, rfl, hv⟩))
  · refine bnd_elim g1 fun a st₂ g3 g4 => ?_
    refine bnd_elim (noerr_ok g4) fun _ st₃ g5 g6 => ?_
    obtain ⟨rfl, rfl⟩ := ret_some g6
    obtain ⟨rfl, rfl⟩ := ret_some g2
    refine wpAny_execs_cons (wpAny_Assign_Name (const_ev hc R a st₂ (axtop_ok _ g3) _ _ fun ι₁ s₁ v p₁ R₁ hv => ?_) (no_swap rfl))
    exact st_slot ok EO SV.L SV.nf R₁ hy hv () _ g5 _ _ fun ι₂ s₂ _ p₂ R₂ _ => wpAny_execs_nil (kk ι₂ s₂ _ (p₁.trans p₂) R₂ rfl)
theorem ss_try {pos np hp : Pos} {x : Str} {c : Addr} (hd : x ≠ dbg) (hs : rs.slot x = none) (hg : rs.glob x = some (.ty (.exc c))) (hc : calmOf rs t = some at') (h₁ : SSs prog w K hb A P C rs k ts ats) :
    SO prog w K hb A P C rs k (.Try ts [.ExceptHandler (some (.Name x np)) none [t] hp] [] [] pos) (.try ats c [at']) := by
  intro X env ι st s G EO SV R r st' ee Q E kk
  rcases onErr_eq ee with ⟨f, st₁, hb', q⟩ | ⟨n, st₁, hb', hσ, e2⟩
  · cases q
    refine wpAny_Try_except (h₁.o X env ι st s G EO SV R _ _ hb' _ _ fun ι₂ s₂ y p₂ R₂ hy => ?_)
    cases y with
    | next => exact wpAny_execs_nil (kk ι₂ s₂ _ p₂ R₂ hy)
    | _ => exact kk ι₂ s₂ _ p₂ R₂ hy
  · refine wpAny_Try_except (h₁.x X env ι st s G EO SV R n st₁ hb' _ _ fun ι₁ s₁ v p₁ R₁ F => ?_)
    obtain ⟨outer, hfr⟩ := SV.stack
    obtain ⟨l, hl, hfs⟩ := G.frs
    rw [hfr] at hl; cases hl
    refine land_ R₁ G.ok hfr (R₁.stk G.ok hfs) SV.frame F fun s₂ R₂ T₂ x₂ => ?_
    obtain ⟨x', rfl, hx⟩ := T₂.at
    obtain ⟨o, ho', hcls, _⟩ := R₂.get hx hσ
    refine wpAny_handleBy_cons (codeAny_handlers_test (rd_globA G.T (G.keep R₂) G.KX EO hd hs hg fun v hv => ?_)) (by intro q; cases q)
    obtain ⟨rfl, hx0⟩ := hv
    refine own_match (hx0 c rfl s₂.heap (G.inK R₂)) ho' hcls (codeAny_handlers_suite ?_)
    refine flight_ (o := none) R₂ T₂ x₂ fun s₃ R₃ T₃ x₃ => ?_
    exact calm_sim (A := A) hc G.ok EO SV R₃ r st' (noerr_ok e2) _ _ fun ι₂ s₂ y p₂ R₂ hy => kk ι₂ s₂ y (p₁.trans p₂) R₂ hy
theorem sq_try {pos : Pos} {hs : List ExceptHandler} {c : Addr} : SQ prog w K hb A P C rs k (.Try ts hs [] [] pos) (.try ats c [at']) := by
  intro X env ι st s G EO SV R r st' ee Q E kk
  rcases onErr_eq ee with ⟨f, st₁, hb', q⟩ | ⟨n, st₁, hb', hσ, e2⟩
  · cases q
  · exact (noerr_no e2).elim
end
end Mine
namespace Mine
open PySem PyProof.Rows
section
variable {M : Model} {A : Around} {E : Value → Shared → Prop}
variable {nm q : Str} {C N : Addr} {bs bm : List Value} {hdct : Bool} {sn : List Str} {sub : List Value} {ab : Bool} {col : Option Bool} {dd : Option Addr} {k0 k1 k2 k3 k5 : Option Value} {newId : String}
variable {nm' q' : Str} {C' N' : Addr} {bs' bm' : List Value} {hdct' : Bool} {sn' : List Str} {sub' : List Value} {ab' : Bool} {col' : Option Bool} {dd' : Option Addr} {k0' k1' k2' k3' k5' : Option Value} {newId' : String}
/-- an exception of the class C is caught by a base C' of C -/
theorem exc_anc {h : Heap} {g : Array GenState} {d : Drawn} {t : Nat} {os : OsState} {e : Addr} {oe : Obj} {Q : Bool → Shared → Prop}
    (hC : h.get? C = some (excClassObj nm q C N bs bm hdct sn sub ab col dd k0 k1 k2 k3 k5 newId)) (hC' : h.get? C' = some (excClassObj nm' q' C' N' bs' bm' hdct' sn' sub' ab' col' dd' k0' k1' k2' k3' k5' newId')) (he : h.get? e = some oe) (hcls : oe.cls = .ref C)
    (hb' : bm'.contains (.type "BaseException") = true) (hb : bm.contains (.ref C') = true) (hq : Q true ⟨h, g, d, t, os⟩) : wpAny M A (excMatches (.ref e) (.ref C')) Q E ⟨h, g, d, t, os⟩ := by
  have hcB : (Value.ref C' :: bm').contains (.type "BaseException") = true := by rw [List.contains_cons, hb', Bool.or_true]
  have hcC : (Value.ref C :: bm).contains (.ref C') = true := by rw [List.contains_cons, hb, Bool.or_true]
  have f := tc_notTuple
  unfold excMatches
  repeat (first | (with_reducible refine wpAny_loadPart_at he ?_; rw [hcls]) | with_reducible refine wpAny_loadPart_at hC' ?_ | (with_reducible refine wpAny_isSubtype_exc hC' ?_; rw [hcB]) | (with_reducible refine wpAny_isSubtype_exc hC ?_; rw [hcC]) | wp_step)
  exact hq
end
end Mine
namespace Mine
open PySem PySem.W PyProof.Rows
/-- the exception eh comes to rest -/
noncomputable def Cx.rest (X : Cx) (eh : Addr) (oe : Obj) : Cx := { X with Kp := fun b => if b = eh then some oe else X.Kp b, ros := eh :: X.ros }
section
variable {prog : Program} {w : World} {A : Around} {X : Cx} {ι : List Addr} {st : ASt} {s : Shared} {K : Frag} {hb : Heap} {n : Nat} {eh c : Addr} {oe : Obj}
theorem rest_kp {b : Addr} (h : b ≠ eh) : (X.rest eh oe).Kp b = X.Kp b := if_neg h
theorem CxOk.rest (ok : CxOk X) (hk : X.Kp eh = none) (hL : eh ≠ X.L) (hc : ∀ (i : Nat) (d : Addr), X.locs[i]? = some (Loc.cell d) → d ≠ eh) (hf : eh ∉ X.fr) : CxOk (X.rest eh oe) := by
  refine ⟨ok.inj, ok.cinj, ?_, fun i d h => ?_, fun i C x h => ?_, fun a h => ?_, fun a h => ?_, fun a h => ?_⟩
  · show (X.rest eh oe).Kp X.L = none
    rw [rest_kp (Ne.symm hL)]; exact ok.kL
  · obtain ⟨h1, h2⟩ := ok.kc i d h
    exact ⟨by rw [rest_kp (hc i d h)]; exact h1, h2⟩
  · obtain ⟨o, ho⟩ := ok.ats i C x h
    by_cases q : C = eh
    · subst q; rw [hk] at ho; cases ho
    · exact ⟨o, by rw [rest_kp q]; exact ho⟩
  · by_cases q : a = eh
    · subst q; exact ⟨oe, if_pos rfl⟩
    · rcases List.mem_cons.mp h with h | h
      · exact absurd h q
      · obtain ⟨o, ho⟩ := ok.ro a h
        exact ⟨o, by rw [rest_kp q]; exact ho⟩
  · rcases List.mem_cons.mp h with rfl | h
    · exact hf
    · exact ok.rof a h
  · obtain ⟨o, ho, hn⟩ := ok.frk a h
    have q : a ≠ eh := fun q => hf (q ▸ h)
    exact ⟨o, by rw [rest_kp q]; exact ho, hn⟩
theorem Rel.rest {vs : Array Value} (R : Rel prog w X ι st s) (hx : ι[n]? = some eh) (hs : st.σ[n]? = some (.exc c)) (ho : s.heap.get? eh = some oe) (hc : oe.cls = .ref c) (hd : oe.dict = none) (hv : oe.data = .fields vs) (h2 : vs[2]? = some .none) :
    Rel prog w (X.rest eh oe) ι ⟨st.σ.set n (.exr c), st.ρ⟩ s := by
  have hlt : n < st.σ.length := (List.getElem?_eq_some_iff.mp hs).1
  have hk : X.Kp eh = none := (R.free n eh _ hx hs).1 rfl
  refine ⟨fun b o q => ?_, R.ns, by rw [List.length_set]; exact R.len, R.nodup, fun i a ao h1 h3 => ?_, fun i ao h3 => ?_, R.cells, fun i C x h a ha => ?_, R.rlen, R.shape⟩
  · by_cases e : b = eh
    · subst e
      have q : some oe = some o := (if_pos rfl).symm.trans q
      cases q
      exact ⟨oe, ho, .inl rfl⟩
    · rw [rest_kp e] at q; exact R.frozen b o q
  · by_cases e : n = i
    · subst e
      rw [hx] at h1; cases h1
      rw [List.getElem?_set_self hlt] at h3; cases h3
      exact ⟨fun z => (by cases z), (R.free n eh _ hx hs).2.1, fun _ => .head _⟩
    · rw [List.getElem?_set_ne e] at h3
      obtain ⟨f1, f2, f3⟩ := R.free i a ao h1 h3
      have q : a ≠ eh := fun q => e (nodup_idx R.nodup hx (q ▸ h1))
      exact ⟨fun z => by rw [rest_kp q]; exact f1 z, f2, fun z => .tail _ (f3 z)⟩
  · by_cases e : n = i
    · subst e
      rw [List.getElem?_set_self hlt] at h3; cases h3
      exact ⟨eh, oe, hx, ho, hc, hd, vs, hv, h2⟩
    · rw [List.getElem?_set_ne e] at h3
      exact R.objs i ao h3
  · obtain ⟨o, es, ep, v, k1, k2⟩ := R.comps i C x h a ha
    refine ⟨o, es, ep, v, ?_, k2⟩
    have q : C ≠ eh := fun q => by subst q; rw [hk] at k1; cases k1
    rw [rest_kp q]; exact k1
theorem Rel.wake {vs : Array Value} (hv : oe.data = .fields vs) (R : Rel prog w (X.rest eh oe) ι st s) (hk : X.Kp eh = none) (hro : eh ∉ X.ros) (hx : ι[n]? = some eh) (hs : st.σ[n]? = some (.exr c)) : Rel prog w X ι ⟨st.σ.set n (.exc c), st.ρ⟩ s := by
  have hlt : n < st.σ.length := (List.getElem?_eq_some_iff.mp hs).1
  refine ⟨fun b o q => ?_, R.ns, by rw [List.length_set]; exact R.len, R.nodup, fun i a ao h1 h3 => ?_, fun i ao h3 => ?_, R.cells, fun i C x h a ha => ?_, R.rlen, R.shape⟩
  · have e : b ≠ eh := fun e => by subst e; rw [hk] at q; cases q
    exact R.frozen b o (by rw [rest_kp e]; exact q)
  · by_cases e : n = i
    · subst e
      rw [hx] at h1; cases h1
      rw [List.getElem?_set_self hlt] at h3; cases h3
      exact ⟨fun _ => hk, (R.free n eh _ hx hs).2.1, fun z => (by cases z)⟩
    · rw [List.getElem?_set_ne e] at h3
      obtain ⟨f1, f2, f3⟩ := R.free i a ao h1 h3
      have q : a ≠ eh := fun q => e (nodup_idx R.nodup hx (q ▸ h1))
      exact ⟨fun z => by rw [← rest_kp (oe := oe) q]; exact f1 z, f2, fun z => (List.mem_cons.mp (f3 z)).resolve_left q⟩
  · by_cases e : n = i
    · subst e
      rw [List.getElem?_set_self hlt] at h3; cases h3
      obtain ⟨a, o, h1, h2, h4, _, vs, h5, _⟩ := R.objs n _ hs
      exact ⟨a, o, h1, h2, h4, vs, h5⟩
    · rw [List.getElem?_set_ne e] at h3
      exact R.objs i ao h3
  · obtain ⟨o, es, ep, v, k1, k2, k3, k4, k5⟩ := R.comps i C x h a ha
    by_cases q : C = eh
    · subst q
      have k1 : some oe = some o := (if_pos rfl).symm.trans k1
      cases k1
      rw [hv] at k2; cases k2
    · exact ⟨o, es, ep, v, by rw [← rest_kp (oe := oe) q]; exact k1, k2, k3, k4, k5⟩
/-- all names let go -/
theorem Rel.clrAll {m' : Str → Option Value} {h' : Heap} {tk : Nat} (R : Rel prog w X ι st s) (ok : CxOk X) (hn : h'.Ns X.L m') (hs : Heap.SameBut X.L s.heap h') : Rel prog w X ι ⟨st.σ, st.ρ.map fun _ => none⟩ { s with heap := h', toks := tk } := by
  have hext : ∀ b o, b ≠ X.L → s.heap.get? b = some o → h'.get? b = some o := fun b o hb e => hs.extBut b o hb e
  have no : ∀ {i : Nat} {a : AV}, (st.ρ.map fun _ => (none : Option AV))[i]? = some (some a) → False := fun {i a} h => by
    rw [List.getElem?_map] at h
    cases q : st.ρ[i]? with
    | none => rw [q] at h; cases h
    | some _ => rw [q] at h; cases h
  refine ⟨fun b o q => (R.frozen b o q).ext fun o' => hext b o' fun e => ?_, ⟨m', hn, fun i x a _ h => (no h).elim⟩, R.len, R.nodup, R.free, fun i ao h => ?_, fun i c h => ?_, fun i C x h a ha => (no ha).elim, by rw [List.length_map]; exact R.rlen, by rw [R.shape]⟩
  · subst e; rw [ok.kL] at q; cases q
  · obtain ⟨a, o, h1, h2, h3⟩ := R.objs i ao h
    exact ⟨a, o, h1, hext a o (R.free i a ao h1 h).2.1 h2, h3⟩
  · obtain ⟨h1, o, v, h2, h3, h4⟩ := R.cells i c h
    exact ⟨h1, o, v, hext c o (ok.kc i c h).2 h2, h3, fun a ha => (no ha).elim⟩
theorem Gr.rest {vs : Array Value} (G : Gr K hb A X) (hk : X.Kp eh = none) (hL : eh ≠ X.L) (hc : ∀ (i : Nat) (d : Addr), X.locs[i]? = some (Loc.cell d) → d ≠ eh) (hf : eh ∉ X.fr) (hv : oe.data = .fields vs) (h2 : vs[2]? = some .none) :
    Gr K hb (A.mark (some (.ref eh))) (X.rest eh oe) := by
  refine ⟨fun b o e => ?_, G.KX, G.T, G.mods, fun v hv' => ?_, G.hU, G.ok.rest hk hL hc hf, G.frs, G.hfr⟩
  · have h1 := G.kp b o e
    have q : b ≠ eh := fun q => by subst q; rw [hk] at h1; cases h1
    rw [rest_kp q]; exact h1
  · have hv' : some (Value.ref eh) = some v := hv'
    cases hv'
    exact ⟨eh, oe, vs, rfl, if_pos rfl, hf, hv, h2⟩
theorem EnvOk.quiet {env : Env} {rs : Rsv} {k : Nat} (EO : EnvOk K X env rs k) : EnvOk K X env { rs with quiet := true } k := by
  obtain ⟨⟩ := EO
  constructor <;> assumption
theorem EnvOk.rest {env : Env} {rs : Rsv} {k : Nat} (EO : EnvOk K X env rs k) : EnvOk K (X.rest eh oe) env rs k := by
  obtain ⟨⟩ := EO
  constructor <;> assumption
end
end Mine
namespace Mine
open PySem PySem.W PyProof.Rows
section
variable {prog : Program} {w : World} {A : Around} {X : Cx} {ι : List Addr} {st : ASt} {s : Shared} {v u : Value} {a b : AV} {K : Frag} {hb : Heap} {env : Env} {rs : Rsv} {k : Nat}
  {P : AProg} {C : Calls} {e : Expr} {ae : AE} {ts : List Stmt} {ats : List AS}
theorem onErrs_eq {α : Type} {ok : Addr → Bool} {h : Nat → M α} {r : Option (Except Nat α × ASt)} {x : Except Nat α × ASt} (q : onErrs ok h r = some x) : (∃ f st, r = some (.ok f, st) ∧ x = (.ok f, st)) ∨ ∃ n st d, r = some (.error n, st) ∧ st.σ[n]? = some (.exc d) ∧ ok d = true ∧ h n st = some x := by
  unfold onErrs at q
  split at q
  · cases q; exact .inl ⟨_, _, rfl, rfl⟩
  · split at q
    · rename_i d hd
      split at q
      · rename_i hk; exact .inr ⟨_, _, d, rfl, hd, hk, q⟩
      · cases q
    · cases q
  · cases q
/-- the exceptions of the class d are caught by c -/
noncomputable def AncK (K : Frag) (d c : Addr) : Prop := ∀ (s : Shared) (x : Addr) (ox : Obj) (M : Model) (A : Around) (Q : Bool → Shared → Prop) (E : Value → Shared → Prop), K.In s.heap → s.heap.get? x = some ox → ox.cls = .ref d → Q true s → wpAny M A (excMatches (.ref x) (.ref c)) Q E s
theorem ss_tryas {pos np hp : Pos} {x y : Str} {c : Addr} {i : Nat} {t0 : Stmt} {th : List Stmt} {ath : List AS} (hd : x ≠ dbg) (hs : rs.slot x = none) (hg : rs.glob x = some (.ty (.exc c))) (hy : rs.slot y = some i) (hl : ∀ X env, EnvOk K X env rs k → env.kindOf y = some .local) (HA : ∀ d, P.isa d (some c) = some true → AncK K d c)
    (h₁ : SSs prog w K hb A P C rs k ts ats) (h₂ : ∀ eh, SOs prog w K hb (A.mark (some (.ref eh))) P C { rs with quiet := true } k (t0 :: th) ath) :
    SO prog w K hb A P C rs k (.Try ts [.ExceptHandler (some (.Name x np)) (some y) (t0 :: th) hp] [] [] pos) (.tryas ats c i ath) := by
  intro X env ι st s G EO SV R r st' ee Q E kk
  rcases onErrs_eq ee with ⟨f, st₁, hb', q⟩ | ⟨n, st₁, d, hb', hσ, hk, e2⟩
  · cases q
    refine wpAny_Try_except (h₁.o X env ι st s G EO SV R _ _ hb' _ _ fun ι₂ s₂ y p₂ R₂ hy => ?_)
    cases y with
    | next => exact wpAny_execs_nil (kk ι₂ s₂ _ p₂ R₂ hy)
    | _ => exact kk ι₂ s₂ _ p₂ R₂ hy
  · refine wpAny_Try_except (h₁.x X env ι st s G EO SV R n st₁ hb' _ _ fun ι₁ s₁ v p₁ R₁ F => ?_)
    obtain ⟨outer, hfr⟩ := SV.stack
    obtain ⟨l, hl, hfs⟩ := G.frs
    rw [hfr] at hl; cases hl
    refine land_ R₁ G.ok hfr (R₁.stk G.ok hfs) SV.frame F fun s₂ R₂ T₂ x₂ => ?_
    obtain ⟨x', rfl, hx⟩ := T₂.at
    obtain ⟨o, ho', hcls, _⟩ := R₂.get hx hσ
    refine wpAny_handleBy_cons (codeAny_handlers_test (rd_globA G.T (G.keep R₂) G.KX EO hd hs hg fun v hv => ?_)) (by intro q; cases q)
    obtain ⟨rfl, _⟩ := hv
    refine HA d (by simpa using hk) s₂ x' o _ _ _ _ (G.inK R₂) ho' hcls (codeAny_handlers_suite_as ?_)
    refine flight_ (o := none) R₂ T₂ x₂ fun s₃ R₃ T₃ x₃ => ?_
    obtain ⟨x'', hx'', oe, vs, ho3, hdict, hdata, h2⟩ := x₃
    cases hx''
    obtain ⟨o3, ho3', hcls3, _⟩ := R₃.get hx hσ
    rw [ho3] at ho3'; cases ho3'
    obtain ⟨hk0, hL0, _⟩ := R₃.free n x' _ hx hσ
    have hk0 := hk0 rfl
    have hf0 : x' ∉ X.fr := fun z => by obtain ⟨o, k1, _⟩ := G.ok.frk _ z; rw [hk0] at k1; cases k1
    have hc0 : ∀ (i : Nat) (d : Addr), X.locs[i]? = some (Loc.cell d) → d ≠ x' := fun i d h z => (R₃.cells i d h).1 (z ▸ Rel.mem hx)
    have hro : x' ∉ X.ros := fun z => by obtain ⟨o, k1⟩ := G.ok.ro _ z; rw [hk0] at k1; cases k1
    have R₄ := R₃.rest hx hσ ho3 hcls3 hdict hdata h2
    have G' := G.rest (A := A) hk0 hL0 hc0 hf0 hdata h2
    have SV' : SEnv (A.mark (some (.ref x'))) (X.rest x' oe) env := ⟨SV.L, SV.nf, SV.frame, SV.stack⟩
    refine bnd_elim (noerr_ok e2) fun ob st₂ g1 g2 => ?_
    obtain ⟨q1, rfl⟩ := deref_some g1
    rw [hσ] at q1; cases q1
    refine bnd_elim g2 fun _ st₃ g3 g4 => ?_
    have g3 := upd_some g3
    subst g3
    refine bnd_elim g4 fun _ st₄ g5 g6 => ?_
    refine bnd_elim g6 fun f st₅ g7 g8 => ?_
    refine st_slot G'.ok EO.quiet.rest SV'.L SV'.nf R₄ hy (.obj hx) () st₄ g5 _ _ fun ι₅ s₅ _ p₅ R₅ _ => ?_
    refine h₂ x' _ env ι₅ st₄ s₅ G' EO.quiet.rest SV' R₅ f st₅ g7 _ _ fun ι₆ s₆ fv p₆ R₆ hf => ?_
    cases f with
    | next => exact (fail_some g8).elim
    | ret a =>
      obtain ⟨v, rfl, hv⟩ := hf
      have hx6 : ι₆[n]? = some x' := (p₅.trans p₆).get hx
      have he6 : s₆.heap.get? x' = some oe := (R₆.frozen x' oe (if_pos rfl)).get hf0
      have hlt6 : n < st₅.σ.length := by rw [← R₆.len]; exact (List.getElem?_eq_some_iff.mp hx6).1
      have hσ6 : st₅.σ[n]? = some (.exr d) := by
        have h0 := List.getElem?_eq_getElem hlt6
        generalize st₅.σ[n] = ao at h0
        obtain ⟨f1, _, _⟩ := R₆.free n x' ao hx6 h0
        obtain ⟨a', o', k1, k2, k3⟩ := R₆.objs n ao h0
        rw [hx6] at k1; cases k1
        rw [he6] at k2; cases k2
        cases ao with
        | exr d' => have := k3.1; rw [hcls3] at this; cases this; exact h0
        | ro xs => obtain ⟨⟨_, _, k4, _⟩, _⟩ := k3; rw [hcls3] at k4; cases k4
        | _ => have := f1 rfl; rw [show (X.rest x' oe).Kp x' = some oe from if_pos rfl] at this; cases this
      refine bnd_elim g8 fun _ st₆ g9 g10 => ?_
      have g9 : st₆ = ⟨st₅.σ, st₅.ρ.map fun _ => none⟩ := by cases g9; rfl
      subst g9
      refine bnd_elim g10 fun _ st₇ g11 g12 => ?_
      have g11 := upd_some g11
      subst g11
      obtain ⟨rfl, rfl⟩ := ret_some g12
      obtain ⟨m, hm, _⟩ := R₆.ns
      have hm : s₆.heap.Ns env.locals m := by rw [SV.L]; exact hm
      refine wpAny_nameGoes (hl X env EO) hm (by simp [EO.kind]) fun h' m' hn' hs' => ?_
      rw [SV.L] at hn' hs'
      have R₇ := R₆.clrAll (tk := s₆.toks + 1) G'.ok hn' hs'
      exact kk ι₆ _ _ ((p₁.trans p₅).trans p₆) (R₇.wake hdata hk0 hro hx6 hσ6) ⟨v, rfl, hv⟩
end
end Mine
namespace Mine
open PySem PySem.W PyProof.Rows

section
variable {prog : Program} {w : World} {A : Around} {K : Frag} {hb : Heap} {P : AProg} {C : Calls}

theorem opt_some {α β : Type} {o : Option α} {f : α → Option β} {b : β} (h : o.bind f = some b) : ∃ a, o = some a ∧ f a = some b := Option.bind_eq_some_iff.mp h
theorem opt_elim {α β : Type} {o : Option α} {f : α → Option β} {b : β} {G : Prop} (h : o.bind f = some b) (k : ∀ a, o = some a → f a = some b → G) : G := by
  obtain ⟨a, h1, h2⟩ := opt_some h; exact k a h1 h2
theorem ite_some {α : Type} {p : Prop} [Decidable p] {o : Option α} {b : α} (h : (if p then o else none) = some b) : p ∧ o = some b := by
  split at h
  · rename_i q; exact ⟨q, h⟩
  · first | exact no_some h | cases h
theorem ite_someB {α : Type} {p : Bool} {o : Option α} {b : α} (h : (if p = true then o else none) = some b) : p = true ∧ o = some b := by
  cases p with
  | true => exact ⟨rfl, by simpa using h⟩
  | false => simp at h
theorem ite_some' {α : Type} {p : Prop} [Decidable p] {o : Option α} {b : α} (h : (if p then none else o) = some b) : ¬p ∧ o = some b := by
  split at h
  · first | exact no_some h | cases h
  · rename_i q; exact ⟨q, h⟩

theorem genOf_some {gens : List Comprehension} {g : Str × Expr × List Expr} (h : genOf gens = some g) : ∃ px, gens = [⟨.Name g.1 px, g.2.1, g.2.2, 0⟩] := by
  cases gens with
  | nil => exact no_some h
  | cons c r =>
    obtain ⟨hc, h⟩ := ite_someB h
    rw [Bool.and_eq_true] at hc
    have hr := List.isEmpty_iff.mp hc.1
    have ha := of_decide_eq_true hc.2
    refine opt_elim h fun x h1 h2 => ?_
    obtain ⟨p, hp⟩ := nameOf_at h1
    obtain ⟨t, it, fs, as⟩ := c
    have hp : t = .Name x p := hp
    have ha : as = 0 := ha
    have hg := Option.some.inj h2
    subst hp; subst ha; subst hg; subst hr
    exact ⟨p, rfl⟩
theorem tyOf_some {rs : Rsv} {t : Expr} {T : TY} (h : tyOf rs t = some T) : ∃ y p g, t = .Name y p ∧ y ≠ dbg ∧ rs.slot y = none ∧ rs.glob y = some g ∧ tyG g = some T := by
  refine opt_elim h fun y h1 h2 => ?_
  obtain ⟨p, hp⟩ := nameOf_at h1
  obtain ⟨hd, h3⟩ := ite_some' h2
  obtain ⟨hs, h4⟩ := ite_some' h3
  exact opt_elim h4 fun g hg h5 => ⟨y, p, g, hp, hd, by simpa using hs, hg, h5⟩
theorem tyG_ok {g : GV} {T : TY} (h : tyG g = some T) (u : Value) (hu : GOk K g u) : u = tyVal T := by
  cases g with
  | ty T' => cases h; exact hu.1
  | bi b => cases b <;> first | (cases h; exact hu) | cases h
  | _ => first | exact no_some h | cases h

theorem partsOf_some {i : Expr} {p : Option Expr × Option Expr} (h : partsOf i = some p) : ∃ ps, i = .Slice p.1 p.2 none ps := by
  cases i with
  | Slice a b c ps => cases c with
    | none => cases h; exact ⟨ps, rfl⟩
    | some _ => exact no_some h
  | _ => exact no_some h
theorem twoOf_some {es : List Expr} {p : Expr × Expr} (h : twoOf es = some p) : es = [p.1, p.2] := by
  match es, h with
  | [x, d], h => cases h; rfl
  | [], h => exact no_some h
  | [_], h => exact no_some h
  | _ :: _ :: _ :: _, h => exact no_some h
theorem tabOf_some {rs : Rsv} {o : Expr} {name : Str} {l : List (Str × AV)} (h : tabOf rs o name = some l) : ∃ y p, o = .Name y p ∧ name = "get" ∧ y ≠ dbg ∧ rs.slot y = none ∧ rs.glob y = some (.tab l) := by
  obtain ⟨hn, h⟩ := ite_some h
  refine opt_elim h fun y h1 h2 => ?_
  obtain ⟨p, hp⟩ := nameOf_at h1
  obtain ⟨hd, h3⟩ := ite_some' h2
  obtain ⟨hs, h4⟩ := ite_some' h3
  refine opt_elim h4 fun g hg h5 => ?_
  cases g with
  | tab l' =>
    have h5 : l' = l := Option.some.inj h5
    subst h5
    exact ⟨y, p, hp, hn, hd, by simpa using hs, hg⟩
  | _ => exact no_some h5
/-- the compiler's ground: the calls, where nothing is handled -/
structure StatX (prog : Program) (w : World) (K : Frag) (hb : Heap) (A : Around) (C : Calls) (rs : Rsv) : Prop extends StatOk K rs where
  orc : rs.quiet = false → Oracle prog w K hb A C
  qui : rs.quiet = true → A.handled ≠ none
theorem StatX.comp {rs : Rsv} (S : StatX prog w K hb A C rs) (names : List (Str × NameKind)) (x : Str) (k : Nat) : StatX prog w K hb A C (rsComp rs names x k) := ⟨⟨S.own, S.me, S.attr⟩, S.orc, S.qui⟩
theorem StatX.hush {rs : Rsv} (S : StatX prog w K hb A C rs) (v : Value) : StatX prog w K hb (A.mark (some v)) C { rs with quiet := true } := ⟨⟨S.own, S.me, S.attr⟩, (fun q => by cases q), (fun _ q => by cases q)⟩
theorem quiet_not {b : Bool} (h : ¬b = true) : b = false := by simpa using h
theorem isAny_some {b : BI} (h : isAny b = true) : b = .any := by cases b <;> first | rfl | cases h
theorem compile (HI : IsaK P K) : ∀ n,
    (∀ rs k e ae, StatX prog w K hb A C rs → cE n rs k e = some ae → S2 prog w K hb A P C rs k e ae) ∧
    (∀ rs k es aes, StatX prog w K hb A C rs → cEs n rs k es = some aes → SL prog w K hb A P C rs k es aes) := by
  intro n
  induction n with
  | zero =>
    refine ⟨fun _ _ _ _ _ h => ?_, fun _ _ _ _ _ h => ?_⟩
    · exact no_some h
    · exact no_some h
  | succ n ih =>
    obtain ⟨ihE, ihL⟩ := ih
    refine ⟨fun rs k e ae S h => ?_, fun rs k es aes S h => ?_⟩
    · have h : cEF (cE n) (cEs n) rs k e = some ae := h
      cases e with
      | Constant c kd pos =>
        cases c <;> first | exact some_in h (s_const rfl) | exact no_some h
      | Name x pos =>
        obtain ⟨hd, h⟩ := ite_some' h
        cases hs : rs.slot x with
        | some i => rw [hs] at h; exact some_in h (s_loc hs)
        | none =>
          rw [hs] at h
          refine opt_elim h fun g hg h => ?_
          cases g with
          | val v => exact some_in h (s_glob hd hs hg)
          | _ => exact no_some h
      | BinOp l op r pos =>
        refine opt_elim h fun l' h1 h => ?_
        refine opt_elim h fun r' h2 h => ?_
        refine some_in h ?_
        exact s_bin (ihE _ _ _ _ S h1) (ihE _ _ _ _ S h2)
      | UnaryOp op x pos =>
        refine opt_elim h fun x' h1 h => ?_
        cases op with
        | Not => exact some_in h (s_not (ihE _ _ _ _ S h1))
        | USub => exact some_in h (s_neg (ihE _ _ _ _ S h1))
        | _ => exact no_some h
      | BoolOp op xs pos =>
        refine opt_elim h fun x' h1 h => ?_
        cases op with
        | And => exact some_in h (s_and (ihL _ _ _ _ S h1))
        | Or => exact some_in h (s_or (ihL _ _ _ _ S h1))
      | Compare l ops rs' pos =>
        obtain ⟨hl, h⟩ := ite_some h
        refine opt_elim h fun l' h1 h => ?_
        refine opt_elim h fun r' h2 h => ?_
        refine some_in h ?_
        exact s_cmp (ihE _ _ _ _ S h1) (ihL _ _ _ _ S h2) hl
      | Call f args kw pos =>
        obtain ⟨hk, h'⟩ := ite_someB h
        clear h
        have hk : kw = [] := List.isEmpty_iff.mp hk
        subst hk
        have h := h'
        clear h'
        cases f with
        | Name g pg =>
          obtain ⟨hd, h⟩ := ite_some' h
          obtain ⟨hs, h⟩ := ite_some' h
          have hs : rs.slot g = none := by simpa using hs
          refine opt_elim h fun gv hg h => ?_
          cases gv with
          | fn a =>
            obtain ⟨hq, h⟩ := ite_some' h
            refine opt_elim h fun as h1 h => ?_
            refine some_in h ?_
            exact s_call (fun X ι st s us as G R hu => (S.orc (quiet_not hq)).call a X ι st s us as G R hu) hd hs hg (ihL _ _ _ _ S h1)
          | cls c a =>
            obtain ⟨hq, h⟩ := ite_some' h
            refine opt_elim h fun as h1 h => ?_
            refine some_in h ?_
            exact s_make (S.orc (quiet_not hq)) hd hs hg (ihL _ _ _ _ S h1)
          | bi b =>
            obtain ⟨hq, h⟩ := ite_some' h
            refine opt_elim h fun as h1 h => ?_
            refine some_in h ?_
            cases hr : rs.quiet with
            | true =>
              rw [hr] at hq
              have hb : isAny b = true := by simpa using hq
              obtain rfl := isAny_some hb
              exact s_any (S.qui hr) hd hs hg (ihL _ _ _ _ S h1)
            | false =>
            rw [hr] at hq
            exact s_bi (S.orc hr).hh (by simpa using hq) hd hs hg (ihL _ _ _ _ S h1)
          | isinst =>
            match args, h with
            | [x, t], h =>
              refine opt_elim h fun T h1 g => ?_
              clear h
              obtain ⟨y, py, g', rfl, hd', hs', hg', hty⟩ := tyOf_some h1
              obtain ⟨hns, g⟩ := ite_someB g
              refine opt_elim g fun x' h2 g => ?_
              refine some_in g ?_
              exact s_isi HI hd hs hg hd' hs' hg' (tyG_ok hty) hns (ihE _ _ _ _ S h2)
            | [], h => exact no_some h
            | [_], h => exact no_some h
            | _ :: _ :: _ :: _, h => exact no_some h
          | _ => exact no_some h
        | Attribute o name apos =>
          cases htb : tabOf rs o name with
          | some l =>
            have h : (match tabOf rs o name with | some l => (twoOf args).bind fun p => if !rs.quiet && notStar p.1 && notStar p.2 && decide (apos.endLine = pos.line) then (cE n rs k p.1).bind fun x' => (cE n rs k p.2).bind fun d' => some (AE.tget l x' d') else none | none => _) = some ae := h
            rw [htb] at h
            obtain ⟨y, py, rfl, rfl, hd, hs, hg⟩ := tabOf_some htb
            refine opt_elim h fun p h1 h => ?_
            obtain ⟨x, d⟩ := p
            have h1 := twoOf_some h1
            subst h1
            obtain ⟨hc, h⟩ := ite_someB h
            refine opt_elim h fun x' h1 h => ?_
            refine opt_elim h fun d' h2 h => ?_
            obtain ⟨⟨⟨q0, q1⟩, q2⟩, q3⟩ : ((rs.quiet = false ∧ notStar x = true) ∧ notStar d = true) ∧ apos.endLine = pos.line := by simpa using hc
            refine some_in h ?_
            exact s_tget (S.orc q0) hd hs hg q1 q2 q3 (ihE _ _ _ _ S h1) (ihE _ _ _ _ S h2)
          | none =>
          have h : (match tabOf rs o name with | some l => _ | none => if !rs.quiet && plainBase o && decide (apos.endLine = pos.line) && decide (args.length < 25) then (cE n rs k o).bind fun o' => (cEs n rs k args).bind fun as => (rs.meth name).bind fun mv => (match mv with
              | .me m => some (AE.meth o' m as)
              | .own c a => some (AE.own o' c a name as)) else none) = some ae := h
          rw [htb] at h
          obtain ⟨hp, h⟩ := ite_someB h
          refine opt_elim h fun o' h1 h => ?_
          refine opt_elim h fun as h2 h => ?_
          obtain ⟨⟨⟨hp0, hp1⟩, hp2⟩, hp3⟩ : ((rs.quiet = false ∧ plainBase o = true) ∧ apos.endLine = pos.line) ∧ args.length < 25 := by simpa using hp
          refine opt_elim h fun mv hm h => ?_
          cases mv with
          | me m =>
            refine some_in h ?_
            have := S.me name m hm
            subst this
            exact s_meth hp1 hp2 hp3 (ihE _ _ _ _ S h1) (ihL _ _ _ _ S h2)
          | own c a =>
            refine some_in h ?_
            exact s_own (S.orc hp0) hp1 hp2 hp3 (ihE _ _ _ _ S h1) (ihL _ _ _ _ S h2) (S.own name c a hm)
        | _ => exact no_some h
      | Attribute o name pos =>
        obtain ⟨hp, h⟩ := ite_someB h
        refine opt_elim h fun o' h1 h => ?_
        refine opt_elim h fun c h2 h => ?_
        refine some_in h ?_
        exact s_attr hp (ihE _ _ _ _ S h1) (S.attr name c h2)
      | Subscript o i pos =>
        unfold cEF at h
        dsimp only at h
        cases hsl : partsOf i with
        | some p =>
          rw [hsl] at h
          obtain ⟨ps, rfl⟩ := partsOf_some hsl
          refine opt_elim h fun o' h1 h => ?_
          refine opt_elim h fun a' h2 h => ?_
          refine opt_elim h fun b' h3 h => ?_
          refine some_in h ?_
          have opt : ∀ (q : Option Expr) (ae : AE), optE (cE n rs k) q = some ae → OptS prog w K hb A P C rs k q ae := fun q ae e => by
            cases q with
            | none => exact (Option.some.inj e).symm
            | some x => exact ihE _ _ _ _ S e
          exact s_slc (ihE _ _ _ _ S h1) (opt _ _ h2) (opt _ _ h3)
        | none =>
          rw [hsl] at h
          refine opt_elim h fun o' h1 h => ?_
          refine opt_elim h fun i' h2 h => ?_
          refine some_in h ?_
          exact s_sub (ihE _ _ _ _ S h1) (ihE _ _ _ _ S h2)
      | List xs pos =>
        refine opt_elim h fun xs' h1 h => ?_
        obtain ⟨hl, h⟩ := ite_some h
        refine some_in h ?_
        exact s_list (ihL _ _ _ _ S h1) hl
      | Tuple xs kd pos =>
        refine opt_elim h fun xs' h1 h => ?_
        obtain ⟨hl, h⟩ := ite_some h
        refine some_in h ?_
        exact s_tuple (ihL _ _ _ _ S h1) hl
      | Dict ks vs pos =>
        obtain ⟨hp, g⟩ := ite_someB h
        clear h
        obtain ⟨h1, h2⟩ : ks = [] ∧ vs = [] := by simpa using hp
        subst h1; subst h2
        refine some_in g ?_
        exact s_dict0
      | ListComp elt gens sc pos =>
        obtain ⟨⟨x, iter, ifs⟩, hgen, g⟩ := opt_some h
        clear h
        obtain ⟨px, rfl⟩ := genOf_some hgen
        dsimp only at g ⊢
        obtain ⟨hc, h⟩ := ite_someB g
        refine opt_elim h fun iter' h1 h => ?_
        refine opt_elim h fun elt' h2 h => ?_
        refine opt_elim h fun ifs' h3 h => ?_
        refine some_in h ?_
        obtain ⟨⟨⟨⟨h4, h5⟩, h6⟩, h7⟩, h8⟩ : (((rs.quiet = false ∧ sc.kind = .function) ∧ compNames rs sc.names x = true) ∧ k < rs.N) ∧ notStar iter = true := by simpa using hc
        exact s_comp (S.orc h4).hh (ihE _ _ _ _ S h1) (ihE _ _ _ _ (S.comp _ _ _) h2) (ihL _ _ _ _ (S.comp _ _ _) h3) h5 h6 h7 h8
      | _ => exact no_some h
    · have h : cLF (cE n) (cEs n) rs k es = some aes := h
      cases es with
      | nil => exact some_in h (.nil)
      | cons e r =>
        obtain ⟨hn, h⟩ := ite_someB h
        refine opt_elim h fun e' h1 h => ?_
        refine opt_elim h fun r' h2 h => ?_
        refine some_in h ?_
        exact .cons hn (ihE _ _ _ _ S h1) (ihL _ _ _ _ S h2)

theorem handOf_some {rs : Rsv} {hs : List ExceptHandler} {r : Addr × AS} (h : handOf rs hs = some r) : ∃ x np t hp, hs = [.ExceptHandler (some (.Name x np)) none [t] hp] ∧ x ≠ dbg ∧ rs.slot x = none ∧ rs.glob x = some (.ty (.exc r.1)) ∧ calmOf rs t = some r.2 := by
  obtain ⟨⟨t, n, b⟩, h1, hu⟩ := opt_some h
  obtain ⟨hn, hv⟩ := ite_someB hu
  obtain ⟨e, h2, hw⟩ := opt_some hv
  obtain ⟨c, h3, hx⟩ := opt_some hw
  obtain ⟨x, p, q, hd, hs', hg⟩ := excOf_some h3
  clear h hu hv hw h3
  subst q
  have h2 : t = some _ := h2
  have hm : n = none := Option.isNone_iff_eq_none.mp hn
  clear hn
  subst h2; subst hm
  cases hs with
  | nil => exact no_some h1
  | cons h0 r0 =>
    obtain ⟨hr, hy⟩ := ite_someB h1
    clear h1
    cases List.isEmpty_iff.mp hr
    cases h0 with
    | ExceptHandler t' n' b' hp =>
      cases hy
      cases b with
      | nil => exact no_some hx
      | cons s r1 => cases r1 with
        | cons _ _ => exact no_some hx
        | nil =>
          obtain ⟨s', h4, hz⟩ := opt_some hx
          cases hz
          exact ⟨x, p, s, hp, rfl, hd, hs', hg, h4⟩
theorem asOfH_some {rs : Rsv} {hs : List ExceptHandler} {r : Addr × Nat × List Stmt} (h : asOfH rs hs = some r) : ∃ x np y t0 th hp, hs = [.ExceptHandler (some (.Name x np)) (some y) (t0 :: th) hp] ∧ r.2.2 = t0 :: th ∧ x ≠ dbg ∧ rs.slot x = none ∧ rs.glob x = some (.ty (.exc r.1)) ∧ rs.slot y = some r.2.1 ∧ rs.cel y = false := by
  obtain ⟨⟨t, n, b⟩, h1, hu⟩ := opt_some h
  obtain ⟨y, hn, hv⟩ := opt_some hu
  obtain ⟨i, hi, hv⟩ := opt_some hv
  obtain ⟨e, h2, hw⟩ := opt_some hv
  obtain ⟨c, h3, hx⟩ := opt_some hw
  obtain ⟨x, p, q, hd, hs', hg⟩ := excOf_some h3
  obtain ⟨hc, hz⟩ := ite_some' hx
  clear h hu hv hw h3 hx
  subst q
  have h2 : t = some _ := h2
  have hn : n = some y := hn
  subst h2; subst hn
  cases hz
  cases hs with
  | nil => exact no_some h1
  | cons h0 r0 =>
    obtain ⟨hr, hy⟩ := ite_someB h1
    clear h1
    cases List.isEmpty_iff.mp hr
    cases h0 with
    | ExceptHandler t' n' b' hp =>
      cases hy
      have hc : ¬(rs.cel y || b.isEmpty) = true := hc
      rw [Bool.or_eq_true, not_or] at hc
      cases b with
      | nil => exact (hc.2 rfl).elim
      | cons t0 th => exact ⟨x, p, y, t0, th, hp, rfl, rfl, hd, hs', hg, hi, quiet_not hc.1⟩
theorem sq_tryas {rs : Rsv} {k : Nat} {ts : List Stmt} {ats ath : List AS} {pos : Pos} {hs : List ExceptHandler} {c : Addr} {i : Nat} : SQ prog w K hb A P C rs k (.Try ts hs [] [] pos) (.tryas ats c i ath) := by
  intro X env ι st s G EO SV R r st' ee Q E kk
  rcases onErrs_eq ee with ⟨f, st₁, hb', q⟩ | ⟨n, st₁, d, hb', hσ, hk, e2⟩
  · cases q
  · exact (noerr_no e2).elim
theorem compileS (HI : IsaK P K) (HA : ∀ c d, P.isa d (some c) = some true → AncK K d c) : ∀ n,
    (∀ A rs k t at', StatX prog w K hb A C rs → cS n rs k t = some at' → SS prog w K hb A P C rs k t at') ∧
    (∀ A rs k ts ats, StatX prog w K hb A C rs → cSs n rs k ts = some ats → SSs prog w K hb A P C rs k ts ats) := by
  intro n
  induction n with
  | zero =>
    refine ⟨fun _ _ _ _ _ _ h => ?_, fun _ _ _ _ _ _ h => ?_⟩
    · exact no_some h
    · exact no_some h
  | succ n ih =>
    obtain ⟨ihS, ihSs⟩ := ih
    refine ⟨fun A rs k t at' S h => ?_, fun A rs k ts ats S h => ?_⟩
    all_goals
      have ihE := (compile (prog := prog) (w := w) (hb := hb) (A := A) (C := C) (P := P) HI n).1
    · have h : cSF n (cSs n) rs k t = some at' := h
      cases t with
      | Expr e pos =>
        obtain ⟨hc, h⟩ := ite_some' h
        refine opt_elim h fun e' h1 h => ?_
        refine some_in h ?_
        have hc : isComp e = false := by simpa using hc
        exact ⟨ss_expr hc (ihE _ _ _ _ S h1), sq_expr hc (ihE _ _ _ _ S h1)⟩
      | Pass pos => exact some_in h ⟨ss_pass, sq_pass⟩
      | Return v pos =>
        cases v with
        | none => exact some_in h ⟨ss_ret0, sq_ret0⟩
        | some e =>
          refine opt_elim h fun e' h1 h => ?_
          refine some_in h ?_
          exact ⟨ss_ret (ihE _ _ _ _ S h1), sq_ret (ihE _ _ _ _ S h1)⟩
      | Assign ts v pos =>
        match ts, h with
        | [t], h =>
          refine opt_elim h fun v' h1 h => ?_
          refine opt_elim h fun t' h2 h => ?_
          refine some_in h ?_
          cases t with
          | Name x p =>
            refine opt_elim h2 fun i h3 h2 => ?_
            obtain rfl := Option.some.inj h2
            cases hc : isComp v with
            | false => exact ⟨ss_assign_name h3 hc (ihE _ _ _ _ S h1), sq_assign_name hc (ihE _ _ _ _ S h1)⟩
            | true =>
              cases n with
              | zero => exact no_some h1
              | succ n =>
                have h1 : cEF (cE n) (cEs n) rs k v = some v' := h1
                cases v with
                | ListComp elt gens sc pos =>
                  obtain ⟨jE, jL⟩ := compile (prog := prog) (w := w) (hb := hb) (A := A) (C := C) (P := P) HI n
                  obtain ⟨⟨x, iter, ifs⟩, hgen, g⟩ := opt_some h1
                  clear h1
                  obtain ⟨px, rfl⟩ := genOf_some hgen
                  dsimp only at g ⊢
                  obtain ⟨hc, g⟩ := ite_someB g
                  refine opt_elim g fun iter' q1 g => ?_
                  refine opt_elim g fun elt' q2 g => ?_
                  refine opt_elim g fun ifs' q4 g => ?_
                  obtain rfl := Option.some.inj g
                  obtain ⟨⟨⟨⟨h4, h5⟩, h6⟩, h7⟩, h8⟩ : (((rs.quiet = false ∧ sc.kind = .function) ∧ compNames rs sc.names x = true) ∧ k < rs.N) ∧ notStar iter = true := by simpa using hc
                  exact ⟨ss_assign_comp (S.orc h4).hh h3 (jE _ _ _ _ S q1) (jE _ _ _ _ (S.comp _ _ _) q2) (jL _ _ _ _ (S.comp _ _ _) q4) h5 h6 h7 h8, sq_assign_calm rfl⟩
                | SetComp _ _ _ _ => exact no_some h1
                | DictComp _ _ _ _ _ => exact no_some h1
                | _ => first | exact no_some hc | cases hc
          | Attribute o name p =>
            refine opt_elim h2 fun o' h3 h2 => ?_
            refine opt_elim h2 fun c h4 h2 => ?_
            obtain rfl := Option.some.inj h2
            exact ⟨ss_assign_attr (ihE _ _ _ _ S h3) (S.attr name c h4) (ihE _ _ _ _ S h1), sq_assign_attr (ihE _ _ _ _ S h1)⟩
          | Subscript o i p =>
            obtain ⟨h0, h2⟩ := ite_some' h2
            refine opt_elim h2 fun o' h3 h2 => ?_
            refine opt_elim h2 fun i' h4 h2 => ?_
            obtain rfl := Option.some.inj h2
            exact ⟨ss_assign_sub (ihE _ _ _ _ S h3) (ihE _ _ _ _ S h4) (ihE _ _ _ _ S h1), sq_assign_sub (ihE _ _ _ _ S h1)⟩
          | _ => exact no_some h2
        | [], h => exact no_some h
        | _ :: _ :: _, h => exact no_some h
      | If t b o pos =>
        refine opt_elim h fun t' h1 h => ?_
        refine opt_elim h fun b' h2 h => ?_
        refine opt_elim h fun o' h3 h => ?_
        refine some_in h ?_
        exact ⟨ss_if (ihE _ _ _ _ S h1) (ihSs _ _ _ _ _ S h2).o (ihSs _ _ _ _ _ S h3).o, sq_if (ihE _ _ _ _ S h1) (ihSs _ _ _ _ _ S h2).x (ihSs _ _ _ _ _ S h3).x⟩
      | For t iter b o pos =>
        obtain ⟨hn, h'⟩ := ite_someB h
        clear h
        obtain ⟨⟨hq, hn⟩, hst⟩ : (rs.quiet = false ∧ o = []) ∧ notStar iter = true := by simpa using hn
        subst hn
        have h := h'
        clear h'
        refine opt_elim h fun x h0 h => ?_
        refine opt_elim h fun i h1 h => ?_
        refine opt_elim h fun iter' h2 h => ?_
        refine opt_elim h fun b' h3 h => ?_
        refine some_in h ?_
        cases t with
        | Name y p => cases h0; exact ⟨ss_for (S.orc hq).hh h1 hst (ihE _ _ _ _ S h2) (ihSs _ _ _ _ _ S h3).o, sq_for (S.orc hq).hh h1 hst (ihE _ _ _ _ S h2) (ihSs _ _ _ _ _ S h3)⟩
        | _ => first | exact no_some h0 | cases h0
      | Try b hs o f pos =>
        obtain ⟨hn, h'⟩ := ite_someB h
        clear h
        obtain ⟨⟨hq, hn1⟩, hn2⟩ : (rs.quiet = false ∧ o = []) ∧ f = [] := by simpa using hn
        subst hn1; subst hn2
        have h' : (match handOf rs hs with
          | some h => (cSs n rs k b).bind fun b' => some (AS.try b' h.1 [h.2])
          | none => (asOfH rs hs).bind fun h => (cSs n rs k b).bind fun b' => (cSs n { rs with quiet := true } k h.2.2).bind fun h' => some (AS.tryas b' h.1 h.2.1 h')) = some at' := h'
        cases h1 : handOf rs hs with
        | none =>
          rw [h1] at h'
          refine opt_elim h' fun hd h1 h => ?_
          refine opt_elim h fun b' h2 h => ?_
          refine opt_elim h fun hd' h3 h => ?_
          refine some_in h ?_
          obtain ⟨x, np, y, t0, th, hp, rfl, he, hd1, hs, hg, hy, hc⟩ := asOfH_some h1
          rw [he] at h3
          exact ⟨ss_tryas hd1 hs hg hy (fun X env EO => EO.loc y _ hy hc) (HA hd.1) (ihSs _ _ _ _ _ S h2) (fun eh => (ihSs _ _ _ _ _ (S.hush (.ref eh)) h3).o), sq_tryas⟩
        | some hd =>
        rw [h1] at h'
        refine opt_elim h' fun b' h2 h => ?_
        refine some_in h ?_
        obtain ⟨x, np, t, hp, rfl, hd1, hs, hg, hc⟩ := handOf_some h1
        exact ⟨ss_try hd1 hs hg hc (ihSs _ _ _ _ _ S h2), sq_try⟩
      | Raise e c pos =>
        obtain ⟨hq, h⟩ := ite_some' h
        cases hdd : deadOf rs e with
        | true =>
        have h : (if deadOf rs e = true then some AS.dead else if c.isNone = true then (raiseOf rs e).bind fun r => some (.raise r.1 r.2) else none) = some at' := h
        rw [hdd, if_pos rfl] at h
        exact some_in h ⟨fun _ _ _ _ _ _ _ _ _ _ _ q => (by cases q), fun _ _ _ _ _ _ _ _ _ _ _ q => (by cases q)⟩
        | false =>
        have h : (if deadOf rs e = true then some AS.dead else if c.isNone = true then (raiseOf rs e).bind fun r => some (.raise r.1 r.2) else none) = some at' := h
        rw [hdd, if_neg (by decide)] at h
        obtain ⟨hn, h⟩ := ite_someB h
        refine opt_elim h fun r h1 h => ?_
        refine some_in h ?_
        have hn : c = none := Option.isNone_iff_eq_none.mp hn
        subst hn
        refine ⟨fun X env ι st s G EO SV R r' st' e Q E kk => ?_, sq_raise (S.orc (quiet_not hq)).hh h1⟩
        rw [ax_raise] at e
        refine bnd_elim e fun v st₁ g1 g2 => ?_
        obtain ⟨rfl, rfl⟩ := alloc_some g1
        cases g2
      | _ => exact no_some h
    · have h : cTF (cS n) (cSs n) rs k ts = some ats := h
      cases ts with
      | nil => exact some_in h ⟨ss_nil, sq_nil⟩
      | cons t r =>
        refine opt_elim h fun t' h1 h => ?_
        refine opt_elim h fun r' h2 h => ?_
        refine some_in h ?_
        exact ⟨ss_cons (ihS _ _ _ _ _ S h1).o (ihSs _ _ _ _ _ S h2).o, sq_cons (ihS _ _ _ _ _ S h1) (ihSs _ _ _ _ _ S h2).x⟩
end
end Mine
namespace Mine
open PySem PySem.W PyProof.Rows

noncomputable def slotOf : List (Str × Bool) → Str → Option Nat
  | [], _ => none
  | (y, _) :: r, x => if y = x then some 0 else (slotOf r x).map (· + 1)
noncomputable def rsOf (vars : List (Str × Bool)) (N : Nat) (names : List (Str × NameKind)) (globs : List (Str × GV)) (meths : List (Str × MV)) (attrs : List (Str × Addr)) : Rsv where
  N := N
  slot := slotOf vars
  glob := fun x => if names.lookup x = some .globalImplicit then globs.lookup x else none
  meth := fun x => meths.lookup x
  attr := fun x => attrs.lookup x
  cel := fun x => decide (vars.lookup x = some true)
  gtab := fun x => globs.lookup x
  quiet := false

theorem slotOf_some : ∀ {vars : List (Str × Bool)} {x : Str} {i : Nat}, slotOf vars x = some i → ∃ b, vars[i]? = some (x, b)
  | [], _, _, h => by cases h
  | (y, b) :: r, x, i, h => by
    unfold slotOf at h
    split at h
    · rename_i e; cases h; subst e; exact ⟨b, rfl⟩
    · obtain ⟨j, hj, rfl⟩ := Option.map_eq_some_iff.mp h
      obtain ⟨c, hc⟩ := slotOf_some hj
      exact ⟨c, by simpa using hc⟩
theorem slotOf_look : ∀ {vars : List (Str × Bool)} {x : Str} {i : Nat}, slotOf vars x = some i → ∃ b, vars[i]? = some (x, b) ∧ vars.lookup x = some b
  | [], _, _, h => by cases h
  | (y, b) :: r, x, i, h => by
    unfold slotOf at h
    rw [List.lookup_cons]
    split at h
    · rename_i e; cases h; subst e; exact ⟨b, rfl, by simp⟩
    · rename_i e
      obtain ⟨j, hj, rfl⟩ := Option.map_eq_some_iff.mp h
      obtain ⟨c, hc, hl⟩ := slotOf_look hj
      refine ⟨c, by simpa using hc, ?_⟩
      rw [show (x == y) = false from beq_eq_false_iff_ne.mpr (Ne.symm e)]
      exact hl
theorem slotOf_lookup : ∀ {vars : List (Str × Bool)} {x : Str} {b : Bool}, vars.lookup x = some b → ∃ i, slotOf vars x = some i ∧ vars[i]? = some (x, b)
  | [], _, _, h => by cases h
  | (y, c) :: r, x, b, h => by
    rw [List.lookup_cons] at h
    unfold slotOf
    split at h
    · rename_i e
      have e := beq_iff_eq.mp e
      cases h
      subst e
      exact ⟨0, by simp, rfl⟩
    · rename_i e
      have e := beq_eq_false_iff_ne.mp e
      obtain ⟨i, h1, h2⟩ := slotOf_lookup h
      exact ⟨i + 1, by rw [if_neg (Ne.symm e), h1]; rfl, by simpa using h2⟩

/-- what one def is -/
inductive FnEx (K : Frag) (f : Addr) (np N : Nat) (abody : List AS) (vars : List (Str × Bool)) (globs : List (Str × GV)) (meths : List (Str × MV)) (attrs : List (Str × Addr)) : Prop
  | mk (o : Obj) (fd : FuncData) (body : List Stmt) (n : Nat) (e1 : K.lookup f = some o) (e2 : o.data = .func fd) (e3 : fd.closure = []) (e4 : fd.globals = mainGlobals) (e5 : fd.builtins = builtinsNs) (e6 : fd.body = .stmts body) (e7 : fd.scope.isCoroutine = false) (e8 : fd.scope.isGenerator = false) (e9 : fd.scope.kind = .function) (e10 : codeIn K fd.code fd.qualname = true) (e11 : ∀ us : List Value, us.length = np → bindArgs fd ⟨us, []⟩ = pure (((vars.take np).map (·.1)).zip us)) (e12 : cSs n (rsOf vars N fd.scope.names globs meths attrs) vars.length body = some abody) (e13 : ∀ p ∈ vars, p.1 ≠ dbg ∧ p.1 ≠ cld ∧ fd.scope.names.lookup p.1 = some (if p.2 then .cell else .local)) (e14 : ∀ p ∈ fd.scope.names, p.2 ≠ .free) : FnEx K f np N abody vars globs meths attrs
structure FnOk (K : Frag) (f : Addr) (np N : Nat) (abody : List AS) (vars : List (Str × Bool)) (globs : List (Str × GV)) (meths : List (Str × MV)) (attrs : List (Str × Addr)) : Prop where
  ex : FnEx K f np N abody vars globs meths attrs
  len : vars.length ≤ N
  np : np ≤ vars.length
  nodup : (vars.map (·.1)).Nodup

noncomputable def StatOk' (K : Frag) (globs : List (Str × GV)) (meths : List (Str × MV)) (attrs : List (Str × Addr)) : Prop :=
  (∀ name c f, meths.lookup name = some (.own c f) → findIn K (.ref c) "__getattribute__" = some (some (.builtin "object.__getattribute__")) ∧ findIn K (.ref c) "__getattr__" = some none ∧
    findIn K (.ref c) name = some (some (.ref f)) ∧ typeIn K (.ref f) = some (.type "function") ∧ keepIn K (.ref f) = true) ∧
  (∀ name m, meths.lookup name = some (.me m) → name = Str.ofString (meName m)) ∧
  (∀ name c, attrs.lookup name = some c → AttrOk K c name) ∧
  (∀ x g, globs.lookup x = some g → ∃ v, GOk K g v ∧ (nsIn K mainGlobals x = some (some v) ∨ (nsIn K mainGlobals x = some none ∧ bootBuiltins x = some v ∧ x ≠ nm)))

section
variable {prog : Program} {w : World} {A : Around} {X : Cx} {ι : List Addr} {st : ASt} {s : Shared} {v u : Value} {a b : AV} {K : Frag} {hb : Heap} {env : Env} {rs : Rsv} {k : Nat}
  {P : AProg} {C : Calls}

theorem bindL_skip {kind : Str → Option NameKind} {x : Str} : ∀ {l : List (Str × Value)} {m : Str → Option Value}, x ∉ l.map (·.1) → bindL kind l m x = m x
  | [], _, _ => rfl
  | (n, v) :: r, m, h => by
    simp only [List.map_cons, List.mem_cons, not_or] at h
    unfold bindL
    rw [bindL_skip h.2]
    split
    · simp [h.1]
    · rfl
theorem bindL_get {kind : Str → Option NameKind} {x : Str} {v : Value} (hk : kind x = some .local) : ∀ {l : List (Str × Value)} {m : Str → Option Value}, (l.map (·.1)).Nodup → (x, v) ∈ l → bindL kind l m x = some v
  | [], _, _, h => by cases h
  | (n, u) :: r, m, hn, h => by
    simp only [List.map_cons, List.nodup_cons] at hn
    unfold bindL
    rcases List.mem_cons.mp h with h | h
    · first | exact no_some h | cases h
      rw [bindL_skip hn.1, if_pos hk]; simp
    · exact bindL_get hk hn.2 h
theorem bindC_skip {kind : Str → Option NameKind} {x : Str} : ∀ {l : List (Str × Value)} {m : Str → Option Value}, x ∉ l.map (·.1) → bindC kind l m x = m x
  | [], _, _ => rfl
  | (n, v) :: r, m, h => by
    simp only [List.map_cons, List.mem_cons, not_or] at h
    unfold bindC
    rw [bindC_skip h.2]
    split
    · rfl
    · simp [h.1]
theorem bindC_get {kind : Str → Option NameKind} {x : Str} {v : Value} (hk : kind x ≠ some .local) : ∀ {l : List (Str × Value)} {m : Str → Option Value}, (l.map (·.1)).Nodup → (x, v) ∈ l → bindC kind l m x = some v
  | [], _, _, h => by cases h
  | (n, u) :: r, m, hn, h => by
    simp only [List.map_cons, List.nodup_cons] at hn
    unfold bindC
    rcases List.mem_cons.mp h with h | h
    · first | exact no_some h | cases h
      rw [bindC_skip hn.1, if_neg hk]; simp
    · exact bindC_get hk hn.2 h

theorem cellsFrom_acc : ∀ (names : List (Str × NameKind)) (n : Nat) (acc : List (Str × Addr)) (x : Str), (acc.lookup x).isSome = true → ((cellsFrom n names acc).lookup x).isSome = true
  | [], _, _, _, h => h
  | (y, kd) :: r, n, acc, x, h => by
    unfold cellsFrom
    split
    · apply cellsFrom_acc
      rw [List.lookup_cons]
      split
      · rfl
      · exact h
    · exact cellsFrom_acc r n acc x h
theorem cellsFrom_has : ∀ (names : List (Str × NameKind)) (n : Nat) (acc : List (Str × Addr)) (x : Str), (x, NameKind.cell) ∈ names → ((cellsFrom n names acc).lookup x).isSome = true
  | [], _, _, _, h => by cases h
  | (y, kd) :: r, n, acc, x, h => by
    unfold cellsFrom
    rcases List.mem_cons.mp h with h | h
    · first | exact no_some h | cases h
      rw [if_pos (by decide)]
      apply cellsFrom_acc
      simp
    · split <;> exact cellsFrom_has r _ _ x h

/-- the callee's ground -/
noncomputable def locsOf (cells : List (Str × Addr)) (vars : List (Str × Bool)) (N : Nat) : List Loc :=
  vars.map (fun p => if p.2 then (match cells.lookup p.1 with | some c => Loc.cell c | none => Loc.gone) else Loc.loc p.1) ++ List.replicate (N - vars.length) Loc.gone
noncomputable def Cx.enter (X : Cx) (ι : List Addr) (h : Heap) (L : Addr) (locs : List Loc) (fr : List Addr) : Cx := { Kp := fun b => if b ∈ ι then X.Kp b else h.get? b, L := L, locs := locs, s₀ := X.s₀, ros := X.ros, fr := fr }

theorem locsOf_get {cells : List (Str × Addr)} {vars : List (Str × Bool)} {N i : Nat} {l : Loc} (h : (locsOf cells vars N)[i]? = some l) (hg : l ≠ Loc.gone) :
    ∃ x b, vars[i]? = some (x, b) ∧ ((b = false ∧ l = Loc.loc x) ∨ (b = true ∧ ∃ c, cells.lookup x = some c ∧ l = Loc.cell c)) := by
  unfold locsOf at h
  by_cases hi : i < vars.length
  · rw [List.getElem?_append_left (by simpa using hi), List.getElem?_map] at h
    obtain ⟨p, hp, rfl⟩ := Option.map_eq_some_iff.mp h
    obtain ⟨x, b⟩ := p
    refine ⟨x, b, hp, ?_⟩
    cases b with
    | false => exact .inl ⟨rfl, rfl⟩
    | true =>
      simp only [if_true] at hg ⊢
      cases q : cells.lookup x with
      | none => simp [q] at hg
      | some c => exact .inr ⟨trivial, c, rfl, rfl⟩
  · rw [List.getElem?_append_right (by simpa using hi)] at h
    exact absurd (List.eq_of_mem_replicate (List.mem_of_getElem? h)) hg
theorem locsOf_at {cells : List (Str × Addr)} {vars : List (Str × Bool)} {N i : Nat} {x : Str} {b : Bool} (h : vars[i]? = some (x, b)) :
    (locsOf cells vars N)[i]? = some (if b then (match cells.lookup x with | some c => Loc.cell c | none => Loc.gone) else Loc.loc x) := by
  unfold locsOf
  have hi := (List.getElem?_eq_some_iff.mp h).1
  rw [List.getElem?_append_left (by simpa using hi), List.getElem?_map, h]
  rfl

theorem nodup_fst {α β : Type} {l : List (α × β)} (hn : (l.map (·.1)).Nodup) {i j : Nat} {x : α} {b c : β} (h1 : l[i]? = some (x, b)) (h2 : l[j]? = some (x, c)) : i = j := by
  have e1 : (l.map (·.1))[i]? = some x := by rw [List.getElem?_map, h1]; rfl
  have e2 : (l.map (·.1))[j]? = some x := by rw [List.getElem?_map, h2]; rfl
  obtain ⟨hi, f1⟩ := List.getElem?_eq_some_iff.mp e1
  obtain ⟨hj, f2⟩ := List.getElem?_eq_some_iff.mp e2
  exact (List.getElem_inj hn).mp (f1.trans f2.symm)

theorem pair_apart {cs : List (Str × Addr)} (h : cs.Pairwise fun x y => x.2 ≠ y.2) {x y : Str} {c : Addr} (h1 : cs.lookup x = some c) (h2 : cs.lookup y = some c) : x = y := by
  induction cs with
  | nil => first | exact no_some h1 | cases h1
  | cons p r ih =>
    rw [List.pairwise_cons] at h
    rw [List.lookup_cons] at h1 h2
    have mem : ∀ {z : Str}, r.lookup z = some c → (z, c) ∈ r := by
      intro z hz
      clear ih h h1 h2
      induction r with
      | nil => first | exact no_some hz | cases hz
      | cons q r' ih' =>
        rw [List.lookup_cons] at hz
        split at hz
        · rename_i e; cases hz; rw [beq_iff_eq.mp e]; exact .head _
        · exact .tail _ (ih' hz)
    split at h1
    · rename_i e1
      cases h1
      split at h2
      · rename_i e2; rw [beq_iff_eq.mp e1, beq_iff_eq.mp e2]
      · exact (h.1 (y, _) (mem h2) rfl).elim
    · split at h2
      · cases h2; exact (h.1 (x, _) (mem h1) rfl).elim
      · exact ih h.2 h1 h2

theorem Rel.nofr (R : Rel prog w X ι st s) (ok : CxOk X) {b : Addr} (hm : b ∈ ι) : b ∉ X.fr ∧ b ≠ X.L := by
  obtain ⟨i, ao, ob, hi, hs, _⟩ := R.mem_get hm
  obtain ⟨f1, f2, f3⟩ := R.free i b ao hi hs
  refine ⟨fun q => ?_, f2⟩
  cases hr : isRo ao with
  | false => obtain ⟨o, h, _⟩ := ok.frk b q; rw [f1 hr] at h; cases h
  | true => exact ok.rof b (f3 hr) q
theorem Rel.kpOut (R : Rel prog w X ι st s) {L : Addr} {locs : List Loc} {fr : List Addr} {b : Addr} {o : Obj} (e : X.Kp b = some o) : ∃ o', (X.enter ι s.heap L locs fr).Kp b = some o' := by
  show ∃ o', (if b ∈ ι then X.Kp b else s.heap.get? b) = some o'
  split
  · exact ⟨o, e⟩
  · obtain ⟨o', h, _⟩ := R.frozen b o e; exact ⟨o', h⟩
theorem Rel.kpNone (R : Rel prog w X ι st s) {L : Addr} {locs : List Loc} {fr : List Addr} {b : Addr} (e : (X.enter ι s.heap L locs fr).Kp b = none) : X.Kp b = none := by
  cases q : X.Kp b with
  | none => rfl
  | some o => obtain ⟨o', h⟩ := R.kpOut (L := L) (locs := locs) (fr := fr) q; rw [h] at e; cases e
theorem enter_out {L : Addr} {locs : List Loc} {fr : List Addr} {h : Heap} {b : Addr} {o : Obj} (hn : b ∉ ι) (e : h.get? b = some o) : (X.enter ι h L locs fr).Kp b = some o := by
  show (if b ∈ ι then X.Kp b else h.get? b) = some o
  rw [if_neg hn]; exact e
/-- back from a call -/
theorem Rel.back (R : Rel prog w X ι st s) (ok : CxOk X) {L : Addr} {locs : List Loc} {fr : List Addr} (hfr : ∀ b ∈ fr, b = X.L ∨ b ∈ X.fr) {ι' : List Addr} {st' : ASt} {s' : Shared} (p : Pre ι ι') (R' : Rel prog w (X.enter ι s.heap L locs fr) ι' st' s') : Rel prog w X ι' ⟨st'.σ, st.ρ⟩ s' := by
  have Lnot : X.L ∉ ι := fun hm => (R.nofr ok hm).2 rfl
  have notin : ∀ {b : Addr} {o : Obj}, b ∉ ι → s.heap.get? b = some o → X.Kp b = none → b ∉ ι' := by
    intro b o h1 h2 h3 hm
    obtain ⟨i, ao, ob, hi, hs, _⟩ := R'.mem_get hm
    obtain ⟨f1, _, f3⟩ := R'.free i b ao hi hs
    cases q : isRo ao with
    | false => rw [enter_out h1 h2] at f1; exact absurd (f1 q) (by simp)
    | true => obtain ⟨o', h'⟩ := ok.ro b (f3 q); rw [h3] at h'; cases h'
  obtain ⟨m, ⟨oL, es, ep, hL, hd, hr⟩, hmv⟩ := R.ns
  refine ⟨fun b o e => ?_, ⟨m, ?_, fun i x b h1 h2 => ?_⟩, R'.len, R'.nodup, ?_, R'.objs, ?_, ?_, R.rlen, R'.shape⟩
  · by_cases hι : b ∈ ι
    · have e' : (X.enter ι s.heap L locs fr).Kp b = some o := by show (if b ∈ ι then X.Kp b else s.heap.get? b) = some o; rw [if_pos hι]; exact e
      exact ⟨o, (R'.frozen b o e').get fun q => (hfr b q).elim (R.nofr ok hι).2 (R.nofr ok hι).1, .inl rfl⟩
    · obtain ⟨o₁, h1, q⟩ := R.frozen b o e
      obtain ⟨o₂, h2, rfl | ⟨hf, sl, rfl⟩⟩ := R'.frozen b o₁ (enter_out hι h1)
      · exact ⟨_, h2, q⟩
      · rcases hfr b hf with rfl | hf
        · rw [ok.kL] at e; cases e
        · refine ⟨_, h2, .inr ⟨hf, sl, ?_⟩⟩
          rcases q with rfl | ⟨_, sl', rfl⟩
          · rfl
          · rfl
  · obtain ⟨o', e1, e2⟩ := (R'.frozen _ _ (enter_out Lnot hL)).data
    exact ⟨o', es, ep, e1, e2.trans hd, hr⟩
  · obtain ⟨v, e1, e2⟩ := hmv i x b h1 h2; exact ⟨v, e1, e2.mono p⟩
  · intro i c ao hi hs
    obtain ⟨f1, _, f3⟩ := R'.free i c ao hi hs
    exact ⟨fun q => R.kpNone (f1 q), fun q => notin Lnot hL ok.kL (q ▸ Rel.mem hi), f3⟩
  · intro i c hc
    obtain ⟨h1, ob, v, h2, h3, h4⟩ := R.cells i c hc
    obtain ⟨o', e1, e2⟩ := (R'.frozen _ _ (enter_out h1 h2)).data
    exact ⟨notin h1 h2 (ok.kc i c hc).1, o', v, e1, e2.trans h3, fun b hb => by obtain ⟨u, e1, e2⟩ := h4 b hb; exact ⟨u, e1, e2.mono p⟩⟩
  · intro i D x hc b hb
    obtain ⟨ob, es, ep, v, h1, h2, h3, h4, h5⟩ := R.comps i D x hc b hb
    exact ⟨ob, es, ep, v, h1, h2, h3, h4, h5.mono p⟩
theorem Tr.back (R : Rel prog w X ι st s) (ok : CxOk X) {L : Addr} {locs : List Loc} {fr : List Addr} {ι' : List Addr} {σ : List AO} {e : Nat} {fl v : Value} {h : Heap} (p : Pre ι ι') (T : Tr (X.enter ι s.heap L locs fr) ι' σ e fl h v) : Tr X ι' σ e fl h v := by
  cases T with
  | @mk x c oe vs a0 T oT ts hx hs ho hd h0 h1 hT ap hoT hdT h3 =>
  have Tn : T ∉ ι := fun q => by obtain ⟨r, rfl⟩ := p; exact ap.nin (List.mem_append.mpr (.inl q))
  have Tk : ∀ o, s.heap.get? T ≠ some o := fun o q => by have := ap.kp; rw [enter_out Tn q] at this; cases this
  refine .mk hx hs ho hd h0 h1 hT ⟨R.kpNone ap.kp, ap.nin, fun q => ?_, fun i c hc q => ?_⟩ hoT hdT h3
  · obtain ⟨m, ⟨oL, es, ep, hL, _⟩, _⟩ := R.ns
    exact Tk _ (q ▸ hL)
  · obtain ⟨_, ob, v, h2, _⟩ := R.cells i c hc
    exact Tk _ (q ▸ h2)
end
end Mine
namespace Mine
open PySem PySem.W PyProof.Rows

section
variable {prog : Program} {w : World} {A : Around} {X : Cx} {ι : List Addr} {st : ASt} {s : Shared} {v u : Value} {a b : AV} {K : Frag} {hb : Heap} {env : Env} {rs : Rsv} {k : Nat}
  {P : AProg} {C : Calls} {globs : List (Str × GV)} {meths : List (Str × MV)} {attrs : List (Str × Addr)}

theorem StatOk'.stat (S : StatOk' K globs meths attrs) (vars : List (Str × Bool)) (N : Nat) (names : List (Str × NameKind)) : StatOk K (rsOf vars N names globs meths attrs) :=
  ⟨fun name c f h => S.1 name c f h, fun name m h => S.2.1 name m h, fun name c h => S.2.2.1 name c h⟩

theorem envOk_of (S : StatOk' K globs meths attrs) {fd : FuncData} {vars : List (Str × Bool)} {N np : Nat} {f L : Addr} {cells : List (Str × Addr)}
    (hc : env.cells = cells) (hl : env.locals = L) (hsc : env.scope = fd.scope) (hg : env.globals = mainGlobals) (hb' : env.builtins = builtinsNs) (hk : fd.scope.kind = .function)
    (hv : ∀ p ∈ vars, p.1 ≠ dbg ∧ p.1 ≠ cld ∧ fd.scope.names.lookup p.1 = some (if p.2 then .cell else .local)) (hcells : ∀ x, (x, true) ∈ vars → ∃ c, cells.lookup x = some c) (hlen : vars.length ≤ N) {h : Heap} {fr : List Addr} :
    EnvOk K (X.enter ι h L (locsOf cells vars N) fr) env (rsOf vars N fd.scope.names globs meths attrs) vars.length := by
  have kind : ∀ x, env.kindOf x = fd.scope.names.lookup x := fun x => by unfold Env.kindOf; rw [hsc]
  refine ⟨?_, ?_, by rw [hsc]; exact hk, hg, hb', ?_, ?_, ?_, fun x g hx => S.2.2.2 x g hx, fun x i hx hc => ?_⟩
  · show (locsOf cells vars N).length = N
    unfold locsOf; simp; omega
  · intro j h1 h2
    have h2 : j < N := h2
    show (locsOf cells vars N)[j]? = some Loc.gone
    unfold locsOf
    rw [List.getElem?_append_right (by simpa using h1), List.getElem?_replicate]
    simp; omega
  · intro x i hx
    obtain ⟨b, hb⟩ := slotOf_some hx
    obtain ⟨h1, h2, h3⟩ := hv _ (List.mem_of_getElem? hb)
    refine ⟨h1, h2, ?_⟩
    have h4 := locsOf_at (cells := cells) (N := N) hb
    cases b with
    | false => exact .inl ⟨by rw [kind]; exact h3, .inl ⟨h4, hl⟩⟩
    | true =>
      obtain ⟨c, hcc⟩ := hcells x (List.mem_of_getElem? hb)
      simp only [if_true, hcc] at h4
      exact .inr ⟨.inl (by rw [kind]; exact h3), c, by rw [hc]; exact hcc, h4⟩
  · intro x hx
    have hx : decide (vars.lookup x = some true) = true := hx
    obtain ⟨i, h1, h2⟩ := slotOf_lookup (of_decide_eq_true hx)
    obtain ⟨h3, h4, h5⟩ := hv _ (List.mem_of_getElem? h2)
    obtain ⟨c, hcc⟩ := hcells x (List.mem_of_getElem? h2)
    have h6 := locsOf_at (cells := cells) (N := N) h2
    simp only [if_true, hcc] at h6
    exact ⟨.inl (by rw [kind]; exact h5), h3, h4, i, c, h1, by rw [hc]; exact hcc, h6⟩
  · intro x g _ hx
    have hx : (if fd.scope.names.lookup x = some .globalImplicit then globs.lookup x else none) = some g := hx
    split at hx
    · rename_i hgl
      exact ⟨by rw [kind]; exact hgl, S.2.2.2 x g hx⟩
    · first | exact no_some hx | cases hx
  · obtain ⟨b, hb, hlk⟩ := slotOf_look hx
    obtain ⟨_, _, h3⟩ := hv _ (List.mem_of_getElem? hb)
    cases b with
    | false => rw [kind]; exact h3
    | true =>
      have hc : decide (vars.lookup x = some true) = false := hc
      exact (of_decide_eq_false hc hlk).elim

set_option maxHeartbeats 1000000 in
theorem codes (S : StatOk' K globs meths attrs) (HI : IsaK P K) (HA : ∀ c d, P.isa d (some c) = some true → AncK K d c) (HT : TabsK w K) (T : ∀ f fn, P.fn f = some fn → ∃ vars, FnOk K f fn.nparams fn.nslots fn.body vars globs meths attrs) :
    ∀ n A, A.handled = none → A.depth + 3 * n < recursionLimit → A.units + 10 * n + 10 < cLine → CodeOk prog w K hb A (acall P n) := by
  intro n
  induction n with
  | zero =>
    intro A _ _ _ f X ι st s us as G R hu r st' e
    obtain ⟨e, _⟩ := callFn_some e
    cases e
  | succ n ih =>
    intro A hh hd hU f X ι st s us as G R hu r st' e RR hR
    obtain ⟨e, hρ⟩ := callFn_some e
    rw [acall.eq_def] at e
    dsimp only at e
    cases hfn : P.fn f with
    | none => rw [hfn] at e; cases e
    | some fn =>
      rw [hfn] at e
      dsimp only at e
      split at e
      case isFalse => first | exact no_some e | cases e
      case isTrue hnp =>
      obtain ⟨vars, F⟩ := T f fn hfn
      obtain ⟨o, fd, body, fuel, ho, hdata, hcl, hglb, hbns, hbody, hco, hgen, hk, hcd, hbind, hcomp, hvars, hfree⟩ := F.ex
      obtain ⟨p, loose, mg, mb, TR⟩ := G.T
      obtain ⟨l, hl, hfs⟩ := G.frs
      have hfr : ∀ b ∈ l.filterMap (·.frame), b = X.L ∨ b ∈ X.fr := fun b hb => by
        obtain ⟨f, hf, hq⟩ := List.mem_filterMap.mp hb
        obtain ⟨_, L, hL, h⟩ := hfs f hf
        rw [hq] at hL; cases hL; exact h
      have hK := G.inK R
      have hus : us.length = fn.nparams := by rw [← hnp]; exact F2.length hu
      have hlim : s.heap.NoLimit := TR.nolimit.keeps (G.keep R)
      refine codeAny_call_function (by omega) (hK _ _ ho) hdata hco hgen hbody (codeRec_of hK hcd) (BindsTo.of_eq (hbind us hus) _ _ _ _ ?_)
      rw [hcl, hglb, hbns]
      have hvn : ∀ x ∈ ((vars.take fn.nparams).map (·.1)).zip us, ∃ b, (x.1, b) ∈ vars := by
        intro x hx
        have hx1 := (List.of_mem_zip hx).1
        obtain ⟨q, hq, hqe⟩ := List.mem_map.mp hx1
        exact ⟨q.2, by rw [← hqe]; exact List.mem_of_mem_take hq⟩
      refine wpAny_newFunctionEnv_cells hk (fun x hx => ?_) (fun env he s₁ IC => ⟨hlim.keeps IC.toInCall.keep, codeAny_func ?_⟩)
      · obtain ⟨b, hb⟩ := hvn x hx
        obtain ⟨_, _, h3⟩ := hvars _ hb
        cases b with
        | false => exact .inl h3
        | true => exact .inr ⟨h3, cellsFrom_has _ _ _ _ (mem_of_lookup h3)⟩
      · have hL : env.locals = s.heap.objs.size := by rw [he]; rfl
        have hcells : env.cells = cellsFrom (s.heap.objs.size + 1) fd.scope.names [] := by rw [he]; rfl
        have hsc : env.scope = fd.scope := by rw [he]; rfl
        have kind : ∀ x, env.kindOf x = fd.scope.names.lookup x := fun x => by unfold Env.kindOf; rw [hsc]
        have hcellv : ∀ x, (x, true) ∈ vars → ∃ c, env.cells.lookup x = some c := by
          intro x hx
          obtain ⟨_, _, h3⟩ := hvars _ hx
          rw [hcells]
          exact Option.isSome_iff_exists.mp (cellsFrom_has _ _ _ _ (mem_of_lookup h3))
        have EO : EnvOk K (X.enter ι s.heap env.locals (locsOf env.cells vars fn.nslots) (l.filterMap (·.frame))) env (rsOf vars fn.nslots fd.scope.names globs meths attrs) vars.length :=
          envOk_of (np := fn.nparams) (f := f) S rfl rfl hsc (by rw [he]; rfl) (by rw [he]; rfl) hk hvars hcellv F.len
        have SV : SEnv (A.deeper env) (X.enter ι s.heap env.locals (locsOf env.cells vars fn.nslots) (l.filterMap (·.frame))) env := ⟨rfl, fun x hx => (by
          rw [kind] at hx
          exact hfree _ (mem_of_lookup hx) rfl), by rw [he]; rfl, l, Around.frames_deeper hl⟩
        have fresh : ∀ {b : Addr}, s.heap.objs.size ≤ b → b ∉ ι ∧ s.heap.get? b = none := by
          intro b hb
          have h0 : s.heap.get? b = none := by
            cases q : s.heap.get? b with
            | none => rfl
            | some o => exact absurd (Heap.lt_size q) (Nat.not_lt.mpr hb)
          exact ⟨(R.apart h0).nin, h0⟩
        have kp : ∀ {b : Addr} {o : Obj}, X.Kp b = some o → ∃ o', (X.enter ι s.heap env.locals (locsOf env.cells vars fn.nslots) (l.filterMap (·.frame))).Kp b = some o' := by
          intro b o e
          show ∃ o', (if b ∈ ι then X.Kp b else s.heap.get? b) = some o'
          split
          · exact ⟨o, e⟩
          · obtain ⟨o', h, _⟩ := R.frozen b o e; exact ⟨o', h⟩
        have kpn : ∀ {b : Addr}, s.heap.objs.size ≤ b → (X.enter ι s.heap env.locals (locsOf env.cells vars fn.nslots) (l.filterMap (·.frame))).Kp b = none := by
          intro b hb
          show (if b ∈ ι then X.Kp b else s.heap.get? b) = none
          rw [if_neg (fresh hb).1]; exact (fresh hb).2
        have cellmem : ∀ {x : Str} {c : Addr}, env.cells.lookup x = some c → env.locals < c := by
          intro x c h
          refine IC.above x c ?_
          have : ∀ {l : List (Str × Addr)}, l.lookup x = some c → (x, c) ∈ l := by
            intro l
            induction l with
            | nil => intro h; cases h
            | cons q r ih' =>
              intro h
              rw [List.lookup_cons] at h
              split at h
              · rename_i e; cases h; rw [beq_iff_eq.mp e]; exact .head _
              · exact .tail _ (ih' h)
          exact this h
        have locget : ∀ {i : Nat} {lc : Loc}, (X.enter ι s.heap env.locals (locsOf env.cells vars fn.nslots) (l.filterMap (·.frame))).locs[i]? = some lc → lc ≠ Loc.gone →
            ∃ x b, vars[i]? = some (x, b) ∧ ((b = false ∧ lc = Loc.loc x) ∨ (b = true ∧ ∃ c, env.cells.lookup x = some c ∧ lc = Loc.cell c)) := fun h hg => locsOf_get h hg
        have ok : CxOk (X.enter ι s.heap env.locals (locsOf env.cells vars fn.nslots) (l.filterMap (·.frame))) := by
          refine ⟨?_, ?_, ?_, ?_, ?_, ?_, ?_, ?_⟩
          · intro i j x h1 h2
            obtain ⟨x1, b1, e1, ⟨_, q1⟩ | ⟨_, c, _, q1⟩⟩ := locget h1 (by simp)
            · obtain ⟨x2, b2, e2, ⟨_, q2⟩ | ⟨_, c, _, q2⟩⟩ := locget h2 (by simp)
              · cases q1; cases q2; exact nodup_fst F.nodup e1 e2
              · first | exact no_some q2 | cases q2
            · first | exact no_some q1 | cases q1
          · intro i j c h1 h2
            obtain ⟨x1, b1, e1, ⟨_, q1⟩ | ⟨_, c1, hc1, q1⟩⟩ := locget h1 (by simp)
            · first | exact no_some q1 | cases q1
            · obtain ⟨x2, b2, e2, ⟨_, q2⟩ | ⟨_, c2, hc2, q2⟩⟩ := locget h2 (by simp)
              · first | exact no_some q2 | cases q2
              · cases q1; cases q2
                have := pair_apart IC.apart hc1 hc2
                subst this
                exact nodup_fst F.nodup e1 e2
          · exact kpn (by rw [← hL]; exact Nat.le_refl _)
          · intro i c h1
            obtain ⟨x1, b1, e1, ⟨_, q1⟩ | ⟨_, c1, hc1, q1⟩⟩ := locget h1 (by simp)
            · first | exact no_some q1 | cases q1
            · first | exact no_some q1 | cases q1
              have := cellmem hc1
              exact ⟨kpn (by rw [← hL]; exact Nat.le_of_lt this), Ne.symm (Nat.ne_of_lt this)⟩
          · intro i D x h1
            obtain ⟨x1, b1, e1, ⟨_, q1⟩ | ⟨_, c1, hc1, q1⟩⟩ := locget h1 (by simp)
            · first | exact no_some q1 | cases q1
            · first | exact no_some q1 | cases q1
          · intro b hb
            obtain ⟨o, h⟩ := G.ok.ro b hb
            exact kp h
          · intro b hb q
            rcases hfr b q with rfl | q
            · obtain ⟨o, h⟩ := G.ok.ro _ hb; rw [G.ok.kL] at h; cases h
            · exact G.ok.rof b hb q
          · intro b q
            have hn : b ∉ ι := fun hm => (hfr b q).elim (R.nofr G.ok hm).2 (R.nofr G.ok hm).1
            obtain ⟨f, hf, hq⟩ := List.mem_filterMap.mp q
            obtain ⟨_, L, o, hL, _, ho, hd⟩ := R.stk G.ok hfs f hf
            rw [hq] at hL; cases hL
            exact ⟨o, enter_out hn ho, hd⟩
        have G' : Gr K hb (A.deeper env) (X.enter ι s.heap env.locals (locsOf env.cells vars fn.nslots) (l.filterMap (·.frame))) := by
          refine ⟨fun b o e => ?_, G.KX, G.T, G.mods, fun v q => (by have q : A.handled = some v := q; rw [hh] at q; cases q), by show A.units + 3 + 1 < cLine; omega, ok, ⟨env :: l, Around.frames_deeper hl, fun f hf => ?_⟩, fun b q => ?_⟩
          · by_cases hm : b ∈ ι
            · show (if b ∈ ι then X.Kp b else s.heap.get? b) = some o
              rw [if_pos hm]; exact G.kp b o e
            · exact enter_out hm (G.keep R b o e)
          · rcases List.mem_cons.mp hf with rfl | hf
            · exact ⟨by rw [hsc, hk]; decide, _, SV.frame, .inl rfl⟩
            · obtain ⟨h1, L, h2, h3⟩ := hfs f hf
              exact ⟨h1, L, h2, .inr (List.mem_filterMap.mpr ⟨f, hf, h2⟩)⟩
          · rcases hfr b q with rfl | q
            · cases z : hb.get? X.L with
              | none => rfl
              | some o => have := G.kp _ o z; rw [G.ok.kL] at this; cases this
            · exact G.hfr b q
        have O : Oracle prog w K hb (A.deeper env) (acall P n) := by
          refine ⟨ih _ hh (by show A.depth + 1 + 3 * n < _; omega) (by show A.units + 3 + 10 * n + 10 < _; omega), fun c rest => ih _ hh ?_ ?_, by show A.units + 3 + 2 < _; omega, hh, HT⟩
          · rw [under_type.2.2.1]; show A.depth + 1 + 1 + 3 * n < _; omega
          · rw [under_type.2.1]; show A.units + 3 + 1 + 10 * n + 10 < _; omega
        have hext := IC.toInCall.keep
        obtain ⟨h₁, tk, hs₁⟩ := IC.toInCall.same
        have zipget : ∀ {i : Nat} {x : Str} {b : Bool} {y : AV}, vars[i]? = some (x, b) → (as.map some ++ List.replicate (fn.nslots - fn.nparams) Option.none)[i]? = some (some y) → ∃ v, (x, v) ∈ ((vars.take fn.nparams).map (·.1)).zip us ∧ VRel ι v y := by
          intro i x b y h1 h2
          by_cases hi : i < as.length
          · rw [List.getElem?_append_left (by simpa using hi), List.getElem?_map] at h2
            obtain ⟨y', hy', e⟩ := Option.map_eq_some_iff.mp h2
            cases e
            obtain ⟨v, hv, hvr⟩ := F2.get hu hy'
            refine ⟨v, ?_, hvr⟩
            have e1 : ((vars.take fn.nparams).map (·.1))[i]? = some x := by
              rw [List.getElem?_map, List.getElem?_take_of_lt (by omega), h1]; rfl
            have : (((vars.take fn.nparams).map (·.1)).zip us)[i]? = some (x, v) := by
              rw [List.getElem?_zip_eq_some]; exact ⟨e1, hv⟩
            exact List.mem_of_getElem? this
          · rw [List.getElem?_append_right (by simpa using hi)] at h2
            have := List.eq_of_mem_replicate (List.mem_of_getElem? h2)
            cases this
        have znodup : ((((vars.take fn.nparams).map (·.1)).zip us).map (·.1)).Nodup := by
          rw [List.map_fst_zip (by simp; omega)]
          rw [List.map_take]
          exact F.nodup.sublist (List.take_sublist _ _)
        have R' : Rel prog w (X.enter ι s.heap env.locals (locsOf env.cells vars fn.nslots) (l.filterMap (·.frame))) ι ⟨st.σ, as.map some ++ List.replicate (fn.nslots - fn.nparams) Option.none⟩ s₁ := by
          refine ⟨fun b o e => ?_, ⟨_, IC.toInCall.ns, fun i x y h1 h2 => ?_⟩, R.len, R.nodup, ?_, ?_, ?_, ?_, ?_, ?_⟩
          · have e : (if b ∈ ι then X.Kp b else s.heap.get? b) = some o := e
            split at e
            · rename_i hm
              exact ⟨o, hext b o ((R.frozen b o e).get (R.nofr G.ok hm).1), .inl rfl⟩
            · exact ⟨o, hext b o e, .inl rfl⟩
          · obtain ⟨x1, b1, e1, ⟨hb1, q1⟩ | ⟨_, c, _, q1⟩⟩ := locget h1 (by simp)
            · first | exact no_some q1 | cases q1
              subst hb1
              obtain ⟨v, hv1, hv2⟩ := zipget e1 h2
              exact ⟨v, bindL_get (by rw [kind]; exact (hvars _ (List.mem_of_getElem? e1)).2.2) znodup hv1, hv2⟩
            · first | exact no_some q1 | cases q1
          · intro i c ao hi hs
            obtain ⟨f1, f2, f3⟩ := R.free i c ao hi hs
            refine ⟨fun q => ?_, fun q => ?_, f3⟩
            · show (if c ∈ ι then X.Kp c else s.heap.get? c) = none
              rw [if_pos (Rel.mem hi)]; exact f1 q
            · exact (fresh (b := c) (by rw [q]; show s.heap.objs.size ≤ env.locals; rw [hL]; exact Nat.le_refl _)).1 (Rel.mem hi)
          · intro i ao h
            obtain ⟨a', ob, h1, h2, h3⟩ := R.objs i ao h
            exact ⟨a', ob, h1, hext _ _ h2, h3⟩
          · intro i c h1
            obtain ⟨x1, b1, e1, ⟨_, q1⟩ | ⟨hb1, c1, hc1, q1⟩⟩ := locget h1 (by simp)
            · first | exact no_some q1 | cases q1
            · first | exact no_some q1 | cases q1
              subst hb1
              have hlt := cellmem hc1
              refine ⟨(fresh (by rw [← hL]; exact Nat.le_of_lt hlt)).1, ?_⟩
              obtain ⟨oc, h2, h3⟩ := IC.cell x1 _ hc1
              refine ⟨oc, _, h2, h3, fun y hy => ?_⟩
              obtain ⟨v, hv1, hv2⟩ := zipget e1 hy
              exact ⟨v, bindC_get (by rw [kind, (hvars _ (List.mem_of_getElem? e1)).2.2]; simp) znodup hv1, hv2⟩
          · intro i D x h1
            obtain ⟨x1, b1, e1, ⟨_, q1⟩ | ⟨_, c1, hc1, q1⟩⟩ := locget h1 (by simp)
            · first | exact no_some q1 | cases q1
            · first | exact no_some q1 | cases q1
          · show (as.map some ++ List.replicate (fn.nslots - fn.nparams) Option.none).length = (locsOf env.cells vars fn.nslots).length
            unfold locsOf
            have := F.len
            have := F.np
            simp; omega
          · rw [hs₁, R.shape]; rfl
        have kept : ∀ {ι' : List Addr} {st'' : ASt} {s' : Shared}, Rel prog w (X.enter ι s.heap env.locals (locsOf env.cells vars fn.nslots) (l.filterMap (·.frame))) ι' st'' s' → ∀ b o, b ∉ ι → b ∉ (A.frames.getD []).filterMap (·.frame) → s.heap.get? b = some o → s'.heap.get? b = some o := fun R'' b o hb hnf e => (R''.frozen b o (enter_out hb e)).get (by rw [hl] at hnf; exact hnf)
        cases hx : aexecs P (acall P n) fn.body ⟨st.σ, as.map some ++ List.replicate (fn.nslots - fn.nparams) Option.none⟩ with
        | none => rw [hx] at e; cases e
        | some res =>
          rw [hx] at e
          obtain ⟨res, stf⟩ := res
          obtain ⟨σ', ρ'⟩ := st'
          have hρ : ρ' = st.ρ := hρ
          subst hρ
          have CS := (compileS (P := P) HI HA fuel).2 _ _ _ _ _ ⟨S.stat vars fn.nslots fd.scope.names, fun _ => O, (fun q => by cases q)⟩ hcomp
          cases res with
          | error n' =>
            cases e
            refine CS.x _ env ι _ s₁ G' EO SV R' n' stf hx _ _ fun ι' s' v p' R'' F => ?_
            have hfr' := Around.frames_deeper (env := env) hl
            obtain ⟨l', hl', hfs'⟩ := G'.frs
            rw [hfr'] at hl'; cases hl'
            refine leave_ R'' ok hfr' (R''.stk ok hfs') SV.frame F fun s₂ R₂ T₂ x₂ => ?_
            exact hR ι' s₂ v p' (R.back G.ok hfr p' R₂) ⟨.on (T₂.back R G.ok p'), x₂⟩ (kept R₂)
          | ok af =>
            refine CS.o _ env ι _ s₁ G' EO SV R' af stf hx _ _ fun ι' s' fl p' R'' hf => ?_
            have Rb := R.back G.ok hfr p' R''
            cases af with
            | next =>
              have hf : fl = .next := hf
              subst hf
              cases e
              exact hR ι' s' _ p' Rb .none (kept R'')
            | ret y =>
              obtain ⟨v, rfl, hv⟩ := hf
              cases e
              exact hR ι' s' _ p' Rb hv (kept R'')
end
end Mine
namespace Mine
open PySem PySem.W PySem.Spec PySem.Calls PyProof.Rows
section
variable {prog : Program} {w : World} {A : Around} {E : Value → Shared → Prop} {s : Shared} {K : Frag} {x C D : Addr} {ox : Obj} {name : Str} {Q : Value → Shared → Prop}
theorem inst_none (hx : s.heap.get? x = some ox) (hc : ox.cls = .ref D) (hd : ox.dict = none) (hf : ∃ vs, ox.data = .fields vs) : InstAt s.heap x ox D none := by
  obtain ⟨vs, hf⟩ := hf
  exact ⟨hx, hc, by unfold notCls; rw [hf], by rw [hd]; trivial⟩
theorem find_none {a g : Value} (hc : (clsIn K C).isSome = true) (ha : findIn K (.ref C) name = some (some a)) (hg : specialIn K a "__get__" = some (some g)) (ht : takesIn K a = some true) : findObj K C none name = some (.bind g a) := by
  obtain ⟨cd, hc⟩ := Option.isSome_iff_exists.mp hc
  unfold findObj
  rw [hc, Option.bind_some, ha, Option.bind_some]
  simp [hg, ht]
/-- what must be so of a class for its objects' __class__ to be the class -/
structure Tells (K : Frag) (D : Addr) : Prop where
  ga : findIn K (.ref D) "__getattribute__" = some (some (.builtin "BaseException.__getattribute__"))
  be : subIn K (.ref D) (.type "BaseException") = some true
  gt : findIn K (.ref D) "__getattr__" = some none
  cl : (clsIn K D).isSome = true
  at' : findIn K (.ref D) "__class__" = some (some (.builtin "object.__class__"))
  gs : specialIn K (.builtin "object.__class__") "__get__" = some (some (.builtin "getset_descriptor.__get__"))
  tk : takesIn K (.builtin "object.__class__") = some true
  mr : mroIn K D (.type "object") = some true
theorem isType_of {hp : Heap} (X : K.In hp) (h : (clsIn K D).isSome = true) {M : Model} : Looks M hp (isType (.ref D)) true := by
  obtain ⟨cd, h⟩ := Option.isSome_iff_exists.mp h
  unfold clsIn at h
  split at h
  · rename_i ho
    intro A' Q' E' s' k q
    unfold isType loadHead
    exact wpAny_bind (wpAny_loadPart (k _ _ (X _ _ ho)) (wpAny_pure q))
  · cases h
theorem check_ga {M : Model} {h : Heap} {g : Array GenState} {d : Drawn} {t : Nat} {os : OsState} {nameV : Value} {Q : Unit → Shared → Prop} (LI : Looks M h (isInstance (.ref x) (.type "BaseException")) true) (hq : Q () ⟨h, g, d, t, os⟩) : wpAny M A (checkBuiltinCall "BaseException.__getattribute__" ⟨[.ref x, nameV], []⟩) Q E ⟨h, g, d, t, os⟩ := by
  have hk : builtinKind "BaseException.__getattribute__" = some .slot := by decide +kernel
  have hsplit : splitId "BaseException.__getattribute__" = some ("BaseException", "__getattribute__") := by decide +kernel
  have ha := PySem.F.args_bexc_ga (.ref x) nameV
  simp only [checkBuiltinCall, hk, hsplit]
  refine wpAny_bind (LI.at ?_)
  repeat wp_step
  exact hq
theorem class_of {Q : Option Value → Shared → Prop} (T : Tells K D) (X : K.In s.heap) (I : InstAt s.heap x ox D none) (h : Q (some (.ref D)) { s with toks := s.toks + 1 }) : wpAny (model prog w) A (getAttr? (.ref x) "__class__") Q E s := by
  obtain ⟨hh, g, d, t, os⟩ := s
  have L0 := I.type (M := model prog w)
  have L1 := looks_findIn (M := model prog w) X T.ga
  have L2 := looks_find (M := model prog w) X I (find_none T.cl T.at' T.gs T.tk)
  have L3 := looks_findIn (M := model prog w) X T.gt
  have LI : Looks (model prog w) hh (isInstance (.ref x) (.type "BaseException")) true := L0.andThen (looks_subIn X T.be)
  have hx1 : (onTheHeap (Value.ref D) && Value.builtin "BaseException.__getattribute__" == Value.builtin "object.__getattribute__") = false := by
    have e : (Value.builtin "BaseException.__getattribute__" == Value.builtin "object.__getattribute__") = false := by decide +kernel
    rw [e, Bool.and_false]
  unfold getAttr? getAttrBy? getAttrBy
  refine wpAny_bind (wpAny_mkText (wpAny_bind (wpAny_attempt (wpAny_holding (wpAny_bind (L0.at (wpAny_bind (L1.at ?_))))))))
  dsimp only
  rw [hx1, if_neg Bool.false_ne_true]
  unfold getAttrByItsOwn
  refine wpAny_bind (L3.at ?_)
  refine wpAny_bind (wpAny_attempt (wpAny_holding ?_))
  show wpAny _ _ (boundAndCalled _ _ _) _ _ _
  unfold boundAndCalled
  refine wpAny_bind (wpAny_of_eq (PySem.F.excAttr_ValueError.ga.bind (.ref x)) ?_)
  refine wpAny_call (codeAny_call_builtin PySem.F.excAttr_ValueError.ga.plain PySem.F.entry_bexc_ga (check_ga LI ?_))
  refine wpAny_bind (wpAny_pure (wpAny_bind (wpAny_pure (wpAny_bind (L0.at (wpAny_bind (L2.at ?_)))))))
  show wpAny _ _ (holding _ (call _ _) >>= _) _ _ _
  refine wpAny_bind (wpAny_holding (wpAny_call (class_get (s := ⟨hh, g, d, t + 1, os⟩) X I T.mr (wpAny_pure ?_))))
  exact handed_on rfl (wpAny_pure h)
end
section
variable {prog : Program} {w : World} {A : Around} {E : Value → Shared → Prop} {s : Shared} {K : Frag} {x D : Addr} {ox : Obj} {Q : Value → Shared → Prop} {c : Value}
/-- what is asked of the class that isinstance is asked for -/
structure Asks (K : Frag) (D : Addr) (c : Value) (b : Bool) : Prop where
  ty : ∀ (M : Model) h', K.In h' → Looks M h' (typeOf c) (.type "type")
  is : ∀ (M : Model) h', K.In h' → Looks M h' (isType c) true
  ne : (Value.ref D == c) = false
  sub : ∀ (M : Model) h', K.In h' → Looks M h' (isSubtype (.ref D) c) b
theorem isa_yes (X : K.In s.heap) (I : InstAt s.heap x ox D none) (T : Asks K D c true) (h : Q (.bool true) s) : wpAny (model prog w) A (call (.builtin "isinstance") [.ref x, c]) Q E s := by
  refine call_isinstance (S := fun _ R s => (K.In s.heap ∧ InstAt s.heap x ox D none) ∧ R (.ok (.ret (.bool true))) s) (fun prog' w' A' R' s hs => isinstance_outer ?_ (by intro q; cases q)) ⟨⟨X, I⟩, h⟩
  obtain ⟨⟨X, I⟩, h⟩ := hs
  obtain ⟨hh, g, d, tt, os⟩ := s
  have L0 := I.type (M := model prog' w')
  have LI : Looks (model prog' w') hh (isInstance (.ref x) c) true := L0.andThen (T.sub _ _ X)
  unfold Builtin.«isinstance.nested»
  refine wpAny_bind (L0.at ?_)
  rw [if_neg (fun q => by rw [T.ne] at q; exact Bool.noConfusion q)]
  refine wpAny_bind ((T.ty _ _ X).at ?_)
  rw [if_pos (by decide)]
  k_delta "plainIsInstance"
  refine wpAny_bind (wpAny_bind ((T.is _ _ X).at ?_))
  simp only [Bool.not_true, Bool.false_eq_true, if_false]
  refine wpAny_bind (LI.at ?_)
  simp only [if_true]
  exact wpAny_pure (wpAny_pure h)
theorem isa_no (X : K.In s.heap) (I : InstAt s.heap x ox D none) (W : Tells K D) (T : Asks K D c false) (h : Q (.bool false) { s with toks := s.toks + 1 }) : wpAny (model prog w) A (call (.builtin "isinstance") [.ref x, c]) Q E s := by
  refine call_isinstance (S := fun _ R s => (K.In s.heap ∧ InstAt s.heap x ox D none) ∧ R (.ok (.ret (.bool false))) { s with toks := s.toks + 1 }) (fun prog' w' A' R' s hs => isinstance_outer ?_ (by intro q; cases q)) ⟨⟨X, I⟩, h⟩
  obtain ⟨⟨X, I⟩, h⟩ := hs
  obtain ⟨hh, g, d, tt, os⟩ := s
  have hisD := isType_of (M := model prog' w') X W.cl
  have L0 := I.type (M := model prog' w')
  have LI : Looks (model prog' w') hh (isInstance (.ref x) c) false := L0.andThen (T.sub _ _ X)
  unfold Builtin.«isinstance.nested»
  refine wpAny_bind (L0.at ?_)
  rw [if_neg (fun q => by rw [T.ne] at q; exact Bool.noConfusion q)]
  refine wpAny_bind ((T.ty _ _ X).at ?_)
  rw [if_pos (by decide)]
  k_delta "plainIsInstance"
  refine wpAny_bind (wpAny_bind ((T.is _ _ X).at ?_))
  simp only [Bool.not_true, Bool.false_eq_true, if_false]
  refine wpAny_bind (LI.at ?_)
  simp only [Bool.false_eq_true, if_false]
  refine wpAny_bind (class_of W X I ?_)
  refine wpAny_bind (hisD.at ?_)
  simp only [Bool.not_true, Bool.false_eq_true, if_false]
  refine wpAny_bind (wpAny_rule ?_)
  refine (T.sub _ _ X).at ?_
  first
    | exact wpAny_pure h
    | exact wpAny_pure (wpAny_pure h)
    | exact wpAny_bind (wpAny_pure (wpAny_pure h))
theorem Asks.cls {C : Addr} {b : Bool} (h0 : decide (D ≠ C) = true) (h1 : (clsIn K C).isSome = true) (h2 : typeIn K (.ref C) = some (.type "type")) (h3 : subIn K (.ref D) (.ref C) = some b) : Asks K D (.ref C) b :=
  ⟨fun _ _ X => looks_typeIn X h2, fun M h' X => isType_of X h1, Bool.eq_false_iff.mpr fun q => of_decide_eq_true h0 (Value.ref.inj (beq_iff_eq.mp q)), fun _ _ X => looks_subIn X h3⟩
theorem Asks.ve {b : Bool} (h3 : subIn K (.ref D) (.type "ValueError") = some b) : Asks K D (.type "ValueError") b :=
  ⟨fun _ _ _ => Looks.of_pure rfl, fun _ _ _ => Looks.of_pure rfl, rfl, fun _ _ X => looks_subIn X h3⟩
theorem isa_self {Q : Value → Shared → Prop} (X : K.In s.heap) (I : InstAt s.heap x ox D none) (h : Q (.bool true) s) : wpAny (model prog w) A (call (.builtin "isinstance") [.ref x, .ref D]) Q E s :=
  isi_call X (fun M => I.type) (by unfold isIn; rw [beq_self_eq_true, Bool.true_or]) (by intro q; cases q) h
/-- what isinstance says of an object of the class D -/
noncomputable def Isa1 (K : Frag) (D : Addr) (d : Option Addr) (b : Bool) : Prop := ∀ (prog : Program) (w : World) (A : Around) (s : Shared) (x : Addr) (ox : Obj) (Q : Value → Shared → Prop) (E : Value → Shared → Prop),
  K.In s.heap → s.heap.get? x = some ox → ox.cls = .ref D → ox.dict = none → (∃ vs, ox.data = .fields vs) → (∀ tk, Q (.bool b) { s with toks := tk }) → wpAny (model prog w) A (call (.builtin "isinstance") [.ref x, d.elim (.type "ValueError") .ref]) Q E s
theorem Isa1.self : Isa1 K D (some D) true := fun prog w A s x ox Q E X hx hc hd hf h => isa_self X (inst_none hx hc hd hf) (h s.toks)
theorem Isa1.yes {C : Addr} (T : Asks K D (.ref C) true) : Isa1 K D (some C) true := fun prog w A s x ox Q E X hx hc hd hf h => isa_yes X (inst_none hx hc hd hf) T (h s.toks)
theorem Isa1.ve (T : Asks K D (.type "ValueError") true) : Isa1 K D none true := fun prog w A s x ox Q E X hx hc hd hf h => isa_yes X (inst_none hx hc hd hf) T (h s.toks)
theorem Isa1.no {C : Addr} (W : Tells K D) (T : Asks K D (.ref C) false) : Isa1 K D (some C) false := fun prog w A s x ox Q E X hx hc hd hf h => isa_no X (inst_none hx hc hd hf) W T (h (s.toks + 1))
end
section
variable {K : Frag} {nm q : Str} {C N : Addr} {bs : List Value} {hdct : Bool} {sn : List Str} {sub : List Value} {ab : Bool} {col : Option Bool} {dd : Option Addr} {k0 k1 k2 k3 k5 : Option Value}
variable {nm' q' : Str} {C' N' : Addr} {bs' : List Value} {hdct' : Bool} {sn' : List Str} {sub' : List Value} {ab' : Bool} {col' : Option Bool} {dd' : Option Addr} {k0' k1' k2' k3' k5' : Option Value} {o o' : Obj}
theorem AncK.self (h : ExcK K C) : AncK K C C := fun s x ox M A Q E X he hc hq => own_match (h s.heap X) he hc hq
theorem AncK.own (h1 : K.lookup C = some o) (ho : o = excClassObj nm q C N bs (.ref C' :: bmVE) hdct sn sub ab col dd k0 k1 k2 k3 k5 "ValueError.__new__") (h2 : K.lookup C' = some o') (ho' : o' = excClassObj nm' q' C' N' bs' bmVE hdct' sn' sub' ab' col' dd' k0' k1' k2' k3' k5' "ValueError.__new__") : AncK K C C' :=
  fun s x ox M A Q E X he hc hq => by
    obtain ⟨h, g, d, t, os⟩ := s
    exact exc_anc (ho ▸ X _ _ h1) (ho' ▸ X _ _ h2) he hc (by decide +kernel) (by rw [List.contains_cons, beq_self_eq_true, Bool.true_or]) hq
end
end Mine
namespace Mine
open PySem PySem.W PyProof.Rows
noncomputable def globs : List (Str × GV) := [(Str.ofString "HeapError", GV.ty (.exc 24)), (Str.ofString "NoHand", GV.ty (.exc 37)), (Str.ofString "NoSlot", GV.ty (.exc 49)), (Str.ofString "NoRoom", GV.ty (.exc 61)), (Str.ofString "NothingHeld", GV.ty (.exc 73)), (Str.ofString "NoBox", GV.ty (.exc 85)), (Str.ofString "NoWork", GV.ty (.exc 97)), (Str.ofString "NoHeap", GV.ty (.exc 109)), (Str.ofString "NoDeed", GV.ty (.exc 121)), (Str.ofString "COUNTS", GV.tab [(Str.ofString "make", AV.int 2), (Str.ofString "take", AV.int 3), (Str.ofString "put", AV.int 3), (Str.ofString "share", AV.int 2), (Str.ofString "drop", AV.int 1), (Str.ofString "work", AV.int 1)]), (Str.ofString "FIGURES", GV.val (.str (Str.ofString "0123456789"))), (Str.ofString "MOST_FIGURES", GV.val (.int 60)), (Str.ofString "number_of", GV.fn 131), (Str.ofString "read", GV.fn 136), (Str.ofString "_law_cell_at", GV.fn 143), (Str.ofString "_law_whole", GV.fn 150), (Str.ofString "_law_numbers", GV.fn 157), (Str.ofString "_law_sign_by", GV.fn 164), (Str.ofString "_law_odd", GV.fn 171), (Str.ofString "_law_line", GV.fn 178), (Str.ofString "_law_built", GV.fn 185), (Str.ofString "_law_number", GV.fn 192), (Str.ofString "_law_due", GV.fn 197), (Str.ofString "law", GV.fn 204), (Str.ofString "len", GV.bi .len), (Str.ofString "range", GV.bi .range), (Str.ofString "list", GV.bi .list), (Str.ofString "isinstance", GV.isinst), (Str.ofString "int", GV.bi .int), (Str.ofString "bool", GV.ty .bool), (Str.ofString "str", GV.bi .str), (Str.ofString "tuple", GV.bi .tuple), (Str.ofString "any", GV.bi .any), (Str.ofString "ValueError", GV.ty .ve)]
noncomputable def meths : List (Str × MV) := [(Str.ofString "append", MV.me .append), (Str.ofString "index", MV.me .index), (Str.ofString "split", MV.me .split), (Str.ofString "find", MV.me .find)]
noncomputable def attrs : List (Str × Addr) := []
end Mine
namespace Mine
open PySem
noncomputable def bd131 : List AS := [(.ite (.or [(.not (.cmp (.cst (.int (1))) [.LtE, .LtE] [(.bi .len [(.loc 0)]), (.cst (.int (60)))])), (.and [(.cmp (.sub (.loc 0) (.cst (.int (0)))) [.Eq] [(.cst (.str (Str.ofString "0")))]), (.cmp (.bi .len [(.loc 0)]) [.Gt] [(.cst (.int (1)))])])]) [(.raise 121 (Str.ofString "no number"))] []), (.for 1 (.loc 0) [(.ite (.cmp (.loc 1) [.NotIn] [(.cst (.str (Str.ofString "0123456789")))]) [(.raise 121 (Str.ofString "no number"))] [])]), (.ret (.bi .int [(.loc 0)]))]
noncomputable def bd136 : List AS := [(.assign (.loc 1) (.meth (.loc 0) .split [(.cst (.str (Str.ofString " ")))])), (.ite (.or [(.cmp (.tget [((Str.ofString "make"), (.int (2))), ((Str.ofString "take"), (.int (3))), ((Str.ofString "put"), (.int (3))), ((Str.ofString "share"), (.int (2))), ((Str.ofString "drop"), (.int (1))), ((Str.ofString "work"), (.int (1)))] (.sub (.loc 1) (.cst (.int (0)))) (.cst (.int (0)))) [.NotEq] [(.bin .Sub (.bi .len [(.loc 1)]) (.cst (.int (1))))]), (.cmp (.bi .len [(.loc 1)]) [.Eq] [(.cst (.int (1)))])]) [(.raise 121 (Str.ofString "no deed"))] []), (.ret (.bi .tuple [(.bin .Add (.list [(.sub (.loc 1) (.cst (.int (0))))]) (.comp 2 (.call 131 [(.loc 2)]) (.slc (.loc 1) (.cst (.int (1))) (.cst .none)) []))]))]
noncomputable def bd143 : List AS := [(.ite (.cmp (.loc 1) [.Lt] [(.bi .len [(.loc 0)])]) [(.ret (.sub (.loc 0) (.loc 1)))] []), (.ret (.cst (.int (0))))]
noncomputable def bd150 : List AS := [(.ret (.and [(.isi (.loc 0) .int), (.not (.isi (.loc 0) .bool))]))]
noncomputable def bd157 : List AS := [(.ite (.or [(.not (.isi (.loc 0) .list)), (.cmp (.bi .len [(.loc 0)]) [.NotEq] [(.bi .len [(.loc 1)])])]) [(.ret (.cst (.bool false)))] []), (.for 2 (.bi .range [(.bi .len [(.loc 1)])]) [(.ite (.and [(.cmp (.sub (.loc 1) (.loc 2)) [.Is] [(.cst .none)]), (.cmp (.sub (.loc 0) (.loc 2)) [.IsNot] [(.cst .none)])]) [(.ret (.cst (.bool false)))] []), (.ite (.and [(.cmp (.sub (.loc 1) (.loc 2)) [.IsNot] [(.cst .none)]), (.or [(.not (.call 150 [(.sub (.loc 0) (.loc 2))])), (.cmp (.sub (.loc 0) (.loc 2)) [.NotEq] [(.sub (.loc 1) (.loc 2))])])]) [(.ret (.cst (.bool false)))] [])]), (.ret (.cst (.bool true)))]
noncomputable def bd164 : List AS := [(.assign (.loc 1) (.cst (.str (Str.ofString " !\"#$&'()*+,-./0123456789:;<=>?@ABCDEFGHIJKLMNOPQRSTUVWXYZ[\\]^_`")))), (.assign (.loc 1) (.bin .Add (.loc 1) (.cst (.str (Str.ofString "abcdefghijklmnopqrstuvwxyz{|}~\n\t"))))), (.ret (.sub (.loc 1) (.bin .Mod (.loc 0) (.cst (.int (96))))))]
noncomputable def bd171 : List AS := [(.assign (.loc 1) (.list [(.cst (.str (Str.ofString ""))), (.cst (.str (Str.ofString " "))), (.cst (.str (Str.ofString "make"))), (.cst (.str (Str.ofString "make 1"))), (.cst (.str (Str.ofString "make 1 2 3"))), (.cst (.str (Str.ofString "Make 1 2"))), (.cst (.str (Str.ofString "make  1 2"))), (.cst (.str (Str.ofString " drop 1"))), (.cst (.str (Str.ofString "drop 1 "))), (.cst (.str (Str.ofString "drop")))])), (.assign (.loc 1) (.bin .Add (.loc 1) (.list [(.cst (.str (Str.ofString "drop 01"))), (.cst (.str (Str.ofString "drop -1"))), (.cst (.str (Str.ofString "drop +1"))), (.cst (.str (Str.ofString "drop 1.0"))), (.cst (.str (Str.ofString "work 1_0"))), (.cst (.str (Str.ofString "work1"))), (.cst (.str (Str.ofString "take 1 2"))), (.cst (.str (Str.ofString "put 0 0")))]))), (.assign (.loc 1) (.bin .Add (.loc 1) (.list [(.cst (.str (Str.ofString "share 0"))), (.cst (.str (Str.ofString "hold 1"))), (.cst (.str (Str.ofString "work 00"))), (.cst (.str (Str.ofString "drop 1 1")))]))), (.ret (.sub (.loc 1) (.bin .Mod (.loc 0) (.bi .len [(.loc 1)]))))]
noncomputable def bd178 : List AS := [(.assign (.loc 1) (.list [(.cst (.str (Str.ofString "make"))), (.cst (.str (Str.ofString "take"))), (.cst (.str (Str.ofString "put"))), (.cst (.str (Str.ofString "share"))), (.cst (.str (Str.ofString "drop"))), (.cst (.str (Str.ofString "work")))])), (.assign (.loc 2) (.list [(.cst (.int (2))), (.cst (.int (3))), (.cst (.int (3))), (.cst (.int (2))), (.cst (.int (1))), (.cst (.int (1)))])), (.assign (.loc 3) (.bin .Mod (.call 143 [(.loc 0), (.cst (.int (1)))]) (.cst (.int (6))))), (.assign (.loc 4) (.sub (.loc 1) (.loc 3))), (.for 5 (.bi .range [(.sub (.loc 2) (.loc 3))]) [(.assign (.loc 4) (.bin .Add (.bin .Add (.loc 4) (.cst (.str (Str.ofString " ")))) (.bi .str [(.bin .Mod (.call 143 [(.loc 0), (.bin .Add (.cst (.int (2))) (.loc 5))]) (.cst (.int (1200))))])))]), (.ret (.loc 4))]
noncomputable def bd185 : List AS := [(.assign (.loc 1) (.bin .Mod (.call 143 [(.loc 0), (.cst (.int (0)))]) (.cst (.int (5))))), (.assign (.loc 2) (.call 143 [(.loc 0), (.cst (.int (5)))])), (.assign (.loc 3) (.call 178 [(.loc 0)])), (.ite (.cmp (.loc 1) [.Eq] [(.cst (.int (1)))]) [(.assign (.loc 4) (.bin .Mod (.loc 2) (.bin .Add (.bi .len [(.loc 3)]) (.cst (.int (1)))))), (.ite (.cmp (.bin .Mod (.call 143 [(.loc 0), (.cst (.int (6)))]) (.cst (.int (5)))) [.Eq] [(.cst (.int (0)))]) [(.ret (.bin .Add (.bin .Add (.slc (.loc 3) (.cst .none) (.loc 4)) (.sub (.cst (.str (Str.ofString "\n\t"))) (.bin .Mod (.bin .FloorDiv (.call 143 [(.loc 0), (.cst (.int (6)))]) (.cst (.int (5)))) (.cst (.int (2)))))) (.slc (.loc 3) (.loc 4) (.cst .none))))] []), (.ret (.bin .Add (.bin .Add (.slc (.loc 3) (.cst .none) (.loc 4)) (.call 164 [(.call 143 [(.loc 0), (.cst (.int (6)))])])) (.slc (.loc 3) (.loc 4) (.cst .none))))] []), (.ite (.cmp (.loc 1) [.Eq] [(.cst (.int (2)))]) [(.assign (.loc 4) (.bin .Mod (.loc 2) (.bi .len [(.loc 3)]))), (.ret (.bin .Add (.slc (.loc 3) (.cst .none) (.loc 4)) (.slc (.loc 3) (.bin .Add (.loc 4) (.cst (.int (1)))) (.cst .none))))] []), (.ite (.cmp (.loc 1) [.Eq] [(.cst (.int (3)))]) [(.ret (.call 171 [(.loc 2)]))] []), (.ite (.cmp (.loc 1) [.Eq] [(.cst (.int (4)))]) [(.ret (.bin .Add (.bin .Add (.cst (.str (Str.ofString "work "))) (.sub (.cst (.str (Str.ofString "123456789"))) (.bin .Mod (.loc 2) (.cst (.int (9)))))) (.bin .Mult (.cst (.str (Str.ofString "7"))) (.bin .Add (.cst (.int (58))) (.bin .Mod (.call 143 [(.loc 0), (.cst (.int (6)))]) (.cst (.int (4))))))))] []), (.ret (.loc 3))]
noncomputable def bd192 : List AS := [(.ite (.or [(.cmp (.loc 0) [.Eq] [(.cst (.str (Str.ofString "")))]), (.cmp (.bi .len [(.loc 0)]) [.Gt] [(.cst (.int (60)))]), (.and [(.cmp (.sub (.loc 0) (.cst (.int (0)))) [.Eq] [(.cst (.str (Str.ofString "0")))]), (.cmp (.bi .len [(.loc 0)]) [.Gt] [(.cst (.int (1)))])])]) [(.ret (.cst .none))] []), (.assign (.loc 1) (.cst (.int (0)))), (.for 2 (.loc 0) [(.assign (.loc 3) (.meth (.cst (.str (Str.ofString "0123456789"))) .find [(.loc 2)])), (.ite (.cmp (.loc 3) [.Lt] [(.cst (.int (0)))]) [(.ret (.cst .none))] []), (.assign (.loc 1) (.bin .Add (.bin .Mult (.cst (.int (10))) (.loc 1)) (.loc 3)))]), (.ret (.loc 1))]
noncomputable def bd197 : List AS := [(.assign (.loc 1) (.list [(.cst (.str (Str.ofString "make"))), (.cst (.str (Str.ofString "take"))), (.cst (.str (Str.ofString "put"))), (.cst (.str (Str.ofString "share"))), (.cst (.str (Str.ofString "drop"))), (.cst (.str (Str.ofString "work")))])), (.assign (.loc 2) (.list [(.cst (.int (2))), (.cst (.int (3))), (.cst (.int (3))), (.cst (.int (2))), (.cst (.int (1))), (.cst (.int (1)))])), (.assign (.loc 3) (.list [(.cst (.str (Str.ofString "")))])), (.for 4 (.loc 0) [(.ite (.cmp (.loc 4) [.Eq] [(.cst (.str (Str.ofString " ")))]) [(.expr (.meth (.loc 3) .append [(.cst (.str (Str.ofString "")))]))] [(.assign (.sub (.loc 3) (.neg (.cst (.int (1))))) (.bin .Add (.sub (.loc 3) (.neg (.cst (.int (1))))) (.loc 4)))])]), (.ite (.or [(.cmp (.sub (.loc 3) (.cst (.int (0)))) [.NotIn] [(.loc 1)]), (.cmp (.bi .len [(.loc 3)]) [.NotEq] [(.bin .Add (.cst (.int (1))) (.sub (.loc 2) (.meth (.loc 1) .index [(.sub (.loc 3) (.cst (.int (0))))])))])]) [(.ret (.cst .none))] []), (.assign (.loc 5) (.comp 6 (.call 192 [(.loc 6)]) (.slc (.loc 3) (.cst (.int (1))) (.cst .none)) [])), (.ite (.cmp (.cst .none) [.In] [(.loc 5)]) [(.ret (.cst .none))] []), (.ret (.tuple [(.sub (.loc 3) (.cst (.int (0)))), (.loc 5)]))]
noncomputable def bd204 : List AS := [(.assign (.loc 1) (.call 185 [(.loc 0)])), (.assign (.loc 2) (.call 197 [(.loc 1)])), (.tryas [(.assign (.loc 3) (.call 136 [(.loc 1)]))] 24 4 [(.assign (.loc 5) (.list [(.isi (.loc 4) (.exc 37)), (.isi (.loc 4) (.exc 49)), (.isi (.loc 4) (.exc 61)), (.isi (.loc 4) (.exc 73))])), (.assign (.loc 5) (.bin .Add (.loc 5) (.list [(.isi (.loc 4) (.exc 85)), (.isi (.loc 4) (.exc 97)), (.isi (.loc 4) (.exc 109))]))), (.ret (.and [(.cmp (.loc 2) [.Is] [(.cst .none)]), (.isi (.loc 4) (.exc 121)), (.isi (.loc 4) .ve), (.not (.bi .any [(.loc 5)]))]))]), (.ite (.or [(.cmp (.loc 2) [.Is] [(.cst .none)]), (.not (.isi (.loc 3) .tuple)), (.cmp (.bi .len [(.loc 3)]) [.NotEq] [(.bin .Add (.cst (.int (1))) (.bi .len [(.sub (.loc 2) (.cst (.int (1))))]))])]) [(.ret (.cst (.bool false)))] []), (.ret (.and [(.isi (.sub (.loc 3) (.cst (.int (0)))) .str), (.cmp (.sub (.loc 3) (.cst (.int (0)))) [.Eq] [(.sub (.loc 2) (.cst (.int (0))))]), (.call 157 [(.bi .list [(.slc (.loc 3) (.cst (.int (1))) (.cst .none))]), (.sub (.loc 2) (.cst (.int (1))))])]))]
noncomputable def fnTab : List (Nat × AFn) := [(131, ⟨1, 4, bd131⟩), (136, ⟨1, 4, bd136⟩), (143, ⟨2, 4, bd143⟩), (150, ⟨1, 3, bd150⟩), (157, ⟨2, 5, bd157⟩), (164, ⟨1, 4, bd164⟩), (171, ⟨1, 4, bd171⟩), (178, ⟨1, 8, bd178⟩), (185, ⟨1, 7, bd185⟩), (192, ⟨1, 6, bd192⟩), (197, ⟨1, 8, bd197⟩), (204, ⟨1, 8, bd204⟩)]
noncomputable def isaTab : List (Addr × Option Addr × Bool) := [(121, some 24, true), (121, some 37, false), (121, some 49, false), (121, some 61, false), (121, some 73, false), (121, some 85, false), (121, some 97, false), (121, some 109, false), (121, some 121, true), (121, none, true)]
noncomputable def PR : AProg := { fn := fun f => fnTab.lookup f, isa := fun c d => (isaTab.find? fun p => p.1 == c && p.2.1 == d).map (·.2.2), tab := fun _ => none }
end Mine
namespace Mine
open PySem PySem.W PyProof.Rows
theorem len1 {us : List Value} (h : us.length = 1) : ∃ a, us = [a] := List.length_eq_one_iff.mp h
theorem len2 {us : List Value} (h : us.length = 2) : ∃ a b, us = [a, b] := by
  cases us with
  | nil => cases h
  | cons a r => obtain ⟨b, rfl⟩ := len1 (us := r) (by simpa using h); exact ⟨a, b, rfl⟩
theorem lookup_in {α : Type} {l : List (Nat × α)} {f : Nat} {x : α} (h : l.lookup f = some x) : (f, x) ∈ l := by
  induction l with
  | nil => cases h
  | cons p r ih =>
    rw [List.lookup_cons] at h
    split at h
    · rename_i e; cases h; rw [beq_iff_eq.mp e]; exact .head _
    · exact .tail _ (ih h)
theorem fnOk_mk {K : Frag} {f : Addr} {np N : Nat} {abody : List AS} {vars : List (Str × Bool)} {globs : List (Str × GV)} {meths : List (Str × MV)} {attrs : List (Str × Addr)} {o : Obj} {fd : FuncData} {body : List Stmt} {n : Nat}
    (h1 : K.lookup f = some o) (h2 : o.data = .func fd) (h3 : fd.closure = []) (h4 : fd.globals = mainGlobals) (h5 : fd.builtins = builtinsNs) (h6 : fd.body = .stmts body)
    (h7 : (!fd.scope.isCoroutine && !fd.scope.isGenerator && decide (fd.scope.kind = .function)) = true) (h8 : codeIn K fd.code fd.qualname = true)
    (h9 : ∀ us : List Value, us.length = np → bindArgs fd ⟨us, []⟩ = pure (((vars.take np).map (·.1)).zip us))
    (h10 : cSs n (rsOf vars N fd.scope.names globs meths attrs) vars.length body = some abody)
    (h11 : (vars.all fun p => decide (p.1 ≠ dbg) && decide (p.1 ≠ cld) && decide (fd.scope.names.lookup p.1 = some (if p.2 then .cell else .local))) = true)
    (h12 : (fd.scope.names.all fun p => decide (p.2 ≠ .free)) = true) (h13 : (decide (vars.length ≤ N) && decide (np ≤ vars.length) && decide ((vars.map (·.1)).Nodup)) = true) : FnOk K f np N abody vars globs meths attrs := by
  obtain ⟨⟨a1, a2⟩, a3⟩ : (fd.scope.isCoroutine = false ∧ fd.scope.isGenerator = false) ∧ fd.scope.kind = .function := by simpa using h7
  obtain ⟨⟨b1, b2⟩, b3⟩ : (vars.length ≤ N ∧ np ≤ vars.length) ∧ (vars.map (·.1)).Nodup := by simpa using h13
  refine ⟨⟨o, fd, body, n, h1, h2, h3, h4, h5, h6, a1, a2, a3, h8, h9, h10, fun p hp => ?_, fun p hp => ?_⟩, b1, b2, b3⟩
  · have := List.all_eq_true.mp h11 p hp
    rw [Bool.and_eq_true, Bool.and_eq_true] at this
    exact ⟨of_decide_eq_true this.1.1, of_decide_eq_true this.1.2, of_decide_eq_true this.2⟩
  · exact of_decide_eq_true (List.all_eq_true.mp h12 p hp)
noncomputable def vs131 : List (Str × Bool) := [((Str.ofString "word"), false), ((Str.ofString "sign"), false)]
noncomputable def vs136 : List (Str × Bool) := [((Str.ofString "line"), false), ((Str.ofString "words"), false)]
noncomputable def vs143 : List (Str × Bool) := [((Str.ofString "_law_script"), false), ((Str.ofString "_law_k"), false)]
noncomputable def vs150 : List (Str × Bool) := [((Str.ofString "_law_found"), false)]
noncomputable def vs157 : List (Str × Bool) := [((Str.ofString "_law_found"), false), ((Str.ofString "_law_due_here"), false), ((Str.ofString "_law_k"), false)]
noncomputable def vs164 : List (Str × Bool) := [((Str.ofString "_law_cell"), false), ((Str.ofString "_law_some"), false)]
noncomputable def vs171 : List (Str × Bool) := [((Str.ofString "_law_cell"), false), ((Str.ofString "_law_odd_here"), false)]
noncomputable def vs178 : List (Str × Bool) := [((Str.ofString "_law_script"), false), ((Str.ofString "_law_words"), false), ((Str.ofString "_law_counts"), false), ((Str.ofString "_law_which"), false), ((Str.ofString "_law_line_here"), false), ((Str.ofString "_law_k"), false)]
noncomputable def vs185 : List (Str × Bool) := [((Str.ofString "_law_script"), false), ((Str.ofString "_law_kind"), false), ((Str.ofString "_law_cell"), false), ((Str.ofString "_law_line_here"), false), ((Str.ofString "_law_at"), false)]
noncomputable def vs192 : List (Str × Bool) := [((Str.ofString "_law_part"), false), ((Str.ofString "_law_number_here"), false), ((Str.ofString "_law_sign"), false), ((Str.ofString "_law_place"), false)]
noncomputable def vs197 : List (Str × Bool) := [((Str.ofString "_law_line_here"), false), ((Str.ofString "_law_words"), false), ((Str.ofString "_law_counts"), false), ((Str.ofString "_law_parts"), false), ((Str.ofString "_law_sign"), false), ((Str.ofString "_law_numbers_here"), false)]
noncomputable def vs204 : List (Str × Bool) := [((Str.ofString "_law_script"), false), ((Str.ofString "_law_line_here"), false), ((Str.ofString "_law_due_here"), false), ((Str.ofString "_law_found"), false), ((Str.ofString "e"), false), ((Str.ofString "_law_others"), false)]
theorem fn131 (P : Params) : FnOk (frag P) 131 1 4 bd131 vs131 globs meths attrs :=
  fnOk_mk (o := ob131 P) (n := 60) (by kernel_rfl) rfl rfl rfl rfl rfl (by kernel_rfl) (by kernel_rfl) (fun us h => by obtain ⟨a0, rfl⟩ := len1 h; kernel_rfl) (by kernel_rfl) (by kernel_rfl) (by kernel_rfl) (by decide +kernel)
theorem fn136 (P : Params) : FnOk (frag P) 136 1 4 bd136 vs136 globs meths attrs :=
  fnOk_mk (o := ob136 P) (n := 60) (by kernel_rfl) rfl rfl rfl rfl rfl (by kernel_rfl) (by kernel_rfl) (fun us h => by obtain ⟨a0, rfl⟩ := len1 h; kernel_rfl) (by kernel_rfl) (by kernel_rfl) (by kernel_rfl) (by decide +kernel)
theorem fn143 (P : Params) : FnOk (frag P) 143 2 4 bd143 vs143 globs meths attrs :=
  fnOk_mk (o := ob143 P) (n := 60) (by kernel_rfl) rfl rfl rfl rfl rfl (by kernel_rfl) (by kernel_rfl) (fun us h => by obtain ⟨a0, a1, rfl⟩ := len2 h; kernel_rfl) (by kernel_rfl) (by kernel_rfl) (by kernel_rfl) (by decide +kernel)
theorem fn150 (P : Params) : FnOk (frag P) 150 1 3 bd150 vs150 globs meths attrs :=
  fnOk_mk (o := ob150 P) (n := 60) (by kernel_rfl) rfl rfl rfl rfl rfl (by kernel_rfl) (by kernel_rfl) (fun us h => by obtain ⟨a0, rfl⟩ := len1 h; kernel_rfl) (by kernel_rfl) (by kernel_rfl) (by kernel_rfl) (by decide +kernel)
theorem fn157 (P : Params) : FnOk (frag P) 157 2 5 bd157 vs157 globs meths attrs :=
  fnOk_mk (o := ob157 P) (n := 60) (by kernel_rfl) rfl rfl rfl rfl rfl (by kernel_rfl) (by kernel_rfl) (fun us h => by obtain ⟨a0, a1, rfl⟩ := len2 h; kernel_rfl) (by kernel_rfl) (by kernel_rfl) (by kernel_rfl) (by decide +kernel)
theorem fn164 (P : Params) : FnOk (frag P) 164 1 4 bd164 vs164 globs meths attrs :=
  fnOk_mk (o := ob164 P) (n := 60) (by kernel_rfl) rfl rfl rfl rfl rfl (by kernel_rfl) (by kernel_rfl) (fun us h => by obtain ⟨a0, rfl⟩ := len1 h; kernel_rfl) (by kernel_rfl) (by kernel_rfl) (by kernel_rfl) (by decide +kernel)
theorem fn171 (P : Params) : FnOk (frag P) 171 1 4 bd171 vs171 globs meths attrs :=
  fnOk_mk (o := ob171 P) (n := 60) (by kernel_rfl) rfl rfl rfl rfl rfl (by kernel_rfl) (by kernel_rfl) (fun us h => by obtain ⟨a0, rfl⟩ := len1 h; kernel_rfl) (by kernel_rfl) (by kernel_rfl) (by kernel_rfl) (by decide +kernel)
theorem fn178 (P : Params) : FnOk (frag P) 178 1 8 bd178 vs178 globs meths attrs :=
  fnOk_mk (o := ob178 P) (n := 60) (by kernel_rfl) rfl rfl rfl rfl rfl (by kernel_rfl) (by kernel_rfl) (fun us h => by obtain ⟨a0, rfl⟩ := len1 h; kernel_rfl) (by kernel_rfl) (by kernel_rfl) (by kernel_rfl) (by decide +kernel)
theorem fn185 (P : Params) : FnOk (frag P) 185 1 7 bd185 vs185 globs meths attrs :=
  fnOk_mk (o := ob185 P) (n := 60) (by kernel_rfl) rfl rfl rfl rfl rfl (by kernel_rfl) (by kernel_rfl) (fun us h => by obtain ⟨a0, rfl⟩ := len1 h; kernel_rfl) (by kernel_rfl) (by kernel_rfl) (by kernel_rfl) (by decide +kernel)
theorem fn192 (P : Params) : FnOk (frag P) 192 1 6 bd192 vs192 globs meths attrs :=
  fnOk_mk (o := ob192 P) (n := 60) (by kernel_rfl) rfl rfl rfl rfl rfl (by kernel_rfl) (by kernel_rfl) (fun us h => by obtain ⟨a0, rfl⟩ := len1 h; kernel_rfl) (by kernel_rfl) (by kernel_rfl) (by kernel_rfl) (by decide +kernel)
theorem fn197 (P : Params) : FnOk (frag P) 197 1 8 bd197 vs197 globs meths attrs :=
  fnOk_mk (o := ob197 P) (n := 60) (by kernel_rfl) rfl rfl rfl rfl rfl (by kernel_rfl) (by kernel_rfl) (fun us h => by obtain ⟨a0, rfl⟩ := len1 h; kernel_rfl) (by kernel_rfl) (by kernel_rfl) (by kernel_rfl) (by decide +kernel)
theorem fn204 (P : Params) : FnOk (frag P) 204 1 8 bd204 vs204 globs meths attrs :=
  fnOk_mk (o := ob204 P) (n := 60) (by kernel_rfl) rfl rfl rfl rfl rfl (by kernel_rfl) (by kernel_rfl) (fun us h => by obtain ⟨a0, rfl⟩ := len1 h; kernel_rfl) (by kernel_rfl) (by kernel_rfl) (by kernel_rfl) (by decide +kernel)
theorem fn_list (P : Params) : ∀ p ∈ fnTab, ∃ vars, FnOk (frag P) p.1 p.2.nparams p.2.nslots p.2.body vars globs meths attrs :=
  (List.forall_mem_cons.mpr ⟨⟨vs131, fn131 P⟩, (List.forall_mem_cons.mpr ⟨⟨vs136, fn136 P⟩, (List.forall_mem_cons.mpr ⟨⟨vs143, fn143 P⟩, (List.forall_mem_cons.mpr ⟨⟨vs150, fn150 P⟩, (List.forall_mem_cons.mpr ⟨⟨vs157, fn157 P⟩, (List.forall_mem_cons.mpr ⟨⟨vs164, fn164 P⟩, (List.forall_mem_cons.mpr ⟨⟨vs171, fn171 P⟩, (List.forall_mem_cons.mpr ⟨⟨vs178, fn178 P⟩, (List.forall_mem_cons.mpr ⟨⟨vs185, fn185 P⟩, (List.forall_mem_cons.mpr ⟨⟨vs192, fn192 P⟩, (List.forall_mem_cons.mpr ⟨⟨vs197, fn197 P⟩, (List.forall_mem_cons.mpr ⟨⟨vs204, fn204 P⟩, fun _ h => nomatch h⟩)⟩)⟩)⟩)⟩)⟩)⟩)⟩)⟩)⟩)⟩)⟩)
theorem fn_all (P : Params) : ∀ f fn, fnTab.lookup f = some fn → ∃ vars, FnOk (frag P) f fn.nparams fn.nslots fn.body vars globs meths attrs := fun f fn h => fn_list P (f, fn) (lookup_in h)
end Mine
namespace Mine
open PySem PySem.W PyProof.Rows
theorem lookup_inS {α : Type} {l : List (Str × α)} {f : Str} {x : α} (h : l.lookup f = some x) : (f, x) ∈ l := by
  induction l with
  | nil => cases h
  | cons p r ih =>
    rw [List.lookup_cons] at h
    split at h
    · rename_i e; cases h; rw [beq_iff_eq.mp e]; exact .head _
    · exact .tail _ (ih h)
noncomputable def ownOk (K : Frag) (name : Str) (c f : Addr) : Prop := findIn K (.ref c) "__getattribute__" = some (some (.builtin "object.__getattribute__")) ∧ findIn K (.ref c) "__getattr__" = some none ∧
    findIn K (.ref c) name = some (some (.ref f)) ∧ typeIn K (.ref f) = some (.type "function") ∧ keepIn K (.ref f) = true
theorem stat_own (P : Params) : ∀ q ∈ meths, ∀ c f, q.2 = .own c f → ownOk (frag P) q.1 c f :=
  (List.forall_mem_cons.mpr ⟨fun _ _ e => MV.noConfusion e, (List.forall_mem_cons.mpr ⟨fun _ _ e => MV.noConfusion e, (List.forall_mem_cons.mpr ⟨fun _ _ e => MV.noConfusion e, (List.forall_mem_cons.mpr ⟨fun _ _ e => MV.noConfusion e, fun _ h => nomatch h⟩)⟩)⟩)⟩)
theorem stat_me : ∀ q ∈ meths, ∀ m, q.2 = .me m → q.1 = Str.ofString (meName m) :=
  (List.forall_mem_cons.mpr ⟨fun _ e => by cases e; rfl, (List.forall_mem_cons.mpr ⟨fun _ e => by cases e; rfl, (List.forall_mem_cons.mpr ⟨fun _ e => by cases e; rfl, (List.forall_mem_cons.mpr ⟨fun _ e => by cases e; rfl, fun _ h => nomatch h⟩)⟩)⟩)⟩)
theorem stat_attr (P : Params) : ∀ q ∈ attrs, AttrOk (frag P) q.2 q.1 :=
  fun _ h => nomatch h
noncomputable def gAt (K : Frag) (x : Str) (g : GV) : Prop := ∃ v, GOk K g v ∧ (nsIn K mainGlobals x = some (some v) ∨ (nsIn K mainGlobals x = some none ∧ bootBuiltins x = some v ∧ x ≠ nm))
theorem ns23 (P : Params) : NsK (frag P) 23 := NsK.of (o := ob23 P) (by kernel_rfl) rfl (by kernel_rfl) (by kernel_rfl)
theorem ns36 (P : Params) : NsK (frag P) 36 := NsK.of (o := ob36 P) (by kernel_rfl) rfl (by kernel_rfl) (by kernel_rfl)
theorem ns48 (P : Params) : NsK (frag P) 48 := NsK.of (o := ob48 P) (by kernel_rfl) rfl (by kernel_rfl) (by kernel_rfl)
theorem ns60 (P : Params) : NsK (frag P) 60 := NsK.of (o := ob60 P) (by kernel_rfl) rfl (by kernel_rfl) (by kernel_rfl)
theorem ns72 (P : Params) : NsK (frag P) 72 := NsK.of (o := ob72 P) (by kernel_rfl) rfl (by kernel_rfl) (by kernel_rfl)
theorem ns84 (P : Params) : NsK (frag P) 84 := NsK.of (o := ob84 P) (by kernel_rfl) rfl (by kernel_rfl) (by kernel_rfl)
theorem ns96 (P : Params) : NsK (frag P) 96 := NsK.of (o := ob96 P) (by kernel_rfl) rfl (by kernel_rfl) (by kernel_rfl)
theorem ns108 (P : Params) : NsK (frag P) 108 := NsK.of (o := ob108 P) (by kernel_rfl) rfl (by kernel_rfl) (by kernel_rfl)
theorem ns120 (P : Params) : NsK (frag P) 120 := NsK.of (o := ob120 P) (by kernel_rfl) rfl (by kernel_rfl) (by kernel_rfl)
theorem ex24 (P : Params) : ExcK (frag P) 24 := ExcK.base (o := ob24 P) (by kernel_rfl) rfl (ns23 P)
theorem ex37 (P : Params) : ExcK (frag P) 37 := ExcK.own (o := ob37 P) (o1 := ob24 P) (by kernel_rfl) rfl (ns36 P) (by kernel_rfl) rfl (ns23 P)
theorem ex49 (P : Params) : ExcK (frag P) 49 := ExcK.own (o := ob49 P) (o1 := ob24 P) (by kernel_rfl) rfl (ns48 P) (by kernel_rfl) rfl (ns23 P)
theorem ex61 (P : Params) : ExcK (frag P) 61 := ExcK.own (o := ob61 P) (o1 := ob24 P) (by kernel_rfl) rfl (ns60 P) (by kernel_rfl) rfl (ns23 P)
theorem ex73 (P : Params) : ExcK (frag P) 73 := ExcK.own (o := ob73 P) (o1 := ob24 P) (by kernel_rfl) rfl (ns72 P) (by kernel_rfl) rfl (ns23 P)
theorem ex85 (P : Params) : ExcK (frag P) 85 := ExcK.own (o := ob85 P) (o1 := ob24 P) (by kernel_rfl) rfl (ns84 P) (by kernel_rfl) rfl (ns23 P)
theorem ex97 (P : Params) : ExcK (frag P) 97 := ExcK.own (o := ob97 P) (o1 := ob24 P) (by kernel_rfl) rfl (ns96 P) (by kernel_rfl) rfl (ns23 P)
theorem ex109 (P : Params) : ExcK (frag P) 109 := ExcK.own (o := ob109 P) (o1 := ob24 P) (by kernel_rfl) rfl (ns108 P) (by kernel_rfl) rfl (ns23 P)
theorem ex121 (P : Params) : ExcK (frag P) 121 := ExcK.own (o := ob121 P) (o1 := ob24 P) (by kernel_rfl) rfl (ns120 P) (by kernel_rfl) rfl (ns23 P)
noncomputable def es124 (P : Params) : Array DictEntry := match (ob124 P).data with | .dict es _ => es | _ => #[]
theorem tab124 (P : Params) : ∀ x, NsAt [] (nsFind (es124 P) x) (lookS [(Str.ofString "make", AV.int 2), (Str.ofString "take", AV.int 3), (Str.ofString "put", AV.int 3), (Str.ofString "share", AV.int 2), (Str.ofString "drop", AV.int 1), (Str.ofString "work", AV.int 1)] x) := tab_arr ⟨⟨⟨_, rfl⟩, .int _ _⟩, ⟨⟨_, rfl⟩, .int _ _⟩, ⟨⟨_, rfl⟩, .int _ _⟩, ⟨⟨_, rfl⟩, .int _ _⟩, ⟨⟨_, rfl⟩, .int _ _⟩, ⟨⟨_, rfl⟩, .int _ _⟩, trivial⟩
theorem keys_of {prog : Program} {w : World} : ∀ {es : List DictEntry} {ks : List Str}, F2 (fun e k => (∃ t, e.key = .str k t) ∧ e.hash = hashStr w k) es ks → ∀ e ∈ es, ∃ k, (PySem.strKind prog w).is k e.key = true ∧ e.hash = (PySem.strKind prog w).hash k
  | [], [], _, _, h => nomatch h
  | e :: es, k :: ks, h, e', he => by
    rcases List.mem_cons.mp he with rfl | he
    · obtain ⟨⟨t, ht⟩, hh⟩ := h.1
      exact ⟨k, by rw [ht]; exact isStr_self k t, hh⟩
    · exact keys_of h.2 e' he
  | [], _ :: _, h, _, _ => h.elim
  | _ :: _, [], h, _, _ => h.elim
theorem tabs (w : World) : TabsK w (frag w.params) := fun a o h ht prog es ep hd => by
  have hm : (a, o) ∈ (frag w.params).filter (fun p => isTab p.2) := List.mem_filter.mpr ⟨lookup_mem h, ht⟩
  have hf : (frag w.params).filter (fun p => isTab p.2) = [(124, ob124 w.params)] := by kernel_rfl
  rw [hf] at hm
  cases List.mem_singleton.mp hm
  have he : es = es124 w.params := by cases hd; rfl
  subst he
  intro e he
  have he : e ∈ (es124 w.params).toList := by simpa using he
  exact keys_of (prog := prog) (w := w) (es := (es124 w.params).toList) (ks := [Str.ofString "make", Str.ofString "take", Str.ofString "put", Str.ofString "share", Str.ofString "drop", Str.ofString "work"]) ⟨⟨⟨_, rfl⟩, rfl⟩, ⟨⟨_, rfl⟩, rfl⟩, ⟨⟨_, rfl⟩, rfl⟩, ⟨⟨_, rfl⟩, rfl⟩, ⟨⟨_, rfl⟩, rfl⟩, ⟨⟨_, rfl⟩, rfl⟩, trivial⟩ e he
theorem stat_glob (P : Params) : ∀ q ∈ globs, gAt (frag P) q.1 q.2 :=
  (List.forall_mem_cons.mpr ⟨⟨_, ⟨rfl, fun _ e => by cases e; exact ex24 P⟩, .inl (by kernel_rfl)⟩, (List.forall_mem_cons.mpr ⟨⟨_, ⟨rfl, fun _ e => by cases e; exact ex37 P⟩, .inl (by kernel_rfl)⟩, (List.forall_mem_cons.mpr ⟨⟨_, ⟨rfl, fun _ e => by cases e; exact ex49 P⟩, .inl (by kernel_rfl)⟩, (List.forall_mem_cons.mpr ⟨⟨_, ⟨rfl, fun _ e => by cases e; exact ex61 P⟩, .inl (by kernel_rfl)⟩, (List.forall_mem_cons.mpr ⟨⟨_, ⟨rfl, fun _ e => by cases e; exact ex73 P⟩, .inl (by kernel_rfl)⟩, (List.forall_mem_cons.mpr ⟨⟨_, ⟨rfl, fun _ e => by cases e; exact ex85 P⟩, .inl (by kernel_rfl)⟩, (List.forall_mem_cons.mpr ⟨⟨_, ⟨rfl, fun _ e => by cases e; exact ex97 P⟩, .inl (by kernel_rfl)⟩, (List.forall_mem_cons.mpr ⟨⟨_, ⟨rfl, fun _ e => by cases e; exact ex109 P⟩, .inl (by kernel_rfl)⟩, (List.forall_mem_cons.mpr ⟨⟨_, ⟨rfl, fun _ e => by cases e; exact ex121 P⟩, .inl (by kernel_rfl)⟩, (List.forall_mem_cons.mpr ⟨⟨_, ⟨124, ob124 P, es124 P, _, rfl, by kernel_rfl, by kernel_rfl, by decide, ⟨rfl, rfl, rfl⟩, rfl, tab124 P⟩, .inl (by kernel_rfl)⟩, (List.forall_mem_cons.mpr ⟨⟨.str (Str.ofString "0123456789") 356, (VRel.str _ 356 : VRel [] _ _), .inl (by kernel_rfl)⟩, (List.forall_mem_cons.mpr ⟨⟨.int 60 358, (VRel.int 60 358 : VRel [] _ _), .inl (by kernel_rfl)⟩, (List.forall_mem_cons.mpr ⟨⟨_, ⟨rfl, by kernel_rfl⟩, .inl (by kernel_rfl)⟩, (List.forall_mem_cons.mpr ⟨⟨_, ⟨rfl, by kernel_rfl⟩, .inl (by kernel_rfl)⟩, (List.forall_mem_cons.mpr ⟨⟨_, ⟨rfl, by kernel_rfl⟩, .inl (by kernel_rfl)⟩, (List.forall_mem_cons.mpr ⟨⟨_, ⟨rfl, by kernel_rfl⟩, .inl (by kernel_rfl)⟩, (List.forall_mem_cons.mpr ⟨⟨_, ⟨rfl, by kernel_rfl⟩, .inl (by kernel_rfl)⟩, (List.forall_mem_cons.mpr ⟨⟨_, ⟨rfl, by kernel_rfl⟩, .inl (by kernel_rfl)⟩, (List.forall_mem_cons.mpr ⟨⟨_, ⟨rfl, by kernel_rfl⟩, .inl (by kernel_rfl)⟩, (List.forall_mem_cons.mpr ⟨⟨_, ⟨rfl, by kernel_rfl⟩, .inl (by kernel_rfl)⟩, (List.forall_mem_cons.mpr ⟨⟨_, ⟨rfl, by kernel_rfl⟩, .inl (by kernel_rfl)⟩, (List.forall_mem_cons.mpr ⟨⟨_, ⟨rfl, by kernel_rfl⟩, .inl (by kernel_rfl)⟩, (List.forall_mem_cons.mpr ⟨⟨_, ⟨rfl, by kernel_rfl⟩, .inl (by kernel_rfl)⟩, (List.forall_mem_cons.mpr ⟨⟨_, ⟨rfl, by kernel_rfl⟩, .inl (by kernel_rfl)⟩, (List.forall_mem_cons.mpr ⟨⟨_, rfl, .inr ⟨by kernel_rfl, by kernel_rfl, by decide⟩⟩, (List.forall_mem_cons.mpr ⟨⟨_, rfl, .inr ⟨by kernel_rfl, by kernel_rfl, by decide⟩⟩, (List.forall_mem_cons.mpr ⟨⟨_, rfl, .inr ⟨by kernel_rfl, by kernel_rfl, by decide⟩⟩, (List.forall_mem_cons.mpr ⟨⟨_, rfl, .inr ⟨by kernel_rfl, by kernel_rfl, by decide⟩⟩, (List.forall_mem_cons.mpr ⟨⟨_, rfl, .inr ⟨by kernel_rfl, by kernel_rfl, by decide⟩⟩, (List.forall_mem_cons.mpr ⟨⟨_, ⟨rfl, fun _ e => TY.noConfusion e⟩, .inr ⟨by kernel_rfl, by kernel_rfl, by decide⟩⟩, (List.forall_mem_cons.mpr ⟨⟨_, rfl, .inr ⟨by kernel_rfl, by kernel_rfl, by decide⟩⟩, (List.forall_mem_cons.mpr ⟨⟨_, rfl, .inr ⟨by kernel_rfl, by kernel_rfl, by decide⟩⟩, (List.forall_mem_cons.mpr ⟨⟨_, rfl, .inr ⟨by kernel_rfl, by kernel_rfl, by decide⟩⟩, (List.forall_mem_cons.mpr ⟨⟨_, ⟨rfl, fun _ e => TY.noConfusion e⟩, .inr ⟨by kernel_rfl, by kernel_rfl, by decide⟩⟩, fun _ h => nomatch h⟩)⟩)⟩)⟩)⟩)⟩)⟩)⟩)⟩)⟩)⟩)⟩)⟩)⟩)⟩)⟩)⟩)⟩)⟩)⟩)⟩)⟩)⟩)⟩)⟩)⟩)⟩)⟩)⟩)⟩)⟩)⟩)⟩)⟩)
theorem tells121 (P : Params) : Tells (frag P) 121 := ⟨by kernel_rfl, by kernel_rfl, by kernel_rfl, by kernel_rfl, by kernel_rfl, by kernel_rfl, by kernel_rfl, by kernel_rfl⟩
theorem isa_list (P : Params) : ∀ p ∈ isaTab, Isa1 (frag P) p.1 p.2.1 p.2.2 :=
  (List.forall_mem_cons.mpr ⟨Isa1.yes (Asks.cls (by decide) (by kernel_rfl) (by kernel_rfl) (by kernel_rfl)), (List.forall_mem_cons.mpr ⟨Isa1.no (tells121 P) (Asks.cls (by decide) (by kernel_rfl) (by kernel_rfl) (by kernel_rfl)), (List.forall_mem_cons.mpr ⟨Isa1.no (tells121 P) (Asks.cls (by decide) (by kernel_rfl) (by kernel_rfl) (by kernel_rfl)), (List.forall_mem_cons.mpr ⟨Isa1.no (tells121 P) (Asks.cls (by decide) (by kernel_rfl) (by kernel_rfl) (by kernel_rfl)), (List.forall_mem_cons.mpr ⟨Isa1.no (tells121 P) (Asks.cls (by decide) (by kernel_rfl) (by kernel_rfl) (by kernel_rfl)), (List.forall_mem_cons.mpr ⟨Isa1.no (tells121 P) (Asks.cls (by decide) (by kernel_rfl) (by kernel_rfl) (by kernel_rfl)), (List.forall_mem_cons.mpr ⟨Isa1.no (tells121 P) (Asks.cls (by decide) (by kernel_rfl) (by kernel_rfl) (by kernel_rfl)), (List.forall_mem_cons.mpr ⟨Isa1.no (tells121 P) (Asks.cls (by decide) (by kernel_rfl) (by kernel_rfl) (by kernel_rfl)), (List.forall_mem_cons.mpr ⟨Isa1.self, (List.forall_mem_cons.mpr ⟨Isa1.ve (Asks.ve (by kernel_rfl)), fun _ h => nomatch h⟩)⟩)⟩)⟩)⟩)⟩)⟩)⟩)⟩)⟩)
theorem anc_list (P : Params) : ∀ p ∈ isaTab, ∀ c, p.2.1 = some c → p.2.2 = true → AncK (frag P) p.1 c :=
  (List.forall_mem_cons.mpr ⟨(fun _ e _ => by cases e; exact AncK.own (o := ob121 P) (o' := ob24 P) (by kernel_rfl) rfl (by kernel_rfl) rfl), (List.forall_mem_cons.mpr ⟨(fun _ _ e => nomatch e), (List.forall_mem_cons.mpr ⟨(fun _ _ e => nomatch e), (List.forall_mem_cons.mpr ⟨(fun _ _ e => nomatch e), (List.forall_mem_cons.mpr ⟨(fun _ _ e => nomatch e), (List.forall_mem_cons.mpr ⟨(fun _ _ e => nomatch e), (List.forall_mem_cons.mpr ⟨(fun _ _ e => nomatch e), (List.forall_mem_cons.mpr ⟨(fun _ _ e => nomatch e), (List.forall_mem_cons.mpr ⟨(fun _ e _ => by cases e; exact AncK.self (ex121 P)), (List.forall_mem_cons.mpr ⟨(fun _ e => nomatch e), fun _ h => nomatch h⟩)⟩)⟩)⟩)⟩)⟩)⟩)⟩)⟩)⟩)
theorem isa_some {c : Addr} {d : Option Addr} {b : Bool} (h : PR.isa c d = some b) : ∃ p ∈ isaTab, p.1 = c ∧ p.2.1 = d ∧ p.2.2 = b := by
  obtain ⟨p, h1, h2⟩ := Option.map_eq_some_iff.mp h
  have h3 := List.find?_some h1
  have h3 := Bool.and_eq_true_iff.mp h3
  exact ⟨p, List.mem_of_find?_eq_some h1, beq_iff_eq.mp h3.1, beq_iff_eq.mp h3.2, h2⟩
theorem isaK (P : Params) : IsaK PR (frag P) := fun c d b h => by
  obtain ⟨p, hp, rfl, rfl, rfl⟩ := isa_some h
  exact isa_list P p hp
theorem ancK (P : Params) : ∀ c d, PR.isa d (some c) = some true → AncK (frag P) d c := fun c d h => by
  obtain ⟨p, hp, rfl, e, f⟩ := isa_some h
  exact anc_list P p hp c e f
theorem stat (P : Params) : StatOk' (frag P) globs meths attrs :=
  ⟨fun name c f h => stat_own P _ (lookup_inS h) c f rfl, fun name m h => stat_me _ (lookup_inS h) m rfl, fun name c h => stat_attr P _ (lookup_inS h), fun x g h => stat_glob P _ (lookup_inS h)⟩
end Mine
namespace Mine
open PySem PySem.W PyProof.Rows


theorem f2_ints {ι : List Addr} : ∀ {vs : List Value} {xs : List Int}, IntsAre vs xs → F2 (VRel ι) vs (xs.map AV.int)
  | _, _, .nil => trivial
  | _, _, .cons k t h => ⟨.int k t, f2_ints h⟩

noncomputable def es6 (P : Params) : Array DictEntry := match (ob6 P).data with | .dict es _ => es | _ => #[]
noncomputable def ep6 (P : Params) : Nat := match (ob6 P).data with | .dict _ n => n | _ => 0
theorem strKeys_of {es : Array DictEntry} (h : (es.toList.all fun e => match e.key with | .str _ _ => true | _ => false) = true) : StrKeys es := by
  intro e he
  have := List.all_eq_true.mp h e (by simpa using he)
  split at this
  · rename_i n t q; exact ⟨n, t, q⟩
  · cases this
theorem keys6 (P : Params) : StrKeys (es6 P) := strKeys_of (by kernel_rfl)

theorem enter {prog : Program} {w : World} {s : Shared} {p : Program} {loose : List Str} {mg mb : Str → Option Value} (KX : (fragAll w.params).In s.heap) (T : TopRead p loose mg mb s.heap) (hmods : ∃ o, s.heap.get? sysModules = some o)
    {a : Addr} {vs : Array Value} {xs : List Int} (hl : s.heap.IsList a vs) (hi : IntsAre vs.toList xs) (hn : xs.length ≤ line) {n : Nat} (hnn : n ≤ 100) {r : AV} {σ' : List AO}
    (run : acall PR n 204 [.obj 0] [.ro (xs.map .int)] = some (.ok r, σ')) {Q : Value → Shared → Prop} {E : Value → Shared → Prop}
    (hQ : ∀ ι' s' v, VRel ι' v r → (∀ b o, s.heap.get? b = some o → s'.heap.get? b = some o) → s' = { s with heap := s'.heap, toks := s'.toks } → Q v s') :
    wpAny (model prog w) callerA (call (.ref 204) [.ref a]) Q E s := by
  have h30 : s.heap.get? 6 = some (ob6 w.params) := KX 6 _ rfl
  obtain ⟨oa, hoa, hca, na, hda⟩ := id hl
  have ha30 : a ≠ 6 := fun e => by
    rw [e, h30] at hoa; cases hoa
    have : (ob6 w.params).cls = .type "dict" := rfl
    rw [this] at hca
    exact absurd hca (by decide)
  let hb := hideAll s.heap [6]
  have hbk : ∀ b o, hb.get? b = some o → s.heap.get? b = some o := fun b o e => of_hideAll [6] e
  have hbg : ∀ b o, b ≠ 6 → s.heap.get? b = some o → hb.get? b = some o := fun b o h e => hideAll_get [6] e (fun q => h (List.mem_singleton.mp q))
  let X : Cx := { Kp := hb.get?, L := 6, locs := [], s₀ := s, ros := [a], fr := [] }
  have R : Rel prog w X [a] ⟨[.ro (xs.map .int)], []⟩ s := by
    refine ⟨fun b o e => ⟨o, hbk b o e, .inl rfl⟩, ⟨nsFind (es6 w.params), ⟨ob6 w.params, es6 w.params, ep6 w.params, h30, rfl, keys6 _, fun _ => rfl⟩, fun i x y h => (by cases h)⟩, rfl, by simp, ?_, ?_, fun i c h => (by cases h), fun i C x h => (by cases h), rfl, rfl⟩
    · intro i b ao h1 h2
      match i, h1, h2 with
      | 0, h1, h2 => cases h1; cases h2; exact ⟨fun q => (by cases q), ha30, fun _ => List.mem_singleton.mpr rfl⟩
      | i + 1, h1, h2 => cases h1
    · intro i ao h
      match i, h with
      | 0, h => cases h; exact ⟨a, oa, rfl, hoa, ⟨vs, na, hca, hda, f2_ints hi⟩, by simpa using hn⟩
      | i + 1, h => cases h
  have ok : CxOk X := by
    refine ⟨fun i j x h => (by cases h), fun i j x h => (by cases h), hideAll_none (h := s.heap) (b := 6) [6] (List.mem_singleton.mpr rfl), fun i c h => (by cases h), fun i C x h => (by cases h), fun b hb' => ?_, fun _ _ q => (nomatch q), fun _ q => (nomatch q)⟩
    have : b = a := List.mem_singleton.mp hb'
    subst this
    exact ⟨oa, hbg _ _ ha30 hoa⟩
  have KI : (frag w.params).In hb := by
    intro b o e
    have hb30 : b ≠ 6 := by
      rintro rfl
      have : (frag w.params).lookup 6 = none := by kernel_rfl
      rw [this] at e; cases e
    refine hbg b o hb30 (KX b o ?_)
    show List.lookup b ((6, ob6 w.params) :: frag w.params) = some o
    rw [List.lookup_cons, beq_eq_false_iff_ne.mpr hb30]; exact e
  have TR : TopRead p loose mg mb hb := by
    have keepNs : ∀ {b : Addr} {m : Str → Option Value}, b ≠ 6 → s.heap.Ns b m → hb.Ns b m := fun h hN => hN.at' fun o e => hbg _ o h e
    obtain ⟨mc, hc, hc'⟩ := T.nolimit
    exact ⟨keepNs (by decide) T.g, keepNs (by decide) T.b, ⟨mc, keepNs (by decide) hc, hc'⟩, T.builtins, T.free⟩
  have G : Gr (frag w.params) hb callerA X := by
    obtain ⟨om, hom⟩ := hmods
    exact ⟨fun b o e => e, KI, ⟨p, loose, mg, mb, TR⟩, ⟨om, hbg _ _ (by decide) hom⟩, (fun _ q => nomatch q), by decide +kernel, ok, ⟨[], rfl, fun _ q => (nomatch q)⟩, fun _ q => (nomatch q)⟩
  have hd : callerA.depth + 3 * n < recursionLimit := by
    have h1 : callerA.depth = 301 := by decide +kernel
    have h2 : recursionLimit = 1000 := by decide +kernel
    omega
  have hu : callerA.units + 10 * n + 10 < cLine := by
    have h1 : callerA.units = 4 := rfl
    have h2 : cLine = 9900 := rfl
    omega
  have C := codes (prog := prog) (w := w) (hb := hb) (P := PR) (stat w.params) (isaK w.params) (ancK w.params) (tabs w) (fun f fn h => fn_all w.params f fn h) n callerA rfl hd hu
  have hf : callFn (acall PR n) 204 [.obj 0] ⟨[.ro (xs.map .int)], []⟩ = some (.ok r, ⟨σ', []⟩) := by unfold callFn; rw [run]
  refine wpAny_call (C 204 X [a] _ s [.ref a] [.obj 0] G R ⟨.obj rfl, trivial⟩ (.ok r) _ hf _ fun ι' s' v p' R' hv kept => hQ ι' s' v hv (fun b o e => ?_) R'.shape)
  by_cases q : b = a
  · subst q
    exact (R'.frozen _ o (hbg _ _ ha30 e)).get fun q => (nomatch q)
  · exact kept b o (by simpa using q) (fun q => (nomatch q)) e
end Mine
namespace Mine
open PySem
noncomputable def Ok {α : Type} (m : M α) (st : ASt) (Q : α → ASt → Prop) : Prop := ∃ a st', m st = some (.ok a, st') ∧ Q a st'
section
variable {α β : Type}
theorem k_ret {a : α} {st : ASt} {Q : α → ASt → Prop} : Ok (ret a) st Q = Q a st := propext ⟨fun ⟨_, _, h, q⟩ => by cases h; exact q, fun q => ⟨_, _, rfl, q⟩⟩
theorem k_bnd {m : M α} {f : α → M β} {st : ASt} {Q : β → ASt → Prop} : Ok (bnd m f) st Q = Ok m st fun a s => Ok (f a) s Q := by
  refine propext ⟨fun ⟨b, s, h, q⟩ => ?_, fun ⟨a, s, h, b, s', h', q⟩ => ⟨b, s', ?_, q⟩⟩
  · unfold bnd at h
    match e : m st, h with
    | some (.ok a, s'), h => exact ⟨a, s', e, b, s, h, q⟩
  · unfold bnd; rw [h]; exact h'
theorem k_getLoc {i : Nat} {σ : List AO} {ρ : List (Option AV)} {Q : AV → ASt → Prop} {v : AV} (h : ρ[i]? = some (some v)) : Ok (getLoc i) ⟨σ, ρ⟩ Q = Q v ⟨σ, ρ⟩ := by
  have : getLoc i ⟨σ, ρ⟩ = some (.ok v, ⟨σ, ρ⟩) := by unfold getLoc; rw [h]
  exact propext ⟨fun ⟨_, _, e, q⟩ => by rw [this] at e; cases e; exact q, fun q => ⟨_, _, this, q⟩⟩
theorem k_setLoc {i : Nat} {v : AV} {σ : List AO} {ρ : List (Option AV)} {Q : Unit → ASt → Prop} : Ok (setLoc i v) ⟨σ, ρ⟩ Q = Q () ⟨σ, ρ.set i (some v)⟩ := propext ⟨fun ⟨_, _, h, q⟩ => by cases h; exact q, fun q => ⟨_, _, rfl, q⟩⟩
theorem k_alloc {o : AO} {σ : List AO} {ρ : List (Option AV)} {Q : AV → ASt → Prop} : Ok (alloc o) ⟨σ, ρ⟩ Q = Q (.obj σ.length) ⟨σ ++ [o], ρ⟩ := propext ⟨fun ⟨_, _, h, q⟩ => by cases h; exact q, fun q => ⟨_, _, rfl, q⟩⟩
theorem k_upd {i : Nat} {o : AO} {σ : List AO} {ρ : List (Option AV)} {Q : Unit → ASt → Prop} : Ok (upd i o) ⟨σ, ρ⟩ Q = Q () ⟨σ.set i o, ρ⟩ := propext ⟨fun ⟨_, _, h, q⟩ => by cases h; exact q, fun q => ⟨_, _, rfl, q⟩⟩
theorem k_deref {i : Nat} {o : AO} {σ : List AO} {ρ : List (Option AV)} {Q : AO → ASt → Prop} (h : σ[i]? = some o) : Ok (deref i) ⟨σ, ρ⟩ Q = Q o ⟨σ, ρ⟩ := by
  have : deref i ⟨σ, ρ⟩ = some (.ok o, ⟨σ, ρ⟩) := by unfold deref; rw [h]
  exact propext ⟨fun ⟨_, _, e, q⟩ => by rw [this] at e; cases e; exact q, fun q => ⟨_, _, this, q⟩⟩
theorem k_guard {b : Bool} {st : ASt} {Q : Unit → ASt → Prop} (h : b = true) : Ok (guard b) st Q = Q () st := by
  subst h; exact propext ⟨fun ⟨_, _, e, q⟩ => by cases e; exact q, fun q => ⟨_, _, rfl, q⟩⟩
theorem k_ofOpt {o : Option α} {a : α} {st : ASt} {Q : α → ASt → Prop} (h : o = some a) : Ok (ofOpt o) st Q = Q a st := by
  subst h; exact propext ⟨fun ⟨_, _, e, q⟩ => by cases e; exact q, fun q => ⟨_, _, rfl, q⟩⟩
theorem k_ite {c : Prop} [Decidable c] {a b : M α} {st : ASt} {Q : α → ASt → Prop} : Ok (if c then a else b) st Q = if c then Ok a st Q else Ok b st Q := by split <;> rfl
theorem Ok.mono {m : M α} {st : ASt} {Q Q' : α → ASt → Prop} (h : Ok m st Q) (g : ∀ a s, Q a s → Q' a s) : Ok m st Q' := by
  obtain ⟨a, s, e, q⟩ := h; exact ⟨a, s, e, g a s q⟩
theorem k_test {t : Bool} {A B : Prop} (h : t = true) (a : A) : if t = true then A else B := by rw [if_pos h]; exact a
theorem k_ntest {t : Bool} {A B : Prop} (h : t = false) (b : B) : if t = true then A else B := by rw [if_neg (by rw [h]; exact Bool.false_ne_true)]; exact b
end
section
variable {P : AProg} {C : Calls} {st : ASt} {σ : List AO} {ρ : List (Option AV)} {Q : AV → ASt → Prop} {QB : Bool → ASt → Prop} {QF : AF → ASt → Prop} {QU : Unit → ASt → Prop} {QL : List AV → ASt → Prop}
theorem e_cst {v : AV} (q : Q v st) : Ok (aeval P C (.cst v)) st Q := by show Ok (ret _) _ _; rw [k_ret]; exact q
theorem e_loc {i : Nat} {v : AV} (h : ρ[i]? = some (some v)) (q : Q v ⟨σ, ρ⟩) : Ok (aeval P C (.loc i)) ⟨σ, ρ⟩ Q := by show Ok (getLoc _) _ _; rw [k_getLoc h]; exact q
theorem e_bin {op : Operator} {l r : AE} (q : Ok (aeval P C l) st fun a s => Ok (aeval P C r) s fun b s => Ok (binop op a b) s Q) : Ok (aeval P C (.bin op l r)) st Q := by show Ok (bnd _ _) _ _; simp only [k_bnd]; exact q
theorem e_not {x : AE} (q : Ok (aeval P C x) st fun a s => Ok (truthy a) s fun b s => Q (.bool !b) s) : Ok (aeval P C (.not x)) st Q := by show Ok (bnd _ _) _ _; simp only [k_bnd, k_ret]; exact q
theorem e_and {xs : List AE} (q : Ok (aand P C xs) st Q) : Ok (aeval P C (.and xs)) st Q := q
theorem a_one {e : AE} (q : Ok (aeval P C e) st Q) : Ok (aand P C [e]) st Q := q
theorem a_more {e e' : AE} {r : List AE} (q : Ok (aeval P C e) st fun v s => Ok (truthy v) s fun b s => if b = true then Ok (aand P C (e' :: r)) s Q else Q v s) : Ok (aand P C (e :: e' :: r)) st Q := by
  show Ok (bnd _ _) _ _
  simp only [k_bnd, k_ite, k_ret]; exact q
theorem e_cmp {l : AE} {ops : List CmpOp} {rs : List AE} (q : Ok (aeval P C l) st fun a s => Ok (achain P C rs a ops) s fun b s => Q (.bool b) s) : Ok (aeval P C (.cmp l ops rs)) st Q := by show Ok (bnd _ _) _ _; simp only [k_bnd, k_ret]; exact q
theorem c_one {e : AE} {a : AV} {op : CmpOp} (q : Ok (aeval P C e) st fun b s => Ok (cmpop op a b) s QB) : Ok (achain P C [e] a [op]) st QB := by
  show Ok (bnd _ _) _ _
  simp only [k_bnd, List.isEmpty_nil, Bool.and_self, if_true, k_ret]; exact q
theorem c_more {e e' : AE} {a : AV} {op op' : CmpOp} {r : List AE} {ops : List CmpOp} (q : Ok (aeval P C e) st fun b s => Ok (cmpop op a b) s fun t s => if t = true then Ok (achain P C (e' :: r) b (op' :: ops)) s QB else QB false s) : Ok (achain P C (e :: e' :: r) a (op :: op' :: ops)) st QB := by
  show Ok (bnd _ _) _ _
  simp only [k_bnd, List.isEmpty_cons, Bool.and_self, Bool.false_eq_true, if_false, k_ite, k_ret]; exact q
theorem e_call {f : Addr} {args : List AE} (q : Ok (aevals P C args) st fun vs s => Ok (callFn C f vs) s Q) : Ok (aeval P C (.call f args)) st Q := by show Ok (bnd _ _) _ _; simp only [k_bnd]; exact q
theorem e_bi {b : BI} {args : List AE} (q : Ok (aevals P C args) st fun vs s => Ok (callBi b vs) s Q) : Ok (aeval P C (.bi b args)) st Q := by show Ok (bnd _ _) _ _; simp only [k_bnd]; exact q
theorem e_isi {x : AE} {t : TY} (q : Ok (aeval P C x) st fun a s => Ok (isaT P a t) s fun b s => Q (.bool b) s) : Ok (aeval P C (.isi x t)) st Q := by show Ok (bnd _ _) _ _; simp only [k_bnd, k_ret]; exact q
theorem e_meth {o : AE} {m : ME} {args : List AE} (q : Ok (aeval P C o) st fun a s => Ok (kindOf a) s fun k s => Ok (aevals P C args) s fun vs s => Ok (callMeth k a m vs) s Q) : Ok (aeval P C (.meth o m args)) st Q := by show Ok (bnd _ _) _ _; simp only [k_bnd]; exact q
theorem e_sub {o i : AE} (q : Ok (aeval P C o) st fun a s => Ok (aeval P C i) s fun b s => Ok (getItem a b) s Q) : Ok (aeval P C (.sub o i)) st Q := by show Ok (bnd _ _) _ _; simp only [k_bnd]; exact q
theorem e_list {xs : List AE} (q : Ok (aevals P C xs) st fun vs s => Ok (alloc (.list vs)) s Q) : Ok (aeval P C (.list xs)) st Q := by show Ok (bnd _ _) _ _; simp only [k_bnd]; exact q
theorem e_tuple {xs : List AE} (q : Ok (aevals P C xs) st fun vs s => Ok (alloc (.tuple vs)) s Q) : Ok (aeval P C (.tuple xs)) st Q := by show Ok (bnd _ _) _ _; simp only [k_bnd]; exact q
theorem e_comp {k : Nat} {elt iter : AE} {ifs : List AE} (q : Ok (aeval P C iter) st fun v s => Ok (iterLen v) s fun qn s => decide (qn.2 ≤ line) = true ∧ Ok (compLoop qn.1 v qn.2 k (atests P C ifs) (aeval P C elt) qn.2 0 []) s fun xs s => Ok (alloc (.list xs)) s Q) : Ok (aeval P C (.comp k elt iter ifs)) st Q := by
  show Ok (bnd _ _) _ _
  simp only [k_bnd]
  exact q.mono fun v s q => q.mono fun qn s q => by rw [k_guard q.1]; exact q.2
theorem es_nil (q : QL [] st) : Ok (aevals P C []) st QL := by show Ok (ret _) _ _; rw [k_ret]; exact q
theorem es_cons {e : AE} {r : List AE} (q : Ok (aeval P C e) st fun v s => Ok (aevals P C r) s fun vs s => QL (v :: vs) s) : Ok (aevals P C (e :: r)) st QL := by show Ok (bnd _ _) _ _; simp only [k_bnd, k_ret]; exact q
theorem t_not {x : AE} (q : Ok (atest P C x) st fun b s => QB (!b) s) : Ok (atest P C (.not x)) st QB := by show Ok (bnd _ _) _ _; simp only [k_bnd, k_ret]; exact q
theorem t_and {xs : List AE} (q : Ok (aall P C xs) st QB) : Ok (atest P C (.and xs)) st QB := q
theorem t_or {xs : List AE} (q : Ok (aany P C xs) st QB) : Ok (atest P C (.or xs)) st QB := q
theorem t_cmp {l : AE} {ops : List CmpOp} {rs : List AE} (q : Ok (aeval P C l) st fun a s => Ok (achain P C rs a ops) s QB) : Ok (atest P C (.cmp l ops rs)) st QB := by show Ok (bnd _ _) _ _; simp only [k_bnd]; exact q
theorem t_call {f : Addr} {args : List AE} (q : Ok (aeval P C (.call f args)) st fun v s => Ok (truthy v) s QB) : Ok (atest P C (.call f args)) st QB := by show Ok (bnd (bnd _ _) _) _ _; rw [k_bnd]; exact q
theorem t_isi {x : AE} {t : TY} (q : Ok (aeval P C (.isi x t)) st fun v s => Ok (truthy v) s QB) : Ok (atest P C (.isi x t)) st QB := by show Ok (bnd (bnd _ _) _) _ _; rw [k_bnd]; exact q
theorem al_nil (q : QB true st) : Ok (aall P C []) st QB := by show Ok (ret _) _ _; rw [k_ret]; exact q
theorem al_cons {e : AE} {r : List AE} (q : Ok (atest P C e) st fun b s => if b = true then Ok (aall P C r) s QB else QB false s) : Ok (aall P C (e :: r)) st QB := by show Ok (bnd _ _) _ _; simp only [k_bnd, k_ite, k_ret]; exact q
theorem an_nil (q : QB false st) : Ok (aany P C []) st QB := by show Ok (ret _) _ _; rw [k_ret]; exact q
theorem an_cons {e : AE} {r : List AE} (q : Ok (atest P C e) st fun b s => if b = true then QB true s else Ok (aany P C r) s QB) : Ok (aany P C (e :: r)) st QB := by show Ok (bnd _ _) _ _; simp only [k_bnd, k_ite, k_ret]; exact q
theorem ts_nil (q : QB true st) : Ok (atests P C []) st QB := by show Ok (ret _) _ _; rw [k_ret]; exact q
theorem k_noerr {α : Type} {m : M α} {Q : α → ASt → Prop} (q : Ok m st Q) : Ok (noerr m) st Q := by
  obtain ⟨a, s, h, q⟩ := q
  exact ⟨a, s, by show (match m st with | some (Except.ok a, st') => some (Except.ok a, st') | _ => Option.none) = some (Except.ok a, s); rw [h], q⟩
theorem k_compMono {q : IK} {v : AV} {n k : Nat} {t t' : M Bool} {el el' : M AV} (ht : ∀ st Q, Ok t st Q → Ok t' st Q) (he : ∀ st Q, Ok el st Q → Ok el' st Q) {QL : List AV → ASt → Prop} :
    ∀ {r j : Nat} {acc : List AV} {st : ASt}, Ok (compLoop q v n k t el r j acc) st QL → Ok (compLoop q v n k t' el' r j acc) st QL
  | 0, _, _, _, h => h
  | r + 1, j, acc, st, h => by
    have h : Ok (bnd _ _) _ _ := h
    show Ok (bnd _ _) _ _
    rw [k_bnd] at h ⊢
    refine h.mono fun x s h => ?_
    rw [k_bnd] at h ⊢
    refine h.mono fun _ s h => ?_
    rw [k_bnd] at h ⊢
    refine (ht _ _ h).mono fun b s h => ?_
    rw [k_ite] at h ⊢
    cases b with
    | true =>
      rw [if_pos rfl] at h ⊢
      rw [k_bnd] at h ⊢
      exact (he _ _ h).mono fun y s h => k_compMono ht he h
    | false =>
      rw [if_neg Bool.false_ne_true] at h ⊢
      exact k_compMono ht he h
mutual
theorem ax_ofE : ∀ (e : AE) {st : ASt} {Q : AV → ASt → Prop}, Ok (aeval P C e) st Q → Ok (axval P C e) st Q
  | .call f args, _, _, q => by
    have q : Ok (bnd _ _) _ _ := q
    show Ok (bnd _ _) _ _
    rw [k_bnd] at q ⊢
    exact k_noerr q
  | .own o c f name args, _, _, q => by
    have q : Ok (bnd _ _) _ _ := q
    show Ok (bnd _ _) _ _
    simp only [k_bnd] at q ⊢
    exact k_noerr (q.mono fun _ _ q => k_noerr (q.mono fun _ _ q => k_noerr q))
  | .bin op l r, _, _, q => by
    have q : Ok (bnd _ _) _ _ := q
    show Ok (bnd _ _) _ _
    rw [k_bnd] at q ⊢
    exact ax_ofE l (q.mono fun a s q => by rw [k_bnd] at q ⊢; exact ax_ofE r (q.mono fun b s q => k_noerr q))
  | .bi b args, _, _, q => by
    have q : Ok (bnd _ _) _ _ := q
    show Ok (bnd _ _) _ _
    rw [k_bnd] at q ⊢
    exact axs_ofE args (q.mono fun _ _ q => k_noerr q)
  | .comp k elt iter ifs, st, Q, q => by
    have q : Ok (bnd (aeval P C iter) fun v => bnd (iterLen v) fun qn => bnd (guard (decide (qn.2 ≤ line))) fun _ => bnd (compLoop qn.1 v qn.2 k (atests P C ifs) (aeval P C elt) qn.2 0 []) fun xs => alloc (.list xs)) st Q := q
    show Ok (bnd (noerr (bnd (aeval P C iter) fun v => bnd (iterLen v) fun qn => bnd (guard (decide (qn.2 ≤ line))) fun _ => ret (v, qn))) _) st Q
    rw [k_bnd] at q ⊢
    refine k_noerr ?_
    rw [k_bnd]
    refine q.mono fun v s q => ?_
    rw [k_bnd] at q ⊢
    refine q.mono fun qn s q => ?_
    rw [k_bnd] at q ⊢
    refine q.mono fun _ s q => ?_
    rw [k_ret]
    rw [k_bnd] at q ⊢
    exact k_compMono (fun _ _ => k_noerr) (fun _ _ q => ax_ofE elt q) q
  | .cst _, _, _, q => k_noerr q
  | .loc _, _, _, q => k_noerr q
  | .neg _, _, _, q => k_noerr q
  | .slc _ _ _, _, _, q => k_noerr q
  | .tget _ _ _, _, _, q => k_noerr q
  | .not _, _, _, q => k_noerr q
  | .and _, _, _, q => k_noerr q
  | .or _, _, _, q => k_noerr q
  | .cmp l ops rs, _, _, q => by
    have q : Ok (bnd _ _) _ _ := q
    show Ok (bnd _ _) _ _
    rw [k_bnd] at q ⊢
    exact ax_ofE l (q.mono fun _ _ q => k_noerr q)
  | .make c f args, _, _, q => by
    have q : Ok (bnd _ _) _ _ := q
    show Ok (bnd _ _) _ _
    rw [k_bnd] at q ⊢
    exact k_noerr q
  | .isi _ _, _, _, q => k_noerr q
  | .meth _ _ _, _, _, q => k_noerr q
  | .attr _ _ _, _, _, q => k_noerr q
  | .sub _ _, _, _, q => k_noerr q
  | .list _, _, _, q => k_noerr q
  | .tuple _, _, _, q => k_noerr q
  | .dict0, _, _, q => k_noerr q
theorem axs_ofE : ∀ (es : List AE) {st : ASt} {Q : List AV → ASt → Prop}, Ok (aevals P C es) st Q → Ok (axvals P C es) st Q
  | [], _, _, q => q
  | e :: r, _, _, q => by
    have q : Ok (bnd _ _) _ _ := q
    show Ok (bnd _ _) _ _
    rw [k_bnd] at q ⊢
    exact ax_ofE e (q.mono fun a s q => by rw [k_bnd] at q ⊢; exact axs_ofE r q)
end
theorem ax_of {e : AE} (q : Ok (aeval P C e) st Q) : Ok (axval P C e) st Q := ax_ofE e q
theorem axt_of {e : AE} (q : Ok (aeval P C e) st Q) : Ok (axtop P C e) st Q := by
  cases e with
  | comp k elt iter ifs => exact k_noerr q
  | _ => exact ax_ofE _ q
theorem s_expr {e : AE} (q : Ok (aeval P C e) st fun _ s => QF .next s) : Ok (aexec P C (.expr e)) st QF := by show Ok (bnd _ _) _ _; simp only [k_bnd, k_ret]; exact ax_of q
theorem s_assign {t : AT} {e : AE} (q : Ok (aeval P C e) st fun v s => Ok (aassign P C t v) s fun _ s => QF .next s) : Ok (aexec P C (.assign t e)) st QF := by
  show Ok (bnd _ _) _ _
  rw [k_bnd]
  exact axt_of (q.mono fun _ _ q => k_noerr (by simp only [k_bnd, k_ret]; exact q))
theorem s_ret {e : AE} (q : Ok (aeval P C e) st fun v s => QF (.ret v) s) : Ok (aexec P C (.ret e)) st QF := by show Ok (bnd _ _) _ _; simp only [k_bnd, k_ret]; exact ax_of q
theorem s_ite {t : AE} {b o : List AS} (q : Ok (atest P C t) st fun x s => if x = true then Ok (aexecs P C b) s QF else Ok (aexecs P C o) s QF) : Ok (aexec P C (.ite t b o)) st QF := by show Ok (bnd _ _) _ _; simp only [k_bnd, k_ite]; exact k_noerr q
theorem s_for {k : Nat} {iter : AE} {b : List AS} (q : Ok (aeval P C iter) st fun v s => Ok (iterLen v) s fun qn s => decide (qn.2 ≤ line) = true ∧ Ok (forLoop qn.1 v qn.2 k (aexecs P C b) qn.2 0) s QF) : Ok (aexec P C (.for k iter b)) st QF := by
  show Ok (bnd (noerr (bnd (aeval P C iter) fun v => bnd (iterLen v) fun qn => bnd (guard (decide (qn.2 ≤ line))) fun _ => ret (v, qn))) _) st QF
  rw [k_bnd]
  refine k_noerr ?_
  simp only [k_bnd]
  exact q.mono fun v s q => q.mono fun qn s q => by rw [k_guard q.1, k_ret]; exact q.2
noncomputable def goOn (r : Prop) (QF : AF → ASt → Prop) (f : AF) (s : ASt) : Prop := match f with | .next => r | .ret v => QF (.ret v) s
theorem xs_nil (q : QF .next st) : Ok (aexecs P C []) st QF := by show Ok (ret _) _ _; rw [k_ret]; exact q
theorem xs_cons {x : AS} {r : List AS} (q : Ok (aexec P C x) st fun f s => goOn (Ok (aexecs P C r) s QF) QF f s) : Ok (aexecs P C (x :: r)) st QF := by
  show Ok (bnd _ _) _ _
  simp only [k_bnd]
  refine q.mono fun f s q => ?_
  match f, q with
  | .next, q => exact q
  | .ret v, q => dsimp only; rw [k_ret]; exact q
theorem g_next {r : Prop} {s : ASt} (q : r) : goOn r QF .next s := q
theorem g_ret {r : Prop} {s : ASt} {v : AV} (q : QF (.ret v) s) : goOn r QF (.ret v) s := q
theorem as_loc {i : Nat} {v : AV} {ρ' : List (Option AV)} (h : ρ.set i (some v) = ρ') (q : QU () ⟨σ, ρ'⟩) : Ok (aassign P C (.loc i) v) ⟨σ, ρ⟩ QU := by subst h; show Ok (setLoc _ _) _ _; rw [k_setLoc]; exact q
theorem as_sub {o i : AE} {v : AV} (q : Ok (aeval P C o) st fun a s => Ok (aeval P C i) s fun b s => Ok (setItem a b v) s QU) : Ok (aassign P C (.sub o i) v) st QU := by show Ok (bnd _ _) _ _; simp only [k_bnd]; exact q
/-! operators -/
theorem b_add {x y : Int} (q : Q (.int (x + y)) st) : Ok (binop .Add (.int x) (.int y)) st Q := ⟨_, _, rfl, q⟩
theorem b_sub {x y : Int} (q : Q (.int (x - y)) st) : Ok (binop .Sub (.int x) (.int y)) st Q := ⟨_, _, rfl, q⟩
theorem b_mul {x y : Int} (h : (decide (y.natAbs < 2 ^ 64) || decide (x.natAbs < 2 ^ 64)) = true) (q : Q (.int (x * y)) st) : Ok (binop .Mult (.int x) (.int y)) st Q := by
  show Ok (bnd (guard _) _) st Q; rw [k_bnd, k_guard h, k_ret]; exact q
theorem b_fdiv {x y : Int} (h : (y != 0 && decide (y.natAbs < 1073741824)) = true) (q : Q (.int (x.fdiv y)) st) : Ok (binop .FloorDiv (.int x) (.int y)) st Q := by
  show Ok (bnd (guard _) _) st Q; rw [k_bnd, k_guard h, k_ret]; exact q
theorem b_mod {x y : Int} (h : (y != 0) = true) (q : Q (.int (x.fmod y)) st) : Ok (binop .Mod (.int x) (.int y)) st Q := by
  show Ok (bnd (guard _) _) st Q; rw [k_bnd, k_guard h, k_ret]; exact q
theorem tr_bool {b : Bool} (q : QB b st) : Ok (truthy (.bool b)) st QB := ⟨_, _, rfl, q⟩
theorem cm_lt {x y : Int} (q : QB (decide (x < y)) st) : Ok (cmpop .Lt (.int x) (.int y)) st QB := ⟨_, _, rfl, q⟩
theorem cm_le {x y : Int} (q : QB (decide (x ≤ y)) st) : Ok (cmpop .LtE (.int x) (.int y)) st QB := ⟨_, _, rfl, q⟩
theorem cm_gt {x y : Int} (q : QB (decide (y < x)) st) : Ok (cmpop .Gt (.int x) (.int y)) st QB := ⟨_, _, rfl, q⟩
theorem cm_is {x : AV} (q : QB (isNone x) st) : Ok (cmpop .Is x .none) st QB := ⟨_, _, rfl, q⟩
theorem cm_isn {x : AV} (q : QB (!isNone x) st) : Ok (cmpop .IsNot x .none) st QB := ⟨_, _, rfl, q⟩
theorem cm_eqi {x y : Int} (q : QB (x == y) st) : Ok (cmpop .Eq (.int x) (.int y)) st QB := ⟨_, _, rfl, q⟩
theorem cm_nei {x y : Int} (q : QB (!(x == y)) st) : Ok (cmpop .NotEq (.int x) (.int y)) st QB := ⟨_, _, rfl, q⟩
theorem cm_eqs {x y : Str} (q : QB (decide (x = y)) st) : Ok (cmpop .Eq (.str x) (.str y)) st QB := ⟨_, _, rfl, q⟩
theorem l_list {i : Nat} {xs : List AV} (h : σ[i]? = some (.list xs)) (q : Q (.int xs.length) ⟨σ, ρ⟩) : Ok (callBi .len [.obj i]) ⟨σ, ρ⟩ Q := by
  show Ok (bnd (deref i) _) _ _; rw [k_bnd, k_deref h]; dsimp only; rw [k_ret]; exact q
theorem l_ro {i : Nat} {xs : List AV} (h : σ[i]? = some (.ro xs)) (q : Q (.int xs.length) ⟨σ, ρ⟩) : Ok (callBi .len [.obj i]) ⟨σ, ρ⟩ Q := by
  show Ok (bnd (deref i) _) _ _; rw [k_bnd, k_deref h]; dsimp only; rw [k_ret]; exact q
theorem idx_nat {k : Int} {n : Nat} (h0 : 0 ≤ k) (h1 : k < n) : idx? k n = some k.toNat := by unfold idx?; rw [if_pos h0, if_pos h1]
theorem i_list {i : Nat} {xs : List AV} {k : Int} {v : AV} (h : σ[i]? = some (.list xs)) (h0 : 0 ≤ k) (e : xs[k.toNat]? = some v) (q : Q v ⟨σ, ρ⟩) : Ok (getItem (.obj i) (.int k)) ⟨σ, ρ⟩ Q := by
  have h1 : k < xs.length := by have := (List.getElem?_eq_some_iff.mp e).1; omega
  show Ok (bnd (deref i) _) _ _; rw [k_bnd, k_deref h]; dsimp only; rw [k_bnd, k_ofOpt (idx_nat h0 h1), k_ofOpt e]; exact q
theorem i_ro {i : Nat} {xs : List AV} {k : Int} {v : AV} (h : σ[i]? = some (.ro xs)) (h0 : 0 ≤ k) (e : xs[k.toNat]? = some v) (q : Q v ⟨σ, ρ⟩) : Ok (getItem (.obj i) (.int k)) ⟨σ, ρ⟩ Q := by
  have h1 : k < xs.length := by have := (List.getElem?_eq_some_iff.mp e).1; omega
  show Ok (bnd (deref i) _) _ _; rw [k_bnd, k_deref h]; dsimp only; rw [k_bnd, k_ofOpt (idx_nat h0 h1), k_ofOpt e]; exact q
theorem bi_range1 {b : Int} (h : smallR 0 b = true) (q : Q (.obj σ.length) ⟨σ ++ [.range 0 b], ρ⟩) : Ok (callBi .range [.int b]) ⟨σ, ρ⟩ Q := by
  show Ok (bnd (guard _) _) _ _; rw [k_bnd, k_guard h, k_alloc]; exact q
theorem it_len_range {i : Nat} {a b : Int} {Q' : IK × Nat → ASt → Prop} (h : σ[i]? = some (.range a b)) (q : Q' (.range a, (b - a).toNat) ⟨σ, ρ⟩) : Ok (iterLen (.obj i)) ⟨σ, ρ⟩ Q' := by
  show Ok (bnd (deref i) _) _ _; rw [k_bnd, k_deref h]; dsimp only; rw [k_ret]; exact q
theorem it_len_list {i : Nat} {xs : List AV} {Q' : IK × Nat → ASt → Prop} (h : σ[i]? = some (.list xs)) (q : Q' (.list, xs.length) ⟨σ, ρ⟩) : Ok (iterLen (.obj i)) ⟨σ, ρ⟩ Q' := by
  show Ok (bnd (deref i) _) _ _; rw [k_bnd, k_deref h]; dsimp only; rw [k_ret]; exact q
theorem at_range {a : Int} {v : AV} {n j : Nat} (q : Q (.int (a + j)) st) : Ok (iterAt (.range a) v n j) st Q := ⟨_, _, rfl, q⟩
theorem at_list {i n j : Nat} {xs : List AV} {x : AV} (h : σ[i]? = some (.list xs)) (hn : xs.length = n) (e : xs[j]? = some x) (q : Q x ⟨σ, ρ⟩) : Ok (iterAt .list (.obj i) n j) ⟨σ, ρ⟩ Q := by
  show Ok (bnd (bnd (deref i) _) _) _ _; rw [k_bnd, k_bnd, k_deref h]; dsimp only; rw [k_bnd, k_guard (decide_eq_true hn), k_ret, k_ofOpt e]; exact q
theorem en_range {a : Int} {v : AV} {n : Nat} (q : QU () st) : Ok (iterEnd (.range a) v n) st QU := ⟨_, _, rfl, q⟩
theorem en_list {i n : Nat} {xs : List AV} (h : σ[i]? = some (.list xs)) (hn : xs.length = n) (q : QU () ⟨σ, ρ⟩) : Ok (iterEnd .list (.obj i) n) ⟨σ, ρ⟩ QU := by
  show Ok (bnd (bnd (deref i) _) _) _ _; rw [k_bnd, k_bnd, k_deref h]; dsimp only; rw [k_bnd, k_guard (decide_eq_true hn), k_ret, k_ret]; exact q
theorem k_for {q : IK} {v : AV} {n k : Nat} {body : M AF} (I : Nat → ASt → Prop) {r j : Nat} {st : ASt} (h0 : I j st)
    (hs : ∀ i s, j ≤ i → i < j + r → I i s → Ok (iterAt q v n i) s fun x s => Ok (setLoc k x) s fun _ s => Ok body s fun f s => f = .next ∧ I (i + 1) s)
    (he : ∀ s, I (j + r) s → Ok (iterEnd q v n) s fun _ s => QF .next s) : Ok (forLoop q v n k body r j) st QF := by
  induction r generalizing j st with
  | zero => show Ok (bnd _ _) _ _; rw [k_bnd]; exact (he st h0).mono fun _ s h => by rw [k_ret]; exact h
  | succ r ih =>
    show Ok (bnd _ _) _ _
    rw [k_bnd]
    refine (hs j st (Nat.le_refl _) (by omega) h0).mono fun x s h => ?_
    rw [k_bnd]
    refine h.mono fun _ s h => ?_
    rw [k_bnd]
    refine h.mono fun f s h => ?_
    obtain ⟨rfl, h⟩ := h
    dsimp only
    exact ih h (fun i s h1 h2 => hs i s (by omega) (by omega)) (fun s h => he s (by rw [← Nat.add_assoc, Nat.add_right_comm]; exact h))
theorem k_comp {q : IK} {v : AV} {n k : Nat} {tests : M Bool} {elt : M AV} (I : Nat → List AV → ASt → Prop) {r j : Nat} {acc : List AV} {st : ASt} (h0 : I j acc st)
    (hs : ∀ i acc s, j ≤ i → i < j + r → I i acc s → Ok (iterAt q v n i) s fun x s => Ok (setLoc k x) s fun _ s => Ok tests s fun t s => if t = true then Ok elt s fun y s => I (i + 1) (acc ++ [y]) s else I (i + 1) acc s)
    (he : ∀ acc s, I (j + r) acc s → Ok (iterEnd q v n) s fun _ s => QL acc s) : Ok (compLoop q v n k tests elt r j acc) st QL := by
  induction r generalizing j st acc with
  | zero => show Ok (bnd _ _) _ _; rw [k_bnd]; exact (he acc st h0).mono fun _ s h => by rw [k_ret]; exact h
  | succ r ih =>
    have go : ∀ acc' s', I (j + 1) acc' s' → Ok (compLoop q v n k tests elt r (j + 1) acc') s' QL := fun acc' s' h =>
      ih h (fun i a s h1 h2 => hs i a s (by omega) (by omega)) (fun a s h => he a s (by rw [← Nat.add_assoc, Nat.add_right_comm]; exact h))
    show Ok (bnd _ _) _ _
    rw [k_bnd]
    refine (hs j acc st (Nat.le_refl _) (by omega) h0).mono fun x s h => ?_
    rw [k_bnd]
    refine h.mono fun _ s h => ?_
    rw [k_bnd]
    refine h.mono fun t s h => ?_
    rw [k_ite]
    by_cases ht : t = true
    · rw [if_pos ht] at h ⊢
      rw [k_bnd]
      exact h.mono fun y s h => go _ _ h
    · rw [if_neg ht] at h ⊢
      exact go _ _ h
/-- a call that ends well -/
noncomputable def COk (P : AProg) (n : Nat) (f : Addr) (args : List AV) (σ : List AO) (R : AV → List AO → Prop) : Prop := ∃ v σ', acall P n f args σ = some (.ok v, σ') ∧ R v σ'
noncomputable def outOf (R : AV → List AO → Prop) (f : AF) (s : ASt) : Prop := match f with | .next => R .none s.σ | .ret v => R v s.σ
theorem co_in {n : Nat} {f : Addr} {args : List AV} {R : AV → List AO → Prop} {fn : AFn} {ρ : List (Option AV)} (h : P.fn f = some fn) (hl : args.length = fn.nparams) (hρ : args.map some ++ List.replicate (fn.nslots - fn.nparams) none = ρ) (q : Ok (aexecs P (acall P n) fn.body) ⟨σ, ρ⟩ (outOf R)) : COk P (n + 1) f args σ R := by
  subst hρ
  obtain ⟨a, s, e, q⟩ := q
  match a, e, q with
  | .next, e, q => exact ⟨.none, s.σ, by rw [acall, h]; dsimp only; rw [if_pos hl, e], q⟩
  | .ret v, e, q => exact ⟨v, s.σ, by rw [acall, h]; dsimp only; rw [if_pos hl, e], q⟩
theorem ou_ret {R : AV → List AO → Prop} {v : AV} (q : R v σ) : outOf R (.ret v) ⟨σ, ρ⟩ := q
theorem co_use {n : Nat} {f : Addr} {args : List AV} {R : AV → List AO → Prop} (h : COk P n f args σ R) (q : ∀ v σ', R v σ' → Q v ⟨σ', ρ⟩) : Ok (callFn (acall P n) f args) ⟨σ, ρ⟩ Q := by
  obtain ⟨v, σ', e, r⟩ := h
  exact ⟨v, ⟨σ', ρ⟩, by unfold callFn; rw [e], q v σ' r⟩
theorem co_use2 {n : Nat} {f : Addr} {args : List AV} {v : AV} {σ' : List AO} (h : COk P n f args σ fun v' s' => v' = v ∧ s' = σ') (q : Q v ⟨σ', ρ⟩) : Ok (callFn (acall P n) f args) ⟨σ, ρ⟩ Q := by
  obtain ⟨_, _, e, rfl, rfl⟩ := h
  exact ⟨_, ⟨_, ρ⟩, by unfold callFn; rw [e], q⟩
theorem sl_loc {i : Nat} {v : AV} {ρ' : List (Option AV)} (h : ρ.set i (some v) = ρ') (q : QU () ⟨σ, ρ'⟩) : Ok (setLoc i v) ⟨σ, ρ⟩ QU := by subst h; rw [k_setLoc]; exact q
theorem is_int {st : ASt} {i : Int} {t : TY} {b : Bool} (h : vkTy .int t = some b) (q : QB b st) : Ok (isaT P (.int i) t) st QB := by
  show Ok (ofOpt _) _ _; rw [k_ofOpt h]; exact q
theorem is_list {i : Nat} {l : List AV} {t : TY} {b : Bool} (e : σ[i]? = some (.list l)) (h : vkTy .list t = some b) (q : QB b ⟨σ, ρ⟩) : Ok (isaT P (.obj i) t) ⟨σ, ρ⟩ QB := by
  show Ok (bnd (deref i) _) _ _; rw [k_bnd, k_deref e]; dsimp only; rw [k_ofOpt h]; exact q
theorem kd_list {i : Nat} {l : List AV} {QK : KD → ASt → Prop} (e : σ[i]? = some (.list l)) (q : QK .list ⟨σ, ρ⟩) : Ok (kindOf (.obj i)) ⟨σ, ρ⟩ QK := by
  show Ok (bnd (deref i) _) _ _; rw [k_bnd, k_deref e]; dsimp only; rw [k_ret]; exact q
theorem me_append {i : Nat} {l : List AV} {v : AV} (e : σ[i]? = some (.list l)) (h : l.length < line) (q : Q .none ⟨σ.set i (.list (l ++ [v])), ρ⟩) : Ok (callMeth .list (.obj i) .append [v]) ⟨σ, ρ⟩ Q := by
  show Ok (bnd (deref i) _) _ _; rw [k_bnd, k_deref e]; dsimp only [meList]; rw [k_bnd, k_guard (decide_eq_true h), k_bnd, k_upd, k_ret]; exact q
/-- m ends in an error -/
noncomputable def Er {α : Type} (m : M α) (st : ASt) (Q : Nat → ASt → Prop) : Prop := ∃ e st', m st = some (.error e, st') ∧ Q e st'
theorem er_bnd {α β : Type} {m : M α} {f : α → M β} {st : ASt} {Q : Nat → ASt → Prop} (q : Ok m st fun a s => Er (f a) s Q) : Er (bnd m f) st Q := by
  obtain ⟨a, s, h, e, s', h', q⟩ := q
  exact ⟨e, s', by unfold bnd; rw [h]; exact h', q⟩
theorem er_in {α β : Type} {m : M α} {f : α → M β} {st : ASt} {Q : Nat → ASt → Prop} (q : Er m st Q) : Er (bnd m f) st Q := by
  obtain ⟨e, s', h, q⟩ := q
  exact ⟨e, s', by unfold bnd; rw [h], q⟩
section
variable {C : Calls} {st : ASt} {Q : Nat → ASt → Prop} {QF : AF → ASt → Prop}
theorem er_first {x : AS} {r : List AS} (q : Er (aexec P C x) st Q) : Er (aexecs P C (x :: r)) st Q := er_in q
theorem er_next {x : AS} {r : List AS} (q : Ok (aexec P C x) st fun f s => f = .next ∧ Er (aexecs P C r) s Q) : Er (aexecs P C (x :: r)) st Q :=
  er_bnd (q.mono fun f s q => by obtain ⟨rfl, q⟩ := q; exact q)
theorem er_ite {t : AE} {b o : List AS} (q : Ok (atest P C t) st fun x s => if x = true then Er (aexecs P C b) s Q else Er (aexecs P C o) s Q) : Er (aexec P C (.ite t b o)) st Q :=
  er_bnd (k_noerr (q.mono fun x s q => by split at q <;> simp_all))
theorem er_raise {c : Addr} {t : Str} {σ : List AO} {ρ : List (Option AV)} (q : Q σ.length ⟨σ ++ [.exc c], ρ⟩) : Er (aexec P C (.raise c t)) ⟨σ, ρ⟩ Q := ⟨_, _, rfl, q⟩
/-! errors inside expressions and loops -/
theorem er_ret {e : AE} (q : Er (axval P C e) st Q) : Er (aexec P C (.ret e)) st Q := er_in q
theorem er_asg {t : AT} {f : Addr} {args : List AE} (q : Ok (aevals P C args) st fun vs s => Er (callFn C f vs) s Q) : Er (aexec P C (.assign t (.call f args))) st Q := er_in (er_bnd (k_noerr q))
theorem ex_call {f : Addr} {args : List AE} (q : Ok (aevals P C args) st fun vs s => Er (callFn C f vs) s Q) : Er (axval P C (.call f args)) st Q := er_bnd (k_noerr q)
theorem ex_bi1 {b : BI} {e : AE} {r : List AE} (q : Er (axval P C e) st Q) : Er (axval P C (.bi b (e :: r))) st Q := er_in (er_in q)
theorem ex_binR {op : Operator} {l r : AE} (q : Ok (aeval P C l) st fun _ s => Er (axval P C r) s Q) : Er (axval P C (.bin op l r)) st Q := er_bnd (ax_of (q.mono fun _ _ q => er_in q))
theorem ex_comp {k : Nat} {elt iter : AE} {ifs : List AE} (q : Ok (aeval P C iter) st fun v s => Ok (iterLen v) s fun qn s => decide (qn.2 ≤ line) = true ∧ Er (compLoop qn.1 v qn.2 k (noerr (atests P C ifs)) (axval P C elt) qn.2 0 []) s Q) : Er (axval P C (.comp k elt iter ifs)) st Q := by
  refine er_bnd (k_noerr ?_)
  show Ok (bnd (aeval P C iter) _) _ _
  simp only [k_bnd]
  exact q.mono fun v s q => q.mono fun qn s q => by rw [k_guard q.1, k_ret]; exact er_in q.2
theorem er_for {k : Nat} {iter : AE} {b : List AS} (q : Ok (aeval P C iter) st fun v s => Ok (iterLen v) s fun qn s => decide (qn.2 ≤ line) = true ∧ Er (forLoop qn.1 v qn.2 k (aexecs P C b) qn.2 0) s Q) : Er (aexec P C (.for k iter b)) st Q := by
  refine er_bnd (k_noerr ?_)
  show Ok (bnd (aeval P C iter) _) _ _
  simp only [k_bnd]
  exact q.mono fun v s q => q.mono fun qn s q => by rw [k_guard q.1, k_ret]; exact q.2
/-- the first m turns end well, then one raises -/
theorem er_compAt {q : IK} {v : AV} {n k : Nat} {tests : M Bool} {elt : M AV} (I : Nat → List AV → ASt → Prop) {m : Nat} (hs : ∀ i acc s, i < m → I i acc s → Ok (iterAt q v n i) s fun x s => Ok (setLoc k x) s fun _ s => Ok tests s fun t s => t = true ∧ Ok elt s fun y s => I (i + 1) (acc ++ [y]) s)
    (he : ∀ acc s, I m acc s → Ok (iterAt q v n m) s fun x s => Ok (setLoc k x) s fun _ s => Ok tests s fun t s => t = true ∧ Er elt s Q) : ∀ {r j : Nat} {acc : List AV} {st : ASt}, j ≤ m → m < j + r → I j acc st → Er (compLoop q v n k tests elt r j acc) st Q
  | 0, j, _, _, h1, h2, _ => absurd h2 (by omega)
  | r + 1, j, acc, st, h1, h2, h0 => by
    by_cases h : j = m
    · subst h
      refine er_bnd ((he acc st h0).mono fun x s q => er_bnd (q.mono fun _ s q => er_bnd (q.mono fun t s q => ?_)))
      obtain ⟨rfl, q⟩ := q
      exact er_in q
    · refine er_bnd ((hs j acc st (by omega) h0).mono fun x s q => er_bnd (q.mono fun _ s q => er_bnd (q.mono fun t s q => ?_)))
      obtain ⟨rfl, q⟩ := q
      exact er_bnd (q.mono fun y s q => er_compAt I hs he (r := r) (by omega) (by omega) q)
theorem er_forAt {q : IK} {v : AV} {n k : Nat} {body : M AF} (I : Nat → ASt → Prop) {m : Nat} (hs : ∀ i s, i < m → I i s → Ok (iterAt q v n i) s fun x s => Ok (setLoc k x) s fun _ s => Ok body s fun f s => f = .next ∧ I (i + 1) s)
    (he : ∀ s, I m s → Ok (iterAt q v n m) s fun x s => Ok (setLoc k x) s fun _ s => Er body s Q) : ∀ {r j : Nat} {st : ASt}, j ≤ m → m < j + r → I j st → Er (forLoop q v n k body r j) st Q
  | 0, j, _, h1, h2, _ => absurd h2 (by omega)
  | r + 1, j, st, h1, h2, h0 => by
    by_cases h : j = m
    · subst h
      exact er_bnd ((he st h0).mono fun x s q => er_bnd (q.mono fun _ s q => er_in q))
    · refine er_bnd ((hs j st (by omega) h0).mono fun x s q => er_bnd (q.mono fun _ s q => er_bnd (q.mono fun f s q => ?_)))
      obtain ⟨rfl, q⟩ := q
      exact er_forAt I hs he (r := r) (by omega) (by omega) q
theorem s_tryas {b h : List AS} {c : Addr} {i : Nat} (q : Ok (aexecs P C b) st QF) : Ok (aexec P C (.tryas b c i h)) st QF := by
  obtain ⟨f, s, e, q⟩ := q
  exact ⟨f, s, by show onErrs _ _ (aexecs P C b st) = _; rw [e]; rfl, q⟩
theorem s_caughtAs {b h : List AS} {c : Addr} {i : Nat} (q : Er (aexecs P C b) st fun e s => ∃ d, s.σ[e]? = some (.exc d) ∧ P.isa d (some c) = some true ∧ Ok (aexecs P C h) ⟨s.σ.set e (.exr d), s.ρ.set i (some (.obj e))⟩ fun f s' => ∃ v, f = .ret v ∧ QF (.ret v) ⟨s'.σ.set e (.exc d), s'.ρ.map fun _ => none⟩) : Ok (aexec P C (.tryas b c i h)) st QF := by
  obtain ⟨n, ⟨σ, ρ⟩, e, d, hc, hi, q⟩ := q
  have hc : σ[n]? = some (.exc d) := hc
  obtain ⟨f, s', e', q⟩ : Ok (noerr (bnd (deref n) fun o => (match o with
    | .exc d => bnd (upd n (.exr d)) fun _ => bnd (setLoc i (.obj n)) fun _ => bnd (aexecs P C h) fun f => (match f with
      | .ret v => bnd clrAll fun _ => bnd (upd n (.exc d)) fun _ => ret (.ret v)
      | .next => fail)
    | _ => fail))) ⟨σ, ρ⟩ QF := by
    refine k_noerr ?_
    rw [k_bnd, k_deref hc]
    show Ok (bnd (upd n (.exr d)) _) _ _
    rw [k_bnd, k_upd, k_bnd, k_setLoc, k_bnd]
    refine q.mono fun f s' q => ?_
    obtain ⟨v, rfl, q⟩ := q
    exact ⟨.ret v, _, rfl, q⟩
  refine ⟨f, s', ?_, q⟩
  show onErrs _ _ (aexecs P C b st) = _
  rw [e]
  show (match σ[n]? with
    | some (.exc d) => if (P.isa d (some c) == some true) = true then _ else Option.none
    | _ => Option.none) = _
  rw [hc]
  show (if (P.isa d (some c) == some true) = true then _ else Option.none) = _
  rw [hi, if_pos (by decide)]
  exact e'
theorem is_exr {P : AProg} {QB : Bool → ASt → Prop} {σ : List AO} {ρ : List (Option AV)} {i : Nat} {c d : Addr} {b : Bool} (e : σ[i]? = some (.exr c)) (h : P.isa c (some d) = some b) (q : QB b ⟨σ, ρ⟩) : Ok (isaT P (.obj i) (.exc d)) ⟨σ, ρ⟩ QB := by
  show Ok (bnd (deref i) _) _ _; rw [k_bnd, k_deref e]; show Ok (ofOpt (P.isa c (some d))) _ _; rw [k_ofOpt h]; exact q
theorem is_exv {P : AProg} {QB : Bool → ASt → Prop} {σ : List AO} {ρ : List (Option AV)} {i : Nat} {c : Addr} {b : Bool} (e : σ[i]? = some (.exr c)) (h : P.isa c Option.none = some b) (q : QB b ⟨σ, ρ⟩) : Ok (isaT P (.obj i) .ve) ⟨σ, ρ⟩ QB := by
  show Ok (bnd (deref i) _) _ _; rw [k_bnd, k_deref e]; show Ok (ofOpt (P.isa c Option.none)) _ _; rw [k_ofOpt h]; exact q
theorem bi_any {Q : AV → ASt → Prop} {σ : List AO} {ρ : List (Option AV)} {i : Nat} {xs : List AV} {l : List Bool} (e : σ[i]? = some (.list xs)) (h : allBools xs = some l) (q : Q (.bool (l.any id)) ⟨σ, ρ⟩) : Ok (callBi .any [.obj i]) ⟨σ, ρ⟩ Q := by
  show Ok (bnd (deref i) _) _ _; rw [k_bnd, k_deref e]; dsimp only; rw [k_bnd, k_ofOpt h, k_ret]; exact q
/-- a call that raises -/
noncomputable def CEr (P : AProg) (n : Nat) (f : Addr) (args : List AV) (σ : List AO) (R : Nat → List AO → Prop) : Prop := ∃ e σ', acall P n f args σ = some (.error e, σ') ∧ R e σ'
theorem ce_in {n : Nat} {f : Addr} {args : List AV} {σ : List AO} {R : Nat → List AO → Prop} {fn : AFn} {ρ : List (Option AV)} (h : P.fn f = some fn) (hl : args.length = fn.nparams) (hρ : args.map some ++ List.replicate (fn.nslots - fn.nparams) none = ρ) (q : Er (aexecs P (acall P n) fn.body) ⟨σ, ρ⟩ fun e s => R e s.σ) : CEr P (n + 1) f args σ R := by
  subst hρ
  obtain ⟨a, s, e, q⟩ := q
  exact ⟨a, s.σ, by rw [acall, h]; dsimp only; rw [if_pos hl, e], q⟩
theorem er_call {n : Nat} {f : Addr} {args : List AV} {σ : List AO} {ρ : List (Option AV)} {R : Nat → List AO → Prop} (h : CEr P n f args σ R) (q : ∀ e σ', R e σ' → Q e ⟨σ', ρ⟩) : Er (callFn (acall P n) f args) ⟨σ, ρ⟩ Q := by
  obtain ⟨e, σ', h, r⟩ := h
  exact ⟨e, _, by unfold callFn; rw [h], q e σ' r⟩
end
end
end Mine
namespace Mine
open PySem
section
variable {P : AProg} {C : Calls} {st : ASt} {σ : List AO} {ρ : List (Option AV)} {Q : AV → ASt → Prop} {QB : Bool → ASt → Prop} {QF : AF → ASt → Prop} {QU : Unit → ASt → Prop}
theorem cm_inL {i : Nat} {a : AV} {xs : List AV} {b : Bool} (h : σ[i]? = some (.list xs)) (e : inList a xs = some b) (q : QB b ⟨σ, ρ⟩) : Ok (cmpop .In a (.obj i)) ⟨σ, ρ⟩ QB := by
  show Ok (bnd (deref i) _) _ _; rw [k_bnd, k_deref h]; dsimp only; rw [k_ofOpt e]; exact q
theorem cm_ninL {i : Nat} {a : AV} {xs : List AV} {b : Bool} (h : σ[i]? = some (.list xs)) (e : inList a xs = some b) (q : QB (!b) ⟨σ, ρ⟩) : Ok (cmpop .NotIn a (.obj i)) ⟨σ, ρ⟩ QB := by
  show Ok (bnd (bnd (deref i) _) _) _ _; rw [k_bnd, k_bnd, k_deref h]; dsimp only; rw [k_ofOpt e, k_ret]; exact q
end
end Mine
namespace Mine
open PySem

/-- a text from its signs -/
noncomputable def S (l : List Nat) : Str := ⟨l.toArray⟩
theorem S_list (l : List Nat) : (S l).cps.toList = l := rfl
theorem S_len (l : List Nat) : (S l).length = l.length := by show l.toArray.size = _; simp
theorem S_app (a b : List Nat) : S a ++ S b = S (a ++ b) := by
  show (⟨a.toArray ++ b.toArray⟩ : Str) = ⟨(a ++ b).toArray⟩
  rw [List.append_toArray]
theorem S_inj {a b : List Nat} (h : S a = S b) : a = b := by have := congrArg (fun x : Str => x.cps.toList) h; simpa [S] using this
theorem S_of (x : Str) : x = S x.cps.toList := by cases x; simp [S]

/-- the figures of a number -/
noncomputable def dg (n : Nat) : List Nat := if h : n < 10 then [48 + n] else dg (n / 10) ++ [48 + n % 10]
theorem dg_lt {n : Nat} (h : n < 10) : dg n = [48 + n] := by rw [dg, dif_pos h]
theorem dg_ge {n : Nat} (h : 10 ≤ n) : dg n = dg (n / 10) ++ [48 + n % 10] := by rw [dg, dif_neg (by omega)]
theorem dg_dig (n : Nat) : ∀ c ∈ dg n, 48 ≤ c ∧ c ≤ 57 := by
  induction n using Nat.strongRecOn with
  | _ n ih =>
    by_cases h : n < 10
    · rw [dg_lt h]; intro c hc; have := List.mem_singleton.mp hc; omega
    · rw [dg_ge (by omega)]
      intro c hc
      rcases List.mem_append.mp hc with hc | hc
      · exact ih (n / 10) (by omega) c hc
      · have := List.mem_singleton.mp hc; omega
theorem dec_snoc (l : List Nat) (c : Nat) : decVal (l ++ [c]) = decVal l * 10 + (c - 48) := by unfold decVal; rw [List.foldl_append]; rfl
theorem dg_len {k : Nat} : ∀ {n : Nat}, n < 10 ^ (k + 1) → (dg n).length ≤ k + 1 := by
  induction k with
  | zero => intro n h; rw [dg_lt (by omega)]; exact Nat.le_refl _
  | succ k ih =>
    intro n h
    by_cases h' : n < 10
    · rw [dg_lt h']; simp
    · rw [dg_ge (by omega), List.length_append]
      have := ih (n := n / 10) (by rw [Nat.pow_succ] at h; omega)
      show _ + 1 ≤ _
      omega
/-- texts with one blank between -/
noncomputable def jn : List (List Nat) → List Nat
  | [] => []
  | [a] => a
  | a :: b :: r => a ++ 32 :: jn (b :: r)
theorem jn_snoc (a : List Nat) : ∀ (l : List (List Nat)), l ≠ [] → jn (l ++ [a]) = jn l ++ 32 :: a
  | [], h => absurd rfl h
  | [b], _ => rfl
  | b :: c :: r, _ => by
    show b ++ 32 :: jn (c :: r ++ [a]) = b ++ 32 :: jn (c :: r) ++ 32 :: a
    rw [jn_snoc a (c :: r) (by simp), List.append_assoc]; rfl
theorem free_cut {a b x y : List Nat} (ha : 32 ∉ a) (hb : 32 ∉ b) (h : a ++ 32 :: x = b ++ 32 :: y) : a = b ∧ x = y := by
  induction a generalizing b with
  | nil =>
    cases b with
    | nil => injection h with _ h; exact ⟨rfl, h⟩
    | cons c b => injection h with h _; exact absurd (h ▸ .head _) hb
  | cons c a ih =>
    cases b with
    | nil => injection h with h _; exact absurd (h ▸ .head _) ha
    | cons d b =>
      injection h with h1 h2
      obtain ⟨e1, e2⟩ := ih (b := b) (fun q => ha (.tail _ q)) (fun q => hb (.tail _ q)) h2
      exact ⟨by rw [h1, e1], e2⟩
theorem jn_inj : ∀ {A B : List (List Nat)}, A ≠ [] → B ≠ [] → (∀ a ∈ A, 32 ∉ a) → (∀ a ∈ B, 32 ∉ a) → jn A = jn B → A = B
  | [], _, h, _, _, _, _ => absurd rfl h
  | _, [], _, h, _, _, _ => absurd rfl h
  | [a], [b], _, _, _, _, h => by rw [show a = b from h]
  | [a], b :: c :: r, _, _, ha, _, h => by
    have h : a = b ++ 32 :: jn (c :: r) := h
    exact absurd (by rw [h]; exact List.mem_append.mpr (.inr (.head _))) (ha a (.head _))
  | b :: c :: r, [a], _, _, _, ha, h => by
    have h : b ++ 32 :: jn (c :: r) = a := h
    exact absurd (by rw [← h]; exact List.mem_append.mpr (.inr (.head _))) (ha a (.head _))
  | a :: c :: r, b :: d :: q, _, _, ha, hb, h => by
    obtain ⟨e1, e2⟩ := free_cut (ha a (.head _)) (hb b (.head _)) (show a ++ 32 :: jn (c :: r) = b ++ 32 :: jn (d :: q) from h)
    have := jn_inj (by simp) (by simp) (fun x hx => ha x (.tail _ hx)) (fun x hx => hb x (.tail _ hx)) e2
    rw [e1, this]
theorem join_S : ∀ {l : List (List Nat)}, Str.join ⟨#[32]⟩ (l.map S) = S (jn l)
  | [] => rfl
  | [a] => rfl
  | a :: b :: r => by
    show S a ++ S [32] ++ Str.join ⟨#[32]⟩ ((b :: r).map S) = S (a ++ 32 :: jn (b :: r))
    rw [join_S, S_app, S_app, List.append_assoc]; rfl
end Mine
namespace Mine
open PySem
theorem digitChar_nat {d : Nat} (h : d < 10) : (Nat.digitChar d).toNat = 48 + d := by
  have : ∀ k : Fin 10, (Nat.digitChar k.val).toNat = 48 + k.val := by decide
  exact this ⟨d, h⟩
theorem digits_dg (n : Nat) : (Nat.toDigits 10 n).map Char.toNat = dg n := by
  induction n using Nat.strongRecOn with
  | _ n ih =>
    by_cases h : n < 10
    · rw [Nat.toDigits_of_lt_base h, dg_lt h, List.map_singleton, digitChar_nat h]
    · have t : Nat.toDigits 10 (n / 10) ++ Nat.toDigits 10 (n % 10) = Nat.toDigits 10 (10 * (n / 10) + n % 10) := Nat.toDigits_append_toDigits (by decide) (by omega) (Nat.mod_lt n (by decide))
      rw [Nat.div_add_mod] at t
      rw [dg_ge (by omega), ← ih (n / 10) (by omega), ← t, List.map_append, Nat.toDigits_of_lt_base (Nat.mod_lt n (by decide)), List.map_singleton, digitChar_nat (Nat.mod_lt n (by decide))]
theorem str_int (n : Nat) : Str.ofString (toString ((n : Nat) : Int)) = S (dg n) := by
  rw [S_of (Str.ofString _), PyProof.Rows.signs_ofString, ← digits_dg, ← Nat.toList_repr]
  rfl
theorem split_ne (x y : Str) : Txt.split x y ≠ [] ∨ x = S [] := by
  cases q : Txt.split x y with
  | nil =>
    have := StrLaws.join_split x y
    rw [q] at this
    exact .inr (by rw [← this]; rfl)
  | cons a r => exact .inl (by simp)
theorem map_S : ∀ (l : List Str), (l.map fun x => x.cps.toList).map S = l
  | [] => rfl
  | x :: l => by rw [List.map_cons, List.map_cons, map_S l, ← S_of]
theorem split_nil : Txt.split (S []) ⟨#[32]⟩ = [S []] := by
  unfold Txt.split
  rw [if_pos (by decide)]
theorem split_jn {A : List (List Nat)} (hA : A ≠ []) (hf : ∀ a ∈ A, 32 ∉ a) : Txt.split (S (jn A)) ⟨#[32]⟩ = A.map S := by
  have h1 := StrLaws.join_split (S (jn A)) ⟨#[32]⟩
  have h2 := StrLaws.split_free (S (jn A)) 32
  have h3 : Txt.split (S (jn A)) ⟨#[32]⟩ ≠ [] := by
    rcases split_ne (S (jn A)) ⟨#[32]⟩ with h | h
    · exact h
    · rw [h, split_nil]; simp
  generalize Txt.split (S (jn A)) ⟨#[32]⟩ = B at *
  rw [← map_S B, join_S] at h1
  have := jn_inj (A := B.map fun x => x.cps.toList) (B := A) (fun q => h3 (List.map_eq_nil_iff.mp q)) hA (fun a ha => by obtain ⟨x, hx, rfl⟩ := List.mem_map.mp ha; exact h2 x hx) hf (S_inj h1)
  rw [← map_S B, this]
theorem log_lt {n : Nat} (h : n < 10 ^ 60) : ((n : Nat) : Int).natAbs.log2 < 1920 := by
  rw [Int.natAbs_natCast]
  by_cases h0 : n = 0
  · rw [h0]; decide
  · exact (Nat.log2_lt h0).mpr (Nat.lt_trans h (by decide +kernel))
end Mine
namespace Mine
open PySem
section
variable {P : AProg} {C : Calls} {st : ASt} {σ : List AO} {ρ : List (Option AV)} {Q : AV → ASt → Prop} {QB : Bool → ASt → Prop} {QF : AF → ASt → Prop} {QU : Unit → ASt → Prop} {QI : IK × Nat → ASt → Prop} {QK : KD → ASt → Prop}
theorem w_al {o : AO} (q : Q (.obj σ.length) ⟨σ ++ [o], ρ⟩) : Ok (alloc o) ⟨σ, ρ⟩ Q := by rw [k_alloc]; exact q
theorem k_either {t : Bool} {A B : Prop} (a : t = true → A) (b : t = false → B) : if t = true then A else B := by
  cases t
  · exact k_ntest rfl (b rfl)
  · exact k_test rfl (a rfl)
theorem fm {x : Int} {n : Nat} (h : 0 < n) : ∃ o : Nat, x.fmod n = o ∧ o < n := by
  have h1 := Int.fmod_nonneg_of_pos x (show (0 : Int) < n by omega)
  have h2 := Int.fmod_lt_of_pos x (show (0 : Int) < n by omega)
  exact ⟨(x.fmod n).toNat, by omega, by omega⟩
theorem small_of {a b : Int} (h1 : -1000000000 ≤ a) (h2 : a ≤ 1000000000) (h3 : -1000000000 ≤ b) (h4 : b ≤ 1000000000) : smallR a b = true := by
  unfold smallR; rw [decide_eq_true h1, decide_eq_true h2, decide_eq_true h3, decide_eq_true h4]; rfl
theorem i_tuple {i : Nat} {xs : List AV} {k : Int} {v : AV} (h : σ[i]? = some (.tuple xs)) (h0 : 0 ≤ k) (e : xs[k.toNat]? = some v) (q : Q v ⟨σ, ρ⟩) : Ok (getItem (.obj i) (.int k)) ⟨σ, ρ⟩ Q := by
  have h1 : k < xs.length := by have := (List.getElem?_eq_some_iff.mp e).1; omega
  show Ok (bnd (deref i) _) _ _; rw [k_bnd, k_deref h]; dsimp only; rw [k_bnd, k_ofOpt (idx_nat h0 h1), k_ofOpt e]; exact q
theorem l_tuple {i : Nat} {xs : List AV} (h : σ[i]? = some (.tuple xs)) (q : Q (.int xs.length) ⟨σ, ρ⟩) : Ok (callBi .len [.obj i]) ⟨σ, ρ⟩ Q := by
  show Ok (bnd (deref i) _) _ _; rw [k_bnd, k_deref h]; dsimp only; rw [k_ret]; exact q
theorem l_str {l : List Nat} (h : l.length ≤ line) (q : Q (.int l.length) st) : Ok (callBi .len [.str (S l)]) st Q := by
  show Ok (bnd (guard _) _) _ _; rw [k_bnd, k_guard (decide_eq_true (by rw [S_len]; exact h)), k_ret, S_len]; exact q
theorem charAt_S {l : List Nat} {k : Nat} {c : Nat} (h : l[k]? = some c) : Txt.charAt (S l) k = some c := by
  have hk := (List.getElem?_eq_some_iff.mp h).1
  unfold Txt.charAt seqIndex?
  have h1 : ¬ ((k : Int) < 0) := by omega
  have h2 : (0 : Int) ≤ k := by omega
  have h3 : (k : Int) < ((S l).length : Int) := by rw [S_len]; omega
  simp only [h1, if_false, h2, h3, decide_true, Bool.and_self, if_true, Int.toNat_natCast, Option.bind_some]
  rw [← Array.getElem?_toList]
  exact h
theorem i_str {l : List Nat} {k : Int} {c : Nat} (h0 : 0 ≤ k) (h : l[k.toNat]? = some c) (hl : l.length ≤ line) (q : Q (.str (S [c])) st) : Ok (getItem (.str (S l)) (.int k)) st Q := by
  obtain ⟨j, rfl⟩ := Int.eq_ofNat_of_zero_le h0
  have h : l[j]? = some c := h
  have e := charAt_S h
  have hj := (List.getElem?_eq_some_iff.mp h).1
  have hl : l.length ≤ 16000000 := hl
  have hf : fitsSsize ((j : Nat) : Int) = true := by
    unfold fitsSsize
    simp only [Bool.not_eq_true', Bool.or_eq_false_iff, decide_eq_false_iff_not]
    omega
  have g : (fitsSsize ((j : Nat) : Int) && (Txt.charAt (S l) ((j : Nat) : Int)).isSome) = true := by rw [hf, e]; rfl
  have hi : Txt.item (S l) ((j : Nat) : Int) = S [c] := by unfold Txt.item; rw [e]; rfl
  show Ok (bnd (guard _) _) _ _
  rw [k_bnd, k_guard g, k_ret]
  show Q (.str (Txt.item (S l) ((j : Nat) : Int))) st
  rw [hi]; exact q
theorem it_len_str {l : List Nat} (h : ∀ c ∈ l, c < 128) (q : QI (.str, l.length) st) : Ok (iterLen (.str (S l))) st QI := by
  show Ok (bnd (guard _) _) _ _
  rw [k_bnd, k_guard (show (S l).cps.all (· < 128) = true by simp only [S, List.all_toArray, List.all_eq_true]; exact fun c hc => decide_eq_true (h c hc)), k_ret, S_len]; exact q
theorem at_str {l : List Nat} {n j c : Nat} (hn : l.length = n) (e : l[j]? = some c) (q : Q (.str (S [c])) st) : Ok (iterAt .str (.str (S l)) n j) st Q := by
  show Ok (bnd (guard _) _) _ _
  rw [k_bnd, k_guard (decide_eq_true (by rw [S_len]; exact hn)), k_ofOpt (a := .str (S [c])) (show ((S l).cps[j]?.map fun c => AV.str ⟨#[c]⟩) = some (.str (S [c])) by rw [← Array.getElem?_toList, S_list, e]; rfl)]; exact q
theorem en_str {l : List Nat} {n : Nat} (hn : l.length = n) (q : QU () st) : Ok (iterEnd .str (.str (S l)) n) st QU := by
  show Ok (guard _) _ _
  rw [k_guard (decide_eq_true (by rw [S_len]; exact hn))]; exact q
theorem b_addS {a b : List Nat} (h : a.length + b.length ≤ line) (q : Q (.str (S (a ++ b))) st) : Ok (binop .Add (.str (S a)) (.str (S b))) st Q := by
  show Ok (bnd (guard _) _) _ _
  rw [k_bnd, k_guard (decide_eq_true (by rw [S_len, S_len]; exact h)), k_ret, S_app]; exact q
theorem b_addL {i j : Nat} {xs ys : List AV} (h1 : σ[i]? = some (.list xs)) (h2 : σ[j]? = some (.list ys)) (h : xs.length + ys.length ≤ line) (q : Q (.obj σ.length) ⟨σ ++ [.list (xs ++ ys)], ρ⟩) : Ok (binop .Add (.obj i) (.obj j)) ⟨σ, ρ⟩ Q := by
  show Ok (bnd (deref i) _) _ _; rw [k_bnd, k_deref h1, k_bnd, k_deref h2]; dsimp only; rw [k_bnd, k_guard (decide_eq_true h), k_alloc]; exact q
theorem bi_tuple {i : Nat} {xs : List AV} (h : σ[i]? = some (.list xs)) (q : Q (.obj σ.length) ⟨σ ++ [.tuple xs], ρ⟩) : Ok (callBi .tuple [.obj i]) ⟨σ, ρ⟩ Q := by
  show Ok (bnd (deref i) _) _ _; rw [k_bnd, k_deref h]; dsimp only; rw [k_alloc]; exact q
theorem bi_listT {i : Nat} {xs : List AV} (h : σ[i]? = some (.tuple xs)) (q : Q (.obj σ.length) ⟨σ ++ [.list xs], ρ⟩) : Ok (callBi .list [.obj i]) ⟨σ, ρ⟩ Q := by
  show Ok (bnd (deref i) _) _ _; rw [k_bnd, k_deref h]; dsimp only; rw [k_alloc]; exact q
theorem bi_int {l : List Nat} (hd : ∀ c ∈ l, 48 ≤ c ∧ c ≤ 57) (h1 : 1 ≤ l.length) (h2 : l.length ≤ 640) (q : Q (.int (decVal l : Nat)) st) : Ok (callBi .int [.str (S l)]) st Q := by
  have g : (isDig (S l) && (decide (1 ≤ (S l).length) && decide ((S l).length ≤ 640))) = true := by
    rw [S_len, decide_eq_true h1, decide_eq_true h2]
    have : isDig (S l) = true := by
      unfold isDig
      rw [S_list, List.all_eq_true]
      intro c hc
      rw [decide_eq_true (hd c hc).1, decide_eq_true (hd c hc).2]; rfl
    rw [this]; rfl
  show Ok (bnd (guard _) _) _ _; rw [k_bnd, k_guard g, k_ret]; exact q
theorem bi_str {a : Int} (h : a.natAbs.log2 < 1920) (q : Q (.str (Str.ofString (toString a))) st) : Ok (callBi .str [.int a]) st Q := by
  show Ok (bnd (guard _) _) _ _; rw [k_bnd, k_guard (decide_eq_true h), k_ret]; exact q
theorem cm_ninS {x y : Str} (q : QB (!Txt.contains x y) st) : Ok (cmpop .NotIn (.str y) (.str x)) st QB := ⟨_, _, rfl, q⟩
theorem e_tget {l : List (Str × AV)} {x d : AE} (q : Ok (aeval P C x) st fun a s => Ok (aeval P C d) s fun b s => ∃ y, a = .str y ∧ Q ((lookS l y).getD b) s) : Ok (aeval P C (.tget l x d)) st Q := by
  show Ok (bnd _ _) _ _; simp only [k_bnd]
  exact q.mono fun a s q => q.mono fun b s q' => by
    obtain ⟨y, e, q''⟩ := q'
    subst e
    dsimp only; rw [k_ret]; exact q''
theorem kd_str {x : Str} (q : QK .str st) : Ok (kindOf (.str x)) st QK := ⟨_, _, rfl, q⟩
theorem me_split {x y : Str} (h0 : (y.length == 0) = false) (h1 : x.length ≤ line) (h2 : (Txt.split x y).length ≤ line) (q : Q (.obj σ.length) ⟨σ ++ [.list ((Txt.split x y).map .str)], ρ⟩) : Ok (callMeth .str (.str x) .split [.str y]) ⟨σ, ρ⟩ Q := by
  show Ok (bnd (guard _) _) _ _; rw [k_bnd, k_guard (by rw [h0, decide_eq_true h1]; rfl), k_bnd, k_guard (decide_eq_true h2), k_alloc]; exact q
theorem is_tuple {i : Nat} {l : List AV} {t : TY} {b : Bool} (e : σ[i]? = some (.tuple l)) (h : vkTy .tuple t = some b) (q : QB b ⟨σ, ρ⟩) : Ok (isaT P (.obj i) t) ⟨σ, ρ⟩ QB := by
  show Ok (bnd (deref i) _) _ _; rw [k_bnd, k_deref e]; dsimp only; rw [k_ofOpt h]; exact q
theorem is_str {x : Str} {t : TY} {b : Bool} (h : vkTy .str t = some b) (q : QB b st) : Ok (isaT P (.str x) t) st QB := by
  show Ok (ofOpt _) _ _; rw [k_ofOpt h]; exact q
end
end Mine
namespace Mine
open PySem
/-! lines: plain signs, and not many of them -/
structure Ln (l : List Nat) (m : Nat) : Prop where
  a : ∀ c ∈ l, c < 128
  n : l.length ≤ m
theorem Ln.up {l : List Nat} {m k : Nat} (h : Ln l m) (hk : m ≤ k) : Ln l k := ⟨h.a, Nat.le_trans h.n hk⟩
theorem Ln.app {a b : List Nat} {m k : Nat} (h : Ln a m) (g : Ln b k) : Ln (a ++ b) (m + k) :=
  ⟨fun c hc => (List.mem_append.mp hc).elim (h.a c) (g.a c), by rw [List.length_append]; exact Nat.add_le_add h.n g.n⟩
theorem le_line {n : Nat} (h : n ≤ 16000000) : n ≤ line := h
theorem Ln.line {l : List Nat} {m : Nat} (h : Ln l m) (hm : m ≤ 16000000) : l.length ≤ line := le_line (Nat.le_trans h.n hm)
theorem slice_mem {x : Str} {a b : Option Int} : ∀ c ∈ (Txt.slice x a b).cps.toList, c ∈ x.cps.toList := by
  intro c hc
  unfold Txt.slice at hc
  split at hc
  · exact hc
  · rw [List.toList_toArray] at hc
    obtain ⟨i, _, hi⟩ := List.mem_filterMap.mp hc
    exact Array.mem_toList_iff.mpr (Array.mem_of_getElem? hi)
theorem Ln.slice {l : List Nat} {m : Nat} (h : Ln l m) (a b : Option Int) : ∃ l', Txt.slice (S l) a b = S l' ∧ Ln l' m := by
  refine ⟨(Txt.slice (S l) a b).cps.toList, S_of _, fun c hc => h.a c (slice_mem c hc), ?_⟩
  have := Txt.slice_le (S l) a b
  rw [S_len] at this
  exact Nat.le_trans this h.n
/-- a text with its bounds, told by counting -/
theorem Ln.of {x : Str} {m : Nat} (h : (x.cps.toList.all fun c => decide (c < 128)) = true) (hm : decide (x.cps.toList.length ≤ m) = true) : Ln x.cps.toList m :=
  ⟨fun c hc => of_decide_eq_true (List.all_eq_true.mp h c hc), of_decide_eq_true hm⟩
section
variable {P : AProg} {C : Calls} {st : ASt} {σ : List AO} {ρ : List (Option AV)} {Q : AV → ASt → Prop} {QB : Bool → ASt → Prop} {QF : AF → ASt → Prop} {QU : Unit → ASt → Prop}
theorem e_slc {o l u : AE} (q : Ok (aeval P C o) st fun a s => Ok (aeval P C l) s fun b s => Ok (aeval P C u) s fun c s => Ok (sliceOf a b c) s Q) : Ok (aeval P C (.slc o l u)) st Q := by
  show Ok (bnd _ _) _ _; simp only [k_bnd]; exact q
theorem e_neg {x : AE} (q : Ok (aeval P C x) st fun a s => ∃ i, a = .int i ∧ Q (.int (-i)) s) : Ok (aeval P C (.neg x)) st Q := by
  show Ok (bnd _ _) _ _; rw [k_bnd]
  exact q.mono fun a s q => by obtain ⟨i, rfl, q⟩ := q; exact ⟨_, _, rfl, q⟩
theorem sl_str {l : List Nat} {m : Nat} {lo hi : AV} {a b : Option Int} (h : Ln l m) (hm : m ≤ 1000) (h1 : partOf lo = some a) (h2 : partOf hi = some b) (q : ∀ l', Ln l' m → Q (.str (S l')) ⟨σ ++ [.slice lo hi], ρ⟩) : Ok (sliceOf (.str (S l)) lo hi) ⟨σ, ρ⟩ Q := by
  obtain ⟨l', e, hl⟩ := h.slice a b
  show Ok (bnd (ofOpt _) _) _ _
  rw [k_bnd, k_ofOpt h1, k_bnd, k_ofOpt h2]
  show Ok (bnd (guard _) _) _ _
  rw [k_bnd, k_guard (decide_eq_true (by rw [S_len]; exact h.line (by omega))), k_bnd, k_alloc, k_ret, e]
  exact q l' hl
theorem part_nat (k : Nat) : partOf (.int (k : Nat)) = some (some ((k : Nat) : Int)) := by
  show (if (0 : Int) ≤ (k : Nat) then some (some ((k : Nat) : Int)) else none) = _
  exact if_pos (Int.natCast_nonneg k)
theorem sl_fromL {i k : Nat} {xs : List AV} (e : σ[i]? = some (.list xs)) (q : Q (.obj (σ.length + 1)) ⟨σ ++ [.slice (.int (k : Nat)) .none] ++ [.list (xs.drop k)], ρ⟩) : Ok (sliceOf (.obj i) (.int (k : Nat)) .none) ⟨σ, ρ⟩ Q := by
  show Ok (bnd (ofOpt _) _) _ _
  rw [k_bnd, k_ofOpt (a := some ((k : Nat) : Int)) (part_nat k), k_bnd, k_ofOpt (a := (none : Option Int)) (show partOf .none = some none from rfl)]
  show Ok (bnd (deref i) _) _ _
  rw [k_bnd, k_deref e]
  show Ok (bnd (alloc _) _) _ _
  rw [k_bnd, k_alloc, k_alloc]
  rw [List.length_append]
  exact q
theorem sl_fromTu {i k : Nat} {xs : List AV} (e : σ[i]? = some (.tuple xs)) (h1 : 1 ≤ k) (h2 : k ≤ xs.length) (q : Q (.obj (σ.length + 1)) ⟨σ ++ [.slice (.int (k : Nat)) .none] ++ [.tuple (xs.drop k)], ρ⟩) : Ok (sliceOf (.obj i) (.int (k : Nat)) .none) ⟨σ, ρ⟩ Q := by
  show Ok (bnd (ofOpt _) _) _ _
  rw [k_bnd, k_ofOpt (a := some ((k : Nat) : Int)) (part_nat k), k_bnd, k_ofOpt (a := (none : Option Int)) (show partOf .none = some none from rfl)]
  show Ok (bnd (deref i) _) _ _
  rw [k_bnd, k_deref e]
  show Ok (bnd (guard _) _) _ _
  rw [k_bnd, k_guard (by
    show (decide ((1 : Int) ≤ (k : Nat) ∧ ((k : Nat) : Int) ≤ (xs.length : Int)) && true) = true
    rw [Bool.and_true]; exact decide_eq_true ⟨by omega, by omega⟩)]
  show Ok (bnd (alloc _) _) _ _
  rw [k_bnd, k_alloc, k_alloc]
  rw [List.length_append]
  exact q
/-- some sign of a text -/
theorem i_strA {x : Str} {m k : Nat} (h : Ln x.cps.toList m) (hm : m ≤ 1000) (hk : k < x.cps.toList.length) (q : ∀ c, c < 128 → Q (.str (S [c])) st) : Ok (getItem (.str x) (.int (k : Nat))) st Q := by
  rw [S_of x]
  exact i_str (Int.natCast_nonneg _) (List.getElem?_eq_getElem hk) (h.line (by omega)) (q _ (h.a _ (List.getElem_mem hk)))
theorem idx_last {n : Nat} : idx? (-1) (n + 1) = some n := by
  unfold idx?
  rw [if_neg (by decide), if_pos (by omega)]
  congr 1; omega
theorem i_last {i : Nat} {xs : List AV} {x : AV} (h : σ[i]? = some (.list (xs ++ [x]))) (q : Q x ⟨σ, ρ⟩) : Ok (getItem (.obj i) (.int (-1))) ⟨σ, ρ⟩ Q := by
  show Ok (bnd (deref i) _) _ _; rw [k_bnd, k_deref h]
  show Ok (bnd (ofOpt (idx? (-1) (xs ++ [x]).length)) _) _ _
  rw [List.length_append, List.length_singleton, k_bnd, k_ofOpt (a := xs.length) idx_last, k_ofOpt (a := x) (by simp)]; exact q
theorem u_last {i : Nat} {xs : List AV} {x v : AV} (h : σ[i]? = some (.list (xs ++ [x]))) (q : QU () ⟨σ.set i (.list (xs ++ [v])), ρ⟩) : Ok (setItem (.obj i) (.int (-1)) v) ⟨σ, ρ⟩ QU := by
  show Ok (bnd (deref i) _) _ _; rw [k_bnd, k_deref h]
  show Ok (bnd (ofOpt (idx? (-1) (xs ++ [x]).length)) _) _ _
  rw [List.length_append, List.length_singleton, k_bnd, k_ofOpt (a := xs.length) idx_last, k_upd]
  rw [List.set_append_right _ _ (Nat.le_refl _), Nat.sub_self]; exact q
theorem me_index {i : Nat} {xs : List AV} {y : Str} {l : List Str} (e : σ[i]? = some (.list xs)) (h : allStrs xs = some l) (h2 : l.idxOf y < l.length) (q : Q (.int (l.idxOf y : Nat)) ⟨σ, ρ⟩) : Ok (callMeth .list (.obj i) .index [.str y]) ⟨σ, ρ⟩ Q := by
  show Ok (bnd (deref i) _) _ _; rw [k_bnd, k_deref e]; dsimp only [meList]; rw [k_bnd, k_ofOpt h, k_bnd, k_guard (decide_eq_true h2), k_ret]; exact q
theorem me_find {x y : Str} (q : Q (.int (Txt.find x y)) st) : Ok (callMeth .str (.str x) .find [.str y]) st Q := ⟨_, _, rfl, q⟩
theorem b_mulS {x : Str} {k : Int} (h : decide (0 ≤ k ∧ k ≤ 1000 ∧ x.length ≤ 1000) = true) (q : Q (.str (Txt.mul x k)) st) : Ok (binop .Mult (.str x) (.int k)) st Q := by
  show Ok (bnd (guard _) _) _ _; rw [k_bnd, k_guard h, k_ret]; exact q
/-- a loop that may leave by return -/
theorem k_forR {q : IK} {v : AV} {n k : Nat} {body : M AF} (I : Nat → ASt → Prop) {r j : Nat} {st : ASt} (h0 : I j st)
    (hs : ∀ i s, j ≤ i → i < j + r → I i s → Ok (iterAt q v n i) s fun x s => Ok (setLoc k x) s fun _ s => Ok body s fun f s => (f = .next ∧ I (i + 1) s) ∨ ∃ y, f = .ret y ∧ QF (.ret y) s)
    (he : ∀ s, I (j + r) s → Ok (iterEnd q v n) s fun _ s => QF .next s) : Ok (forLoop q v n k body r j) st QF := by
  induction r generalizing j st with
  | zero => show Ok (bnd _ _) _ _; rw [k_bnd]; exact (he st h0).mono fun _ s h => by rw [k_ret]; exact h
  | succ r ih =>
    show Ok (bnd _ _) _ _
    rw [k_bnd]
    refine (hs j st (Nat.le_refl _) (by omega) h0).mono fun x s h => ?_
    rw [k_bnd]
    refine h.mono fun _ s h => ?_
    rw [k_bnd]
    refine h.mono fun f s h => ?_
    rcases h with ⟨rfl, h⟩ | ⟨y, rfl, h⟩
    · dsimp only
      exact ih h (fun i s h1 h2 => hs i s (by omega) (by omega)) (fun s h => he s (by rw [← Nat.add_assoc, Nat.add_right_comm]; exact h))
    · dsimp only
      rw [k_ret]; exact h
end
/-! the figures of a word -/
noncomputable def figs : List Nat := [48, 49, 50, 51, 52, 53, 54, 55, 56, 57]
theorem figs_S : Str.ofString "0123456789" = S figs := by decide +kernel
theorem contains_fig {c : Nat} (h : c < 128) : Txt.contains (S figs) (S [c]) = decide (48 ≤ c ∧ c ≤ 57) := by
  have key : ∀ k : Fin 128, Txt.contains (S figs) (S [k.val]) = decide (48 ≤ k.val ∧ k.val ≤ 57) := by decide +kernel
  exact key ⟨c, h⟩
theorem find_fig {c : Nat} (h : c < 128) : Txt.find (S figs) (S [c]) = if 48 ≤ c ∧ c ≤ 57 then ((c - 48 : Nat) : Int) else -1 := by
  have key : ∀ k : Fin 128, Txt.find (S figs) (S [k.val]) = if 48 ≤ k.val ∧ k.val ≤ 57 then ((k.val - 48 : Nat) : Int) else -1 := by decide +kernel
  exact key ⟨c, h⟩
theorem z_S : Str.ofString "0" = S [48] := by decide +kernel
theorem sp_S : Str.ofString " " = S [32] := by decide +kernel
theorem nil_S : Str.ofString "" = S [] := by decide +kernel
noncomputable def isD (c : Nat) : Bool := decide (48 ≤ c ∧ c ≤ 57)
/-- a word that no number is, by its length or its first sign -/
noncomputable def badW : List Nat → Bool
  | [] => true
  | c :: r => decide (60 < r.length + 1) || (decide (c = 48) && decide (1 < r.length + 1))
noncomputable def num (l : List Nat) : Option Nat := if badW l = true then none else if l.all isD = true then some (decVal l) else none
theorem num_ok {l : List Nat} {n : Nat} (h : num l = some n) : badW l = false ∧ l.all isD = true ∧ decVal l = n := by
  unfold num at h
  split at h
  · cases h
  · rename_i h1
    split at h
    · rename_i h2; exact ⟨by simpa using h1, h2, Option.some.inj h⟩
    · cases h
theorem num_no {l : List Nat} (h : num l = none) : badW l = true ∨ (badW l = false ∧ l.all isD = false) := by
  unfold num at h
  split at h
  · rename_i h1; exact .inl h1
  · rename_i h1
    split at h
    · cases h
    · rename_i h2; exact .inr ⟨by simpa using h1, by simpa using h2⟩
theorem badW_len {l : List Nat} (h : badW l = false) : 1 ≤ l.length ∧ l.length ≤ 60 := by
  cases l with
  | nil => cases h
  | cons c r =>
    rw [badW, Bool.or_eq_false_iff] at h
    have := of_decide_eq_false h.1
    rw [List.length_cons]; omega
/-- the first sign that is no figure -/
theorem first_no : ∀ {l : List Nat}, l.all isD = false → ∃ m, ∃ (h : m < l.length), isD l[m] = false ∧ ∀ i (hi : i < l.length), i < m → isD l[i] = true
  | [], h => by cases h
  | c :: r, h => by
    cases hc : isD c with
    | false => exact ⟨0, by simp, hc, fun i _ hi => absurd hi (by omega)⟩
    | true =>
      rw [List.all_cons, hc, Bool.true_and] at h
      obtain ⟨m, hm, h1, h2⟩ := first_no h
      refine ⟨m + 1, by simpa using hm, h1, fun i hi hlt => ?_⟩
      cases i with
      | zero => exact hc
      | succ i => exact h2 i (by simpa using hi) (by omega)
theorem first_none {ws : List (List Nat)} : (∃ x ∈ ws, num x = none) → ∃ m, ∃ (h : m < ws.length), num ws[m] = none ∧ ∀ i (hi : i < ws.length), i < m → ∃ n, num ws[i] = some n := by
  induction ws with
  | nil => rintro ⟨x, hx, _⟩; cases hx
  | cons w r ih =>
    intro h
    cases hw : num w with
    | none => exact ⟨0, by simp, hw, fun i _ hi => absurd hi (by omega)⟩
    | some n =>
      obtain ⟨x, hx, hn⟩ := h
      have hx : x ∈ r := by
        rcases List.mem_cons.mp hx with rfl | hx
        · rw [hw] at hn; cases hn
        · exact hx
      obtain ⟨m, hm, h1, h2⟩ := ih ⟨x, hx, hn⟩
      refine ⟨m + 1, by simpa using hm, h1, fun i hi hlt => ?_⟩
      cases i with
      | zero => exact ⟨n, hw⟩
      | succ i => exact h2 i (by simpa using hi) (by omega)
/-! the words of a line -/
theorem jn_last (a : List Nat) (c : Nat) (B : List (List Nat)) : jn (B ++ [a ++ [c]]) = jn (B ++ [a]) ++ [c] := by
  cases B with
  | nil => rfl
  | cons b r => rw [jn_snoc _ _ (by simp), jn_snoc _ _ (by simp)]; simp
theorem jn_new (B : List (List Nat)) (h : B ≠ []) : jn (B ++ [[]]) = jn B ++ [32] := jn_snoc [] B h
theorem jn_mem : ∀ {A : List (List Nat)} {a : List Nat}, a ∈ A → (∀ c ∈ a, c ∈ jn A) ∧ a.length ≤ (jn A).length
  | [], _, h => nomatch h
  | [b], a, h => by rw [List.mem_singleton.mp h]; exact ⟨fun _ h => h, Nat.le_refl _⟩
  | b :: c :: r, a, h => by
    show (∀ x ∈ a, x ∈ b ++ 32 :: jn (c :: r)) ∧ a.length ≤ (b ++ 32 :: jn (c :: r)).length
    rw [List.length_append, List.length_cons]
    rcases List.mem_cons.mp h with rfl | h
    · exact ⟨fun x hx => List.mem_append.mpr (.inl hx), by omega⟩
    · obtain ⟨h1, h2⟩ := jn_mem h
      exact ⟨fun x hx => List.mem_append.mpr (.inr (.tail _ (h1 x hx))), by omega⟩
theorem Ln.word {A : List (List Nat)} {a : List Nat} {m : Nat} (h : Ln (jn A) m) (ha : a ∈ A) : Ln a m :=
  ⟨fun c hc => h.a c ((jn_mem ha).1 c hc), Nat.le_trans (jn_mem ha).2 h.n⟩
theorem jn_count : ∀ {A : List (List Nat)}, A.length ≤ (jn A).length + 1
  | [] => Nat.zero_le _
  | [_] => by simp
  | a :: b :: r => by
    show _ ≤ (a ++ 32 :: jn (b :: r)).length + 1
    have := jn_count (A := b :: r)
    rw [List.length_append, List.length_cons]
    simp only [List.length_cons] at *
    omega
abbrev iv (n : Nat) : AV := .int (n : Nat)
noncomputable abbrev sv (l : List Nat) : AV := .str (S l)
noncomputable def wl : List (List Nat) := [[109, 97, 107, 101], [116, 97, 107, 101], [112, 117, 116], [115, 104, 97, 114, 101], [100, 114, 111, 112], [119, 111, 114, 107]]
noncomputable def cn : List Nat := [2, 3, 3, 2, 1, 1]
noncomputable def wTab : List (Str × AV) := [((Str.ofString "make"), (.int (2))), ((Str.ofString "take"), (.int (3))), ((Str.ofString "put"), (.int (3))), ((Str.ofString "share"), (.int (2))), ((Str.ofString "drop"), (.int (1))), ((Str.ofString "work"), (.int (1)))]
theorem wl_S : [AV.str (Str.ofString "make"), .str (Str.ofString "take"), .str (Str.ofString "put"), .str (Str.ofString "share"), .str (Str.ofString "drop"), .str (Str.ofString "work")] = wl.map sv := by
  have e : [Str.ofString "make", Str.ofString "take", Str.ofString "put", Str.ofString "share", Str.ofString "drop", Str.ofString "work"] = wl.map S := by decide +kernel
  have := congrArg (List.map AV.str) e
  rw [List.map_map] at this
  exact this
theorem cn_S : [AV.int 2, .int 3, .int 3, .int 2, .int 1, .int 1] = cn.map iv := rfl
theorem wTab_keys : wTab.map (·.1) = wl.map S := by decide +kernel
theorem lookS_none {fs : List (Str × AV)} {x : Str} (h : x ∉ fs.map (·.1)) : lookS fs x = none := by
  induction fs with
  | nil => rfl
  | cons p r ih =>
    rw [List.map_cons, List.mem_cons, not_or] at h
    obtain ⟨y, v⟩ := p
    show (if y = x then some v else lookS r x) = none
    rw [if_neg (Ne.symm h.1)]; exact ih h.2
theorem no_word {w : List Nat} (h : w ∉ wl) : lookS wTab (S w) = none := by
  refine lookS_none fun q => h ?_
  rw [wTab_keys] at q
  obtain ⟨x, hx, e⟩ := List.mem_map.mp q
  exact S_inj e ▸ hx
theorem word_at {k : Nat} (h : k < 6) : ∃ w c, wl[k]? = some w ∧ cn[k]? = some c ∧ Ln w 5 ∧ (wl.map S).idxOf (S w) = k ∧ lookS wTab (S w) = some (.int (c : Nat)) ∧ 1 ≤ c ∧ c ≤ 3 := by
  have ln : ∀ l : List Nat, (l.all fun c => decide (c < 128)) = true → l.length ≤ 5 → Ln l 5 := fun l h hn => ⟨fun c hc => of_decide_eq_true (List.all_eq_true.mp h c hc), hn⟩
  match k, h with
  | 0, _ => exact ⟨_, _, rfl, rfl, ln _ (by decide) (by decide), by decide +kernel, by rfl, by decide, by decide⟩
  | 1, _ => exact ⟨_, _, rfl, rfl, ln _ (by decide) (by decide), by decide +kernel, by rfl, by decide, by decide⟩
  | 2, _ => exact ⟨_, _, rfl, rfl, ln _ (by decide) (by decide), by decide +kernel, by rfl, by decide, by decide⟩
  | 3, _ => exact ⟨_, _, rfl, rfl, ln _ (by decide) (by decide), by decide +kernel, by rfl, by decide, by decide⟩
  | 4, _ => exact ⟨_, _, rfl, rfl, ln _ (by decide) (by decide), by decide +kernel, by rfl, by decide, by decide⟩
  | 5, _ => exact ⟨_, _, rfl, rfl, ln _ (by decide) (by decide), by decide +kernel, by rfl, by decide, by decide⟩
theorem word_in {w : List Nat} (h : w ∈ wl) : ∃ k c, k < 6 ∧ cn[k]? = some c ∧ (wl.map S).idxOf (S w) = k ∧ lookS wTab (S w) = some (.int (c : Nat)) ∧ 1 ≤ c ∧ c ≤ 3 := by
  obtain ⟨k, hk, e⟩ := List.getElem_of_mem h
  obtain ⟨w', c, h1, h2, _, h3, h4, h5⟩ := word_at (k := k) hk
  rw [List.getElem?_eq_getElem hk, e] at h1
  cases h1
  exact ⟨k, c, hk, h2, h3, h4, h5⟩
theorem inList_S {w : List Nat} : ∀ {l : List (List Nat)}, inList (sv w) (l.map sv) = some (decide (w ∈ l))
  | [] => by rw [List.map_nil, decide_eq_false (by simp)]; rfl
  | x :: r => by
    show (match eqPlain (sv x) (sv w), inList (sv w) (r.map sv) with | some b, some c => some (b || c) | _, _ => none) = _
    rw [inList_S (l := r)]
    show some (decide (S x = S w) || decide (w ∈ r)) = _
    congr 1
    by_cases h : x = w
    · subst h; simp
    · have h' : ¬ S x = S w := fun q => h (S_inj q)
      rw [decide_eq_false h', Bool.false_or]
      simp [Ne.symm h]
theorem allStrs_S : ∀ {l : List (List Nat)}, allStrs (l.map sv) = some (l.map S)
  | [] => rfl
  | x :: r => by
    show (match allStrs (r.map sv) with | some l => some (S x :: l) | none => none) = _
    rw [allStrs_S]; rfl
/-- a number, or none -/
noncomputable def nv (l : List Nat) : AV := match num l with | some n => iv n | none => .none
theorem inNone : ∀ {ws : List (List Nat)}, inList .none (ws.map nv) = some (ws.any fun x => (num x).isNone)
  | [] => rfl
  | x :: r => by
    show (match eqPlain (nv x) .none, inList .none (r.map nv) with | some b, some c => some (b || c) | _, _ => none) = _
    rw [inNone (ws := r), List.any_cons]
    unfold nv
    cases num x <;> rfl
/-- the words w, ws of a line make a deed with the numbers ns -/
structure Good (w : List Nat) (ws : List (List Nat)) (ns : List Nat) : Prop where
  t : lookS wTab (S w) = some (.int (ws.length : Nat))
  l1 : 1 ≤ ws.length
  l3 : ws.length ≤ 3
  ns : ws.map num = ns.map some
noncomputable def Bad (w : List Nat) (ws : List (List Nat)) : Prop := (∃ i : Int, (lookS wTab (S w)).getD (.int 0) = .int i ∧ (i ≠ (ws.length : Nat) ∨ ws = [])) ∨ ((∃ x ∈ ws, num x = none) ∧ lookS wTab (S w) = some (.int (ws.length : Nat)) ∧ 1 ≤ ws.length ∧ ws.length ≤ 3)
theorem all_num : ∀ {ws : List (List Nat)}, (ws.any fun x => (num x).isNone) = false → ∃ ns : List Nat, ws.map num = ns.map some ∧ ws.map nv = ns.map iv
  | [], _ => ⟨[], rfl, rfl⟩
  | x :: r, h => by
    rw [List.any_cons, Bool.or_eq_false_iff] at h
    obtain ⟨ns, e1, e2⟩ := all_num h.2
    cases hx : num x with
    | none => rw [hx] at h; cases h.1
    | some n => exact ⟨n :: ns, by rw [List.map_cons, List.map_cons, e1, hx], by rw [List.map_cons, List.map_cons, e2]; unfold nv; rw [hx]⟩
end Mine
namespace Mine
open PySem
section
variable {σ : List AO} {ρ : List (Option AV)} {Q : AV → ASt → Prop} {n : Nat}
theorem p_whole {i : Int} : COk PR (n + 1) 150 [.int i] σ fun v σ' => v = .bool true ∧ σ' = σ := by
  refine co_in (fn := ⟨1, 3, bd150⟩) (ρ := [some (.int i), none, none]) rfl rfl rfl ?_; unfold bd150; dsimp only
  repeat (first | ((with_reducible apply e_loc); (· (first | rfl | assumption))) | (with_reducible first | apply e_not | apply e_and | apply a_one | apply a_more | apply e_isi | apply s_ret | apply xs_cons | apply g_ret | apply tr_bool | apply ou_ret) | ((with_reducible apply is_int); (· rfl)) | ((with_reducible apply k_test); (· (first | rfl | assumption | (simp only [*, Option.isSome_some, Option.isSome_none, Bool.not_true, Bool.not_false]; done) | (simp only [Bool.not_eq_true', Bool.not_eq_false', decide_eq_true_eq, decide_eq_false_iff_not, beq_iff_eq, beq_eq_false_iff_ne, ne_eq] <;> omega)))))
  exact ⟨rfl, rfl⟩
theorem p_cell {xs : List Int} {k : Int} (h : σ[0]? = some (.ro (xs.map .int))) (hk : 0 ≤ k) : COk PR (n + 1) 143 [.obj 0, .int k] σ fun v σ' => (∃ z : Int, v = .int z) ∧ σ' = σ := by
  refine co_in (fn := ⟨2, 4, bd143⟩) (ρ := [some (.obj 0), some (.int k), none, none]) rfl rfl rfl ?_; unfold bd143; dsimp only
  repeat (first | ((with_reducible apply e_loc); (· (first | rfl | assumption))) | (with_reducible first | apply c_one | apply e_bi | apply es_nil | apply es_cons | apply t_cmp | apply s_ite | apply xs_cons | apply cm_lt) | ((with_reducible apply l_ro); (· (first | rfl | assumption))))
  refine k_either (fun t => ?_) fun _ => ?_
  · have hlt : k.toNat < xs.length := by have := of_decide_eq_true t; simp at this; omega
    have : (xs.map AV.int)[k.toNat]? = some (.int xs[k.toNat]) := by rw [List.getElem?_map, List.getElem?_eq_getElem hlt]; rfl
    repeat (first | ((with_reducible apply e_loc); (· (first | rfl | assumption))) | (with_reducible first | apply e_sub | apply s_ret | apply xs_cons | apply g_ret | apply ou_ret) | ((with_reducible apply i_ro); (· (first | rfl | assumption)); (· (first | exact Int.natCast_nonneg _ | decide | omega)); (· (first | rfl | assumption))))
    exact ⟨⟨_, rfl⟩, rfl⟩
  · repeat (first | (with_reducible first | apply e_cst | apply s_ret | apply xs_nil | apply xs_cons | apply g_next | apply g_ret | apply ou_ret))
    exact ⟨⟨_, rfl⟩, rfl⟩
theorem p_numbers {f d : Nat} {l : List Nat} (hf : σ[f]? = some (.list (l.map iv))) (hd : σ[d]? = some (.list (l.map iv))) (hl : l.length ≤ 1000) : COk PR (n + 2) 157 [.obj f, .obj d] σ fun v σ' => v = .bool true := by
  have hml : (l.map iv).length = l.length := List.length_map _
  have hf' : (σ ++ [AO.range 0 l.length])[f]? = some (.list (l.map iv)) := by rw [List.getElem?_append_left (List.getElem?_eq_some_iff.mp hf).1]; exact hf
  have hd' : (σ ++ [AO.range 0 l.length])[d]? = some (.list (l.map iv)) := by rw [List.getElem?_append_left (List.getElem?_eq_some_iff.mp hd).1]; exact hd
  refine co_in (fn := ⟨2, 5, bd157⟩) (ρ := [some (.obj f), some (.obj d), none, none, none]) rfl rfl rfl ?_; unfold bd157; dsimp only
  repeat (first | ((with_reducible apply e_loc); (· (first | rfl | assumption))) | (with_reducible first | apply c_one | apply e_bi | apply e_isi | apply es_nil | apply es_cons | apply t_not | apply t_or | apply t_cmp | apply t_isi | apply an_nil | apply an_cons | apply s_ite | apply s_for | apply xs_nil | apply xs_cons | apply g_next | apply tr_bool | apply cm_nei) | ((with_reducible apply l_list); (· (first | rfl | assumption))) | ((with_reducible apply is_list); (· (first | rfl | assumption)); (· rfl)) | ((with_reducible apply k_ntest); (· (first | rfl | assumption | (simp only [*, Option.isSome_some, Option.isSome_none, Bool.not_true, Bool.not_false]; done) | (simp only [Bool.not_eq_true', Bool.not_eq_false', decide_eq_true_eq, decide_eq_false_iff_not, beq_iff_eq, beq_eq_false_iff_ne, ne_eq] <;> omega)))))
  rw [hml]
  refine bi_range1 (b := l.length) (small_of (by omega) (by omega) (by omega) (by omega)) ?_
  refine it_len_range (a := 0) (b := l.length) (by simp) ⟨?_, ?_⟩
  · simp [line]; omega
  dsimp only
  refine k_for (fun j s => ∃ y, s = ⟨σ ++ [.range 0 l.length], [some (.obj f), some (.obj d), y, none, none]⟩) ⟨_, rfl⟩ ?_ ?_
  · rintro j s - hj ⟨y, rfl⟩
    have hj' : j < l.length := by omega
    have hjv : (l.map iv)[j]? = some (iv l[j]) := by rw [List.getElem?_map, List.getElem?_eq_getElem hj']; rfl
    refine at_range ?_
    rw [Int.zero_add]
    repeat (first | ((with_reducible apply e_loc); (· (first | rfl | assumption))) | (with_reducible first | apply e_cst | apply c_one | apply e_call | apply e_sub | apply es_nil | apply es_cons | apply t_not | apply t_and | apply t_or | apply t_cmp | apply t_call | apply al_cons | apply an_cons | apply s_ite | apply xs_nil | apply xs_cons | apply g_next | apply cm_is | apply cm_isn) | ((with_reducible apply i_list); (· (first | rfl | assumption)); (· (first | exact Int.natCast_nonneg _ | decide | omega)); (· (first | rfl | assumption))) | ((with_reducible apply sl_loc); (· exact rfl)) | ((with_reducible apply k_test); (· (first | rfl | assumption | (simp only [*, Option.isSome_some, Option.isSome_none, Bool.not_true, Bool.not_false]; done) | (simp only [Bool.not_eq_true', Bool.not_eq_false', decide_eq_true_eq, decide_eq_false_iff_not, beq_iff_eq, beq_eq_false_iff_ne, ne_eq] <;> omega)))) | ((with_reducible apply k_ntest); (· (first | rfl | assumption | (simp only [*, Option.isSome_some, Option.isSome_none, Bool.not_true, Bool.not_false]; done) | (simp only [Bool.not_eq_true', Bool.not_eq_false', decide_eq_true_eq, decide_eq_false_iff_not, beq_iff_eq, beq_eq_false_iff_ne, ne_eq] <;> omega)))))
    refine co_use2 p_whole ?_
    repeat (first | ((with_reducible apply e_loc); (· (first | rfl | assumption))) | (with_reducible first | apply c_one | apply e_sub | apply t_cmp | apply an_nil | apply an_cons | apply xs_nil | apply g_next | apply tr_bool | apply cm_nei) | ((with_reducible apply i_list); (· (first | rfl | assumption)); (· (first | exact Int.natCast_nonneg _ | decide | omega)); (· (first | rfl | assumption))) | ((with_reducible apply k_ntest); (· (first | rfl | assumption | (simp only [*, Option.isSome_some, Option.isSome_none, Bool.not_true, Bool.not_false]; done) | (simp only [Bool.not_eq_true', Bool.not_eq_false', decide_eq_true_eq, decide_eq_false_iff_not, beq_iff_eq, beq_eq_false_iff_ne, ne_eq] <;> omega)))))
    exact ⟨rfl, _, rfl⟩
  · rintro s ⟨y, rfl⟩
    repeat (first | (with_reducible first | apply e_cst | apply s_ret | apply xs_cons | apply g_next | apply g_ret | apply en_range | apply ou_ret))
    rfl
theorem S_cons_ne {c : Nat} {r : List Nat} : ¬ S (c :: r) = Str.ofString "" := fun h => by rw [nil_S] at h; exact nomatch S_inj h
theorem S_z {c : Nat} : decide (S [c] = Str.ofString "0") = decide (c = 48) := by
  rw [z_S]
  by_cases h : c = 48
  · subst h; simp
  · rw [decide_eq_false h, decide_eq_false fun q => h (List.cons.inj (S_inj q)).1]
/-- the word's first test -/
theorem t_word {l : List Nat} {y z w : Option AV} {QB : Bool → ASt → Prop} (hl : Ln l 300) (q : QB (badW l) ⟨σ, [some (sv l), y, z, w]⟩) :
    Ok (atest PR (acall PR n) (.or [(.not (.cmp (.cst (.int (1))) [.LtE, .LtE] [(.bi .len [(.loc 0)]), (.cst (.int (60)))])), (.and [(.cmp (.sub (.loc 0) (.cst (.int (0)))) [.Eq] [(.cst (.str (Str.ofString "0")))]), (.cmp (.bi .len [(.loc 0)]) [.Gt] [(.cst (.int (1)))])])])) ⟨σ, [some (sv l), y, z, w]⟩ QB := by
  have hL := hl.line (by decide)
  unfold sv at *
  cases l with
  | nil =>
    repeat (first | ((with_reducible apply e_loc); (· (first | rfl | assumption))) | (with_reducible first | apply e_cst | apply c_more | apply e_bi | apply es_nil | apply es_cons | apply t_not | apply t_or | apply t_cmp | apply an_cons | apply cm_le) | ((with_reducible apply l_str); (· (first | rfl | assumption))) | ((with_reducible apply k_test); (· (first | rfl | assumption | (simp only [*, Option.isSome_some, Option.isSome_none, Bool.not_true, Bool.not_false]; done) | (simp only [Bool.not_eq_true', Bool.not_eq_false', decide_eq_true_eq, decide_eq_false_iff_not, beq_iff_eq, beq_eq_false_iff_ne, ne_eq] <;> omega)))) | ((with_reducible apply k_ntest); (· (first | rfl | assumption | (simp only [*, Option.isSome_some, Option.isSome_none, Bool.not_true, Bool.not_false]; done) | (simp only [Bool.not_eq_true', Bool.not_eq_false', decide_eq_true_eq, decide_eq_false_iff_not, beq_iff_eq, beq_eq_false_iff_ne, ne_eq] <;> omega)))))
    exact q
  | cons c r =>
    have hlen : (c :: r).length = r.length + 1 := rfl
    by_cases h60 : 60 < r.length + 1
    · have e : badW (c :: r) = true := by rw [badW, decide_eq_true h60]; rfl
      rw [e] at q
      repeat (first | ((with_reducible apply e_loc); (· (first | rfl | assumption))) | (with_reducible first | apply e_cst | apply c_one | apply c_more | apply e_bi | apply es_nil | apply es_cons | apply t_not | apply t_or | apply t_cmp | apply an_cons | apply cm_le) | ((with_reducible apply l_str); (· (first | rfl | assumption))) | ((with_reducible apply k_test); (· (first | rfl | assumption | (simp only [*, Option.isSome_some, Option.isSome_none, Bool.not_true, Bool.not_false]; done) | (simp only [Bool.not_eq_true', Bool.not_eq_false', decide_eq_true_eq, decide_eq_false_iff_not, beq_iff_eq, beq_eq_false_iff_ne, ne_eq] <;> omega)))))
      exact q
    · have e : badW (c :: r) = (decide (c = 48) && decide (1 < r.length + 1)) := by rw [badW, decide_eq_false h60]; rfl
      rw [e] at q
      repeat (first | ((with_reducible apply e_loc); (· (first | rfl | assumption))) | (with_reducible first | apply e_cst | apply c_one | apply c_more | apply e_bi | apply e_sub | apply es_nil | apply es_cons | apply t_not | apply t_and | apply t_or | apply t_cmp | apply al_cons | apply an_cons | apply cm_le) | ((with_reducible apply l_str); (· (first | rfl | assumption))) | ((with_reducible apply k_test); (· (first | rfl | assumption | (simp only [*, Option.isSome_some, Option.isSome_none, Bool.not_true, Bool.not_false]; done) | (simp only [Bool.not_eq_true', Bool.not_eq_false', decide_eq_true_eq, decide_eq_false_iff_not, beq_iff_eq, beq_eq_false_iff_ne, ne_eq] <;> omega)))) | ((with_reducible apply k_ntest); (· (first | rfl | assumption | (simp only [*, Option.isSome_some, Option.isSome_none, Bool.not_true, Bool.not_false]; done) | (simp only [Bool.not_eq_true', Bool.not_eq_false', decide_eq_true_eq, decide_eq_false_iff_not, beq_iff_eq, beq_eq_false_iff_ne, ne_eq] <;> omega)))))
      refine i_str (c := c) (by decide) rfl hL ?_
      repeat (first | (with_reducible first | apply e_cst | apply c_one | apply cm_eqs))
      rw [S_z]
      refine k_either (fun t => ?_) fun t => ?_
      · rw [t] at q
        repeat (first | ((with_reducible apply e_loc); (· (first | rfl | assumption))) | (with_reducible first | apply e_cst | apply c_one | apply e_bi | apply es_nil | apply es_cons | apply t_cmp | apply al_cons | apply cm_gt) | ((with_reducible apply l_str); (· (first | rfl | assumption))))
        refine k_either (fun t => ?_) fun t => ?_
        · rw [decide_eq_true (show 1 < r.length + 1 by have := of_decide_eq_true t; rw [hlen] at this; omega)] at q
          repeat (first | (with_reducible first | apply al_nil) | ((with_reducible apply k_test); (· (first | rfl | assumption | (simp only [*, Option.isSome_some, Option.isSome_none, Bool.not_true, Bool.not_false]; done) | (simp only [Bool.not_eq_true', Bool.not_eq_false', decide_eq_true_eq, decide_eq_false_iff_not, beq_iff_eq, beq_eq_false_iff_ne, ne_eq] <;> omega)))))
          exact q
        · rw [decide_eq_false (show ¬ 1 < r.length + 1 by have := of_decide_eq_false t; rw [hlen] at this; omega)] at q
          repeat (first | (with_reducible first | apply an_nil) | ((with_reducible apply k_ntest); (· (first | rfl | assumption | (simp only [*, Option.isSome_some, Option.isSome_none, Bool.not_true, Bool.not_false]; done) | (simp only [Bool.not_eq_true', Bool.not_eq_false', decide_eq_true_eq, decide_eq_false_iff_not, beq_iff_eq, beq_eq_false_iff_ne, ne_eq] <;> omega)))))
          exact q
      · rw [t] at q
        repeat (first | (with_reducible first | apply an_nil) | ((with_reducible apply k_ntest); (· (first | rfl | assumption | (simp only [*, Option.isSome_some, Option.isSome_none, Bool.not_true, Bool.not_false]; done) | (simp only [Bool.not_eq_true', Bool.not_eq_false', decide_eq_true_eq, decide_eq_false_iff_not, beq_iff_eq, beq_eq_false_iff_ne, ne_eq] <;> omega)))))
        exact q
end
end Mine
namespace Mine
open PySem
section
variable {σ : List AO} {ρ : List (Option AV)} {Q : AV → ASt → Prop} {n : Nat}
theorem isD_of {c : Nat} (h : isD c = true) : 48 ≤ c ∧ c ≤ 57 := of_decide_eq_true h
theorem p_number_of {l : List Nat} {m : Nat} (hl : Ln l 300) (h : num l = some m) : COk PR (n + 1) 131 [.str (S l)] σ fun v σ' => v = iv m ∧ σ' = σ := by
  obtain ⟨hb, hd, hm⟩ := num_ok h
  obtain ⟨h1, h2⟩ := badW_len hb
  have hd : ∀ c ∈ l, 48 ≤ c ∧ c ≤ 57 := fun c hc => isD_of (List.all_eq_true.mp hd c hc)
  refine co_in (fn := ⟨1, 4, bd131⟩) (ρ := [some (.str (S l)), none, none, none]) rfl rfl rfl ?_; unfold bd131; dsimp only
  refine xs_cons (s_ite (t_word hl (k_ntest hb (xs_nil (g_next ?_)))))
  repeat (first | ((with_reducible apply e_loc); (· (first | rfl | assumption))) | (with_reducible first | apply s_for | apply xs_cons))
  refine it_len_str hl.a ⟨decide_eq_true (hl.line (by decide)), ?_⟩
  dsimp only
  refine k_for (fun j s => ∃ y, s = ⟨σ, [some (.str (S l)), y, none, none]⟩) ⟨_, rfl⟩ ?_ ?_
  · rintro j s - hj ⟨y, rfl⟩
    have hj : j < l.length := by omega
    refine at_str rfl (List.getElem?_eq_getElem hj) ?_
    repeat (first | ((with_reducible apply e_loc); (· (first | rfl | assumption))) | (with_reducible first | apply e_cst | apply c_one | apply t_cmp | apply s_ite | apply xs_cons | apply cm_ninS) | ((with_reducible apply sl_loc); (· exact rfl)))
    rw [figs_S, contains_fig (hl.a _ (List.getElem_mem hj)), decide_eq_true (hd _ (List.getElem_mem hj))]
    repeat (first | (with_reducible first | apply xs_nil | apply g_next) | ((with_reducible apply k_ntest); (· (first | rfl | assumption | (simp only [*, Option.isSome_some, Option.isSome_none, Bool.not_true, Bool.not_false]; done) | (simp only [Bool.not_eq_true', Bool.not_eq_false', decide_eq_true_eq, decide_eq_false_iff_not, beq_iff_eq, beq_eq_false_iff_ne, ne_eq] <;> omega)))))
    exact ⟨rfl, _, rfl⟩
  · rintro s ⟨y, rfl⟩
    refine en_str rfl ?_
    repeat (first | ((with_reducible apply e_loc); (· (first | rfl | assumption))) | (with_reducible first | apply e_bi | apply es_nil | apply es_cons | apply s_ret | apply xs_cons | apply g_next))
    refine bi_int hd h1 (by omega) ?_
    repeat (first | (with_reducible first | apply g_ret | apply ou_ret))
    rw [hm]
    exact ⟨rfl, rfl⟩
theorem p_number_no {l : List Nat} (hl : Ln l 300) (h : num l = none) : CEr PR (n + 1) 131 [.str (S l)] σ fun e σ' => e = σ.length ∧ σ' = σ ++ [.exc 121] := by
  refine ce_in (fn := ⟨1, 4, bd131⟩) (ρ := [some (.str (S l)), none, none, none]) rfl rfl rfl ?_; unfold bd131; dsimp only
  rcases num_no h with hb | ⟨hb, hd⟩
  · exact er_first (er_ite (t_word hl (k_test hb (er_first (er_raise ⟨rfl, rfl⟩)))))
  · obtain ⟨m, hm, hn, hp⟩ := first_no hd
    refine er_next (s_ite (t_word hl (k_ntest hb (xs_nil ⟨rfl, ?_⟩))))
    refine er_first (er_for (e_loc rfl (it_len_str hl.a ⟨decide_eq_true (hl.line (by decide)), ?_⟩)))
    dsimp only
    refine er_forAt (m := m) (fun j s => ∃ y, s = ⟨σ, [some (.str (S l)), y, none, none]⟩) ?_ ?_ (Nat.zero_le _) (by omega) ⟨_, rfl⟩
    · rintro j s hj ⟨y, rfl⟩
      have hj' : j < l.length := by omega
      refine at_str rfl (List.getElem?_eq_getElem hj') ?_
      repeat (first | ((with_reducible apply e_loc); (· (first | rfl | assumption))) | (with_reducible first | apply e_cst | apply c_one | apply t_cmp | apply s_ite | apply xs_cons | apply cm_ninS) | ((with_reducible apply sl_loc); (· exact rfl)))
      rw [figs_S, contains_fig (hl.a _ (List.getElem_mem hj')), decide_eq_true (isD_of (hp j hj' hj))]
      repeat (first | (with_reducible first | apply xs_nil | apply g_next) | ((with_reducible apply k_ntest); (· (first | rfl | assumption | (simp only [*, Option.isSome_some, Option.isSome_none, Bool.not_true, Bool.not_false]; done) | (simp only [Bool.not_eq_true', Bool.not_eq_false', decide_eq_true_eq, decide_eq_false_iff_not, beq_iff_eq, beq_eq_false_iff_ne, ne_eq] <;> omega)))))
      exact ⟨rfl, _, rfl⟩
    · rintro s ⟨y, rfl⟩
      refine at_str rfl (List.getElem?_eq_getElem hm) ?_
      repeat (first | ((with_reducible apply sl_loc); (· exact rfl)))
      refine er_first (er_ite ?_)
      repeat (first | ((with_reducible apply e_loc); (· (first | rfl | assumption))) | (with_reducible first | apply e_cst | apply c_one | apply t_cmp | apply cm_ninS))
      rw [figs_S, contains_fig (hl.a _ (List.getElem_mem hm)), decide_eq_false (of_decide_eq_false hn)]
      exact k_test rfl (er_first (er_raise ⟨rfl, rfl⟩))
theorem t_part {l : List Nat} {y1 y2 y3 y4 y5 : Option AV} {QB : Bool → ASt → Prop} (hl : Ln l 300) (q : QB (badW l) ⟨σ, [some (.str (S l)), y1, y2, y3, y4, y5]⟩) :
    Ok (atest PR (acall PR n) (.or [(.cmp (.loc 0) [.Eq] [(.cst (.str (Str.ofString "")))]), (.cmp (.bi .len [(.loc 0)]) [.Gt] [(.cst (.int (60)))]), (.and [(.cmp (.sub (.loc 0) (.cst (.int (0)))) [.Eq] [(.cst (.str (Str.ofString "0")))]), (.cmp (.bi .len [(.loc 0)]) [.Gt] [(.cst (.int (1)))])])])) ⟨σ, [some (.str (S l)), y1, y2, y3, y4, y5]⟩ QB := by
  have hL := hl.line (by decide)
  cases l with
  | nil =>
    repeat (first | ((with_reducible apply e_loc); (· (first | rfl | assumption))) | (with_reducible first | apply e_cst | apply c_one | apply t_or | apply t_cmp | apply an_cons | apply cm_eqs) | ((with_reducible apply k_test); (· (first | rfl | assumption | (simp only [*, Option.isSome_some, Option.isSome_none, Bool.not_true, Bool.not_false]; done) | (simp only [Bool.not_eq_true', Bool.not_eq_false', decide_eq_true_eq, decide_eq_false_iff_not, beq_iff_eq, beq_eq_false_iff_ne, ne_eq] <;> omega)))))
    exact q
  | cons c r =>
    have hlen : (c :: r).length = r.length + 1 := rfl
    have hne := decide_eq_false (S_cons_ne (c := c) (r := r))
    by_cases h60 : 60 < r.length + 1
    · have e : badW (c :: r) = true := by rw [badW, decide_eq_true h60]; rfl
      rw [e] at q
      repeat (first | ((with_reducible apply e_loc); (· (first | rfl | assumption))) | (with_reducible first | apply e_cst | apply c_one | apply e_bi | apply es_nil | apply es_cons | apply t_or | apply t_cmp | apply an_cons | apply cm_gt | apply cm_eqs) | ((with_reducible apply l_str); (· (first | rfl | assumption))) | ((with_reducible apply k_test); (· (first | rfl | assumption | (simp only [*, Option.isSome_some, Option.isSome_none, Bool.not_true, Bool.not_false]; done) | (simp only [Bool.not_eq_true', Bool.not_eq_false', decide_eq_true_eq, decide_eq_false_iff_not, beq_iff_eq, beq_eq_false_iff_ne, ne_eq] <;> omega)))) | ((with_reducible apply k_ntest); (· (first | rfl | assumption | (simp only [*, Option.isSome_some, Option.isSome_none, Bool.not_true, Bool.not_false]; done) | (simp only [Bool.not_eq_true', Bool.not_eq_false', decide_eq_true_eq, decide_eq_false_iff_not, beq_iff_eq, beq_eq_false_iff_ne, ne_eq] <;> omega)))))
      exact q
    · have e : badW (c :: r) = (decide (c = 48) && decide (1 < r.length + 1)) := by rw [badW, decide_eq_false h60]; rfl
      rw [e] at q
      repeat (first | ((with_reducible apply e_loc); (· (first | rfl | assumption))) | (with_reducible first | apply e_cst | apply c_one | apply e_bi | apply e_sub | apply es_nil | apply es_cons | apply t_and | apply t_or | apply t_cmp | apply al_cons | apply an_cons | apply cm_gt | apply cm_eqs) | ((with_reducible apply l_str); (· (first | rfl | assumption))) | ((with_reducible apply k_ntest); (· (first | rfl | assumption | (simp only [*, Option.isSome_some, Option.isSome_none, Bool.not_true, Bool.not_false]; done) | (simp only [Bool.not_eq_true', Bool.not_eq_false', decide_eq_true_eq, decide_eq_false_iff_not, beq_iff_eq, beq_eq_false_iff_ne, ne_eq] <;> omega)))))
      refine i_str (c := c) (by decide) rfl hL ?_
      repeat (first | (with_reducible first | apply e_cst | apply c_one | apply cm_eqs))
      rw [S_z]
      refine k_either (fun t => ?_) fun t => ?_
      · rw [t] at q
        repeat (first | ((with_reducible apply e_loc); (· (first | rfl | assumption))) | (with_reducible first | apply e_cst | apply c_one | apply e_bi | apply es_nil | apply es_cons | apply t_cmp | apply al_cons | apply cm_gt) | ((with_reducible apply l_str); (· (first | rfl | assumption))))
        refine k_either (fun t => ?_) fun t => ?_
        · rw [decide_eq_true (show 1 < r.length + 1 by have := of_decide_eq_true t; rw [hlen] at this; omega)] at q
          repeat (first | (with_reducible first | apply al_nil) | ((with_reducible apply k_test); (· (first | rfl | assumption | (simp only [*, Option.isSome_some, Option.isSome_none, Bool.not_true, Bool.not_false]; done) | (simp only [Bool.not_eq_true', Bool.not_eq_false', decide_eq_true_eq, decide_eq_false_iff_not, beq_iff_eq, beq_eq_false_iff_ne, ne_eq] <;> omega)))))
          exact q
        · rw [decide_eq_false (show ¬ 1 < r.length + 1 by have := of_decide_eq_false t; rw [hlen] at this; omega)] at q
          repeat (first | (with_reducible first | apply an_nil) | ((with_reducible apply k_ntest); (· (first | rfl | assumption | (simp only [*, Option.isSome_some, Option.isSome_none, Bool.not_true, Bool.not_false]; done) | (simp only [Bool.not_eq_true', Bool.not_eq_false', decide_eq_true_eq, decide_eq_false_iff_not, beq_iff_eq, beq_eq_false_iff_ne, ne_eq] <;> omega)))))
          exact q
      · rw [t] at q
        repeat (first | (with_reducible first | apply an_nil) | ((with_reducible apply k_ntest); (· (first | rfl | assumption | (simp only [*, Option.isSome_some, Option.isSome_none, Bool.not_true, Bool.not_false]; done) | (simp only [Bool.not_eq_true', Bool.not_eq_false', decide_eq_true_eq, decide_eq_false_iff_not, beq_iff_eq, beq_eq_false_iff_ne, ne_eq] <;> omega)))))
        exact q
theorem p_law_number {l : List Nat} (hl : Ln l 300) : COk PR (n + 1) 192 [.str (S l)] σ fun v σ' => v = nv l ∧ σ' = σ := by
  refine co_in (fn := ⟨1, 6, bd192⟩) (ρ := [some (.str (S l)), none, none, none, none, none]) rfl rfl rfl ?_; unfold bd192; dsimp only
  refine xs_cons (s_ite (t_part hl ?_))
  refine k_either (fun hb => ?_) fun hb => ?_
  · have e : nv l = .none := by unfold nv num; rw [if_pos hb]
    repeat (first | (with_reducible first | apply e_cst | apply s_ret | apply xs_cons | apply g_ret | apply ou_ret))
    exact ⟨e.symm, rfl⟩
  · repeat (first | ((with_reducible apply e_loc); (· (first | rfl | assumption))) | ((with_reducible apply as_loc); (· exact rfl)) | (with_reducible first | apply e_cst | apply s_assign | apply s_for | apply xs_nil | apply xs_cons | apply g_next))
    refine it_len_str hl.a ⟨decide_eq_true (hl.line (by decide)), ?_⟩
    dsimp only
    refine k_forR (fun j s => ∃ y2 y3, (∀ i (hi : i < l.length), i < j → isD l[i] = true) ∧ s = ⟨σ, [some (.str (S l)), some (iv (decVal (l.take j))), y2, y3, none, none]⟩) ⟨_, _, (fun i _ hi => absurd hi (by omega)), rfl⟩ ?_ ?_
    · rintro j s - hj ⟨y2, y3, hd, rfl⟩
      have hj : j < l.length := by omega
      have hc := hl.a _ (List.getElem_mem hj)
      refine at_str rfl (List.getElem?_eq_getElem hj) ?_
      repeat (first | ((with_reducible apply e_loc); (· (first | rfl | assumption))) | ((with_reducible apply as_loc); (· exact rfl)) | (with_reducible first | apply e_cst | apply c_one | apply e_meth | apply me_find | apply es_nil | apply es_cons | apply t_cmp | apply s_assign | apply s_ite | apply xs_cons | apply g_next | apply cm_lt | apply kd_str) | ((with_reducible apply sl_loc); (· exact rfl)))
      rw [figs_S, find_fig hc]
      cases hx : isD l[j] with
      | true =>
        rw [if_pos (isD_of hx)]
        repeat (first | ((with_reducible apply e_loc); (· (first | rfl | assumption))) | ((with_reducible apply as_loc); (· exact rfl)) | (with_reducible first | apply e_cst | apply e_bin | apply s_assign | apply xs_nil | apply xs_cons | apply g_next | apply b_add) | ((with_reducible apply b_mul); (· (first | rfl | exact (Bool.or_eq_true_iff.mpr (.inr (by decide))) | exact (Bool.or_eq_true_iff.mpr (.inl (by decide)))))) | ((with_reducible apply k_ntest); (· (first | rfl | assumption | (simp only [*, Option.isSome_some, Option.isSome_none, Bool.not_true, Bool.not_false]; done) | (simp only [Bool.not_eq_true', Bool.not_eq_false', decide_eq_true_eq, decide_eq_false_iff_not, beq_iff_eq, beq_eq_false_iff_ne, ne_eq] <;> omega)))))
        refine .inl ⟨rfl, some (.str (S [l[j]])), some (.int ((l[j] - 48 : Nat) : Int)), fun i hi hlt => ?_, ?_⟩
        · by_cases q : i = j
          · subst q; exact hx
          · exact hd i hi (by omega)
        · have e : ((decVal (l.take (j + 1)) : Nat) : Int) = 10 * (decVal (l.take j) : Nat) + ((l[j] - 48 : Nat) : Int) := by
            rw [List.take_succ_eq_append_getElem hj, dec_snoc]; omega
          rw [← e]; rfl
      | false =>
        rw [if_neg (of_decide_eq_false hx)]
        repeat (first | (with_reducible first | apply e_cst | apply s_ret | apply xs_cons | apply g_ret) | ((with_reducible apply k_test); (· (first | rfl | assumption | (simp only [*, Option.isSome_some, Option.isSome_none, Bool.not_true, Bool.not_false]; done) | (simp only [Bool.not_eq_true', Bool.not_eq_false', decide_eq_true_eq, decide_eq_false_iff_not, beq_iff_eq, beq_eq_false_iff_ne, ne_eq] <;> omega)))))
        have e : nv l = .none := by
          unfold nv num
          rw [if_neg (by rw [hb]; exact Bool.false_ne_true), if_neg]
          intro q
          have := List.all_eq_true.mp q _ (List.getElem_mem hj)
          rw [hx] at this; cases this
        exact .inr ⟨_, rfl, e.symm, rfl⟩
    · rintro s ⟨y2, y3, hd, rfl⟩
      refine en_str rfl ?_
      repeat (first | ((with_reducible apply e_loc); (· (first | rfl | assumption))) | (with_reducible first | apply s_ret | apply xs_cons | apply g_next | apply g_ret | apply ou_ret))
      rw [Nat.zero_add, List.take_length]
      have e : nv l = iv (decVal l) := by
        unfold nv num
        rw [if_neg (by rw [hb]; exact Bool.false_ne_true), if_pos]
        refine List.all_eq_true.mpr fun c hc => ?_
        obtain ⟨i, hi, rfl⟩ := List.getElem_of_mem hc
        exact hd i hi (by omega)
      exact ⟨e.symm, rfl⟩
end
end Mine
namespace Mine
open PySem
section
variable {σ : List AO} {ρ : List (Option AV)} {Q : AV → ASt → Prop} {n : Nat} {xs : List Int}
theorem b_addX {st : ASt} {x y : Str} (h : x.length + y.length ≤ line) (q : Q (.str (x ++ y)) st) : Ok (binop .Add (.str x) (.str y)) st Q := by
  show Ok (bnd (guard _) _) _ _
  rw [k_bnd, k_guard (decide_eq_true h), k_ret]; exact q
theorem b_addLn {st : ASt} {a b : List Nat} {m k : Nat} (ha : Ln a m) (hb : Ln b k) (hm : m + k ≤ 1000) (q : ∀ l, Ln l (m + k) → Q (.str (S l)) st) : Ok (binop .Add (.str (S a)) (.str (S b))) st Q :=
  b_addS (le_line (by have := ha.n; have := hb.n; omega)) (q _ (ha.app hb))
theorem Ln.one {c : Nat} (h : c < 128) : Ln [c] 1 := ⟨fun x hx => by rw [List.mem_singleton.mp hx]; exact h, Nat.le_refl _⟩
theorem Ln.dg {q m : Nat} (h : q < 10 ^ (m + 1)) : Ln (dg q) (m + 1) := ⟨fun c hc => by have := dg_dig q c hc; omega, dg_len h⟩
theorem p_line : COk PR (n + 2) 178 [.obj 0] [.ro (xs.map .int)] fun v σ' => ∃ l a b c, v = .str (S l) ∧ Ln l 20 ∧ 1 ≤ l.length ∧ σ' = [.ro (xs.map .int), a, b, c] := by
  refine co_in (fn := ⟨1, 8, bd178⟩) (ρ := [some (.obj 0), none, none, none, none, none, none, none]) rfl rfl rfl ?_; unfold bd178; dsimp only
  repeat (first | ((with_reducible apply e_loc); (· (first | rfl | assumption))) | ((with_reducible apply as_loc); (· exact rfl)) | (with_reducible first | apply e_cst | apply e_bin | apply e_call | apply e_list | apply es_nil | apply es_cons | apply s_assign | apply xs_cons | apply g_next | apply w_al))
  dsimp only [List.length_cons, List.length_nil, Nat.reduceAdd, List.cons_append, List.nil_append, List.set_cons_succ, List.set_cons_zero]
  rw [wl_S, cn_S]
  refine co_use (p_cell (xs := xs) rfl (by decide)) ?_
  rintro _ _ ⟨⟨z, rfl⟩, rfl⟩
  obtain ⟨k, hk, hk6⟩ : ∃ q : Nat, z.fmod 6 = q ∧ q < 6 := fm (n := 6) (by decide)
  obtain ⟨w, c, hw, hc, hwl, _, _, hc1, hc3⟩ := word_at hk6
  have hwv : (wl.map sv)[k]? = some (.str (S w)) := by rw [List.getElem?_map, hw]; rfl
  have hcv : (cn.map iv)[k]? = some (iv c) := by rw [List.getElem?_map, hc]; rfl
  have hw1 : 1 ≤ w.length := by
    have : ∀ x ∈ wl, 1 ≤ x.length := by decide
    exact this w (List.mem_of_getElem? hw)
  repeat (first | ((with_reducible apply e_loc); (· (first | rfl | assumption))) | ((with_reducible apply as_loc); (· exact rfl)) | (with_reducible first | apply e_cst | apply e_sub | apply s_assign | apply xs_cons | apply g_next) | ((with_reducible apply b_mod); (· (first | rfl | assumption))))
  rw [hk]
  repeat (first | ((with_reducible apply e_loc); (· (first | rfl | assumption))) | ((with_reducible apply as_loc); (· exact rfl)) | (with_reducible first | apply e_bi | apply e_sub | apply es_nil | apply es_cons | apply s_for | apply xs_cons | apply g_next) | ((with_reducible apply i_list); (· (first | rfl | assumption)); (· (first | exact Int.natCast_nonneg _ | decide | omega)); (· (first | rfl | assumption))))
  dsimp only [List.length_cons, List.length_nil, Nat.reduceAdd, List.cons_append, List.nil_append, List.set_cons_succ, List.set_cons_zero]
  refine bi_range1 (b := (c : Nat)) (small_of (by omega) (by omega) (by omega) (by omega)) ?_
  refine it_len_range (a := 0) (b := (c : Nat)) rfl ⟨decide_eq_true (le_line (by omega)), ?_⟩
  dsimp only [List.length_cons, List.length_nil, Nat.reduceAdd, List.cons_append, List.nil_append, List.set_cons_succ, List.set_cons_zero]
  refine k_for (fun j s => ∃ l y, Ln l (5 + 5 * j) ∧ 1 ≤ l.length ∧ s = ⟨[.ro (xs.map .int), .list (wl.map sv), .list (cn.map iv), .range 0 (c : Nat)], [some (.obj 0), some (.obj 1), some (.obj 2), some (iv k), some (.str (S l)), y, none, none]⟩) ⟨w, none, hwl, hw1, rfl⟩ ?_ ?_
  · rintro j s - hj ⟨l, y, hl, hl1, rfl⟩
    have hj : j < 3 := by omega
    refine at_range ?_
    rw [Int.zero_add]
    repeat (first | ((with_reducible apply e_loc); (· (first | rfl | assumption))) | (with_reducible first | apply e_cst | apply e_bin | apply s_assign | apply xs_cons) | ((with_reducible apply sl_loc); (· exact rfl)))
    rw [sp_S]
    have hn := hl.n
    refine b_addS (le_line (by rw [List.length_singleton]; omega)) ?_
    repeat (first | ((with_reducible apply e_loc); (· (first | rfl | assumption))) | (with_reducible first | apply e_cst | apply e_bin | apply e_call | apply e_bi | apply es_nil | apply es_cons | apply b_add))
    refine co_use (p_cell (xs := xs) rfl (by omega)) ?_
    rintro _ _ ⟨⟨z, rfl⟩, rfl⟩
    obtain ⟨q, hq, hq'⟩ : ∃ q : Nat, z.fmod 1200 = q ∧ q < 1200 := fm (n := 1200) (by decide)
    have hd := Ln.dg (q := q) (m := 3) (by omega)
    have hdn := hd.n
    repeat (first | (with_reducible first | apply e_cst | apply es_nil) | ((with_reducible apply b_mod); (· (first | rfl | assumption))))
    rw [hq]
    refine bi_str (log_lt (Nat.lt_trans hq' (by decide +kernel))) ?_
    rw [str_int]
    refine b_addS (le_line (by rw [List.length_append, List.length_singleton]; omega)) ?_
    repeat (first | ((with_reducible apply as_loc); (· exact rfl)) | (with_reducible first | apply xs_nil | apply g_next))
    exact ⟨rfl, _, _, ((hl.app (Ln.one (by decide))).app hd).up (by omega), by rw [List.length_append, List.length_append]; omega, rfl⟩
  · rintro s ⟨l, y, hl, hl1, rfl⟩
    repeat (first | ((with_reducible apply e_loc); (· (first | rfl | assumption))) | (with_reducible first | apply s_ret | apply xs_cons | apply g_next | apply g_ret | apply en_range | apply ou_ret))
    exact ⟨l, _, _, _, rfl, hl.up (by omega), hl1, rfl⟩
theorem p_sign {z : Int} : COk PR (n + 1) 164 [.int z] σ fun v σ' => ∃ c, c < 128 ∧ v = .str (S [c]) ∧ σ' = σ := by
  obtain ⟨k, hk, hk6⟩ : ∃ q : Nat, z.fmod 96 = q ∧ q < 96 := fm (n := 96) (by decide)
  refine co_in (fn := ⟨1, 4, bd164⟩) (ρ := [some (.int z), none, none, none]) rfl rfl rfl ?_; unfold bd164; dsimp only
  repeat (first | ((with_reducible apply e_loc); (· (first | rfl | assumption))) | ((with_reducible apply as_loc); (· exact rfl)) | (with_reducible first | apply e_cst | apply e_bin | apply s_assign | apply xs_cons | apply g_next))
  refine b_addX (by decide +kernel) ?_
  repeat (first | ((with_reducible apply e_loc); (· (first | rfl | assumption))) | ((with_reducible apply as_loc); (· exact rfl)) | (with_reducible first | apply e_cst | apply e_bin | apply e_sub | apply s_ret | apply xs_cons | apply g_next) | ((with_reducible apply b_mod); (· (first | rfl | assumption))))
  rw [hk]
  refine i_strA (m := 96) (Ln.of (by decide +kernel) (by decide +kernel)) (by decide) (Nat.lt_of_lt_of_eq hk6 (by decide +kernel)) fun c hc => ?_
  repeat (first | (with_reducible first | apply g_ret | apply ou_ret))
  exact ⟨c, hc, rfl, rfl⟩
noncomputable def oddL : List Str := [Str.ofString "", Str.ofString " ", Str.ofString "make", Str.ofString "make 1", Str.ofString "make 1 2 3", Str.ofString "Make 1 2", Str.ofString "make  1 2", Str.ofString " drop 1", Str.ofString "drop 1 ", Str.ofString "drop", Str.ofString "drop 01", Str.ofString "drop -1", Str.ofString "drop +1", Str.ofString "drop 1.0", Str.ofString "work 1_0", Str.ofString "work1", Str.ofString "take 1 2", Str.ofString "put 0 0", Str.ofString "share 0", Str.ofString "hold 1", Str.ofString "work 00", Str.ofString "drop 1 1"]
theorem odd_ok : (oddL.all fun x => (x.cps.toList.all fun c => decide (c < 128)) && decide (x.cps.toList.length ≤ 20)) = true := by decide +kernel
theorem odd_at {k : Nat} (h : k < 22) : ∃ l, (oddL.map AV.str)[k]? = some (.str (S l)) ∧ Ln l 20 := by
  have hk : k < oddL.length := h
  have := List.all_eq_true.mp odd_ok _ (List.getElem_mem hk)
  rw [Bool.and_eq_true] at this
  exact ⟨oddL[k].cps.toList, by rw [List.getElem?_map, List.getElem?_eq_getElem hk, ← S_of]; rfl, Ln.of this.1 this.2⟩
theorem p_odd {z : Int} {a b c d : AO} : COk PR (n + 1) 171 [.int z] [a, b, c, d] fun v σ' => ∃ l, v = .str (S l) ∧ Ln l 20 := by
  obtain ⟨k, hk, hk6⟩ : ∃ q : Nat, z.fmod 22 = q ∧ q < 22 := fm (n := 22) (by decide)
  obtain ⟨l, hl, hn⟩ := odd_at hk6
  refine co_in (fn := ⟨1, 4, bd171⟩) (ρ := [some (.int z), none, none, none]) rfl rfl rfl ?_; unfold bd171; dsimp only
  repeat (first | ((with_reducible apply e_loc); (· (first | rfl | assumption))) | ((with_reducible apply as_loc); (· exact rfl)) | (with_reducible first | apply e_cst | apply e_bin | apply e_list | apply es_nil | apply es_cons | apply s_assign | apply xs_cons | apply g_next | apply w_al))
  dsimp only [List.length_cons, List.length_nil, Nat.reduceAdd, List.cons_append, List.nil_append, List.set_cons_succ, List.set_cons_zero]
  refine b_addL rfl rfl (by decide) ?_
  repeat (first | ((with_reducible apply e_loc); (· (first | rfl | assumption))) | ((with_reducible apply as_loc); (· exact rfl)) | (with_reducible first | apply e_cst | apply e_bin | apply e_list | apply es_nil | apply es_cons | apply s_assign | apply xs_cons | apply g_next | apply w_al))
  dsimp only [List.length_cons, List.length_nil, Nat.reduceAdd, List.cons_append, List.nil_append, List.set_cons_succ, List.set_cons_zero]
  refine b_addL rfl rfl (by decide) ?_
  repeat (first | ((with_reducible apply e_loc); (· (first | rfl | assumption))) | ((with_reducible apply as_loc); (· exact rfl)) | (with_reducible first | apply e_bin | apply e_bi | apply e_sub | apply es_nil | apply es_cons | apply s_ret | apply xs_cons | apply g_next) | ((with_reducible apply b_mod); (· (first | rfl | assumption))) | ((with_reducible apply l_list); (· (first | rfl | assumption))))
  dsimp only [List.length_cons, List.length_nil, Nat.reduceAdd, List.cons_append, List.nil_append, List.set_cons_succ, List.set_cons_zero]
  rw [show ((22 : Nat) : Int) = 22 from rfl, hk]
  refine i_list (xs := oddL.map AV.str) rfl (Int.natCast_nonneg _) hl ?_
  repeat (first | (with_reducible first | apply g_ret | apply ou_ret))
  exact ⟨l, rfl, hn⟩
theorem sevens {k : Nat} (h : k < 4) : ∃ l, Txt.mul (Str.ofString "7") (58 + (k : Nat)) = S l ∧ Ln l 70 := by
  have key : ∀ k : Fin 4, Txt.mul (Str.ofString "7") (58 + (k.val : Nat)) = S (List.replicate (58 + k.val) 55) := by decide +kernel
  exact ⟨_, key ⟨k, h⟩, fun c hc => by rw [(List.mem_replicate.mp hc).2]; decide, by rw [List.length_replicate]; show 58 + k ≤ 70; omega⟩
theorem p_built : COk PR (n + 3) 185 [.obj 0] [.ro (xs.map .int)] fun v σ' => ∃ l, v = .str (S l) ∧ Ln l 300 := by
  refine co_in (fn := ⟨1, 7, bd185⟩) (ρ := [some (.obj 0), none, none, none, none, none, none]) rfl rfl rfl ?_; unfold bd185; dsimp only
  repeat (first | ((with_reducible apply e_loc); (· (first | rfl | assumption))) | (with_reducible first | apply e_cst | apply e_bin | apply e_call | apply es_nil | apply es_cons | apply s_assign | apply xs_cons))
  refine co_use (p_cell (xs := xs) rfl (by decide)) ?_
  rintro _ _ ⟨⟨z0, rfl⟩, rfl⟩
  repeat (first | ((with_reducible apply e_loc); (· (first | rfl | assumption))) | ((with_reducible apply as_loc); (· exact rfl)) | (with_reducible first | apply e_cst | apply e_call | apply es_nil | apply es_cons | apply s_assign | apply xs_cons | apply g_next) | ((with_reducible apply b_mod); (· (first | rfl | assumption))))
  refine co_use (p_cell (xs := xs) rfl (by decide)) ?_
  rintro _ _ ⟨⟨z5, rfl⟩, rfl⟩
  repeat (first | ((with_reducible apply e_loc); (· (first | rfl | assumption))) | ((with_reducible apply as_loc); (· exact rfl)) | (with_reducible first | apply e_call | apply es_nil | apply es_cons | apply s_assign | apply xs_cons | apply g_next))
  refine co_use p_line ?_
  rintro _ _ ⟨l, a, b, c, rfl, hl, hl1, rfl⟩
  have hL := hl.line (by decide)
  have hm1 : (((l.length : Nat) : Int) + 1 != 0) = true := by rw [bne_iff_ne]; omega
  have hm0 : (((l.length : Nat) : Int) != 0) = true := by rw [bne_iff_ne]; omega
  repeat (first | ((with_reducible apply e_loc); (· (first | rfl | assumption))) | ((with_reducible apply as_loc); (· exact rfl)) | (with_reducible first | apply e_cst | apply c_one | apply t_cmp | apply s_ite | apply xs_cons | apply g_next | apply cm_eqi))
  refine k_either (fun _ => ?_) fun _ => ?_
  · obtain ⟨at1, hat, _⟩ : ∃ q : Nat, z5.fmod (((l.length : Nat) : Int) + 1) = q ∧ q < l.length + 1 := by
      have := fm (x := z5) (n := l.length + 1) (by omega)
      rwa [Int.natCast_add] at this
    repeat (first | ((with_reducible apply e_loc); (· (first | rfl | assumption))) | ((with_reducible apply as_loc); (· exact rfl)) | (with_reducible first | apply e_cst | apply e_bin | apply e_call | apply e_bi | apply es_nil | apply es_cons | apply t_cmp | apply s_assign | apply s_ite | apply xs_cons | apply g_next | apply b_add) | ((with_reducible apply l_str); (· (first | rfl | assumption))) | ((with_reducible apply b_mod); (· (first | rfl | assumption))))
    rw [hat]
    refine co_use (p_cell (xs := xs) rfl (by decide)) ?_
    rintro _ _ ⟨⟨z6, rfl⟩, rfl⟩
    repeat (first | (with_reducible first | apply e_cst | apply c_one | apply cm_eqi) | ((with_reducible apply b_mod); (· (first | rfl | assumption))))
    refine k_either (fun _ => ?_) fun _ => ?_
    · repeat (first | ((with_reducible apply e_loc); (· (first | rfl | assumption))) | (with_reducible first | apply e_cst | apply e_bin | apply e_slc | apply s_ret | apply xs_cons))
      refine sl_str hl (by decide) rfl (part_nat _) fun l1 h1 => ?_
      repeat (first | ((with_reducible apply e_loc); (· (first | rfl | assumption))) | (with_reducible first | apply e_cst | apply e_bin | apply e_call | apply e_sub | apply es_nil | apply es_cons))
      refine co_use (p_cell (xs := xs) rfl (by decide)) ?_
      rintro _ _ ⟨⟨z7, rfl⟩, rfl⟩
      obtain ⟨k, hk, hk2⟩ : ∃ q : Nat, (z7.fdiv 5).fmod 2 = q ∧ q < 2 := fm (n := 2) (by decide)
      repeat (first | (with_reducible first | apply e_cst) | ((with_reducible apply b_fdiv); (· (first | rfl | assumption))) | ((with_reducible apply b_mod); (· (first | rfl | assumption))))
      rw [hk]
      refine i_strA (m := 2) (Ln.of (by decide +kernel) (by decide +kernel)) (by decide) (Nat.lt_of_lt_of_eq hk2 (by decide +kernel)) fun c hc => ?_
      refine b_addLn h1 (Ln.one hc) (by decide) fun l2 h2 => ?_
      repeat (first | ((with_reducible apply e_loc); (· (first | rfl | assumption))) | (with_reducible first | apply e_cst | apply e_slc))
      refine sl_str hl (by decide) (part_nat _) rfl fun l3 h3 => ?_
      refine b_addLn h2 h3 (by decide) fun l4 h4 => ?_
      repeat (first | (with_reducible first | apply g_ret | apply ou_ret))
      exact ⟨l4, rfl, h4.up (by decide)⟩
    · repeat (first | ((with_reducible apply e_loc); (· (first | rfl | assumption))) | (with_reducible first | apply e_cst | apply e_bin | apply e_slc | apply s_ret | apply xs_nil | apply xs_cons | apply g_next))
      refine sl_str hl (by decide) rfl (part_nat _) fun l1 h1 => ?_
      repeat (first | ((with_reducible apply e_loc); (· (first | rfl | assumption))) | (with_reducible first | apply e_cst | apply e_call | apply es_nil | apply es_cons))
      refine co_use (p_cell (xs := xs) rfl (by decide)) ?_
      rintro _ _ ⟨⟨z7, rfl⟩, rfl⟩
      repeat (first | (with_reducible first | apply es_nil))
      refine co_use p_sign ?_
      rintro _ _ ⟨c, hc, rfl, rfl⟩
      refine b_addLn h1 (Ln.one hc) (by decide) fun l2 h2 => ?_
      repeat (first | ((with_reducible apply e_loc); (· (first | rfl | assumption))) | (with_reducible first | apply e_cst | apply e_slc))
      refine sl_str hl (by decide) (part_nat _) rfl fun l3 h3 => ?_
      refine b_addLn h2 h3 (by decide) fun l4 h4 => ?_
      repeat (first | (with_reducible first | apply g_ret | apply ou_ret))
      exact ⟨l4, rfl, h4.up (by decide)⟩
  · repeat (first | ((with_reducible apply e_loc); (· (first | rfl | assumption))) | (with_reducible first | apply e_cst | apply c_one | apply t_cmp | apply s_ite | apply xs_nil | apply xs_cons | apply g_next | apply cm_eqi))
    refine k_either (fun _ => ?_) fun _ => ?_
    · obtain ⟨at1, hat, _⟩ : ∃ q : Nat, z5.fmod ((l.length : Nat) : Int) = q ∧ q < l.length := fm (by omega)
      repeat (first | ((with_reducible apply e_loc); (· (first | rfl | assumption))) | ((with_reducible apply as_loc); (· exact rfl)) | (with_reducible first | apply e_cst | apply e_bin | apply e_bi | apply e_slc | apply es_nil | apply es_cons | apply s_assign | apply s_ret | apply xs_cons | apply g_next) | ((with_reducible apply l_str); (· (first | rfl | assumption))) | ((with_reducible apply b_mod); (· (first | rfl | assumption))))
      rw [hat]
      refine sl_str hl (by decide) rfl (part_nat _) fun l1 h1 => ?_
      repeat (first | ((with_reducible apply e_loc); (· (first | rfl | assumption))) | (with_reducible first | apply e_cst | apply e_bin | apply e_slc | apply b_add))
      refine sl_str hl (by decide) (part_nat (at1 + 1)) rfl fun l3 h3 => ?_
      refine b_addLn h1 h3 (by decide) fun l4 h4 => ?_
      repeat (first | (with_reducible first | apply g_ret | apply ou_ret))
      exact ⟨l4, rfl, h4.up (by decide)⟩
    · repeat (first | ((with_reducible apply e_loc); (· (first | rfl | assumption))) | (with_reducible first | apply e_cst | apply c_one | apply t_cmp | apply s_ite | apply xs_nil | apply xs_cons | apply g_next | apply cm_eqi))
      refine k_either (fun _ => ?_) fun _ => ?_
      · repeat (first | ((with_reducible apply e_loc); (· (first | rfl | assumption))) | (with_reducible first | apply e_call | apply es_nil | apply es_cons | apply s_ret | apply xs_cons))
        refine co_use p_odd ?_
        rintro _ _ ⟨l1, rfl, h1⟩
        repeat (first | (with_reducible first | apply g_ret | apply ou_ret))
        exact ⟨l1, rfl, h1.up (by decide)⟩
      · repeat (first | ((with_reducible apply e_loc); (· (first | rfl | assumption))) | (with_reducible first | apply e_cst | apply c_one | apply t_cmp | apply s_ite | apply xs_nil | apply xs_cons | apply g_next | apply cm_eqi))
        refine k_either (fun _ => ?_) fun _ => ?_
        · obtain ⟨k, hk, hk2⟩ : ∃ q : Nat, z5.fmod 9 = q ∧ q < 9 := fm (n := 9) (by decide)
          repeat (first | ((with_reducible apply e_loc); (· (first | rfl | assumption))) | (with_reducible first | apply e_cst | apply e_bin | apply e_sub | apply s_ret | apply xs_cons) | ((with_reducible apply b_mod); (· (first | rfl | assumption))))
          rw [hk]
          refine i_strA (m := 9) (Ln.of (by decide +kernel) (by decide +kernel)) (by decide) (Nat.lt_of_lt_of_eq hk2 (by decide +kernel)) fun c hc => ?_
          rw [S_of (Str.ofString "work ")]
          refine b_addLn (m := 5) (k := 1) (Ln.of (by decide +kernel) (by decide +kernel)) (Ln.one hc) (by decide) fun l2 h2 => ?_
          repeat (first | ((with_reducible apply e_loc); (· (first | rfl | assumption))) | (with_reducible first | apply e_cst | apply e_bin | apply e_call | apply es_nil | apply es_cons))
          refine co_use (p_cell (xs := xs) rfl (by decide)) ?_
          rintro _ _ ⟨⟨z7, rfl⟩, rfl⟩
          obtain ⟨k', hk', hk2'⟩ : ∃ q : Nat, z7.fmod 4 = q ∧ q < 4 := fm (n := 4) (by decide)
          repeat (first | (with_reducible first | apply e_cst | apply b_add) | ((with_reducible apply b_mod); (· (first | rfl | assumption))))
          rw [hk']
          refine b_mulS (decide_eq_true ⟨by omega, by omega, by decide +kernel⟩) ?_
          obtain ⟨l7, e7, h7⟩ := sevens hk2'
          rw [e7]
          refine b_addLn h2 h7 (by decide) fun l4 h4 => ?_
          repeat (first | (with_reducible first | apply g_ret | apply ou_ret))
          exact ⟨l4, rfl, h4.up (by decide)⟩
        · repeat (first | ((with_reducible apply e_loc); (· (first | rfl | assumption))) | (with_reducible first | apply s_ret | apply xs_nil | apply xs_cons | apply g_next | apply g_ret | apply ou_ret))
          exact ⟨l, rfl, hl.up (by decide)⟩
end
end Mine
namespace Mine
open PySem
theorem gl {σ e : List AO} {i : Nat} {o : AO} (h : σ[i]? = some o) : (σ ++ e)[i]? = some o := by
  rw [List.getElem?_append_left (List.getElem?_eq_some_iff.mp h).1]; exact h
theorem ge {σ : List AO} {o : AO} : (σ ++ [o])[σ.length]? = some o := by rw [List.getElem?_append_right (Nat.le_refl _), Nat.sub_self]; rfl
theorem ge1 {σ : List AO} {a o : AO} : (σ ++ [a] ++ [o])[σ.length + 1]? = some o := by
  have := ge (σ := σ ++ [a]) (o := o)
  rwa [List.length_append] at this
/-- where the words, their counts and the parts lie -/
structure At3 (i1 i2 i3 : Nat) (ps : List AV) (σ : List AO) : Prop where
  a : σ[i1]? = some (.list (wl.map sv))
  b : σ[i2]? = some (.list (cn.map iv))
  c : σ[i3]? = some (.list ps)
  n1 : i3 ≠ i1
  n2 : i3 ≠ i2
theorem At3.set {i1 i2 i3 : Nat} {ps qs : List AV} {σ : List AO} (h : At3 i1 i2 i3 ps σ) : At3 i1 i2 i3 qs (σ.set i3 (.list qs)) :=
  ⟨by rw [List.getElem?_set_ne h.n1]; exact h.a, by rw [List.getElem?_set_ne h.n2]; exact h.b, List.getElem?_set_self (List.getElem?_eq_some_iff.mp h.c).1, h.n1, h.n2⟩
theorem At3.app {i1 i2 i3 : Nat} {ps : List AV} {σ e : List AO} (h : At3 i1 i2 i3 ps σ) : At3 i1 i2 i3 ps (σ ++ e) := ⟨gl h.a, gl h.b, gl h.c, h.n1, h.n2⟩
section
variable {σ : List AO} {ρ : List (Option AV)} {Q : AV → ASt → Prop} {n : Nat}
noncomputable def DuePost (l : List Nat) (v : AV) (σ' : List AO) : Prop := ∃ w ws, l = jn (w :: ws) ∧ (∀ a ∈ w :: ws, 32 ∉ a) ∧ ((v = .none ∧ Bad w ws) ∨ ∃ ns t u, Good w ws ns ∧ v = .obj t ∧ σ'[t]? = some (.tuple [.str (S w), .obj u]) ∧ σ'[u]? = some (.list (ns.map iv)))
/-- the words of the line, behind the loop -/
theorem p_parts {l : List Nat} {i1 i2 i3 : Nat} {QF : AF → ASt → Prop} (hl : Ln l 300) (h : At3 i1 i2 i3 [.str (S [])] σ)
    (q : ∀ (w : List Nat) (ws : List (List Nat)) y σ', l = jn (w :: ws) → (∀ a ∈ w :: ws, 32 ∉ a) → At3 i1 i2 i3 ((w :: ws).map sv) σ' → QF .next ⟨σ', [some (.str (S l)), some (.obj i1), some (.obj i2), some (.obj i3), y, none, none, none]⟩) :
    Ok (iterLen (.str (S l))) ⟨σ, [some (.str (S l)), some (.obj i1), some (.obj i2), some (.obj i3), none, none, none, none]⟩ fun qn s => decide (qn.2 ≤ line) = true ∧ Ok (forLoop qn.1 (.str (S l)) qn.2 4 (aexecs PR (acall PR n) [(.ite (.cmp (.loc 4) [.Eq] [(.cst (.str (Str.ofString " ")))]) [(.expr (.meth (.loc 3) .append [(.cst (.str (Str.ofString "")))]))] [(.assign (.sub (.loc 3) (.neg (.cst (.int (1))))) (.bin .Add (.sub (.loc 3) (.neg (.cst (.int (1))))) (.loc 4)))])]) qn.2 0) s QF := by
  refine it_len_str hl.a ⟨decide_eq_true (hl.line (by decide)), ?_⟩
  dsimp only
  refine k_for (fun j s => ∃ B a y σ', jn (B ++ [a]) = l.take j ∧ (∀ x ∈ B ++ [a], 32 ∉ x) ∧ At3 i1 i2 i3 (B.map sv ++ [.str (S a)]) σ' ∧ s = ⟨σ', [some (.str (S l)), some (.obj i1), some (.obj i2), some (.obj i3), y, none, none, none]⟩) ⟨[], [], none, σ, rfl, by simp, h, rfl⟩ ?_ ?_
  · rintro j s - hj ⟨B, a, y, σ', hjn, h32, h3, rfl⟩
    have hj : j < l.length := by omega
    have hln : (B ++ [a]).length ≤ 301 := by
      have := jn_count (A := B ++ [a])
      rw [hjn, List.length_take] at this
      have := hl.n; omega
    have hla : a.length ≤ 300 := by
      have := (jn_mem (A := B ++ [a]) (a := a) (by simp)).2
      rw [hjn, List.length_take] at this
      have := hl.n; omega
    rw [List.length_append, List.length_singleton] at hln
    have htk : l.take (j + 1) = l.take j ++ [l[j]] := List.take_succ_eq_append_getElem hj
    refine at_str rfl (List.getElem?_eq_getElem hj) ?_
    have hc3 := h3.c
    repeat (first | ((with_reducible apply e_loc); (· (first | rfl | assumption))) | (with_reducible first | apply e_cst | apply c_one | apply t_cmp | apply s_ite | apply xs_cons | apply cm_eqs) | ((with_reducible apply sl_loc); (· exact rfl)))
    rw [sp_S]
    refine k_either (fun t => ?_) fun t => ?_
    · have t : l[j] = 32 := (List.cons.inj (S_inj (of_decide_eq_true t))).1
      repeat (first | ((with_reducible apply e_loc); (· (first | rfl | assumption))) | (with_reducible first | apply e_cst | apply e_meth | apply es_nil | apply es_cons | apply s_expr | apply xs_cons) | ((with_reducible apply kd_list); (· (first | rfl | assumption))))
      rw [nil_S]
      refine me_append h3.c (Nat.lt_of_lt_of_le (show _ < 1000 by simp; omega) (le_line (by decide))) ?_
      repeat (first | (with_reducible first | apply xs_nil | apply g_next))
      refine ⟨rfl, B ++ [a], [], _, _, ?_, ?_, ?_, rfl⟩
      · rw [jn_new _ (by simp), hjn, htk, t]
      · intro x hx
        rcases List.mem_append.mp hx with hx | hx
        · exact h32 x hx
        · rw [List.mem_singleton.mp hx]; simp
      · rw [List.map_append]; exact h3.set
    · have t : l[j] ≠ 32 := fun q => of_decide_eq_false t (by rw [q])
      repeat (first | ((with_reducible apply e_loc); (· (first | rfl | assumption))) | (with_reducible first | apply e_cst | apply e_bin | apply e_sub | apply e_neg | apply s_assign | apply xs_cons))
      refine ⟨1, rfl, ?_⟩
      refine i_last h3.c ?_
      repeat (first | ((with_reducible apply e_loc); (· (first | rfl | assumption))))
      refine b_addS (le_line (by rw [List.length_singleton]; omega)) ?_
      repeat (first | ((with_reducible apply e_loc); (· (first | rfl | assumption))) | (with_reducible first | apply e_cst | apply e_neg | apply as_sub))
      refine ⟨1, rfl, ?_⟩
      refine u_last h3.c ?_
      repeat (first | (with_reducible first | apply xs_nil | apply g_next))
      refine ⟨rfl, B, a ++ [l[j]], _, _, ?_, ?_, h3.set, rfl⟩
      · rw [jn_last, hjn, htk]
      · intro x hx
        rcases List.mem_append.mp hx with hx | hx
        · exact h32 x (List.mem_append.mpr (.inl hx))
        · rw [List.mem_singleton.mp hx]
          intro q
          rcases List.mem_append.mp q with q | q
          · exact h32 a (by simp) q
          · exact t (List.mem_singleton.mp q).symm
  · rintro s ⟨B, a, y, σ', hjn, h32, h3, rfl⟩
    refine en_str rfl ?_
    rw [Nat.zero_add, List.take_length] at hjn
    obtain ⟨w, ws, e⟩ : ∃ w ws, B ++ [a] = w :: ws := by
      cases B with
      | nil => exact ⟨a, [], rfl⟩
      | cons b r => exact ⟨b, r ++ [a], rfl⟩
    rw [e] at hjn h32
    have e2 : B.map sv ++ [.str (S a)] = (w :: ws).map sv := by rw [← e, List.map_append]; rfl
    rw [e2] at h3
    exact q w ws y σ' hjn.symm h32 h3
end
end Mine
namespace Mine
open PySem
section
variable {σ : List AO} {ρ : List (Option AV)} {Q : AV → ASt → Prop} {n : Nat}
theorem p_due {l : List Nat} (hl : Ln l 300) : COk PR (n + 2) 197 [.str (S l)] σ (DuePost l) := by
  refine co_in (fn := ⟨1, 8, bd197⟩) (ρ := [some (.str (S l)), none, none, none, none, none, none, none]) rfl rfl rfl ?_; unfold bd197; dsimp only
  repeat (first | ((with_reducible apply e_loc); (· (first | rfl | assumption))) | ((with_reducible apply as_loc); (· exact rfl)) | (with_reducible first | apply e_cst | apply e_list | apply es_nil | apply es_cons | apply s_assign | apply s_for | apply xs_cons | apply g_next | apply w_al))
  rw [wl_S, cn_S, show AO.list [AV.str (Str.ofString "")] = AO.list [.str (S [])] by rw [nil_S]]
  have h0 : At3 σ.length (σ ++ [AO.list (wl.map sv)]).length (σ ++ [AO.list (wl.map sv)] ++ [AO.list (cn.map iv)]).length [.str (S [])] (σ ++ [AO.list (wl.map sv)] ++ [AO.list (cn.map iv)] ++ [AO.list [.str (S [])]]) :=
    ⟨gl (gl ge), gl ge, ge, by simp, by simp⟩
  generalize σ ++ [AO.list (wl.map sv)] ++ [AO.list (cn.map iv)] ++ [AO.list [.str (S [])]] = σ1 at h0 ⊢
  generalize (σ ++ [AO.list (wl.map sv)] ++ [AO.list (cn.map iv)]).length = i3 at h0 ⊢
  generalize (σ ++ [AO.list (wl.map sv)]).length = i2 at h0 ⊢
  generalize σ.length = i1 at h0 ⊢
  refine p_parts hl h0 fun w ws y σ2 hjn h32 h3 => g_next ?_
  subst hjn
  have fin : ∀ {v : AV} {s : List AO}, v = .none → Bad w ws → DuePost (jn (w :: ws)) v s := fun hv hb => ⟨w, ws, rfl, h32, .inl ⟨hv, hb⟩⟩
  have hml : ((w :: ws).map sv).length = ws.length + 1 := by simp
  have ha := h3.a
  have hb := h3.b
  have hc := h3.c
  have hp0 : ((w :: ws).map sv)[0]? = some (.str (S w)) := rfl
  repeat (first | ((with_reducible apply e_loc); (· (first | rfl | assumption))) | (with_reducible first | apply e_cst | apply c_one | apply e_sub | apply t_or | apply t_cmp | apply an_cons | apply s_ite | apply xs_cons) | ((with_reducible apply i_list); (· (first | rfl | assumption)); (· (first | exact Int.natCast_nonneg _ | decide | omega)); (· (first | rfl | assumption))))
  refine cm_ninL h3.a inList_S ?_
  by_cases hw : w ∈ wl
  case neg =>
    rw [decide_eq_false hw]
    repeat (first | (with_reducible first | apply e_cst | apply s_ret | apply xs_cons | apply g_ret | apply ou_ret) | ((with_reducible apply k_test); (· (first | rfl | assumption | (simp only [*, Option.isSome_some, Option.isSome_none, Bool.not_true, Bool.not_false]; done) | (simp only [Bool.not_eq_true', Bool.not_eq_false', decide_eq_true_eq, decide_eq_false_iff_not, beq_iff_eq, beq_eq_false_iff_ne, ne_eq] <;> omega)))))
    exact fin rfl (.inl ⟨0, by rw [no_word hw]; rfl, by
      cases ws with
      | nil => exact .inr rfl
      | cons _ _ => left; rw [List.length_cons]; omega⟩)
  case pos =>
    rw [decide_eq_true hw]
    obtain ⟨k, c, hk, hck, hix, hlk, h1c, h3c⟩ := word_in hw
    have hcv : (cn.map iv)[k]? = some (iv c) := by rw [List.getElem?_map, hck]; rfl
    repeat (first | ((with_reducible apply e_loc); (· (first | rfl | assumption))) | (with_reducible first | apply e_cst | apply e_bin | apply c_one | apply e_bi | apply e_meth | apply e_sub | apply es_nil | apply es_cons | apply t_cmp | apply an_cons) | ((with_reducible apply l_list); (· (first | rfl | assumption))) | ((with_reducible apply i_list); (· (first | rfl | assumption)); (· (first | exact Int.natCast_nonneg _ | decide | omega)); (· (first | rfl | assumption))) | ((with_reducible apply kd_list); (· (first | rfl | assumption))) | ((with_reducible apply k_ntest); (· (first | rfl | assumption | (simp only [*, Option.isSome_some, Option.isSome_none, Bool.not_true, Bool.not_false]; done) | (simp only [Bool.not_eq_true', Bool.not_eq_false', decide_eq_true_eq, decide_eq_false_iff_not, beq_iff_eq, beq_eq_false_iff_ne, ne_eq] <;> omega)))))
    refine me_index h3.a allStrs_S (by rw [hix]; exact hk) ?_
    rw [hix]
    repeat (first | (with_reducible first | apply b_add | apply cm_nei) | ((with_reducible apply i_list); (· (first | rfl | assumption)); (· (first | exact Int.natCast_nonneg _ | decide | omega)); (· (first | rfl | assumption))))
    rw [hml]
    refine k_either (fun t => ?_) fun t => ?_
    · repeat (first | (with_reducible first | apply e_cst | apply s_ret | apply xs_cons | apply g_ret | apply ou_ret) | ((with_reducible apply k_test); (· (first | rfl | assumption | (simp only [*, Option.isSome_some, Option.isSome_none, Bool.not_true, Bool.not_false]; done) | (simp only [Bool.not_eq_true', Bool.not_eq_false', decide_eq_true_eq, decide_eq_false_iff_not, beq_iff_eq, beq_eq_false_iff_ne, ne_eq] <;> omega)))))
      refine fin rfl (.inl ⟨c, by rw [hlk]; rfl, .inl fun q => ?_⟩)
      rw [Bool.not_eq_true', beq_eq_false_iff_ne] at t
      exact t (by omega)
    · rw [Bool.not_eq_false', beq_iff_eq] at t
      have hc' : c = ws.length := by omega
      subst hc'
      repeat (first | (with_reducible first | apply an_nil | apply s_assign | apply xs_nil | apply xs_cons | apply g_next) | ((with_reducible apply k_ntest); (· (first | rfl | assumption | (simp only [*, Option.isSome_some, Option.isSome_none, Bool.not_true, Bool.not_false]; done) | (simp only [Bool.not_eq_true', Bool.not_eq_false', decide_eq_true_eq, decide_eq_false_iff_not, beq_iff_eq, beq_eq_false_iff_ne, ne_eq] <;> omega)))))
      refine e_comp ?_
      repeat (first | ((with_reducible apply e_loc); (· (first | rfl | assumption))) | (with_reducible first | apply e_cst | apply e_slc))
      refine sl_fromL (k := 1) h3.c ?_
      refine it_len_list (xs := ws.map sv) ge1 ⟨decide_eq_true (le_line (by rw [List.length_map]; omega)), ?_⟩
      dsimp only
      rw [List.length_map]
      have h4 := h3.app (e := [AO.slice (.int (1 : Nat)) .none])
      have h5 := h4.app (e := [AO.list (((w :: ws).map sv).drop 1)])
      refine k_comp (fun i acc s => acc = (ws.take i).map nv ∧ ∃ y6, s = ⟨σ2 ++ [AO.slice (.int (1 : Nat)) .none] ++ [AO.list (((w :: ws).map sv).drop 1)], [some (.str (S (jn (w :: ws)))), some (.obj i1), some (.obj i2), some (.obj i3), y, none, y6, none]⟩) ⟨rfl, _, rfl⟩ ?_ ?_
      · rintro i acc s - hi ⟨rfl, y6, rfl⟩
        have hi : i < ws.length := by omega
        have hiv : (ws.map sv)[i]? = some (.str (S ws[i])) := by rw [List.getElem?_map, List.getElem?_eq_getElem hi]; rfl
        refine at_list (xs := ws.map sv) ge1 (List.length_map _) hiv ?_
        repeat (first | ((with_reducible apply e_loc); (· (first | rfl | assumption))) | (with_reducible first | apply e_call | apply es_nil | apply es_cons | apply ts_nil) | ((with_reducible apply sl_loc); (· exact rfl)) | ((with_reducible apply k_test); (· (first | rfl | assumption | (simp only [*, Option.isSome_some, Option.isSome_none, Bool.not_true, Bool.not_false]; done) | (simp only [Bool.not_eq_true', Bool.not_eq_false', decide_eq_true_eq, decide_eq_false_iff_not, beq_iff_eq, beq_eq_false_iff_ne, ne_eq] <;> omega)))))
        refine co_use2 (p_law_number (hl.word (.tail _ (List.getElem_mem hi)))) ?_
        refine ⟨?_, _, rfl⟩
        rw [List.take_succ_eq_append_getElem hi, List.map_append]; rfl
      · rintro acc s ⟨rfl, y6, rfl⟩
        refine en_list (xs := ws.map sv) ge1 (List.length_map _) ?_
        rw [Nat.zero_add, List.take_length]
        have h6 := h5.app (e := [AO.list (ws.map nv)])
        have hc6 := h6.c
        repeat (first | ((with_reducible apply e_loc); (· (first | rfl | assumption))) | ((with_reducible apply as_loc); (· exact rfl)) | (with_reducible first | apply e_cst | apply c_one | apply t_cmp | apply s_ite | apply xs_cons | apply g_next | apply w_al))
        refine cm_inL ge inNone ?_
        refine k_either (fun t => ?_) fun t => ?_
        · repeat (first | (with_reducible first | apply e_cst | apply s_ret | apply xs_cons | apply g_ret | apply ou_ret))
          obtain ⟨x, hx, hn⟩ := List.any_eq_true.mp t
          exact fin rfl (.inr ⟨⟨x, hx, Option.isNone_iff_eq_none.mp hn⟩, hlk, h1c, h3c⟩)
        · repeat (first | ((with_reducible apply e_loc); (· (first | rfl | assumption))) | (with_reducible first | apply e_cst | apply e_sub | apply e_tuple | apply es_nil | apply es_cons | apply s_ret | apply xs_nil | apply xs_cons | apply g_next | apply g_ret | apply w_al | apply ou_ret) | ((with_reducible apply i_list); (· (first | rfl | assumption)); (· (first | exact Int.natCast_nonneg _ | decide | omega)); (· (first | rfl | assumption))))
          obtain ⟨ns, e1, e2⟩ := all_num t
          rw [e2]
          exact ⟨w, ws, rfl, h32, .inr ⟨ns, _, _, ⟨hlk, h1c, h3c, e1⟩, rfl, ge, gl ge⟩⟩
end
end Mine
namespace Mine
open PySem
section
variable {σ : List AO} {ρ : List (Option AV)} {Q : AV → ASt → Prop} {n : Nat} {w : List Nat} {ws : List (List Nat)}
theorem ext0 {σ : List AO} : ∃ e, σ = σ ++ e := ⟨[], by simp⟩
theorem ext1 {σ τ : List AO} {a : AO} (h : ∃ e, τ = σ ++ e) : ∃ e, τ ++ [a] = σ ++ e := by obtain ⟨e, rfl⟩ := h; exact ⟨e ++ [a], by simp⟩
noncomputable def badT (k : Int) (ws : List (List Nat)) : Bool := decide (k ≠ (ws.length : Nat)) || ws.isEmpty
theorem t_read {i : Nat} {k : Int} {x y z : Option AV} {QB : Bool → ASt → Prop} (h : σ[i]? = some (.list ((w :: ws).map sv))) (hk : (lookS wTab (S w)).getD (.int 0) = .int k) (q : QB (badT k ws) ⟨σ, [x, some (.obj i), y, z]⟩) :
    Ok (atest PR (acall PR n) (.or [(.cmp (.tget [((Str.ofString "make"), (.int (2))), ((Str.ofString "take"), (.int (3))), ((Str.ofString "put"), (.int (3))), ((Str.ofString "share"), (.int (2))), ((Str.ofString "drop"), (.int (1))), ((Str.ofString "work"), (.int (1)))] (.sub (.loc 1) (.cst (.int (0)))) (.cst (.int (0)))) [.NotEq] [(.bin .Sub (.bi .len [(.loc 1)]) (.cst (.int (1))))]), (.cmp (.bi .len [(.loc 1)]) [.Eq] [(.cst (.int (1)))])])) ⟨σ, [x, some (.obj i), y, z]⟩ QB := by
  have hml : ((w :: ws).map sv).length = ws.length + 1 := by simp
  have hp0 : ((w :: ws).map sv)[0]? = some (.str (S w)) := rfl
  unfold wTab at hk
  repeat (first | (with_reducible first | apply t_or | apply t_cmp | apply an_cons))
  refine e_tget ?_
  repeat (first | ((with_reducible apply e_loc); (· (first | rfl | assumption))) | (with_reducible first | apply e_cst | apply e_sub) | ((with_reducible apply i_list); (· (first | rfl | assumption)); (· (first | exact Int.natCast_nonneg _ | decide | omega)); (· (first | rfl | assumption))))
  refine ⟨_, rfl, ?_⟩
  rw [hk]
  repeat (first | ((with_reducible apply e_loc); (· (first | rfl | assumption))) | (with_reducible first | apply e_cst | apply e_bin | apply c_one | apply e_bi | apply es_nil | apply es_cons | apply b_sub | apply cm_nei) | ((with_reducible apply l_list); (· (first | rfl | assumption))))
  rw [hml]
  unfold badT at q
  refine k_either (fun t => ?_) fun t => ?_
  · rw [Bool.not_eq_true', beq_eq_false_iff_ne] at t
    rw [decide_eq_true (by intro e; exact t (by omega)), Bool.true_or] at q
    exact q
  · rw [Bool.not_eq_false', beq_iff_eq] at t
    rw [decide_eq_false (by intro e; exact e (by omega)), Bool.false_or] at q
    repeat (first | ((with_reducible apply e_loc); (· (first | rfl | assumption))) | (with_reducible first | apply e_cst | apply c_one | apply e_bi | apply es_nil | apply es_cons | apply t_cmp | apply an_cons | apply cm_eqi) | ((with_reducible apply l_list); (· (first | rfl | assumption))))
    rw [hml]
    cases ws with
    | nil => repeat (first | ((with_reducible apply k_test); (· (first | rfl | assumption | (simp only [*, Option.isSome_some, Option.isSome_none, Bool.not_true, Bool.not_false]; done) | (simp only [Bool.not_eq_true', Bool.not_eq_false', decide_eq_true_eq, decide_eq_false_iff_not, beq_iff_eq, beq_eq_false_iff_ne, ne_eq] <;> omega))))); exact q
    | cons a r =>
      refine k_ntest ?_ ?_
      · rw [beq_eq_false_iff_ne, List.length_cons]; omega
      · repeat (first | (with_reducible first | apply an_nil))
        exact q
theorem words_of (h32 : ∀ a ∈ w :: ws, 32 ∉ a) : Txt.split (S (jn (w :: ws))) (S [32]) = (w :: ws).map S := split_jn (by simp) h32
theorem p_read {ns : List Nat} (hl : Ln (jn (w :: ws)) 300) (h32 : ∀ a ∈ w :: ws, 32 ∉ a) (g : Good w ws ns) : COk PR (n + 2) 136 [.str (S (jn (w :: ws)))] σ fun v σ' => ∃ t, v = .obj t ∧ σ'[t]? = some (.tuple (.str (S w) :: ns.map iv)) ∧ ∃ e, σ' = σ ++ e := by
  have hsp := words_of h32
  have h1 := g.l1
  have h3 := g.l3
  have hlen : ws.length = ns.length := by have := congrArg List.length g.ns; simpa using this
  have hmm : ((w :: ws).map S).map AV.str = (w :: ws).map sv := by rw [List.map_map]; rfl
  have hp0 : ((w :: ws).map sv)[0]? = some (.str (S w)) := rfl
  refine co_in (fn := ⟨1, 4, bd136⟩) (ρ := [some (.str (S (jn (w :: ws)))), none, none, none]) rfl rfl rfl ?_; unfold bd136; dsimp only
  repeat (first | ((with_reducible apply e_loc); (· (first | rfl | assumption))) | (with_reducible first | apply e_cst | apply e_meth | apply es_nil | apply es_cons | apply s_assign | apply xs_cons | apply kd_str))
  rw [sp_S]
  refine me_split (x := S (jn (w :: ws))) (y := S [32]) (by rw [S_len]; decide) (by rw [S_len]; exact hl.line (by decide)) (by rw [hsp, List.length_map, List.length_cons]; exact le_line (by omega)) ?_
  rw [hsp, hmm]
  have hw : (σ ++ [AO.list ((w :: ws).map sv)])[σ.length]? = some (.list ((w :: ws).map sv)) := ge
  refine as_loc rfl (g_next (xs_cons (s_ite (t_read (k := (ws.length : Nat)) ge (by rw [g.t]; rfl) (k_ntest ?_ (xs_nil (g_next ?_)))))))
  · unfold badT
    rw [decide_eq_false (by simp), Bool.false_or]
    cases ws with
    | nil => cases h1
    | cons a r => rfl
  repeat (first | ((with_reducible apply e_loc); (· (first | rfl | assumption))) | (with_reducible first | apply e_cst | apply e_bin | apply e_bi | apply e_sub | apply e_list | apply es_nil | apply es_cons | apply s_ret | apply xs_cons | apply w_al) | ((with_reducible apply i_list); (· (first | rfl | assumption)); (· (first | exact Int.natCast_nonneg _ | decide | omega)); (· (first | rfl | assumption))))
  refine e_comp ?_
  repeat (first | ((with_reducible apply e_loc); (· (first | rfl | assumption))) | (with_reducible first | apply e_cst | apply e_slc))
  refine sl_fromL (k := 1) (gl ge) ?_
  refine it_len_list (xs := ws.map sv) ge1 ⟨decide_eq_true (le_line (by rw [List.length_map]; omega)), ?_⟩
  dsimp only
  rw [List.length_map]
  refine k_comp (fun i acc s => acc = (ns.take i).map iv ∧ ∃ y, s = ⟨σ ++ [AO.list ((w :: ws).map sv)] ++ [AO.list [.str (S w)]] ++ [AO.slice (.int (1 : Nat)) .none] ++ [AO.list (((w :: ws).map sv).drop 1)], [some (.str (S (jn (w :: ws)))), some (.obj σ.length), y, none]⟩) ⟨rfl, _, rfl⟩ ?_ ?_
  · rintro i acc s - hi ⟨rfl, y, rfl⟩
    have hi : i < ws.length := by omega
    have hi' : i < ns.length := by omega
    have hiv : (ws.map sv)[i]? = some (.str (S ws[i])) := by rw [List.getElem?_map, List.getElem?_eq_getElem hi]; rfl
    have hn : num ws[i] = some ns[i] := by
      have := congrArg (·[i]?) g.ns
      simp only [List.getElem?_map, List.getElem?_eq_getElem hi, List.getElem?_eq_getElem hi', Option.map_some] at this
      exact Option.some.inj this
    refine at_list (xs := ws.map sv) ge1 (List.length_map _) hiv ?_
    repeat (first | ((with_reducible apply e_loc); (· (first | rfl | assumption))) | (with_reducible first | apply e_call | apply es_nil | apply es_cons | apply ts_nil) | ((with_reducible apply sl_loc); (· exact rfl)) | ((with_reducible apply k_test); (· (first | rfl | assumption | (simp only [*, Option.isSome_some, Option.isSome_none, Bool.not_true, Bool.not_false]; done) | (simp only [Bool.not_eq_true', Bool.not_eq_false', decide_eq_true_eq, decide_eq_false_iff_not, beq_iff_eq, beq_eq_false_iff_ne, ne_eq] <;> omega)))))
    refine co_use2 (p_number_of (hl.word (.tail _ (List.getElem_mem hi))) hn) ?_
    refine ⟨?_, _, rfl⟩
    rw [List.take_succ_eq_append_getElem hi', List.map_append]; rfl
  · rintro acc s ⟨rfl, y, rfl⟩
    refine en_list (xs := ws.map sv) ge1 (List.length_map _) ?_
    rw [Nat.zero_add, hlen, List.take_length]
    repeat (first | (with_reducible first | apply w_al))
    refine b_addL (gl (gl (gl ge))) ge (le_line (by simp; omega)) ?_
    repeat (first | (with_reducible first | apply es_nil))
    refine bi_tuple ge ?_
    repeat (first | (with_reducible first | apply g_ret | apply ou_ret))
    refine ⟨_, rfl, ge, ?_⟩
    repeat (with_reducible refine ext1 ?_)
    exact ext0
theorem p_read_no (hl : Ln (jn (w :: ws)) 300) (h32 : ∀ a ∈ w :: ws, 32 ∉ a) (g : Bad w ws) : CEr PR (n + 2) 136 [.str (S (jn (w :: ws)))] σ fun e σ' => e < σ'.length ∧ σ'[e]? = some (.exc 121) := by
  have hsp := words_of h32
  have hmm : ((w :: ws).map S).map AV.str = (w :: ws).map sv := by rw [List.map_map]; rfl
  have hcnt : ws.length + 1 ≤ 301 := by
    have := jn_count (A := w :: ws)
    have := hl.n
    rw [List.length_cons] at *; omega
  have hp0 : ((w :: ws).map sv)[0]? = some (.str (S w)) := rfl
  have fin : ∀ (s : List AO), s.length < (s ++ [AO.exc 121]).length ∧ (s ++ [AO.exc 121])[s.length]? = some (.exc 121) := fun s => ⟨by simp, ge⟩
  refine ce_in (fn := ⟨1, 4, bd136⟩) (ρ := [some (.str (S (jn (w :: ws)))), none, none, none]) rfl rfl rfl ?_; unfold bd136; dsimp only
  refine er_next ?_
  repeat (first | ((with_reducible apply e_loc); (· (first | rfl | assumption))) | (with_reducible first | apply e_cst | apply e_meth | apply es_nil | apply es_cons | apply s_assign | apply kd_str))
  rw [sp_S]
  refine me_split (x := S (jn (w :: ws))) (y := S [32]) (by rw [S_len]; decide) (by rw [S_len]; exact hl.line (by decide)) (by rw [hsp, List.length_map, List.length_cons]; exact le_line (by omega)) ?_
  rw [hsp, hmm]
  refine as_loc rfl ⟨rfl, ?_⟩
  have hw : (σ ++ [AO.list ((w :: ws).map sv)])[σ.length]? = some (.list ((w :: ws).map sv)) := ge
  rcases g with ⟨k, hk, hb⟩ | ⟨hx, ht, h1, h3⟩
  · refine er_first (er_ite (t_read ge hk (k_test ?_ (er_first (er_raise (fin _))))))
    unfold badT
    rcases hb with hb | hb
    · rw [decide_eq_true hb, Bool.true_or]
    · rw [hb, Bool.or_eq_true]; exact .inr rfl
  · refine er_next (s_ite (t_read (k := (ws.length : Nat)) ge (by rw [ht]; rfl) (k_ntest ?_ (xs_nil ⟨rfl, ?_⟩))))
    · unfold badT
      rw [decide_eq_false (by simp), Bool.false_or]
      cases ws with
      | nil => cases h1
      | cons a r => rfl
    obtain ⟨m, hm, hn, hp⟩ := first_none hx
    refine er_first (er_ret (ex_bi1 (ex_binR ?_)))
    repeat (first | ((with_reducible apply e_loc); (· (first | rfl | assumption))) | (with_reducible first | apply e_cst | apply e_sub | apply e_list | apply es_nil | apply es_cons | apply w_al) | ((with_reducible apply i_list); (· (first | rfl | assumption)); (· (first | exact Int.natCast_nonneg _ | decide | omega)); (· (first | rfl | assumption))))
    refine ex_comp ?_
    repeat (first | ((with_reducible apply e_loc); (· (first | rfl | assumption))) | (with_reducible first | apply e_cst | apply e_slc))
    refine sl_fromL (k := 1) (gl ge) ?_
    refine it_len_list (xs := ws.map sv) ge1 ⟨decide_eq_true (le_line (by rw [List.length_map]; omega)), ?_⟩
    dsimp only
    rw [List.length_map]
    refine er_compAt (m := m) (fun i acc s => ∃ y, s = ⟨σ ++ [AO.list ((w :: ws).map sv)] ++ [AO.list [.str (S w)]] ++ [AO.slice (.int (1 : Nat)) .none] ++ [AO.list (((w :: ws).map sv).drop 1)], [some (.str (S (jn (w :: ws)))), some (.obj σ.length), y, none]⟩) ?_ ?_ (Nat.zero_le _) (by omega) ⟨_, rfl⟩
    · rintro i acc s hi ⟨y, rfl⟩
      have hi' : i < ws.length := by omega
      obtain ⟨k, hk⟩ := hp i hi' hi
      have hiv : (ws.map sv)[i]? = some (.str (S ws[i])) := by rw [List.getElem?_map, List.getElem?_eq_getElem hi']; rfl
      refine at_list (xs := ws.map sv) ge1 (List.length_map _) hiv ?_
      refine sl_loc rfl (k_noerr (ts_nil ⟨rfl, ax_of ?_⟩))
      repeat (first | ((with_reducible apply e_loc); (· (first | rfl | assumption))) | (with_reducible first | apply e_call | apply es_nil | apply es_cons))
      refine co_use2 (p_number_of (hl.word (.tail _ (List.getElem_mem hi'))) hk) ?_
      exact ⟨_, rfl⟩
    · rintro acc s ⟨y, rfl⟩
      have hiv : (ws.map sv)[m]? = some (.str (S ws[m])) := by rw [List.getElem?_map, List.getElem?_eq_getElem hm]; rfl
      refine at_list (xs := ws.map sv) ge1 (List.length_map _) hiv ?_
      refine sl_loc rfl (k_noerr (ts_nil ⟨rfl, ex_call ?_⟩))
      repeat (first | ((with_reducible apply e_loc); (· (first | rfl | assumption))) | (with_reducible first | apply es_nil | apply es_cons))
      refine er_call (p_number_no (hl.word (.tail _ (List.getElem_mem hm))) hn) ?_
      rintro e σ' ⟨rfl, rfl⟩
      exact fin _
end
end Mine
namespace Mine
open PySem
section
variable {σ : List AO} {ρ : List (Option AV)} {Q : AV → ASt → Prop} {n : Nat} {xs : List Int}
theorem law_run : COk PR 12 204 [.obj 0] [.ro (xs.map .int)] fun v σ' => v = .bool true := by
  refine co_in (fn := ⟨1, 8, bd204⟩) (ρ := [some (.obj 0), none, none, none, none, none, none, none]) rfl rfl rfl ?_; unfold bd204; dsimp only
  repeat (first | ((with_reducible apply e_loc); (· (first | rfl | assumption | exact gl (by assumption) | exact gl (gl (by assumption)) | exact gl (gl (gl (by assumption)))))) | (with_reducible first | apply e_call | apply es_nil | apply es_cons | apply s_assign | apply xs_cons))
  refine co_use p_built ?_
  rintro _ σ1 ⟨l, rfl, hl⟩
  repeat (first | ((with_reducible apply e_loc); (· (first | rfl | assumption | exact gl (by assumption) | exact gl (gl (by assumption)) | exact gl (gl (gl (by assumption)))))) | ((with_reducible apply as_loc); (· exact rfl)) | (with_reducible first | apply e_call | apply es_nil | apply es_cons | apply s_assign | apply xs_cons | apply g_next))
  refine co_use (p_due hl) ?_
  rintro v σ2 ⟨w, ws, rfl, h32, h⟩
  refine as_loc rfl (g_next (xs_cons ?_))
  rcases h with ⟨rfl, hb⟩ | ⟨ns, t, u, hg, rfl, ht, hu⟩
  · refine s_caughtAs (er_first (er_asg ?_))
    repeat (first | ((with_reducible apply e_loc); (· (first | rfl | assumption | exact gl (by assumption) | exact gl (gl (by assumption)) | exact gl (gl (gl (by assumption)))))) | (with_reducible first | apply es_nil | apply es_cons))
    refine er_call (p_read_no hl h32 hb) ?_
    rintro e σ3 ⟨hlt, he⟩
    have hx : (σ3.set e (.exr 121))[e]? = some (.exr 121) := List.getElem?_set_self hlt
    refine ⟨121, he, rfl, ?_⟩
    dsimp only
    generalize σ3.set e (.exr 121) = τ at hx
    repeat (first | ((with_reducible apply e_loc); (· (first | rfl | assumption | exact gl (by assumption) | exact gl (gl (by assumption)) | exact gl (gl (gl (by assumption)))))) | ((with_reducible apply as_loc); (· exact rfl)) | (with_reducible first | apply e_bin | apply e_isi | apply e_list | apply es_nil | apply es_cons | apply s_assign | apply xs_cons | apply g_next | apply w_al) | ((with_reducible apply is_exr); (· (first | rfl | assumption | exact gl (by assumption) | exact gl (gl (by assumption)) | exact gl (gl (gl (by assumption))))); (· rfl)))
    refine b_addL (gl ge) ge (le_line (by decide)) ?_
    repeat (first | ((with_reducible apply e_loc); (· (first | rfl | assumption | exact gl (by assumption) | exact gl (gl (by assumption)) | exact gl (gl (gl (by assumption)))))) | ((with_reducible apply as_loc); (· exact rfl)) | (with_reducible first | apply e_cst | apply e_not | apply e_and | apply a_one | apply a_more | apply e_cmp | apply c_one | apply e_bi | apply e_isi | apply es_nil | apply es_cons | apply s_ret | apply xs_cons | apply g_next | apply tr_bool | apply cm_is) | ((with_reducible apply is_exr); (· (first | rfl | assumption | exact gl (by assumption) | exact gl (gl (by assumption)) | exact gl (gl (gl (by assumption))))); (· rfl)) | ((with_reducible apply is_exv); (· (first | rfl | assumption | exact gl (by assumption) | exact gl (gl (by assumption)) | exact gl (gl (gl (by assumption))))); (· rfl)) | ((with_reducible apply k_test); (· (first | rfl | assumption | (simp only [*, Option.isSome_some, Option.isSome_none, Bool.not_true, Bool.not_false]; done) | (simp only [Bool.not_eq_true', Bool.not_eq_false', decide_eq_true_eq, decide_eq_false_iff_not, beq_iff_eq, beq_eq_false_iff_ne, ne_eq] <;> omega)))))
    refine bi_any ge rfl ?_
    repeat (first | (with_reducible first | apply g_ret | apply tr_bool))
    exact ⟨_, rfl, rfl⟩
  · refine s_tryas ?_
    repeat (first | ((with_reducible apply e_loc); (· (first | rfl | assumption | exact gl (by assumption) | exact gl (gl (by assumption)) | exact gl (gl (gl (by assumption)))))) | (with_reducible first | apply e_call | apply es_nil | apply es_cons | apply s_assign | apply xs_cons))
    refine co_use (p_read hl h32 hg) ?_
    rintro _ _ ⟨r, rfl, hr, e, rfl⟩
    have ht' : (σ2 ++ e)[t]? = some (.tuple [.str (S w), .obj u]) := gl ht
    have hu' : (σ2 ++ e)[u]? = some (.list (ns.map iv)) := gl hu
    have e1 : (AV.str (S w) :: ns.map iv).length = ns.length + 1 := by simp
    have e2 : (ns.map iv).length = ns.length := by simp
    have hn : ns.length ≤ 3 := by have := congrArg List.length hg.ns; have := hg.l3; simp at *; omega
    have hp0 : (AV.str (S w) :: ns.map iv)[0]? = some (.str (S w)) := rfl
    repeat (first | ((with_reducible apply e_loc); (· (first | rfl | assumption | exact gl (by assumption) | exact gl (gl (by assumption)) | exact gl (gl (gl (by assumption)))))) | ((with_reducible apply as_loc); (· exact rfl)) | (with_reducible first | apply e_cst | apply e_bin | apply e_and | apply a_one | apply a_more | apply e_cmp | apply c_one | apply e_call | apply e_bi | apply e_isi | apply e_sub | apply e_slc | apply es_nil | apply es_cons | apply t_not | apply t_or | apply t_cmp | apply t_isi | apply an_nil | apply an_cons | apply s_ret | apply s_ite | apply xs_nil | apply xs_cons | apply g_next | apply b_add | apply tr_bool | apply cm_is | apply cm_nei | apply cm_eqs) | ((with_reducible apply l_list); (· (first | rfl | assumption | exact gl (by assumption) | exact gl (gl (by assumption)) | exact gl (gl (gl (by assumption)))))) | ((with_reducible apply l_tuple); (· (first | rfl | assumption | exact gl (by assumption) | exact gl (gl (by assumption)) | exact gl (gl (gl (by assumption)))))) | ((with_reducible apply i_tuple); (· (first | rfl | assumption | exact gl (by assumption) | exact gl (gl (by assumption)) | exact gl (gl (gl (by assumption))))); (· (first | exact Int.natCast_nonneg _ | decide | omega)); (· (first | rfl | assumption | exact gl (by assumption) | exact gl (gl (by assumption)) | exact gl (gl (gl (by assumption)))))) | ((with_reducible apply is_str); (· rfl)) | ((with_reducible apply is_tuple); (· (first | rfl | assumption | exact gl (by assumption) | exact gl (gl (by assumption)) | exact gl (gl (gl (by assumption))))); (· rfl)) | ((with_reducible apply k_test); (· (first | rfl | assumption | (simp only [*, Option.isSome_some, Option.isSome_none, Bool.not_true, Bool.not_false]; done) | (simp only [Bool.not_eq_true', Bool.not_eq_false', decide_eq_true_eq, decide_eq_false_iff_not, beq_iff_eq, beq_eq_false_iff_ne, ne_eq] <;> omega)))) | ((with_reducible apply k_ntest); (· (first | rfl | assumption | (simp only [*, Option.isSome_some, Option.isSome_none, Bool.not_true, Bool.not_false]; done) | (simp only [Bool.not_eq_true', Bool.not_eq_false', decide_eq_true_eq, decide_eq_false_iff_not, beq_iff_eq, beq_eq_false_iff_ne, ne_eq] <;> omega)))))
    refine sl_fromTu (k := 1) hr (by decide) (by rw [e1]; omega) ?_
    repeat (first | (with_reducible first | apply es_nil))
    refine bi_listT ge1 ?_
    repeat (first | ((with_reducible apply e_loc); (· (first | rfl | assumption | exact gl (by assumption) | exact gl (gl (by assumption)) | exact gl (gl (gl (by assumption)))))) | (with_reducible first | apply e_cst | apply e_sub | apply es_nil | apply es_cons) | ((with_reducible apply i_tuple); (· (first | rfl | assumption | exact gl (by assumption) | exact gl (gl (by assumption)) | exact gl (gl (gl (by assumption))))); (· (first | exact Int.natCast_nonneg _ | decide | omega)); (· (first | rfl | assumption | exact gl (by assumption) | exact gl (gl (by assumption)) | exact gl (gl (gl (by assumption)))))))
    refine co_use (p_numbers (n := 9) (l := ns) ge (gl (gl (gl hu'))) (by omega)) ?_
    rintro _ _ rfl
    repeat (first | (with_reducible first | apply g_ret | apply ou_ret))
    rfl
theorem run03 (xs : List Int) (h : xs.length ≤ 63) : ∃ σ', acall PR 12 204 [.obj 0] [.ro (xs.map .int)] = some (.ok (.bool true), σ') := by
  obtain ⟨v, σ', e, rfl⟩ := law_run (xs := xs)
  exact ⟨σ', e⟩
end
end Mine
open PySem PySem.W PyProof.Rows
namespace Mine
theorem law_at {K : Frag} {h : Heap} {mg : Str → Option Value} (X : K.In h) (G : h.Ns mainGlobals mg) (e : nsIn K mainGlobals (Str.ofString "law") = some (some (.ref 204))) {fa : Addr} (q : mg (Str.ofString "law") = some (.ref fa)) : fa = 204 := by
  have := mg_of X G e
  rw [this] at q; cases q; rfl
theorem vrel_true {ι : List Addr} {v : Value} (h : VRel ι v (.bool true)) : v = .bool true := by
  cases h; rfl
theorem raises03 {args : List WData} (cls : ExcName) : PySem.Challenge.rw_uf050002_03.row.claim.raises args cls = false := by kernel_rfl
theorem post03 {args : List WData} : PySem.Challenge.rw_uf050002_03.row.claim.post args (.bool true) args = true := by kernel_rfl
theorem close03 {prog : Program} {w : World} {s₁ : Shared} {c : ClaimW} {cl : Str → Option Addr} {mean : ExcName → Option Value} {args : List WData} {p : Program} {loose : List Str} {mg mb : Str → Option Value} (KX : (fragAll w.params).In s₁.heap) (T : Top p loose mean mg mb s₁.heap) (hi : importsNone p = true) (hg : s₁.gens = #[])
    {a : Addr} {vs : Array Value} {xs : List Int} (hl : s₁.heap.IsList a vs) (hI : IntsAre vs.toList xs) (hn : xs.length ≤ 63) (hr : ∀ cls, c.raises args cls = false) (hp : c.post args (.bool true) args = true) {E : Value → Shared → Prop} :
    wpAny (model prog w) callerA (call (.ref 204) [.ref a]) (fun v s' => GoodWG c cl mean args s₁ (.ok (.ret v)) s') E s₁ := by
  obtain ⟨σ', run⟩ := run03 xs hn
  obtain ⟨mm, ⟨om, _, _, hom, _⟩, _⟩ := (T.seer hi).mods
  refine enter KX (topRead_of T) ⟨om, hom⟩ hl hI (by unfold line; omega) (n := 12) (by decide) run fun ι' s' v hv kept shape => ?_
  rw [vrel_true hv]
  refine GoodW.toG ⟨.inl ⟨_, _, [], rfl, hr, .bool true, hp, unshared_nil⟩, kept, ?_, ?_⟩
  · rw [shape]
  · rw [shape]; exact hg
end Mine
open PySem PySem.W PyProof.Rows
set_option maxRecDepth 100000 in
set_option maxHeartbeats 0 in
theorem PySem.Challenge.cw_uf050002_03_holds : PySem.Challenge.rw_uf050002_03.Holds := by
  w_on
  refine Mine.headL (by w_witness2) fun d kwd hdn => ?_
  intro w s₀ s₁ mg mb G Y fa o pm cd doc dV kV ho hd hcd hD hmg hg args vals as hpre hlay hrd hwl hlo
  have KX : (Mine.fragAll w.params).In s₁.heap := kIn_of Y
  refine Ground.open G ?_
  intro T B D TE TW
  rw [hdn] at hmg
  have hfa : fa = 204 := Mine.law_at KX T.g (by kernel_rfl) hmg
  clear ho hd hcd hD hmg B D TE TW
  subst hfa
  wrow_args hpre hlay hrd hwl hlo
  rename_i hL ra w1 r0 hI hW hc hT
  exact Mine.close03 KX T (by decide +kernel) hg hL hI (by omega) Mine.raises03 Mine.post03
