import PyProof.Rows.All
import OpenK.KWalk
import Open.Line
import PyProof.Rows.SortShell
import PyProof.ListIndex
import PyProof.MeetsIn
import PyProof.CollectWalk
import PyProof.DictWalks
import PyProof.WalksMore
import PyProof.DictStraight
import PyProof.FactsAll.dict_3
import PyProof.FactsAll.list_3
import PyProof.PlainList
import PyProof.ListRange
import Open.Row
import PyProof.Rows.News
import PyProof.Walks
import PyProof.CompFree
import PyProof.RangeIter
import PyProof.TupleIter
import PyProof.Rows.RuleB_floordiv
import PyProof.Rows.RuleB_mul
import PyProof.Rows.RuleC_bool
import PyProof.Rows.RuleC_int
import PyProof.Rows.StrRules
import PyProof.Rows.IntRules
import PyProof.Rows.RuleU_int
import PyProof.Rows.Nodes
import PyProof.Rows.TupMore
import PyProof.Rows.ListMade
import PyProof.Rows.EqNone
import PyProof.EqAt
import PyProof.EqKinds
import PyProof.Truth
import PyProof.NeKinds
import PyProof.ListTruth
import PyProof.ListIndexNeg
import PyProof.SliceList
import PyProof.ListOps
import PyProof.Rows.SeqMore
import PyProof.Rows.Lst
import PyProof.DictRoads
import PyProof.DictTruth
import PyProof.Rows.SeqCalls
import PyProof.Conv_int_bool
import PyProof.RangeFor
import PyProof.Rows.ListCopyD
import PyProof.Rows.AttrNodeAny
import PyProof.Rows.Method
import PyProof.Rows.Chain
import PyProof.SliceSyntax
import PyProof.Rows.Own
import PyProof.IsiPairs
import PyProof.IsiHeapPairs
import PyProof.IsiNone
import PyProof.CallType
import PyProof.Rules3
import PyProof.SliceMore
import PyProof.CompMap
import PyProof.CompUse
import PyProof.StationsW
import PyProof.AutoIntOps
import PyProof.RulesAssignMore
import PyProof.Raises
import PyProof.RulesTry
import PyProof.ExcBaseAll.ValueError
import PyProof.Rows.CatchOwn
import PyProof.Cells
import PyProof.Rows.Walk
import PySem.Challenge.RW_uf050002_01
set_option Elab.async false
set_option maxRecDepth 100000
set_option linter.all false
set_option autoImplicit false
set_option genSizeOf false
set_option genSizeOfSpec false
set_option genInjectivity false
namespace Mine
open PySem PySem.W PyProof.Rows
noncomputable def rowBody : List Stmt := PySem.Challenge.rw_uf050002_01.row.prog.main.body
noncomputable def stAt (l : List Stmt) (i : Nat) : Stmt := match l[i]? with | some s => s | none => .Pass ⟨0, 0, 0, 0⟩
noncomputable def fnParts : Stmt → Arguments × List Stmt × Scope
  | .FunctionDef _ a b _ _ _ sc _ _ _ => (a, b, sc)
  | _ => (⟨[], [], none, [], [], none, []⟩, [], ⟨.module, [], false, false, []⟩)
noncomputable def inMod (i : Nat) := fnParts (stAt rowBody i)
noncomputable def ob3 (P : Params) : Obj := Obj.mk (Value.type "dict") none (Data.dict #[DictEntry.mk (PyData.keyHash P (Str.ofString "__name__")) (Value.str (Str.ofString "__name__") 165) (Value.str (Str.ofString "law_uf050002_01") 195), DictEntry.mk (PyData.keyHash P (Str.ofString "__doc__")) (Value.str (Str.ofString "__doc__") 166) Value.none, DictEntry.mk (PyData.keyHash P (Str.ofString "__package__")) (Value.str (Str.ofString "__package__") 167) Value.none, DictEntry.mk (PyData.keyHash P (Str.ofString "__loader__")) (Value.str (Str.ofString "__loader__") 168) (Value.builtin "__main__.__loader__#opaque"), DictEntry.mk (PyData.keyHash P (Str.ofString "__spec__")) (Value.str (Str.ofString "__spec__") 169) Value.none, DictEntry.mk (PyData.keyHash P (Str.ofString "__annotations__")) (Value.str (Str.ofString "__annotations__") 170) (Value.ref 6), DictEntry.mk (PyData.keyHash P (Str.ofString "__builtins__")) (Value.str (Str.ofString "__builtins__") 171) (Value.ref 4), DictEntry.mk (PyData.keyHash P (Str.ofString "__file__")) (Value.str (Str.ofString "__file__") 173) (Value.str (Str.ofString "/claim/cut.py") 172), DictEntry.mk (PyData.keyHash P (Str.ofString "__cached__")) (Value.str (Str.ofString "__cached__") 174) Value.none, DictEntry.mk (PyData.keyHash P (Str.ofString "reach")) (Value.str (Str.ofString "reach") 194) (Value.ref 19), DictEntry.mk (PyData.keyHash P (Str.ofString "_law_cell_at")) (Value.str (Str.ofString "_law_cell_at") 204) (Value.ref 26), DictEntry.mk (PyData.keyHash P (Str.ofString "_law_whole")) (Value.str (Str.ofString "_law_whole") 211) (Value.ref 33), DictEntry.mk (PyData.keyHash P (Str.ofString "_law_numbers")) (Value.str (Str.ofString "_law_numbers") 220) (Value.ref 40), DictEntry.mk (PyData.keyHash P (Str.ofString "_law_rows")) (Value.str (Str.ofString "_law_rows") 226) (Value.ref 45), DictEntry.mk (PyData.keyHash P (Str.ofString "_law_came")) (Value.str (Str.ofString "_law_came") 232) (Value.ref 50), DictEntry.mk (PyData.keyHash P (Str.ofString "law")) (Value.str (Str.ofString "law") 238) (Value.ref 55)] 16) #[]
noncomputable def ob6 (P : Params) : Obj := Obj.mk (Value.type "dict") none (Data.dict #[]) #[]
noncomputable def ob18 (P : Params) : Obj := Obj.mk (Value.type "code") none (Data.fields #[Value.str (Str.ofString "reach") 189, Value.str (Str.ofString "reach") 190, Value.str (Str.ofString "/claim/cut.py") 191, Value.int 2 0, Value.int 2 0, Value.int 0 0, Value.int 0 0, Value.int 3 0, Value.ref 15, Value.bool true, Value.int 181 0, Value.ref 16, Value.none, Value.none, Value.none, Value.ref 17, Value.int 192 0, Value.int 2 0, Value.str (Str.ofString "/claim/cut.py") 193]) #[]
noncomputable def ob19 (P : Params) : Obj := Obj.mk (Value.type "function") none (Data.func (FuncData.mk (Str.ofString "reach") (Str.ofString "reach") (inMod 1).1 (.stmts (inMod 1).2.1) (inMod 1).2.2 3 [] Value.none Value.none Value.none (Value.str (Str.ofString "markpause.reaching") 187) none (Value.ref 18) Value.none 0)) #[]
noncomputable def ob25 (P : Params) : Obj := Obj.mk (Value.type "code") none (Data.fields #[Value.str (Str.ofString "_law_cell_at") 197, Value.str (Str.ofString "_law_cell_at") 198, Value.str (Str.ofString "/claim/cut.py") 199, Value.int 12 0, Value.int 2 0, Value.int 0 0, Value.int 0 0, Value.int 3 0, Value.ref 20, Value.bool true, Value.int 181 0, Value.ref 21, Value.none, Value.ref 22, Value.ref 23, Value.ref 24, Value.int 202 0, Value.int 12 0, Value.str (Str.ofString "/claim/cut.py") 203]) #[]
noncomputable def ob26 (P : Params) : Obj := Obj.mk (Value.type "function") none (Data.func (FuncData.mk (Str.ofString "_law_cell_at") (Str.ofString "_law_cell_at") (inMod 3).1 (.stmts (inMod 3).2.1) (inMod 3).2.2 3 [] Value.none Value.none Value.none (Value.str (Str.ofString "law_uf050002_01") 195) none (Value.ref 25) Value.none 0)) #[]
noncomputable def ob32 (P : Params) : Obj := Obj.mk (Value.type "code") none (Data.fields #[Value.str (Str.ofString "_law_whole") 205, Value.str (Str.ofString "_law_whole") 206, Value.str (Str.ofString "/claim/cut.py") 207, Value.int 16 0, Value.int 1 0, Value.int 0 0, Value.int 0 0, Value.int 3 0, Value.ref 27, Value.bool true, Value.int 181 0, Value.ref 28, Value.none, Value.ref 29, Value.ref 30, Value.ref 31, Value.int 209 0, Value.int 16 0, Value.str (Str.ofString "/claim/cut.py") 210]) #[]
noncomputable def ob33 (P : Params) : Obj := Obj.mk (Value.type "function") none (Data.func (FuncData.mk (Str.ofString "_law_whole") (Str.ofString "_law_whole") (inMod 4).1 (.stmts (inMod 4).2.1) (inMod 4).2.2 3 [] Value.none Value.none Value.none (Value.str (Str.ofString "law_uf050002_01") 195) none (Value.ref 32) Value.none 0)) #[]
noncomputable def ob39 (P : Params) : Obj := Obj.mk (Value.type "code") none (Data.fields #[Value.str (Str.ofString "_law_numbers") 212, Value.str (Str.ofString "_law_numbers") 213, Value.str (Str.ofString "/claim/cut.py") 214, Value.int 18 0, Value.int 2 0, Value.int 0 0, Value.int 0 0, Value.int 3 0, Value.ref 34, Value.bool true, Value.int 181 0, Value.ref 35, Value.none, Value.ref 36, Value.ref 37, Value.ref 38, Value.int 218 0, Value.int 18 0, Value.str (Str.ofString "/claim/cut.py") 219]) #[]
noncomputable def ob40 (P : Params) : Obj := Obj.mk (Value.type "function") none (Data.func (FuncData.mk (Str.ofString "_law_numbers") (Str.ofString "_law_numbers") (inMod 5).1 (.stmts (inMod 5).2.1) (inMod 5).2.2 3 [] Value.none Value.none Value.none (Value.str (Str.ofString "law_uf050002_01") 195) none (Value.ref 39) Value.none 0)) #[]
noncomputable def ob44 (P : Params) : Obj := Obj.mk (Value.type "code") none (Data.fields #[Value.str (Str.ofString "_law_rows") 221, Value.str (Str.ofString "_law_rows") 222, Value.str (Str.ofString "/claim/cut.py") 223, Value.int 27 0, Value.int 2 0, Value.int 0 0, Value.int 0 0, Value.int 3 0, Value.ref 41, Value.bool true, Value.int 181 0, Value.ref 42, Value.none, Value.none, Value.none, Value.ref 43, Value.int 224 0, Value.int 27 0, Value.str (Str.ofString "/claim/cut.py") 225]) #[]
noncomputable def ob45 (P : Params) : Obj := Obj.mk (Value.type "function") none (Data.func (FuncData.mk (Str.ofString "_law_rows") (Str.ofString "_law_rows") (inMod 6).1 (.stmts (inMod 6).2.1) (inMod 6).2.2 3 [] Value.none Value.none Value.none (Value.str (Str.ofString "law_uf050002_01") 195) none (Value.ref 44) Value.none 0)) #[]
noncomputable def ob49 (P : Params) : Obj := Obj.mk (Value.type "code") none (Data.fields #[Value.str (Str.ofString "_law_came") 227, Value.str (Str.ofString "_law_came") 228, Value.str (Str.ofString "/claim/cut.py") 229, Value.int 44 0, Value.int 2 0, Value.int 0 0, Value.int 0 0, Value.int 3 0, Value.ref 46, Value.bool true, Value.int 181 0, Value.ref 47, Value.none, Value.none, Value.none, Value.ref 48, Value.int 230 0, Value.int 44 0, Value.str (Str.ofString "/claim/cut.py") 231]) #[]
noncomputable def ob50 (P : Params) : Obj := Obj.mk (Value.type "function") none (Data.func (FuncData.mk (Str.ofString "_law_came") (Str.ofString "_law_came") (inMod 7).1 (.stmts (inMod 7).2.1) (inMod 7).2.2 3 [] Value.none Value.none Value.none (Value.str (Str.ofString "law_uf050002_01") 195) none (Value.ref 49) Value.none 0)) #[]
noncomputable def ob54 (P : Params) : Obj := Obj.mk (Value.type "code") none (Data.fields #[Value.str (Str.ofString "law") 233, Value.str (Str.ofString "law") 234, Value.str (Str.ofString "/claim/cut.py") 235, Value.int 57 0, Value.int 1 0, Value.int 0 0, Value.int 0 0, Value.int 3 0, Value.ref 51, Value.bool true, Value.int 181 0, Value.ref 52, Value.none, Value.none, Value.none, Value.ref 53, Value.int 236 0, Value.int 57 0, Value.str (Str.ofString "/claim/cut.py") 237]) #[]
noncomputable def ob55 (P : Params) : Obj := Obj.mk (Value.type "function") none (Data.func (FuncData.mk (Str.ofString "law") (Str.ofString "law") (inMod 8).1 (.stmts (inMod 8).2.1) (inMod 8).2.2 3 [] Value.none Value.none Value.none (Value.str (Str.ofString "law_uf050002_01") 195) none (Value.ref 54) Value.none 0)) #[]
noncomputable def frag (P : Params) : Frag := [(3, ob3 P), (18, ob18 P), (19, ob19 P), (25, ob25 P), (26, ob26 P), (32, ob32 P), (33, ob33 P), (39, ob39 P), (40, ob40 P), (44, ob44 P), (45, ob45 P), (49, ob49 P), (50, ob50 P), (54, ob54 P), (55, ob55 P)]
noncomputable def fragAt : List Addr := [3, 18, 19, 25, 26, 32, 33, 39, 40, 44, 45, 49, 50, 54, 55]
noncomputable def fragAll (P : Params) : Frag := (6, ob6 P) :: frag P
noncomputable def fragAllAt : List Addr := 6 :: fragAt
end Mine
namespace Mine
open PySem PySem.W PyProof.Rows
noncomputable def hookL : Hook := kHook fragAll fragAllAt (fun _ => by kernel_rfl)
noncomputable def notName : Stmt → Bool
  | .Assign [.Name x _] _ _ => x != "__name__"
  | _ => true
noncomputable def viewL : Program := { (PySem.Challenge.rw_uf050002_01.row).toRowW.prog with main := { (PySem.Challenge.rw_uf050002_01.row).toRowW.prog.main with body := (PySem.Challenge.rw_uf050002_01.row).toRowW.prog.main.body.filter notName } }
set_option maxRecDepth 100000 in
set_option maxHeartbeats 0 in
theorem leftL : LeftO (PySem.Challenge.rw_uf050002_01.row).prog viewL [] (fun s => xlAt viewL [] s && recOk (RowW.records (PySem.Challenge.rw_uf050002_01.row).toRowW) s) (Hook.obs hookL) (Hook.val hookL) 880 := by
  intro w
  kernel_rfl
set_option maxRecDepth 100000 in
set_option maxHeartbeats 0 in
theorem headL (hw : (PySem.Challenge.rw_uf050002_01.row).toRowW.promised) (hc : ∀ d kwd, d.name = Str.ofString "law" → WalkO viewL [] (XL viewL []) (Hook.says hookL) (PySem.Challenge.rw_uf050002_01.row).toRowW d kwd fun f vs => PySem.call f vs) : PySem.Challenge.rw_uf050002_01.Holds := by
  refine holds_law (by kernel_rfl) fun said => ?_
  exact holds_open (q := viewL) (loose := []) (Xt := fun s => xlAt viewL [] s && recOk (RowW.records (PySem.Challenge.rw_uf050002_01.row).toRowW) s) (XP := XL viewL []) (Yf := Hook.obs hookL) (Ya := Hook.val hookL) (YP := Hook.says hookL) (N := 880) leftL (Hook.of hookL) (Hook.keeps hookL) (fun s e => xl_of s (Bool.and_eq_true_iff.mp e).1) XL.keeps (by rfl) (by rfl) (by rfl) (fun s e => recFacts_of (Bool.and_eq_true_iff.mp e).2) (by rfl) (by first | assumption | decide +kernel) (by decide +kernel) ⟨rfl, rfl, rfl, rfl, rfl, by decide +kernel⟩ hw (hc _ _ rfl)
end Mine
namespace Mine
open PySem PyProof.Rows
/-- the state of a sort: the pairs of a₀ in some order -/
structure SB (a₀ : Array Keyed) (st : SortSt) : Prop where
  perm : (arrOf st).Perm a₀
  kind : kindOf st = oneType'
  failed : failedOf st = none
theorem SB.ints {a₀ : Array Keyed} {st : SortSt} (h : SB a₀ st) (h0 : IntKeys a₀) : IntKeys (arrOf st) := fun p hp => h0 p ((Array.perm_iff_toList_perm.mp h.perm).mem_iff.mp hp)
theorem SB.size {a₀ : Array Keyed} {st : SortSt} (h : SB a₀ st) : (arrOf st).size = a₀.size := h.perm.size_eq
section
variable {prog : Program} {w : World} {A : Around} {E : Value → Shared → Prop} {s : Shared} {a₀ : Array Keyed}
/-- two pairs are compared by their numbers -/
theorem wpS_lt {st : SortSt} {x y : Keyed} {Q : Option Bool → SortSt → Prop} (hk : kindOf st = oneType') (hx : ∃ n t, x.1 = .int n t) (hy : ∃ n t, y.1 = .int n t) (h : Q (some (decide (numOf x.1 < numOf y.1))) st) : wpS (model prog w) A E s (lt' x y) Q st := by
  obtain ⟨n, t, hn⟩ := hx
  obtain ⟨m, u, hm⟩ := hy
  rw [lt'_eq]
  refine wpS_bind (wpS_get ?_)
  rw [hk, keyLt'_oneType]
  rw [hn, hm] at h ⊢
  exact wpS_bind (wpS_lift (wpAny_attempt (oneLt_int ⟨rfl, wpS_pure h⟩)))
theorem wpS_elem {st : SortSt} {xs : Array Keyed} {i : Nat} {Q : Keyed → SortSt → Prop} (hi : i < xs.size) (h : Q xs[i] st) : wpS (model prog w) A E s (elem' xs i) Q st := by
  rw [elem'_eq, getElem?_pos xs i hi]; exact wpS_pure h
theorem wpS_lt2 {st : SortSt} {i j : Nat} {Q : Option Bool → SortSt → Prop} (hB : SB a₀ st) (h0 : IntKeys a₀) (hi : i < a₀.size) (hj : j < a₀.size)
    (h : Q (some (decide (K (arrOf st) i < K (arrOf st) j))) st) : wpS (model prog w) A E s (ltAt' i j) Q st := by
  rw [← hB.size] at hi hj
  rw [ltAt'_eq]
  refine wpS_bind (wpS_get ?_)
  have hI := hB.ints h0
  refine wpS_bind (wpS_elem hi (wpS_bind (wpS_elem hj (wpS_lt hB.kind (hI _ (by simp)) (hI _ (by simp)) ?_))))
  rw [← K_eq hi, ← K_eq hj]; exact h

noncomputable def gallop' : Bool → Keyed → Array Keyed → Nat → Nat → Nat → StateT SortSt Sem (Option Nat) := sortPriv% PySem.Builtin.gallop
noncomputable def beyond' (left : Bool) (key : Keyed) (arr : Array Keyed) (base i : Nat) : StateT SortSt Sem (Option Bool) := do
    let x ← elem' arr (base + i)
    if left then lt' x key else return (← lt' key x).map (!·)
theorem gallop'_eq (left : Bool) (key : Keyed) (arr : Array Keyed) (base n hint : Nat) : gallop' left key arr base n hint = (do
  let mut lastofs := 0
  let mut ofs := 1
  let mut lo := 0
  let mut hi := 0
  let some right ← beyond' left key arr base hint | return none
  if right then
    let maxofs := n - hint
    for _ in [0:n] do
      if ofs ≥ maxofs then break
      let some more ← beyond' left key arr base (hint + ofs) | return none
      if !more then break
      lastofs := ofs
      ofs := 2 * ofs + 1
    lo := hint + lastofs + 1
    hi := hint + min ofs maxofs
  else
    let maxofs := hint + 1
    for _ in [0:n] do
      if ofs ≥ maxofs then break
      let some found ← beyond' left key arr base (hint - ofs) | return none
      if found then break
      lastofs := ofs
      ofs := 2 * ofs + 1
    lo := hint + 1 - min ofs maxofs
    hi := hint - lastofs
  for _ in [0:n] do
    if lo ≥ hi then break
    let m := lo + (hi - lo) / 2
    let some more ← beyond' left key arr base m | return none
    if more then lo := m + 1 else hi := m
  return some hi) := rfl
/-- lies below the key -/
abbrev Bel (left : Bool) (k x : Int) : Prop := if left = true then x < k else x ≤ k
theorem Bel.le {left : Bool} {k x y : Int} (h : Bel left k x) (hy : y ≤ x) : Bel left k y := by
  unfold Bel at h ⊢
  split
  · rename_i e; rw [if_pos e] at h; omega
  · rename_i e; rw [if_neg e] at h; omega
theorem wpS_beyond {st : SortSt} {left : Bool} {key : Keyed} {arr : Array Keyed} {base i : Nat} {Q : Option Bool → SortSt → Prop} (hk : kindOf st = oneType') (ha : IntKeys arr) (hkey : ∃ n t, key.1 = .int n t) (hi : base + i < arr.size)
    (h : Q (some (decide (Bel left (numOf key.1) (K arr (base + i))))) st) : wpS (model prog w) A E s (beyond' left key arr base i) Q st := by
  unfold beyond'
  refine wpS_bind (wpS_elem hi ?_)
  cases left with
  | true =>
    refine wpS_lt hk (ha _ (by simp)) hkey ?_
    rw [← K_eq hi]
    exact h
  | false =>
    refine wpS_bind (wpS_lt hk hkey (ha _ (by simp)) ?_)
    refine wpS_pure ?_
    rw [← K_eq hi]
    have e : decide (Bel false (numOf key.1) (K arr (base + i))) = !decide (numOf key.1 < K arr (base + i)) := by
      rw [← decide_not]
      exact decide_eq_decide.mpr (by unfold Bel; simp)
    rw [e] at h
    exact h
/-- from lo on, n pairs, the keys do not fall -/
noncomputable def Srt (xs : Array Keyed) (lo hi : Nat) : Prop := ∀ i j, lo ≤ i → i ≤ j → j < hi → K xs i ≤ K xs j
/-- where the key belongs -/
noncomputable def Cut (left : Bool) (k : Int) (arr : Array Keyed) (base n c : Nat) : Prop := c ≤ n ∧ (∀ i, i < c → Bel left k (K arr (base + i))) ∧ ∀ i, c ≤ i → i < n → ¬ Bel left k (K arr (base + i))
theorem wpS_gallop {st : SortSt} {left : Bool} {key : Keyed} {arr : Array Keyed} {base n hint : Nat} {Q : Option Nat → SortSt → Prop} (hk : kindOf st = oneType') (ha : IntKeys arr) (hkey : ∃ n t, key.1 = .int n t) (hn : base + n ≤ arr.size) (hh : hint < n) (hs : Srt arr base (base + n))
    (h : ∀ c, Cut left (numOf key.1) arr base n c → Q (some c) st) : wpS (model prog w) A E s (gallop' left key arr base n hint) Q st := by
  have mono : ∀ i j, i ≤ j → j < n → Bel left (numOf key.1) (K arr (base + j)) → Bel left (numOf key.1) (K arr (base + i)) := fun i j hij hj b => b.le (hs _ _ (by omega) (by omega) (by omega))
  -- the search between two places
  have search : ∀ lo hi, lo ≤ hi → hi ≤ n → (∀ i, i < lo → Bel left (numOf key.1) (K arr (base + i))) → (∀ i, hi ≤ i → i < n → ¬ Bel left (numOf key.1) (K arr (base + i))) →
      ∀ {β : Type} {F : Option (Option Nat) × Nat × Nat → StateT SortSt Sem β} {R : β → SortSt → Prop}, (∀ c, Cut left (numOf key.1) arr base n c → wpS (model prog w) A E s (F (none, c, c)) R st) →
      wpS (model prog w) A E s (forIn [0:n] ((none, lo, hi) : Option (Option Nat) × Nat × Nat) (fun _ r => do
        if r.2.1 ≥ r.2.2 then pure (ForInStep.done (none, r.2.1, r.2.2))
        else do
          let x ← beyond' left key arr base (r.2.1 + (r.2.2 - r.2.1) / 2)
          match x with
          | some more => if more = true then pure (ForInStep.yield (none, r.2.1 + (r.2.2 - r.2.1) / 2 + 1, r.2.2)) else pure (ForInStep.yield (none, r.2.1, r.2.1 + (r.2.2 - r.2.1) / 2))
          | _ => pure (ForInStep.done (some none, r.2.1, r.2.2))) >>= F) R st := by
    intro lo hi h1 h2 h3 h4 β F R hF
    refine wpS_bind (wpS_mono (wpS_forRange (I := fun x c st' => st' = st ∧ ∃ l r, c = (none, l, r) ∧ l ≤ r ∧ r ≤ n ∧ r - l ≤ n - x ∧ (∀ i, i < l → Bel left (numOf key.1) (K arr (base + i))) ∧ (∀ i, r ≤ i → i < n → ¬ Bel left (numOf key.1) (K arr (base + i))))
      (Q := fun c st' => st' = st ∧ ∃ l, c = (none, l, l) ∧ Cut left (numOf key.1) arr base n l) ?_ ?_ ⟨rfl, lo, hi, rfl, h1, h2, by omega, h3, h4⟩) ?_)
    · rintro x c st' _ hx ⟨rfl, l, r, rfl, q1, q2, q3, q4, q5⟩
      dsimp only
      by_cases hge : l ≥ r
      · rw [if_pos hge]
        have : l = r := by omega
        subst this
        exact wpS_pure ⟨rfl, l, rfl, q2, q4, q5⟩
      · rw [if_neg hge]
        refine wpS_bind (wpS_beyond hk ha hkey (by omega) ?_)
        dsimp only
        by_cases hb : Bel left (numOf key.1) (K arr (base + (l + (r - l) / 2)))
        · rw [decide_eq_true hb, if_pos rfl]
          exact wpS_pure ⟨rfl, _, _, rfl, by omega, q2, by omega, fun i hi => mono i _ (by omega) (by omega) hb, q5⟩
        · rw [decide_eq_false hb, if_neg (by decide)]
          exact wpS_pure ⟨rfl, _, _, rfl, by omega, by omega, by omega, q4, fun i h1 h2 q => hb (mono _ i h1 h2 q)⟩
    · rintro c st' ⟨rfl, l, r, rfl, q1, q2, q3, q4, q5⟩
      have : l = r := by omega
      subst this
      exact ⟨rfl, l, rfl, q2, q4, q5⟩
    · rintro c st' ⟨rfl, l, rfl, hc⟩
      exact hF l hc
  rw [gallop'_eq]
  refine wpS_bind (wpS_beyond hk ha hkey (by omega) ?_)
  dsimp only
  by_cases hb : Bel left (numOf key.1) (K arr (base + hint))
  · rw [decide_eq_true hb, if_pos rfl]
    refine wpS_bind (wpS_mono (wpS_forRange (I := fun x c st' => st' = st ∧ ∃ l o, c = (none, l, o) ∧ l < o ∧ x + 1 ≤ o ∧ hint + l < n ∧ Bel left (numOf key.1) (K arr (base + (hint + l))))
      (Q := fun c st' => st' = st ∧ ∃ l o, c = (none, l, o) ∧ l < o ∧ hint + l < n ∧ Bel left (numOf key.1) (K arr (base + (hint + l))) ∧ (n - hint ≤ o ∨ ¬ Bel left (numOf key.1) (K arr (base + (hint + o))))) ?_ ?_ ⟨rfl, 0, 1, rfl, by omega, by omega, by omega, hb⟩) ?_)
    · rintro x c st' _ hx ⟨rfl, l, o, rfl, q1, q2, q3, q4⟩
      dsimp only
      by_cases hge : o ≥ n - hint
      · rw [if_pos hge]
        exact wpS_pure ⟨rfl, l, o, rfl, q1, q3, q4, .inl hge⟩
      · rw [if_neg hge]
        refine wpS_bind (wpS_beyond hk ha hkey (by omega) ?_)
        dsimp only
        by_cases hb' : Bel left (numOf key.1) (K arr (base + (hint + o)))
        · rw [decide_eq_true hb', if_neg (by decide)]
          exact wpS_pure ⟨rfl, _, _, rfl, by omega, by omega, by omega, hb'⟩
        · rw [decide_eq_false hb', if_pos (by decide)]
          exact wpS_pure ⟨rfl, l, o, rfl, q1, q3, q4, .inr hb'⟩
    · rintro c st' ⟨rfl, l, o, rfl, q1, q2, q3, q4⟩
      exact ⟨rfl, l, o, rfl, q1, q3, q4, .inl (by omega)⟩
    · rintro c st' ⟨rfl, l, o, rfl, q1, q3, q4, q5⟩
      dsimp only
      refine search (hint + l + 1) (hint + min o (n - hint)) (by omega) (by omega) (fun i hi => mono i _ (by omega) q3 q4) (fun i h1 h2 q => ?_) fun c hc => wpS_pure (h c hc)
      rcases q5 with q5 | q5
      · omega
      · exact q5 (mono _ i (by omega) h2 q)
  · rw [decide_eq_false hb, if_neg (by decide)]
    refine wpS_bind (wpS_mono (wpS_forRange (I := fun x c st' => st' = st ∧ ∃ l o, c = (none, l, o) ∧ l < o ∧ x + 1 ≤ o ∧ l ≤ hint ∧ ¬ Bel left (numOf key.1) (K arr (base + (hint - l))))
      (Q := fun c st' => st' = st ∧ ∃ l o, c = (none, l, o) ∧ l < o ∧ l ≤ hint ∧ ¬ Bel left (numOf key.1) (K arr (base + (hint - l))) ∧ (hint + 1 ≤ o ∨ Bel left (numOf key.1) (K arr (base + (hint - o))))) ?_ ?_ ⟨rfl, 0, 1, rfl, by omega, by omega, by omega, hb⟩) ?_)
    · rintro x c st' _ hx ⟨rfl, l, o, rfl, q1, q2, q3, q4⟩
      dsimp only
      by_cases hge : o ≥ hint + 1
      · rw [if_pos hge]
        exact wpS_pure ⟨rfl, l, o, rfl, q1, q3, q4, .inl hge⟩
      · rw [if_neg hge]
        refine wpS_bind (wpS_beyond hk ha hkey (by omega) ?_)
        dsimp only
        by_cases hb' : Bel left (numOf key.1) (K arr (base + (hint - o)))
        · rw [decide_eq_true hb', if_pos rfl]
          exact wpS_pure ⟨rfl, l, o, rfl, q1, q3, q4, .inr hb'⟩
        · rw [decide_eq_false hb', if_neg (by decide)]
          exact wpS_pure ⟨rfl, _, _, rfl, by omega, by omega, by omega, hb'⟩
    · rintro c st' ⟨rfl, l, o, rfl, q1, q2, q3, q4⟩
      exact ⟨rfl, l, o, rfl, q1, q3, q4, .inl (by omega)⟩
    · rintro c st' ⟨rfl, l, o, rfl, q1, q3, q4, q5⟩
      dsimp only
      refine search (hint + 1 - min o (hint + 1)) (hint - l) (by omega) (by omega) (fun i hi => ?_) (fun i h1 h2 q => q4 (mono _ i h1 h2 q)) fun c hc => wpS_pure (h c hc)
      rcases q5 with q5 | q5
      · omega
      · exact mono i _ (by omega) (by omega) q5
end
end Mine
namespace Mine
open PySem PyProof.Rows
/-- the pairs do not fall -/
noncomputable def Sd (l : List Keyed) : Prop := l.Pairwise fun p q => numOf p.1 ≤ numOf q.1
/-- out is merged, A and B are left -/
structure MS (c out A B : List Keyed) : Prop where
  a : Sd (out ++ A)
  b : Sd (out ++ B)
  p : (out ++ A ++ B).Perm c
noncomputable def Mrg (c r : List Keyed) : Prop := r.Perm c ∧ Sd r
theorem sd_app {l m : List Keyed} : Sd (l ++ m) ↔ Sd l ∧ Sd m ∧ ∀ p ∈ l, ∀ q ∈ m, numOf p.1 ≤ numOf q.1 := List.pairwise_append
section
variable {c out A B A₁ A₂ B₁ B₂ : List Keyed}
theorem MS.bs (h : MS c out A (B₁ ++ B₂)) (hq : ∀ p ∈ B₁, ∀ q ∈ A, numOf p.1 ≤ numOf q.1) : MS c (out ++ B₁) A B₂ := by
  obtain ⟨ha, hb, hp⟩ := h
  obtain ⟨a1, a2, a3⟩ := sd_app.mp ha
  obtain ⟨b1, b2, b3⟩ := sd_app.mp hb
  obtain ⟨c1, c2, c3⟩ := sd_app.mp b2
  refine ⟨sd_app.mpr ⟨sd_app.mpr ⟨a1, c1, fun p hp q hq => b3 p hp q (List.mem_append.mpr (.inl hq))⟩, a2, fun p hp q hq' => ?_⟩, by rw [List.append_assoc]; exact hb, ?_⟩
  · rcases List.mem_append.mp hp with hp | hp
    · exact a3 p hp q hq'
    · exact hq p hp q hq'
  · refine .trans ?_ hp
    rw [List.append_assoc, List.append_assoc, List.append_assoc]
    refine List.Perm.append_left _ ?_
    rw [← List.append_assoc, ← List.append_assoc]
    exact List.Perm.append_right _ List.perm_append_comm
theorem MS.as (h : MS c out (A₁ ++ A₂) B) (hq : ∀ p ∈ A₁, ∀ q ∈ B, numOf p.1 ≤ numOf q.1) : MS c (out ++ A₁) A₂ B := by
  obtain ⟨ha, hb, hp⟩ := h
  obtain ⟨a1, a2, a3⟩ := sd_app.mp ha
  obtain ⟨b1, b2, b3⟩ := sd_app.mp hb
  obtain ⟨c1, c2, c3⟩ := sd_app.mp a2
  refine ⟨by rw [List.append_assoc]; exact ha, sd_app.mpr ⟨sd_app.mpr ⟨a1, c1, fun p hp q hq => a3 p hp q (List.mem_append.mpr (.inl hq))⟩, b2, fun p hp q hq' => ?_⟩, ?_⟩
  · rcases List.mem_append.mp hp with hp | hp
    · exact b3 p hp q hq'
    · exact hq p hp q hq'
  · rw [List.append_assoc out A₁ A₂]; exact hp
theorem MS.endA (h : MS c out A []) : Mrg c (out ++ A ++ []) := ⟨h.p, by rw [List.append_nil]; exact h.a⟩
theorem MS.endB (h : MS c out [] B) : Mrg c (out ++ [] ++ B) := ⟨h.p, by rw [List.append_nil]; exact h.b⟩
theorem MS.last (h : MS c out A B) (hq : ∀ p ∈ B, ∀ q ∈ A, numOf p.1 ≤ numOf q.1) : Mrg c (out ++ B ++ A) := by
  have := (MS.bs (B₁ := B) (B₂ := []) (by rw [List.append_nil]; exact h) hq).endA
  rw [List.append_nil] at this; exact this
end
theorem K_list {xs : Array Keyed} {i : Nat} (hi : i < xs.toList.length) : K xs i = numOf xs.toList[i].1 := by
  rw [K_eq (by simpa using hi)]; simp
theorem sd_srt {xs : Array Keyed} (h : Sd xs.toList) : Srt xs 0 xs.size := by
  intro i j _ hij hj
  by_cases e : i = j
  · subst e; exact Int.le_refl _
  · have hj' : j < xs.toList.length := by simpa using hj
    have hi' : i < xs.toList.length := by omega
    rw [K_list hi', K_list hj']
    exact List.pairwise_iff_getElem.mp h i j hi' hj' (by omega)
theorem drop_at {xs : Array Keyed} {i : Nat} (hi : i < xs.size) : xs.toList.drop i = xs[i] :: xs.toList.drop (i + 1) := by
  rw [List.drop_eq_getElem_cons (by simpa using hi)]; simp

noncomputable def mergeLo' : Array Keyed → Array Keyed → StateT SortSt Sem (Array Keyed) := sortPriv% PySem.Builtin.mergeLo
noncomputable def mergeHi' : Array Keyed → Array Keyed → StateT SortSt Sem (Array Keyed) := sortPriv% PySem.Builtin.mergeHi
noncomputable def setMinGallop' : Nat → StateT SortSt Sem Unit := sortPriv% PySem.Builtin.setMinGallop
noncomputable def done' (a b out : Array Keyed) (ia ib : Nat) : Array Keyed := out ++ a.extract ia a.size ++ b.extract ib b.size
noncomputable def lastOfA' (a b out : Array Keyed) (ia ib : Nat) : Array Keyed := out ++ b.extract ib b.size ++ a.extract ia a.size
end Mine
namespace Mine
open PySem PyProof.Rows
theorem setMinGallop'_eq (g : Nat) : setMinGallop' g = modify fun s => SortSt.mk' (kindOf s) (arrOf s) (pendingOf s) g (failedOf s) := rfl
/-- the same but for the gallop's measure -/
structure Same (st st' : SortSt) : Prop where
  arr : arrOf st' = arrOf st
  kind : kindOf st' = kindOf st
  pend : pendingOf st' = pendingOf st
  failed : failedOf st' = failedOf st
theorem Same.refl (st : SortSt) : Same st st := ⟨rfl, rfl, rfl, rfl⟩
theorem Same.gal {st st' : SortSt} (h : Same st st') (g : Nat) : Same st (SortSt.mk' (kindOf st') (arrOf st') (pendingOf st') g (failedOf st')) := ⟨h.arr, h.kind, h.pend, h.failed⟩
theorem ext_all {xs : Array Keyed} {i : Nat} : (xs.extract i xs.size).toList = xs.toList.drop i := by
  rw [Array.toList_extract, List.extract_eq_take_drop]
  rw [List.take_of_length_le (by simp)]
theorem ext_some {xs : Array Keyed} {i k : Nat} : (xs.extract i (i + k)).toList = (xs.toList.drop i).take k := by
  rw [Array.toList_extract, List.extract_eq_take_drop]; congr 1; omega
abbrev S7 := Option (Array Keyed) × Array Keyed × Nat × Nat × Nat × Nat × Nat
section
variable (a b : Array Keyed)
noncomputable def tl4 (out : Array Keyed) (ia ib g k k1 : Nat) : StateT SortSt Sem (ForInStep S7) := do
  let x ← elem' a ia
  if (ia + 1 + 1 == a.size) = true then pure (.done (some (lastOfA' a b (out.push x) (ia + 1) ib), out.push x, ia + 1, ib, g, k, k1))
  else if (decide (k < 7) && decide (k1 < 7)) = true then pure (.done (none, out.push x, ia + 1, ib, g, k, k1)) else pure (.yield (none, out.push x, ia + 1, ib, g, k, k1))
noncomputable def tl3 (out : Array Keyed) (ia ib g k bc : Nat) : StateT SortSt Sem (ForInStep S7) := do
  let x ← elem' a ia
  let r ← gallop' true x b ib (b.size - ib) 0
  match r with
  | some k1 =>
    if k1 > 0 then
      if (ib + k1 == b.size) = true then pure (.done (some (done' a b (out ++ b.extract ib (ib + k1)) ia (ib + k1)), out ++ b.extract ib (ib + k1), ia, ib + k1, g, k, k1))
      else tl4 a b (out ++ b.extract ib (ib + k1)) ia (ib + k1) g k k1
    else tl4 a b out ia ib g k k1
  | _ => pure (.done (some (done' a b out ia ib), out, ia, ib, g, k, bc))
noncomputable def tl2 (out : Array Keyed) (ia ib g k bc : Nat) : StateT SortSt Sem (ForInStep S7) := do
  let y ← elem' b ib
  if (ib + 1 == b.size) = true then pure (.done (some (done' a b (out.push y) ia (ib + 1)), out.push y, ia, ib + 1, g, k, bc))
  else tl3 a b (out.push y) ia (ib + 1) g k bc
noncomputable def tl1 (out : Array Keyed) (ia ib g ac bc : Nat) : StateT SortSt Sem (ForInStep S7) := do
  let y ← elem' b ib
  let r ← gallop' false y a ia (a.size - ia) 0
  match r with
  | some k =>
    if k > 0 then
      if (ia + k + 1 == a.size) = true then pure (.done (some (lastOfA' a b (out ++ a.extract ia (ia + k)) (ia + k) ib), out ++ a.extract ia (ia + k), ia + k, ib, g, k, bc))
      else if (ia + k == a.size) = true then pure (.done (some (done' a b (out ++ a.extract ia (ia + k)) (ia + k) ib), out ++ a.extract ia (ia + k), ia + k, ib, g, k, bc))
      else tl2 a b (out ++ a.extract ia (ia + k)) (ia + k) ib g k bc
    else tl2 a b out ia ib g k bc
  | _ => pure (.done (some (done' a b out ia ib), out, ia, ib, g, ac, bc))
noncomputable def bd2 (c : S7) : StateT SortSt Sem (ForInStep S7) :=
  if c.2.2.2.2.1 > 1 then do
    setMinGallop' (c.2.2.2.2.1 - 1)
    tl1 a b c.2.1 c.2.2.1 c.2.2.2.1 (c.2.2.2.2.1 - 1) c.2.2.2.2.2.1 c.2.2.2.2.2.2
  else do
    setMinGallop' c.2.2.2.2.1
    tl1 a b c.2.1 c.2.2.1 c.2.2.2.1 c.2.2.2.2.1 c.2.2.2.2.2.1 c.2.2.2.2.2.2
end
section
variable {prog : Program} {w : World} {A : Around} {E : Value → Shared → Prop} {s : Shared} {a₀ a b out : Array Keyed} {ia ib : Nat}
/-- two or more of a are left, and one or more of b -/
structure J (a b out : Array Keyed) (ia ib : Nat) : Prop where
  ms : MS (a.toList ++ b.toList) out.toList (a.toList.drop ia) (b.toList.drop ib)
  na : ia + 1 < a.size
  nb : ib < b.size
  cnt : out.size = ia + ib
/-- what the two rows bring -/
structure Two (a b : Array Keyed) : Prop where
  ia : IntKeys a
  ib : IntKeys b
  sa : Sd a.toList
  sb : Sd b.toList
  last : ∀ p ∈ b.toList, numOf p.1 ≤ K a (a.size - 1)
theorem sd_drop {l : List Keyed} (h : Sd l) (i : Nat) : Sd (l.drop i) := List.Pairwise.sublist (List.drop_sublist _ _) h
theorem last_in {p q : Keyed} (T : Two a b) (hp : p ∈ b.toList) {i : Nat} (hi : i + 1 = a.size) (hq : q ∈ a.toList.drop i) : numOf p.1 ≤ numOf q.1 := by
  have h1 := T.last p hp
  rw [drop_at (by omega), List.drop_eq_nil_of_le (by simp; omega)] at hq
  rw [List.mem_singleton.mp hq]
  rw [K_eq (by omega)] at h1
  have e : a.size - 1 = i := by omega
  simpa only [e] using h1
theorem lastA (T : Two a b) (h : MS (a.toList ++ b.toList) out.toList (a.toList.drop ia) (b.toList.drop ib)) (hi : ia + 1 = a.size) : Mrg (a.toList ++ b.toList) (lastOfA' a b out ia ib).toList := by
  unfold lastOfA'
  rw [Array.toList_append, Array.toList_append, ext_all, ext_all]
  exact h.last fun p hp q hq => last_in T (List.mem_of_mem_drop hp) hi hq
theorem doneB (h : MS (a.toList ++ b.toList) out.toList (a.toList.drop ia) (b.toList.drop ib)) (hi : ib = b.size ∨ ia = a.size) : Mrg (a.toList ++ b.toList) (done' a b out ia ib).toList := by
  unfold done'
  rw [Array.toList_append, Array.toList_append, ext_all, ext_all]
  rcases hi with hi | hi
  · have e : b.toList.drop ib = [] := List.drop_eq_nil_of_le (by simp; omega)
    rw [e] at h ⊢; exact h.endA
  · have e : a.toList.drop ia = [] := List.drop_eq_nil_of_le (by simp; omega)
    rw [e] at h ⊢; exact h.endB
/-- the next of b goes out -/
theorem ms_b (h : MS (a.toList ++ b.toList) out.toList (a.toList.drop ia) (b.toList.drop ib)) (hb : ib < b.size) (hq : ∀ q ∈ a.toList.drop ia, numOf b[ib].1 ≤ numOf q.1) : MS (a.toList ++ b.toList) (out.push b[ib]).toList (a.toList.drop ia) (b.toList.drop (ib + 1)) := by
  rw [drop_at hb] at h
  rw [Array.toList_push]
  exact MS.bs (B₁ := [b[ib]]) h fun p hp q hq' => by rw [List.mem_singleton.mp hp]; exact hq q hq'
theorem ms_a (h : MS (a.toList ++ b.toList) out.toList (a.toList.drop ia) (b.toList.drop ib)) (ha : ia < a.size) (hq : ∀ q ∈ b.toList.drop ib, numOf a[ia].1 ≤ numOf q.1) : MS (a.toList ++ b.toList) (out.push a[ia]).toList (a.toList.drop (ia + 1)) (b.toList.drop ib) := by
  rw [drop_at ha] at h
  rw [Array.toList_push]
  exact MS.as (A₁ := [a[ia]]) h fun p hp q hq' => by rw [List.mem_singleton.mp hp]; exact hq q hq'
theorem head_le {l : List Keyed} {p : Keyed} {r : List Keyed} (h : Sd l) (e : l = p :: r) : ∀ q ∈ l, numOf p.1 ≤ numOf q.1 := by
  subst e
  intro q hq
  rcases List.mem_cons.mp hq with rfl | hq
  · exact Int.le_refl _
  · exact (List.pairwise_cons.mp h).1 q hq
theorem heads_le {xs : Array Keyed} {i : Nat} (h : Sd xs.toList) (hi : i < xs.size) : ∀ q ∈ xs.toList.drop i, numOf xs[i].1 ≤ numOf q.1 := head_le (sd_drop h i) (drop_at hi)
theorem mem_drop_at {xs : Array Keyed} {q : Keyed} {i : Nat} (h : q ∈ xs.toList.drop i) : ∃ j, i ≤ j ∧ j < xs.size ∧ K xs j = numOf q.1 := by
  obtain ⟨n, hn, e⟩ := List.mem_iff_getElem.mp h
  rw [List.getElem_drop] at e
  rw [List.length_drop, Array.length_toList] at hn
  refine ⟨i + n, by omega, by omega, ?_⟩
  rw [K_list (by simp; omega), e]
theorem mem_take_at {xs : Array Keyed} {q : Keyed} {i k : Nat} (h : q ∈ (xs.toList.drop i).take k) : ∃ j, j < k ∧ i + j < xs.size ∧ K xs (i + j) = numOf q.1 := by
  obtain ⟨n, hn, e⟩ := List.mem_iff_getElem.mp h
  rw [List.getElem_take, List.getElem_drop] at e
  rw [List.length_take, List.length_drop, Array.length_toList] at hn
  refine ⟨n, by omega, by omega, ?_⟩
  rw [K_list (by simp; omega), e]
/-- what a turn leaves -/
noncomputable def Aft (a b : Array Keyed) (lim : Nat) (c : S7) : Prop := match c.1 with
  | some r => Mrg (a.toList ++ b.toList) r.toList
  | none => J a b c.2.1 c.2.2.1 c.2.2.2.1 ∧ lim ≤ c.2.1.size
noncomputable def Aft' (a b : Array Keyed) (lim : Nat) (r : ForInStep S7) : Prop := match r with
  | .done c => Aft a b lim c
  | .yield c => c.1 = none ∧ Aft a b lim c
variable {st : SortSt} {Q : ForInStep S7 → SortSt → Prop} {lim g k k1 ac bc : Nat}
theorem w_tl4 (T : Two a b) (h : MS (a.toList ++ b.toList) out.toList (a.toList.drop ia) (b.toList.drop ib)) (hc : out.size = ia + ib) (ha : ia + 1 < a.size) (hb : ib < b.size) (hx : ∀ q ∈ b.toList.drop ib, numOf (a[ia]'(by omega)).1 ≤ numOf q.1) (hl : lim ≤ out.size)
    (hQ : ∀ r, Aft' a b lim r → Q r st) : wpS (model prog w) A E s (tl4 a b out ia ib g k k1) Q st := by
  unfold tl4
  refine wpS_bind (wpS_elem (by omega) ?_)
  have h' := ms_a h (by omega) hx
  have hz : (out.push (a[ia]'(by omega))).size = out.size + 1 := Array.size_push _
  by_cases e : (ia + 1 + 1 == a.size) = true
  · rw [if_pos e]
    exact wpS_pure (hQ _ (lastA T h' (by simpa using e)))
  · rw [if_neg e]
    have e : ia + 1 + 1 ≠ a.size := by simpa using e
    have hJ : J a b (out.push (a[ia]'(by omega))) (ia + 1) ib := ⟨h', by omega, hb, by omega⟩
    have hl' : lim ≤ (out.push (a[ia]'(by omega))).size := by omega
    by_cases e2 : (decide (k < 7) && decide (k1 < 7)) = true
    · rw [if_pos e2]
      exact wpS_pure (hQ _ (show J a b _ _ _ ∧ _ from ⟨hJ, hl'⟩))
    · rw [if_neg e2]
      exact wpS_pure (hQ _ ⟨rfl, (show J a b _ _ _ ∧ _ from ⟨hJ, hl'⟩)⟩)
theorem w_tl3 (T : Two a b) (hk : kindOf st = oneType') (h : MS (a.toList ++ b.toList) out.toList (a.toList.drop ia) (b.toList.drop ib)) (hc : out.size = ia + ib) (ha : ia + 1 < a.size) (hb : ib < b.size) (hl : lim ≤ out.size)
    (hQ : ∀ r, Aft' a b lim r → Q r st) : wpS (model prog w) A E s (tl3 a b out ia ib g k bc) Q st := by
  unfold tl3
  refine wpS_bind (wpS_elem (by omega) ?_)
  have hsb : Srt b ib (ib + (b.size - ib)) := fun i j _ h2 h3 => sd_srt T.sb i j (Nat.zero_le _) h2 (by omega)
  refine wpS_bind (wpS_gallop hk T.ib (T.ia _ (by simp)) (by omega) (by omega) hsb fun c hcut => ?_)
  obtain ⟨c1, c2, c3⟩ := hcut
  dsimp only
  by_cases hk1 : c > 0
  · rw [if_pos hk1]
    have h' : MS (a.toList ++ b.toList) (out ++ b.extract ib (ib + c)).toList (a.toList.drop ia) (b.toList.drop (ib + c)) := by
      rw [Array.toList_append, ext_some, ← List.drop_drop]
      refine MS.bs (by rw [List.take_append_drop]; exact h) fun p hp q hq => ?_
      obtain ⟨j, hj, _, e⟩ := mem_take_at hp
      have := c2 j hj
      unfold Bel at this
      rw [if_pos rfl, e] at this
      exact Int.le_trans (Int.le_of_lt this) (heads_le T.sa (by omega) q hq)
    have hz : (out ++ b.extract ib (ib + c)).size = out.size + c := by rw [Array.size_append, Array.size_extract]; omega
    by_cases e : (ib + c == b.size) = true
    · rw [if_pos e]
      exact wpS_pure (hQ _ (doneB h' (.inl (by simpa using e))))
    · rw [if_neg e]
      have e : ib + c ≠ b.size := by simpa using e
      refine w_tl4 T h' (by omega) ha (by omega) (fun q hq => ?_) (by omega) hQ
      obtain ⟨j, hj, hj2, e'⟩ := mem_drop_at hq
      have := c3 (j - ib) (by omega) (by omega)
      unfold Bel at this
      rw [if_pos rfl, show ib + (j - ib) = j by omega, e'] at this
      omega
  · rw [if_neg hk1]
    refine w_tl4 T h hc ha hb (fun q hq => ?_) hl hQ
    obtain ⟨j, hj, hj2, e'⟩ := mem_drop_at hq
    have := c3 (j - ib) (by omega) (by omega)
    unfold Bel at this
    rw [if_pos rfl, show ib + (j - ib) = j by omega, e'] at this
    omega
theorem w_tl2 (T : Two a b) (hk : kindOf st = oneType') (h : MS (a.toList ++ b.toList) out.toList (a.toList.drop ia) (b.toList.drop ib)) (hc : out.size = ia + ib) (ha : ia + 1 < a.size) (hb : ib < b.size) (hx : ∀ q ∈ a.toList.drop ia, numOf b[ib].1 ≤ numOf q.1) (hl : lim ≤ out.size)
    (hQ : ∀ r, Aft' a b lim r → Q r st) : wpS (model prog w) A E s (tl2 a b out ia ib g k bc) Q st := by
  unfold tl2
  refine wpS_bind (wpS_elem hb ?_)
  have h' := ms_b h hb hx
  have hz : (out.push b[ib]).size = out.size + 1 := Array.size_push _
  by_cases e : (ib + 1 == b.size) = true
  · rw [if_pos e]
    exact wpS_pure (hQ _ (doneB h' (.inl (by simpa using e))))
  · rw [if_neg e]
    have e : ib + 1 ≠ b.size := by simpa using e
    exact w_tl3 T hk h' (by omega) ha (by omega) (by omega) hQ
theorem w_tl1 (T : Two a b) (hk : kindOf st = oneType') (h : J a b out ia ib) (hl : lim ≤ out.size) (hQ : ∀ r, Aft' a b lim r → Q r st) : wpS (model prog w) A E s (tl1 a b out ia ib g ac bc) Q st := by
  obtain ⟨hm, hna, hnb, hc⟩ := h
  unfold tl1
  refine wpS_bind (wpS_elem hnb ?_)
  have hsa : Srt a ia (ia + (a.size - ia)) := fun i j _ h2 h3 => sd_srt T.sa i j (Nat.zero_le _) h2 (by omega)
  refine wpS_bind (wpS_gallop hk T.ia (T.ib _ (by simp)) (by omega) (by omega) hsa fun c hcut => ?_)
  obtain ⟨c1, c2, c3⟩ := hcut
  have above : ∀ q ∈ a.toList.drop (ia + c), numOf b[ib].1 ≤ numOf q.1 := fun q hq => by
    obtain ⟨j, hj, hj2, e'⟩ := mem_drop_at hq
    have := c3 (j - ia) (by omega) (by omega)
    unfold Bel at this
    rw [if_neg (by decide), show ia + (j - ia) = j by omega, e'] at this
    omega
  dsimp only
  by_cases hk1 : c > 0
  · rw [if_pos hk1]
    have h' : MS (a.toList ++ b.toList) (out ++ a.extract ia (ia + c)).toList (a.toList.drop (ia + c)) (b.toList.drop ib) := by
      rw [Array.toList_append, ext_some, ← List.drop_drop]
      refine MS.as (by rw [List.take_append_drop]; exact hm) fun p hp q hq => ?_
      obtain ⟨j, hj, _, e⟩ := mem_take_at hp
      have := c2 j hj
      unfold Bel at this
      rw [if_neg (by decide), e] at this
      exact Int.le_trans this (heads_le T.sb hnb q hq)
    have hz : (out ++ a.extract ia (ia + c)).size = out.size + c := by rw [Array.size_append, Array.size_extract]; omega
    by_cases e : (ia + c + 1 == a.size) = true
    · rw [if_pos e]
      exact wpS_pure (hQ _ (lastA T h' (by simpa using e)))
    · rw [if_neg e]
      have e : ia + c + 1 ≠ a.size := by simpa using e
      by_cases e2 : (ia + c == a.size) = true
      · rw [if_pos e2]
        exact wpS_pure (hQ _ (doneB h' (.inr (by simpa using e2))))
      · rw [if_neg e2]
        have e2 : ia + c ≠ a.size := by simpa using e2
        exact w_tl2 T hk h' (by omega) (by omega) hnb above (by omega) hQ
  · rw [if_neg hk1]
    have : c = 0 := by omega
    subst this
    exact w_tl2 T hk hm hc hna hnb above hl hQ
end
end Mine
namespace Mine
open PySem PyProof.Rows
abbrev S6 := Option (Array Keyed) × Array Keyed × Nat × Nat × Nat × Nat
section
variable (a b : Array Keyed)
noncomputable def bd1 (g : Nat) (c : S6) : StateT SortSt Sem (ForInStep S6) := do
  let y ← elem' b c.2.2.2.1
  let x ← elem' a c.2.2.1
  let r ← lt' y x
  match r with
  | some bWins =>
    if bWins = true then do
      let y ← elem' b c.2.2.2.1
      if (c.2.2.2.1 + 1 == b.size) = true then pure (.done (some (done' a b (c.2.1.push y) c.2.2.1 (c.2.2.2.1 + 1)), c.2.1.push y, c.2.2.1, c.2.2.2.1 + 1, 0, c.2.2.2.2.2 + 1))
      else if c.2.2.2.2.2 + 1 ≥ g then pure (.done (none, c.2.1.push y, c.2.2.1, c.2.2.2.1 + 1, 0, c.2.2.2.2.2 + 1)) else pure (.yield (none, c.2.1.push y, c.2.2.1, c.2.2.2.1 + 1, 0, c.2.2.2.2.2 + 1))
    else do
      let x ← elem' a c.2.2.1
      if (c.2.2.1 + 1 + 1 == a.size) = true then pure (.done (some (lastOfA' a b (c.2.1.push x) (c.2.2.1 + 1) c.2.2.2.1), c.2.1.push x, c.2.2.1 + 1, c.2.2.2.1, c.2.2.2.2.1 + 1, 0))
      else if c.2.2.2.2.1 + 1 ≥ g then pure (.done (none, c.2.1.push x, c.2.2.1 + 1, c.2.2.2.1, c.2.2.2.2.1 + 1, 0)) else pure (.yield (none, c.2.1.push x, c.2.2.1 + 1, c.2.2.2.1, c.2.2.2.2.1 + 1, 0))
  | _ => pure (.done (some (done' a b c.2.1 c.2.2.1 c.2.2.2.1), c.2.1, c.2.2.1, c.2.2.2.1, c.2.2.2.2.1, c.2.2.2.2.2))
end
section
variable {prog : Program} {w : World} {A : Around} {E : Value → Shared → Prop} {s : Shared} {a₀ a b out : Array Keyed} {ia ib : Nat} {st : SortSt}
noncomputable def Bft (a b : Array Keyed) (lim : Nat) (c : S6) : Prop := match c.1 with
  | some r => Mrg (a.toList ++ b.toList) r.toList
  | none => J a b c.2.1 c.2.2.1 c.2.2.2.1 ∧ lim ≤ c.2.1.size
noncomputable def Bft' (a b : Array Keyed) (lim : Nat) (r : ForInStep S6) : Prop := match r with
  | .done c => Bft a b lim c
  | .yield c => c.1 = none ∧ Bft a b lim c
theorem w_bd1 {Q : ForInStep S6 → SortSt → Prop} {g ac bc : Nat} (T : Two a b) (hk : kindOf st = oneType') (h : J a b out ia ib) (hQ : ∀ r, Bft' a b (out.size + 1) r → Q r st) : wpS (model prog w) A E s (bd1 a b g (none, out, ia, ib, ac, bc)) Q st := by
  obtain ⟨hm, hna, hnb, hc⟩ := h
  unfold bd1
  dsimp only
  refine wpS_bind (wpS_elem hnb (wpS_bind (wpS_elem (by omega) (wpS_bind (wpS_lt hk (T.ib _ (by simp)) (T.ia _ (by simp)) ?_)))))
  dsimp only
  by_cases hlt : numOf b[ib].1 < numOf (a[ia]'(by omega)).1
  · rw [decide_eq_true hlt, if_pos rfl]
    refine wpS_bind (wpS_elem hnb ?_)
    have h' := ms_b hm hnb fun q hq => Int.le_trans (Int.le_of_lt hlt) (heads_le T.sa (by omega) q hq)
    have hz : (out.push b[ib]).size = out.size + 1 := Array.size_push _
    by_cases e : (ib + 1 == b.size) = true
    · rw [if_pos e]
      exact wpS_pure (hQ _ (doneB h' (.inl (by simpa using e))))
    · rw [if_neg e]
      have e : ib + 1 ≠ b.size := by simpa using e
      have hJ : J a b (out.push b[ib]) ia (ib + 1) := ⟨h', hna, by omega, by omega⟩
      by_cases e2 : bc + 1 ≥ g
      · rw [if_pos e2]
        exact wpS_pure (hQ _ (show J a b _ _ _ ∧ _ from ⟨hJ, Nat.le_of_eq hz.symm⟩))
      · rw [if_neg e2]
        exact wpS_pure (hQ _ ⟨rfl, (show J a b _ _ _ ∧ _ from ⟨hJ, Nat.le_of_eq hz.symm⟩)⟩)
  · rw [decide_eq_false hlt, if_neg (by decide)]
    refine wpS_bind (wpS_elem (by omega) ?_)
    have h' := ms_a hm (by omega) fun q hq => Int.le_trans (Int.not_lt.mp hlt) (heads_le T.sb hnb q hq)
    have hz : (out.push (a[ia]'(by omega))).size = out.size + 1 := Array.size_push _
    by_cases e : (ia + 1 + 1 == a.size) = true
    · rw [if_pos e]
      exact wpS_pure (hQ _ (lastA T h' (by simpa using e)))
    · rw [if_neg e]
      have e : ia + 1 + 1 ≠ a.size := by simpa using e
      have hJ : J a b (out.push (a[ia]'(by omega))) (ia + 1) ib := ⟨h', by omega, hnb, by omega⟩
      by_cases e2 : ac + 1 ≥ g
      · rw [if_pos e2]
        exact wpS_pure (hQ _ (show J a b _ _ _ ∧ _ from ⟨hJ, Nat.le_of_eq hz.symm⟩))
      · rw [if_neg e2]
        exact wpS_pure (hQ _ ⟨rfl, (show J a b _ _ _ ∧ _ from ⟨hJ, Nat.le_of_eq hz.symm⟩)⟩)
abbrev S5 := Option (Array Keyed) × Array Keyed × Nat × Nat × Nat
noncomputable def lo2 (c : S7) : StateT SortSt Sem (ForInStep S5) := match c.1 with
  | some r => pure (.done (some r, c.2.1, c.2.2.1, c.2.2.2.1, c.2.2.2.2.1))
  | none => do
    setMinGallop' (c.2.2.2.2.1 + 1)
    pure (.yield (none, c.2.1, c.2.2.1, c.2.2.2.1, c.2.2.2.2.1 + 1))
noncomputable def lo1 (a b : Array Keyed) (g : Nat) (c : S6) : StateT SortSt Sem (ForInStep S5) := match c.1 with
  | some r => pure (.done (some r, c.2.1, c.2.2.1, c.2.2.2.1, g))
  | none => do
    rule "list.sort.gallop"
    let c2 ← forIn [:a.size + b.size] ((none, c.2.1, c.2.2.1, c.2.2.2.1, g + 1, c.2.2.2.2.1, c.2.2.2.2.2) : S7) fun _ c => bd2 a b c
    lo2 c2
noncomputable def lo0 (a b : Array Keyed) (c : S5) : StateT SortSt Sem (ForInStep S5) := do
  let c1 ← forIn [:a.size + b.size] ((none, c.2.1, c.2.2.1, c.2.2.2.1, 0, 0) : S6) fun _ c' => bd1 a b c.2.2.2.2 c'
  lo1 a b c.2.2.2.2 c1
noncomputable def loE (c : S5) : StateT SortSt Sem (Array Keyed) := match c.1 with
  | some r => pure r
  | none => liftM (unsupported "internal:list.sort.merge-bound" : Sem (Array Keyed))
set_option smartUnfolding false in
theorem mergeLo'_eq (a b : Array Keyed) : mergeLo' a b = (do
  rule "list.sort.merge-lo"
  let y ← elem' b 0
  if (1 == b.size) = true then pure (done' a b #[y] 0 1) else if (0 + 1 == a.size) = true then pure (lastOfA' a b #[y] 0 1) else do
    let st ← get
    let c ← forIn [:a.size + b.size] ((none, #[y], 0, 1, gallopOf st) : S5) fun _ c => lo0 a b c
    loE c) := rfl
/-- where the merge stands at its x-th round -/
structure LoI (st : SortSt) (a b : Array Keyed) (x : Nat) (c : S5) (st' : SortSt) : Prop where
  same : Same st st'
  no : c.1 = none
  j : J a b c.2.1 c.2.2.1 c.2.2.2.1
  cnt : x + 1 ≤ c.2.1.size
structure LoQ (st : SortSt) (a b : Array Keyed) (c : S5) (st' : SortSt) : Prop where
  same : Same st st'
  out : ∃ r, c.1 = some r ∧ Mrg (a.toList ++ b.toList) r.toList
abbrev LoP (st : SortSt) (a b : Array Keyed) (x : Nat) (r : ForInStep S5) (st' : SortSt) : Prop := match r with
  | .done c => LoQ st a b c st'
  | .yield c => LoI st a b (x + 1) c st'
theorem w_lo2 {st3 : SortSt} {c : S7} {lim x : Nat} (hS : Same st st3) (hA : Aft a b lim c) (hx : x + 1 + 1 ≤ lim) : wpS (model prog w) A E s (lo2 c) (LoP st a b x) st3 := by
  obtain ⟨o, out3, ia3, ib3, g3, ac3, bc3⟩ := c
  cases o with
  | some r => exact wpS_pure ⟨hS, r, rfl, hA⟩
  | none =>
    obtain ⟨hJ, hc⟩ := hA
    unfold lo2
    dsimp only
    rw [setMinGallop'_eq]
    exact wpS_bind (wpS_modify (wpS_pure ⟨hS.gal _, rfl, hJ, Nat.le_trans hx hc⟩))
/-- a leap -/
theorem w_bd2 {st3 : SortSt} {c : S7} {lim : Nat} (T : Two a b) (hk : kindOf st = oneType') (h : Same st st3 ∧ c.1 = none ∧ J a b c.2.1 c.2.2.1 c.2.2.2.1 ∧ lim ≤ c.2.1.size) :
    wpS (model prog w) A E s (bd2 a b c) (fun r st' => match r with | .done c' => Same st st' ∧ Aft a b lim c' | .yield c' => Same st st' ∧ c'.1 = none ∧ J a b c'.2.1 c'.2.2.1 c'.2.2.2.1 ∧ lim ≤ c'.2.1.size) st3 := by
  obtain ⟨o, out3, ia3, ib3, g3, ac3, bc3⟩ := c
  obtain ⟨hS3, rfl, hJ3, hc3⟩ := h
  have go : ∀ (r : ForInStep S7) (st4 : SortSt), Same st st4 → Aft' a b lim r → (match r with
      | .done c' => Same st st4 ∧ Aft a b lim c'
      | .yield c' => Same st st4 ∧ c'.1 = none ∧ J a b c'.2.1 c'.2.2.1 c'.2.2.2.1 ∧ lim ≤ c'.2.1.size) := fun r st4 h4 hr => by
    cases r with
    | done c => exact ⟨h4, hr⟩
    | yield c =>
      obtain ⟨hn, hr⟩ := hr
      unfold Aft at hr
      rw [hn] at hr
      exact ⟨h4, hn, hr.1, hr.2⟩
  unfold bd2
  dsimp only at hJ3 hc3 ⊢
  by_cases hg : g3 > 1
  · rw [if_pos hg, setMinGallop'_eq]
    exact wpS_bind (wpS_modify (w_tl1 T (hS3.kind.trans hk) hJ3 hc3 fun r hr => by have := go r _ (hS3.gal (g3 - 1)) hr; cases r <;> exact this))
  · rw [if_neg hg, setMinGallop'_eq]
    exact wpS_bind (wpS_modify (w_tl1 T (hS3.kind.trans hk) hJ3 hc3 fun r hr => by have := go r _ (hS3.gal g3) hr; cases r <;> exact this))
theorem w_lo1 {st3 : SortSt} {c : S6} {lim x g : Nat} (T : Two a b) (hk : kindOf st = oneType') (hS : Same st st3) (hB : Bft a b lim c) (hx : x + 1 + 1 ≤ lim) : wpS (model prog w) A E s (lo1 a b g c) (LoP st a b x) st3 := by
  obtain ⟨o, out2, ia2, ib2, ac, bc⟩ := c
  cases o with
  | some r => exact wpS_pure ⟨hS, r, rfl, hB⟩
  | none =>
    obtain ⟨hJ2, hc2⟩ := hB
    unfold lo1
    dsimp only
    refine wpS_bind (wpS_lift (wpAny_rule ⟨rfl, ?_⟩))
    refine wpS_bind (wpS_mono (wpS_forRange
      (I := fun y c st3 => Same st st3 ∧ c.1 = none ∧ J a b c.2.1 c.2.2.1 c.2.2.2.1 ∧ out2.size ≤ c.2.1.size)
      (Q := fun c st3 => Same st st3 ∧ Aft a b out2.size c) (fun y c st3 _ _ h => wpS_mono (w_bd2 T hk h) fun r st' q => by cases r <;> exact q) (fun c st3 h => ?_) ⟨hS, rfl, hJ2, Nat.le_refl _⟩) fun c st4 h => ?_)
    · obtain ⟨hS3, hn, hJ3, hc3⟩ := h
      refine ⟨hS3, ?_⟩
      unfold Aft
      rw [hn]
      exact ⟨hJ3, hc3⟩
    · exact w_lo2 h.1 h.2 (Nat.le_trans hx hc2)
/-- one by one -/
theorem w_bd1' {c : S6} {n g y : Nat} (T : Two a b) (hk : kindOf st = oneType') (h : c.1 = none ∧ J a b c.2.1 c.2.2.1 c.2.2.2.1 ∧ n + min y 1 ≤ c.2.1.size) :
    wpS (model prog w) A E s (bd1 a b g c) (fun r st' => match r with | .done c' => st' = st ∧ Bft a b (n + 1) c' | .yield c' => st' = st ∧ c'.1 = none ∧ J a b c'.2.1 c'.2.2.1 c'.2.2.2.1 ∧ n + min (y + 1) 1 ≤ c'.2.1.size) st := by
  obtain ⟨o, out2, ia2, ib2, ac, bc⟩ := c
  obtain ⟨rfl, hJ2, hc2⟩ := h
  refine w_bd1 (g := g) T hk hJ2 fun r hr => ?_
  dsimp only at hc2
  have up : ∀ c : S6, Bft a b (out2.size + 1) c → Bft a b (n + 1) c := fun c hc => by
    unfold Bft at hc ⊢
    split
    · rename_i e; rw [e] at hc; exact hc
    · rename_i e; rw [e] at hc; exact ⟨hc.1, by have := hc.2; omega⟩
  cases r with
  | done c => exact ⟨rfl, up c hr⟩
  | yield c =>
    obtain ⟨hn, hr⟩ := hr
    refine ⟨rfl, hn, ?_⟩
    unfold Bft at hr
    rw [hn] at hr
    exact ⟨hr.1, by have := hr.2; omega⟩
theorem w_lo0 {st' : SortSt} {c : S5} {x : Nat} (T : Two a b) (hk : kindOf st = oneType') (h : LoI st a b x c st') (nz : 0 < a.size + b.size) : wpS (model prog w) A E s (lo0 a b c) (LoP st a b x) st' := by
  obtain ⟨o, out, ia, ib, g⟩ := c
  obtain ⟨hS, rfl, hJ', hcnt⟩ := h
  unfold lo0
  dsimp only at hJ' hcnt ⊢
  refine wpS_bind (wpS_mono (wpS_forRange
    (I := fun y c st'' => st'' = st' ∧ c.1 = none ∧ J a b c.2.1 c.2.2.1 c.2.2.2.1 ∧ out.size + min y 1 ≤ c.2.1.size)
    (Q := fun c st'' => st'' = st' ∧ Bft a b (out.size + 1) c) (fun y c st'' _ _ h => ?_) (fun c st'' h => ?_) ⟨rfl, rfl, hJ', Nat.le_refl _⟩) fun c st'' h => ?_)
  · obtain ⟨rfl, h⟩ := h
    exact wpS_mono (w_bd1' T (hS.kind.trans hk) h) fun r st' q => by cases r <;> exact q
  · obtain ⟨rfl, hn, hJ2, hc2⟩ := h
    refine ⟨rfl, ?_⟩
    unfold Bft
    rw [hn]
    refine ⟨hJ2, Nat.le_trans (Nat.add_le_add_left ?_ _) hc2⟩
    rw [Nat.max_eq_right (Nat.zero_le _), Nat.min_eq_right nz]
    exact Nat.le_refl _
  · obtain ⟨rfl, hB⟩ := h
    exact w_lo1 T hk hS hB (Nat.succ_le_succ hcnt)
theorem wpS_mergeLo {Q : Array Keyed → SortSt → Prop} (T : Two a b) (hk : kindOf st = oneType') (na : 1 ≤ a.size) (nb : 1 ≤ b.size) (hfirst : ∀ q ∈ a.toList, K b 0 ≤ numOf q.1)
    (h' : ∀ r st', Same st st' → Mrg (a.toList ++ b.toList) r.toList → Q r st') : wpS (model prog w) A E s (mergeLo' a b) Q st := by
  rw [mergeLo'_eq]
  refine wpS_bind (wpS_lift (wpAny_rule ⟨rfl, ?_⟩))
  refine wpS_bind (wpS_elem nb ?_)
  have h1 : MS (a.toList ++ b.toList) (#[b[0]] : Array Keyed).toList (a.toList.drop 0) (b.toList.drop 1) := by
    have h0 : MS (a.toList ++ b.toList) (#[] : Array Keyed).toList (a.toList.drop 0) (b.toList.drop 0) := ⟨T.sa, T.sb, .refl _⟩
    exact ms_b h0 nb fun q hq => by rw [← K_eq nb]; exact hfirst q hq
  by_cases e1 : (1 == b.size) = true
  · rw [if_pos e1]
    exact wpS_pure (h' _ _ (Same.refl st) (doneB h1 (.inl (by simpa using e1))))
  rw [if_neg e1]
  by_cases e2 : (0 + 1 == a.size) = true
  · rw [if_pos e2]
    exact wpS_pure (h' _ _ (Same.refl st) (lastA T h1 (by simpa using e2)))
  rw [if_neg e2]
  have e1 : 1 ≠ b.size := by simpa using e1
  have e2 : 0 + 1 ≠ a.size := by simpa using e2
  have hJ : J a b #[b[0]] 0 1 := ⟨h1, by omega, by omega, rfl⟩
  refine wpS_bind (wpS_get ?_)
  refine wpS_bind (wpS_mono (wpS_forRange (I := LoI st a b) (Q := LoQ st a b) (fun x c st' _ _ h => wpS_mono (w_lo0 T hk h (by omega)) fun r st' q => by cases r <;> exact q) (fun c st' h => ?_) ⟨Same.refl st, rfl, hJ, Nat.le_refl _⟩) fun c st' h => ?_)
  · obtain ⟨hS, hn, ⟨_, h1, h2, h3⟩, hcnt⟩ := h
    rw [Nat.max_eq_right (Nat.zero_le _)] at hcnt
    omega
  · obtain ⟨hS, r, hn, hr⟩ := h
    unfold loE
    rw [hn]
    exact wpS_pure (h' r st' hS hr)
end
end Mine
namespace Mine
open PySem PyProof.Rows
/-- R is merged, A and B are left -/
structure MH (c A B R : List Keyed) : Prop where
  a : Sd (A ++ R)
  b : Sd (B ++ R)
  p : (A ++ B ++ R).Perm c
section
variable {c A B R A₁ A₂ B₁ B₂ : List Keyed}
theorem MH.as (h : MH c (A₁ ++ A₂) B R) (hq : ∀ p ∈ B, ∀ q ∈ A₂, numOf p.1 ≤ numOf q.1) : MH c A₁ B (A₂ ++ R) := by
  obtain ⟨ha, hb, hp⟩ := h
  obtain ⟨a1, a2, a3⟩ := sd_app.mp ha
  obtain ⟨b1, b2, b3⟩ := sd_app.mp hb
  obtain ⟨c1, c2, c3⟩ := sd_app.mp a1
  refine ⟨by rw [← List.append_assoc]; exact ha, sd_app.mpr ⟨b1, sd_app.mpr ⟨c2, a2, fun p hp q hq => a3 p (List.mem_append.mpr (.inr hp)) q hq⟩, fun p hp q hq' => ?_⟩, ?_⟩
  · rcases List.mem_append.mp hq' with hq' | hq'
    · exact hq p hp q hq'
    · exact b3 p hp q hq'
  · refine .trans ?_ hp
    rw [List.append_assoc, List.append_assoc, List.append_assoc]
    refine List.Perm.append_left _ ?_
    rw [← List.append_assoc, ← List.append_assoc]
    exact List.Perm.append_right _ List.perm_append_comm
theorem MH.bs (h : MH c A (B₁ ++ B₂) R) (hq : ∀ p ∈ A, ∀ q ∈ B₂, numOf p.1 ≤ numOf q.1) : MH c A B₁ (B₂ ++ R) := by
  obtain ⟨ha, hb, hp⟩ := h
  obtain ⟨a1, a2, a3⟩ := sd_app.mp ha
  obtain ⟨b1, b2, b3⟩ := sd_app.mp hb
  obtain ⟨c1, c2, c3⟩ := sd_app.mp b1
  refine ⟨sd_app.mpr ⟨a1, sd_app.mpr ⟨c2, b2, fun p hp q hq => b3 p (List.mem_append.mpr (.inr hp)) q hq⟩, fun p hp q hq' => ?_⟩, by rw [← List.append_assoc]; exact hb, ?_⟩
  · rcases List.mem_append.mp hq' with hq' | hq'
    · exact hq p hp q hq'
    · exact a3 p hp q hq'
  · refine .trans (.of_eq ?_) hp
    simp only [List.append_assoc]
theorem MH.endA (h : MH c A [] R) : Mrg c (A ++ [] ++ R) := ⟨h.p, by rw [List.append_nil]; exact h.a⟩
theorem MH.endB (h : MH c [] B R) : Mrg c ([] ++ B ++ R) := ⟨h.p, h.b⟩
theorem MH.first (h : MH c A B R) (hq : ∀ p ∈ B, ∀ q ∈ A, numOf p.1 ≤ numOf q.1) : Mrg c (B ++ A ++ R) := by
  have := (MH.as (A₁ := []) (A₂ := A) h hq).endB
  rw [List.nil_append, ← List.append_assoc] at this; exact this
end
theorem take_at {xs : Array Keyed} {i : Nat} (hi : i < xs.size) : xs.toList.take (i + 1) = xs.toList.take i ++ [xs[i]] := by
  rw [List.take_succ_eq_append_getElem (by simpa using hi)]; simp
theorem ext_upto {xs : Array Keyed} {i : Nat} : (xs.extract 0 i).toList = xs.toList.take i := by
  rw [Array.toList_extract, List.extract_eq_take_drop]; simp
theorem ext_mid {xs : Array Keyed} {i n : Nat} : (xs.extract i n).toList = (xs.toList.take n).drop i := by
  rw [Array.toList_extract, List.extract_eq_take_drop, List.drop_take]
theorem mem_upto_at {xs : Array Keyed} {q : Keyed} {n : Nat} (h : q ∈ xs.toList.take n) : ∃ j, j < n ∧ j < xs.size ∧ K xs j = numOf q.1 := by
  obtain ⟨j, hj, e⟩ := List.mem_iff_getElem.mp h
  rw [List.getElem_take] at e
  rw [List.length_take, Array.length_toList] at hj
  exact ⟨j, by omega, by omega, by rw [K_list (by simp; omega), e]⟩
theorem mem_mid_at {xs : Array Keyed} {q : Keyed} {i n : Nat} (h : q ∈ (xs.toList.take n).drop i) : ∃ j, i ≤ j ∧ j < n ∧ j < xs.size ∧ K xs j = numOf q.1 := by
  obtain ⟨j, hj, e⟩ := List.mem_iff_getElem.mp h
  rw [List.getElem_drop, List.getElem_take] at e
  rw [List.length_drop, List.length_take, Array.length_toList] at hj
  exact ⟨i + j, by omega, by omega, by omega, by rw [K_list (by simp; omega), e]⟩
noncomputable def doneH (a b out : Array Keyed) (na nb : Nat) : Array Keyed := a.extract 0 na ++ b.extract 0 nb ++ out.reverse
noncomputable def firstOfB' (a b out : Array Keyed) (na nb : Nat) : Array Keyed := b.extract 0 nb ++ a.extract 0 na ++ out.reverse
end Mine
namespace Mine
open PySem PyProof.Rows
abbrev H7 := Option (Array Keyed) × Nat × Nat × Array Keyed × Nat × Nat × Nat
abbrev H6 := Option (Array Keyed) × Nat × Nat × Array Keyed × Nat × Nat
section
variable (a b : Array Keyed)
noncomputable def hl4 (na nb : Nat) (out : Array Keyed) (g k k1 : Nat) : StateT SortSt Sem (ForInStep H7) := do
  let x ← elem' a (na - 1)
  if (na - 1 == 0) = true then pure (.done (some (doneH a b (out.push x) (na - 1) nb), na - 1, nb, out.push x, g, k, k1))
  else if (decide (k < 7) && decide (k1 < 7)) = true then pure (.done (none, na - 1, nb, out.push x, g, k, k1)) else pure (.yield (none, na - 1, nb, out.push x, g, k, k1))
noncomputable def hl3 (na nb : Nat) (out : Array Keyed) (g k bc : Nat) : StateT SortSt Sem (ForInStep H7) := do
  let x ← elem' a (na - 1)
  let r ← gallop' true x b 0 nb (nb - 1)
  match r with
  | some at_ =>
    if nb - at_ > 0 then
      if (at_ == 1) = true then pure (.done (some (firstOfB' a b (out ++ (b.extract at_ nb).reverse) na at_), na, at_, out ++ (b.extract at_ nb).reverse, g, k, nb - at_))
      else if (at_ == 0) = true then pure (.done (some (doneH a b (out ++ (b.extract at_ nb).reverse) na at_), na, at_, out ++ (b.extract at_ nb).reverse, g, k, nb - at_))
      else hl4 a b na at_ (out ++ (b.extract at_ nb).reverse) g k (nb - at_)
    else hl4 a b na nb out g k (nb - at_)
  | _ => pure (.done (some (doneH a b out na nb), na, nb, out, g, k, bc))
noncomputable def hl2 (na nb : Nat) (out : Array Keyed) (g k bc : Nat) : StateT SortSt Sem (ForInStep H7) := do
  let y ← elem' b (nb - 1)
  if (nb - 1 == 1) = true then pure (.done (some (firstOfB' a b (out.push y) na (nb - 1)), na, nb - 1, out.push y, g, k, bc))
  else hl3 a b na (nb - 1) (out.push y) g k bc
noncomputable def hl1 (na nb : Nat) (out : Array Keyed) (g ac bc : Nat) : StateT SortSt Sem (ForInStep H7) := do
  let y ← elem' b (nb - 1)
  let r ← gallop' false y a 0 na (na - 1)
  match r with
  | some at_ =>
    if na - at_ > 0 then
      if (at_ == 0) = true then pure (.done (some (doneH a b (out ++ (a.extract at_ na).reverse) at_ nb), at_, nb, out ++ (a.extract at_ na).reverse, g, na - at_, bc))
      else hl2 a b at_ nb (out ++ (a.extract at_ na).reverse) g (na - at_) bc
    else hl2 a b na nb out g (na - at_) bc
  | _ => pure (.done (some (doneH a b out na nb), na, nb, out, g, ac, bc))
noncomputable def he2 (c : H7) : StateT SortSt Sem (ForInStep H7) :=
  if c.2.2.2.2.1 > 1 then do
    setMinGallop' (c.2.2.2.2.1 - 1)
    hl1 a b c.2.1 c.2.2.1 c.2.2.2.1 (c.2.2.2.2.1 - 1) c.2.2.2.2.2.1 c.2.2.2.2.2.2
  else do
    setMinGallop' c.2.2.2.2.1
    hl1 a b c.2.1 c.2.2.1 c.2.2.2.1 c.2.2.2.2.1 c.2.2.2.2.2.1 c.2.2.2.2.2.2
noncomputable def he1 (g : Nat) (c : H6) : StateT SortSt Sem (ForInStep H6) := do
  let y ← elem' b (c.2.2.1 - 1)
  let x ← elem' a (c.2.1 - 1)
  let r ← lt' y x
  match r with
  | some aWins =>
    if aWins = true then do
      let x ← elem' a (c.2.1 - 1)
      if (c.2.1 - 1 == 0) = true then pure (.done (some (doneH a b (c.2.2.2.1.push x) (c.2.1 - 1) c.2.2.1), c.2.1 - 1, c.2.2.1, c.2.2.2.1.push x, c.2.2.2.2.1 + 1, 0))
      else if c.2.2.2.2.1 + 1 ≥ g then pure (.done (none, c.2.1 - 1, c.2.2.1, c.2.2.2.1.push x, c.2.2.2.2.1 + 1, 0)) else pure (.yield (none, c.2.1 - 1, c.2.2.1, c.2.2.2.1.push x, c.2.2.2.2.1 + 1, 0))
    else do
      let y ← elem' b (c.2.2.1 - 1)
      if (c.2.2.1 - 1 == 1) = true then pure (.done (some (firstOfB' a b (c.2.2.2.1.push y) c.2.1 (c.2.2.1 - 1)), c.2.1, c.2.2.1 - 1, c.2.2.2.1.push y, 0, c.2.2.2.2.2 + 1))
      else if c.2.2.2.2.2 + 1 ≥ g then pure (.done (none, c.2.1, c.2.2.1 - 1, c.2.2.2.1.push y, 0, c.2.2.2.2.2 + 1)) else pure (.yield (none, c.2.1, c.2.2.1 - 1, c.2.2.2.1.push y, 0, c.2.2.2.2.2 + 1))
  | _ => pure (.done (some (doneH a b c.2.2.2.1 c.2.1 c.2.2.1), c.2.1, c.2.2.1, c.2.2.2.1, c.2.2.2.2.1, c.2.2.2.2.2))
end
section
variable {prog : Program} {w : World} {A : Around} {E : Value → Shared → Prop} {s : Shared} {a₀ a b out : Array Keyed} {na nb : Nat}
abbrev MHa (a b out : Array Keyed) (na nb : Nat) : Prop := MH (a.toList ++ b.toList) (a.toList.take na) (b.toList.take nb) out.toList.reverse
/-- one or more of a are left, and two or more of b -/
structure JH (a b out : Array Keyed) (na nb : Nat) : Prop where
  ms : MHa a b out na nb
  ha1 : 1 ≤ na
  hb2 : 2 ≤ nb
  la : na ≤ a.size
  lb : nb ≤ b.size
  cnt : out.size + na + nb = a.size + b.size
structure Two' (a b : Array Keyed) : Prop where
  ia : IntKeys a
  ib : IntKeys b
  sa : Sd a.toList
  sb : Sd b.toList
  first : ∀ q ∈ a.toList, K b 0 ≤ numOf q.1
theorem first_in {p q : Keyed} (T : Two' a b) (hb : 1 ≤ b.size) (hp : p ∈ b.toList.take 1) (hq : q ∈ a.toList) : numOf p.1 ≤ numOf q.1 := by
  obtain ⟨j, hj, _, e⟩ := mem_upto_at hp
  have : j = 0 := by omega
  subst this
  rw [← e]; exact T.first q hq
theorem firstB (T : Two' a b) (hb : 1 ≤ b.size) (h : MHa a b out na nb) (hi : nb = 1) : Mrg (a.toList ++ b.toList) (firstOfB' a b out na nb).toList := by
  unfold firstOfB'
  rw [Array.toList_append, Array.toList_append, ext_upto, ext_upto, Array.toList_reverse]
  subst hi
  exact h.first fun p hp q hq => first_in T hb hp (List.mem_of_mem_take hq)
theorem doneA (h : MHa a b out na nb) (hi : na = 0 ∨ nb = 0) : Mrg (a.toList ++ b.toList) (doneH a b out na nb).toList := by
  unfold doneH
  rw [Array.toList_append, Array.toList_append, ext_upto, ext_upto, Array.toList_reverse]
  rcases hi with rfl | rfl
  · exact MH.endB h
  · exact MH.endA h
theorem mh_a (h : MHa a b out na nb) (h1 : 1 ≤ na) (ha : na ≤ a.size) (hq : ∀ p ∈ b.toList.take nb, numOf p.1 ≤ numOf (a[na - 1]'(by omega)).1) : MHa a b (out.push (a[na - 1]'(by omega))) (na - 1) nb := by
  unfold MHa at h ⊢
  obtain ⟨m, rfl⟩ : ∃ m, na = m + 1 := ⟨na - 1, by omega⟩
  rw [take_at (by omega)] at h
  rw [Array.toList_push, List.reverse_append]
  exact MH.as h fun p hp q hq' => by rw [List.mem_singleton.mp hq']; exact hq p hp
theorem mh_b (h : MHa a b out na nb) (h1 : 1 ≤ nb) (hb : nb ≤ b.size) (hq : ∀ p ∈ a.toList.take na, numOf p.1 ≤ numOf (b[nb - 1]'(by omega)).1) : MHa a b (out.push (b[nb - 1]'(by omega))) na (nb - 1) := by
  unfold MHa at h ⊢
  obtain ⟨m, rfl⟩ : ∃ m, nb = m + 1 := ⟨nb - 1, by omega⟩
  rw [take_at (by omega)] at h
  rw [Array.toList_push, List.reverse_append]
  exact MH.bs h fun p hp q hq' => by rw [List.mem_singleton.mp hq']; exact hq p hp
theorem mh_as {k : Nat} (h : MHa a b out na nb) (hk : k ≤ na) (hq : ∀ p ∈ b.toList.take nb, ∀ q ∈ (a.toList.take na).drop k, numOf p.1 ≤ numOf q.1) : MHa a b (out ++ (a.extract k na).reverse) k nb := by
  unfold MHa at h ⊢
  rw [Array.toList_append, Array.toList_reverse, List.reverse_append, List.reverse_reverse, ext_mid]
  refine MH.as ?_ hq
  have e : a.toList.take k = (a.toList.take na).take k := by rw [List.take_take, Nat.min_eq_left hk]
  rw [e, List.take_append_drop]; exact h
theorem mh_bs {k : Nat} (h : MHa a b out na nb) (hk : k ≤ nb) (hq : ∀ p ∈ a.toList.take na, ∀ q ∈ (b.toList.take nb).drop k, numOf p.1 ≤ numOf q.1) : MHa a b (out ++ (b.extract k nb).reverse) na k := by
  unfold MHa at h ⊢
  rw [Array.toList_append, Array.toList_reverse, List.reverse_append, List.reverse_reverse, ext_mid]
  refine MH.bs ?_ hq
  have e : b.toList.take k = (b.toList.take nb).take k := by rw [List.take_take, Nat.min_eq_left hk]
  rw [e, List.take_append_drop]; exact h
theorem tails_le {xs : Array Keyed} {n : Nat} (h : Sd xs.toList) (h1 : 1 ≤ n) (hn : n ≤ xs.size) : ∀ p ∈ xs.toList.take n, numOf p.1 ≤ numOf (xs[n - 1]'(by omega)).1 := fun p hp => by
  obtain ⟨j, hj, hj2, e⟩ := mem_upto_at hp
  rw [← e, ← K_eq (by omega)]
  exact sd_srt h j (n - 1) (Nat.zero_le _) (by omega) (by omega)
noncomputable def Hft (a b : Array Keyed) (lim : Nat) (c : H7) : Prop := match c.1 with
  | some r => Mrg (a.toList ++ b.toList) r.toList
  | none => JH a b c.2.2.2.1 c.2.1 c.2.2.1 ∧ lim ≤ c.2.2.2.1.size
noncomputable def Hft' (a b : Array Keyed) (lim : Nat) (r : ForInStep H7) : Prop := match r with
  | .done c => Hft a b lim c
  | .yield c => c.1 = none ∧ Hft a b lim c
noncomputable def Gft (a b : Array Keyed) (lim : Nat) (c : H6) : Prop := match c.1 with
  | some r => Mrg (a.toList ++ b.toList) r.toList
  | none => JH a b c.2.2.2.1 c.2.1 c.2.2.1 ∧ lim ≤ c.2.2.2.1.size
noncomputable def Gft' (a b : Array Keyed) (lim : Nat) (r : ForInStep H6) : Prop := match r with
  | .done c => Gft a b lim c
  | .yield c => c.1 = none ∧ Gft a b lim c
variable {st : SortSt} {Q : ForInStep H7 → SortSt → Prop} {lim g k k1 ac bc : Nat}
theorem w_hl4 (h : MHa a b out na nb) (h1 : 1 ≤ na) (h2 : 2 ≤ nb) (la : na ≤ a.size) (lb : nb ≤ b.size) (hc : out.size + na + nb = a.size + b.size) (hx : ∀ p ∈ b.toList.take nb, numOf p.1 ≤ numOf (a[na - 1]'(by omega)).1) (hl : lim ≤ out.size)
    (hQ : ∀ r, Hft' a b lim r → Q r st) : wpS (model prog w) A E s (hl4 a b na nb out g k k1) Q st := by
  unfold hl4
  refine wpS_bind (wpS_elem (by omega) ?_)
  have h' := mh_a h h1 la hx
  have hz : (out.push (a[na - 1]'(by omega))).size = out.size + 1 := Array.size_push _
  by_cases e : (na - 1 == 0) = true
  · rw [if_pos e]
    exact wpS_pure (hQ _ (doneA h' (.inl (by simpa using e))))
  · rw [if_neg e]
    have e : na - 1 ≠ 0 := by simpa using e
    have hJ : JH a b (out.push (a[na - 1]'(by omega))) (na - 1) nb := ⟨h', by omega, h2, by omega, lb, by omega⟩
    have hl' : lim ≤ (out.push (a[na - 1]'(by omega))).size := by omega
    by_cases e2 : (decide (k < 7) && decide (k1 < 7)) = true
    · rw [if_pos e2]
      exact wpS_pure (hQ _ (show JH a b _ _ _ ∧ _ from ⟨hJ, hl'⟩))
    · rw [if_neg e2]
      exact wpS_pure (hQ _ ⟨rfl, (show JH a b _ _ _ ∧ _ from ⟨hJ, hl'⟩)⟩)
theorem w_hl3 (T : Two' a b) (hk : kindOf st = oneType') (h : MHa a b out na nb) (h1 : 1 ≤ na) (h2 : 2 ≤ nb) (la : na ≤ a.size) (lb : nb ≤ b.size) (hc : out.size + na + nb = a.size + b.size) (hl : lim ≤ out.size)
    (hQ : ∀ r, Hft' a b lim r → Q r st) : wpS (model prog w) A E s (hl3 a b na nb out g k bc) Q st := by
  unfold hl3
  refine wpS_bind (wpS_elem (by omega) ?_)
  have hsb : Srt b 0 (0 + nb) := fun i j _ h2 h3 => sd_srt T.sb i j (Nat.zero_le _) h2 (by omega)
  refine wpS_bind (wpS_gallop hk T.ib (T.ia _ (by simp)) (by omega) (by omega) hsb fun c hcut => ?_)
  obtain ⟨c1, c2, c3⟩ := hcut
  have below : ∀ p ∈ b.toList.take c, numOf p.1 ≤ numOf (a[na - 1]'(by omega)).1 := fun p hp => by
    obtain ⟨j, hj, _, e⟩ := mem_upto_at hp
    have := c2 j hj
    unfold Bel at this
    rw [if_pos rfl, Nat.zero_add, e] at this
    omega
  dsimp only
  by_cases hk1 : nb - c > 0
  · rw [if_pos hk1]
    have h' : MHa a b (out ++ (b.extract c nb).reverse) na c := mh_bs h c1 fun p hp q hq => by
      obtain ⟨j, hj, hj2, _, e⟩ := mem_mid_at hq
      have := c3 j hj hj2
      unfold Bel at this
      rw [if_pos rfl, Nat.zero_add, e] at this
      exact Int.le_trans (tails_le T.sa h1 la p hp) (Int.not_lt.mp this)
    have hz : (out ++ (b.extract c nb).reverse).size = out.size + (nb - c) := by rw [Array.size_append, Array.size_reverse, Array.size_extract]; omega
    by_cases e : (c == 1) = true
    · rw [if_pos e]
      exact wpS_pure (hQ _ (firstB T (by omega) h' (by simpa using e)))
    · rw [if_neg e]
      have e : c ≠ 1 := by simpa using e
      by_cases e2 : (c == 0) = true
      · rw [if_pos e2]
        exact wpS_pure (hQ _ (doneA h' (.inr (by simpa using e2))))
      · rw [if_neg e2]
        have e2 : c ≠ 0 := by simpa using e2
        exact w_hl4 h' h1 (by omega) la (by omega) (by omega) below (by omega) hQ
  · rw [if_neg hk1]
    have : c = nb := by omega
    subst this
    exact w_hl4 h h1 h2 la lb hc below hl hQ
theorem w_hl2 (T : Two' a b) (hk : kindOf st = oneType') (h : MHa a b out na nb) (h1 : 1 ≤ na) (h2 : 2 ≤ nb) (la : na ≤ a.size) (lb : nb ≤ b.size) (hc : out.size + na + nb = a.size + b.size) (hx : ∀ p ∈ a.toList.take na, numOf p.1 ≤ numOf (b[nb - 1]'(by omega)).1) (hl : lim ≤ out.size)
    (hQ : ∀ r, Hft' a b lim r → Q r st) : wpS (model prog w) A E s (hl2 a b na nb out g k bc) Q st := by
  unfold hl2
  refine wpS_bind (wpS_elem (by omega) ?_)
  have h' := mh_b h (by omega) lb hx
  have hz : (out.push (b[nb - 1]'(by omega))).size = out.size + 1 := Array.size_push _
  by_cases e : (nb - 1 == 1) = true
  · rw [if_pos e]
    exact wpS_pure (hQ _ (firstB T (by omega) h' (by simpa using e)))
  · rw [if_neg e]
    have e : nb - 1 ≠ 1 := by simpa using e
    exact w_hl3 T hk h' h1 (by omega) la (by omega) (by omega) (by omega) hQ
theorem w_hl1 (T : Two' a b) (hk : kindOf st = oneType') (h : JH a b out na nb) (hl : lim ≤ out.size) (hQ : ∀ r, Hft' a b lim r → Q r st) : wpS (model prog w) A E s (hl1 a b na nb out g ac bc) Q st := by
  obtain ⟨hm, h1, h2, la, lb, hc⟩ := h
  unfold hl1
  refine wpS_bind (wpS_elem (by omega) ?_)
  have hsa : Srt a 0 (0 + na) := fun i j _ h2 h3 => sd_srt T.sa i j (Nat.zero_le _) h2 (by omega)
  refine wpS_bind (wpS_gallop hk T.ia (T.ib _ (by simp)) (by omega) (by omega) hsa fun c hcut => ?_)
  obtain ⟨c1, c2, c3⟩ := hcut
  have below : ∀ p ∈ a.toList.take c, numOf p.1 ≤ numOf (b[nb - 1]'(by omega)).1 := fun p hp => by
    obtain ⟨j, hj, _, e⟩ := mem_upto_at hp
    have := c2 j hj
    unfold Bel at this
    rw [if_neg (by decide), Nat.zero_add, e] at this
    exact this
  dsimp only
  by_cases hk1 : na - c > 0
  · rw [if_pos hk1]
    have h' : MHa a b (out ++ (a.extract c na).reverse) c nb := mh_as hm c1 fun p hp q hq => by
      obtain ⟨j, hj, hj2, _, e⟩ := mem_mid_at hq
      have := c3 j hj hj2
      unfold Bel at this
      rw [if_neg (by decide), Nat.zero_add, e] at this
      exact Int.le_trans (tails_le T.sb (by omega) lb p hp) (by omega)
    have hz : (out ++ (a.extract c na).reverse).size = out.size + (na - c) := by rw [Array.size_append, Array.size_reverse, Array.size_extract]; omega
    by_cases e : (c == 0) = true
    · rw [if_pos e]
      exact wpS_pure (hQ _ (doneA h' (.inl (by simpa using e))))
    · rw [if_neg e]
      have e : c ≠ 0 := by simpa using e
      exact w_hl2 T hk h' (by omega) h2 (by omega) lb (by omega) below (by omega) hQ
  · rw [if_neg hk1]
    have : c = na := by omega
    subst this
    exact w_hl2 T hk hm h1 h2 la lb hc below hl hQ
theorem w_he1 {Q : ForInStep H6 → SortSt → Prop} (T : Two' a b) (hk : kindOf st = oneType') (h : JH a b out na nb) (hQ : ∀ r, Gft' a b (out.size + 1) r → Q r st) : wpS (model prog w) A E s (he1 a b g (none, na, nb, out, ac, bc)) Q st := by
  obtain ⟨hm, h1, h2, la, lb, hc⟩ := h
  unfold he1
  dsimp only
  refine wpS_bind (wpS_elem (by omega) (wpS_bind (wpS_elem (by omega) (wpS_bind (wpS_lt hk (T.ib _ (by simp)) (T.ia _ (by simp)) ?_)))))
  dsimp only
  by_cases hlt : numOf (b[nb - 1]'(by omega)).1 < numOf (a[na - 1]'(by omega)).1
  · rw [decide_eq_true hlt, if_pos rfl]
    refine wpS_bind (wpS_elem (by omega) ?_)
    have h' := mh_a hm h1 la fun p hp => Int.le_trans (tails_le T.sb (by omega) lb p hp) (Int.le_of_lt hlt)
    have hz : (out.push (a[na - 1]'(by omega))).size = out.size + 1 := Array.size_push _
    by_cases e : (na - 1 == 0) = true
    · rw [if_pos e]
      exact wpS_pure (hQ _ (doneA h' (.inl (by simpa using e))))
    · rw [if_neg e]
      have e : na - 1 ≠ 0 := by simpa using e
      have hJ : JH a b (out.push (a[na - 1]'(by omega))) (na - 1) nb := ⟨h', by omega, h2, by omega, lb, by omega⟩
      by_cases e2 : ac + 1 ≥ g
      · rw [if_pos e2]
        exact wpS_pure (hQ _ (show JH a b _ _ _ ∧ _ from ⟨hJ, Nat.le_of_eq hz.symm⟩))
      · rw [if_neg e2]
        exact wpS_pure (hQ _ ⟨rfl, (show JH a b _ _ _ ∧ _ from ⟨hJ, Nat.le_of_eq hz.symm⟩)⟩)
  · rw [decide_eq_false hlt, if_neg (by decide)]
    refine wpS_bind (wpS_elem (by omega) ?_)
    have h' := mh_b hm (by omega) lb fun p hp => Int.le_trans (tails_le T.sa h1 la p hp) (Int.not_lt.mp hlt)
    have hz : (out.push (b[nb - 1]'(by omega))).size = out.size + 1 := Array.size_push _
    by_cases e : (nb - 1 == 1) = true
    · rw [if_pos e]
      exact wpS_pure (hQ _ (firstB T (by omega) h' (by simpa using e)))
    · rw [if_neg e]
      have e : nb - 1 ≠ 1 := by simpa using e
      have hJ : JH a b (out.push (b[nb - 1]'(by omega))) na (nb - 1) := ⟨h', h1, by omega, la, by omega, by omega⟩
      by_cases e2 : bc + 1 ≥ g
      · rw [if_pos e2]
        exact wpS_pure (hQ _ (show JH a b _ _ _ ∧ _ from ⟨hJ, Nat.le_of_eq hz.symm⟩))
      · rw [if_neg e2]
        exact wpS_pure (hQ _ ⟨rfl, (show JH a b _ _ _ ∧ _ from ⟨hJ, Nat.le_of_eq hz.symm⟩)⟩)
abbrev H5 := Option (Array Keyed) × Nat × Nat × Array Keyed × Nat
noncomputable def hi2 (c : H7) : StateT SortSt Sem (ForInStep H5) := match c.1 with
  | some r => pure (.done (some r, c.2.1, c.2.2.1, c.2.2.2.1, c.2.2.2.2.1))
  | none => do
    setMinGallop' (c.2.2.2.2.1 + 1)
    pure (.yield (none, c.2.1, c.2.2.1, c.2.2.2.1, c.2.2.2.2.1 + 1))
noncomputable def hi1 (a b : Array Keyed) (g : Nat) (c : H6) : StateT SortSt Sem (ForInStep H5) := match c.1 with
  | some r => pure (.done (some r, c.2.1, c.2.2.1, c.2.2.2.1, g))
  | none => do
    rule "list.sort.gallop"
    let c2 ← forIn [:a.size + b.size] ((none, c.2.1, c.2.2.1, c.2.2.2.1, g + 1, c.2.2.2.2.1, c.2.2.2.2.2) : H7) fun _ c => he2 a b c
    hi2 c2
noncomputable def hi0 (a b : Array Keyed) (c : H5) : StateT SortSt Sem (ForInStep H5) := do
  let c1 ← forIn [:a.size + b.size] ((none, c.2.1, c.2.2.1, c.2.2.2.1, 0, 0) : H6) fun _ c' => he1 a b c.2.2.2.2 c'
  hi1 a b c.2.2.2.2 c1
noncomputable def hiE (c : H5) : StateT SortSt Sem (Array Keyed) := match c.1 with
  | some r => pure r
  | none => liftM (unsupported "internal:list.sort.merge-bound" : Sem (Array Keyed))
set_option smartUnfolding false in
theorem mergeHi'_eq (a b : Array Keyed) : mergeHi' a b = (do
  rule "list.sort.merge-hi"
  let y ← elem' a (a.size - 1)
  if (a.size - 1 == 0) = true then pure (doneH a b #[y] (a.size - 1) b.size) else if (b.size == 1) = true then pure (firstOfB' a b #[y] (a.size - 1) b.size) else do
    let st ← get
    let c ← forIn [:a.size + b.size] ((none, a.size - 1, b.size, #[y], gallopOf st) : H5) fun _ c => hi0 a b c
    hiE c) := rfl
/-- where the merge stands at its x-th round -/
structure HiI (st : SortSt) (a b : Array Keyed) (x : Nat) (c : H5) (st' : SortSt) : Prop where
  same : Same st st'
  no : c.1 = none
  j : JH a b c.2.2.2.1 c.2.1 c.2.2.1
  cnt : x + 1 ≤ c.2.2.2.1.size
structure HiQ (st : SortSt) (a b : Array Keyed) (c : H5) (st' : SortSt) : Prop where
  same : Same st st'
  out : ∃ r, c.1 = some r ∧ Mrg (a.toList ++ b.toList) r.toList
abbrev HiP (st : SortSt) (a b : Array Keyed) (x : Nat) (r : ForInStep H5) (st' : SortSt) : Prop := match r with
  | .done c => HiQ st a b c st'
  | .yield c => HiI st a b (x + 1) c st'
theorem w_hi2 {st3 : SortSt} {c : H7} {lim x : Nat} (hS : Same st st3) (hA : Hft a b lim c) (hx : x + 1 + 1 ≤ lim) : wpS (model prog w) A E s (hi2 c) (HiP st a b x) st3 := by
  obtain ⟨o, na3, nb3, out3, g3, ac3, bc3⟩ := c
  cases o with
  | some r => exact wpS_pure ⟨hS, r, rfl, hA⟩
  | none =>
    obtain ⟨hJ, hc⟩ := hA
    unfold hi2
    dsimp only
    rw [setMinGallop'_eq]
    exact wpS_bind (wpS_modify (wpS_pure ⟨hS.gal _, rfl, hJ, Nat.le_trans hx hc⟩))
/-- a leap -/
theorem w_he2 {st3 : SortSt} {c : H7} {lim : Nat} (T : Two' a b) (hk : kindOf st = oneType') (h : Same st st3 ∧ c.1 = none ∧ JH a b c.2.2.2.1 c.2.1 c.2.2.1 ∧ lim ≤ c.2.2.2.1.size) :
    wpS (model prog w) A E s (he2 a b c) (fun r st' => match r with | .done c' => Same st st' ∧ Hft a b lim c' | .yield c' => Same st st' ∧ c'.1 = none ∧ JH a b c'.2.2.2.1 c'.2.1 c'.2.2.1 ∧ lim ≤ c'.2.2.2.1.size) st3 := by
  obtain ⟨o, na3, nb3, out3, g3, ac3, bc3⟩ := c
  obtain ⟨hS3, rfl, hJ3, hc3⟩ := h
  have go : ∀ (r : ForInStep H7) (st4 : SortSt), Same st st4 → Hft' a b lim r → (match r with
      | .done c' => Same st st4 ∧ Hft a b lim c'
      | .yield c' => Same st st4 ∧ c'.1 = none ∧ JH a b c'.2.2.2.1 c'.2.1 c'.2.2.1 ∧ lim ≤ c'.2.2.2.1.size) := fun r st4 h4 hr => by
    cases r with
    | done c => exact ⟨h4, hr⟩
    | yield c =>
      obtain ⟨hn, hr⟩ := hr
      unfold Hft at hr
      rw [hn] at hr
      exact ⟨h4, hn, hr.1, hr.2⟩
  unfold he2
  dsimp only at hJ3 hc3 ⊢
  by_cases hg : g3 > 1
  · rw [if_pos hg, setMinGallop'_eq]
    exact wpS_bind (wpS_modify (w_hl1 T (hS3.kind.trans hk) hJ3 hc3 fun r hr => by have := go r _ (hS3.gal (g3 - 1)) hr; cases r <;> exact this))
  · rw [if_neg hg, setMinGallop'_eq]
    exact wpS_bind (wpS_modify (w_hl1 T (hS3.kind.trans hk) hJ3 hc3 fun r hr => by have := go r _ (hS3.gal g3) hr; cases r <;> exact this))
theorem w_hi1 {st3 : SortSt} {c : H6} {lim x g : Nat} (T : Two' a b) (hk : kindOf st = oneType') (hS : Same st st3) (hB : Gft a b lim c) (hx : x + 1 + 1 ≤ lim) : wpS (model prog w) A E s (hi1 a b g c) (HiP st a b x) st3 := by
  obtain ⟨o, na2, nb2, out2, ac, bc⟩ := c
  cases o with
  | some r => exact wpS_pure ⟨hS, r, rfl, hB⟩
  | none =>
    obtain ⟨hJ2, hc2⟩ := hB
    unfold hi1
    dsimp only
    refine wpS_bind (wpS_lift (wpAny_rule ⟨rfl, ?_⟩))
    refine wpS_bind (wpS_mono (wpS_forRange
      (I := fun y c st3 => Same st st3 ∧ c.1 = none ∧ JH a b c.2.2.2.1 c.2.1 c.2.2.1 ∧ out2.size ≤ c.2.2.2.1.size)
      (Q := fun c st3 => Same st st3 ∧ Hft a b out2.size c) (fun y c st3 _ _ h => wpS_mono (w_he2 T hk h) fun r st' q => by cases r <;> exact q) (fun c st3 h => ?_) ⟨hS, rfl, hJ2, Nat.le_refl _⟩) fun c st4 h => ?_)
    · obtain ⟨hS3, hn, hJ3, hc3⟩ := h
      refine ⟨hS3, ?_⟩
      unfold Hft
      rw [hn]
      exact ⟨hJ3, hc3⟩
    · exact w_hi2 h.1 h.2 (Nat.le_trans hx hc2)
/-- one by one -/
theorem w_he1' {c : H6} {n g y : Nat} (T : Two' a b) (hk : kindOf st = oneType') (h : c.1 = none ∧ JH a b c.2.2.2.1 c.2.1 c.2.2.1 ∧ n + min y 1 ≤ c.2.2.2.1.size) :
    wpS (model prog w) A E s (he1 a b g c) (fun r st' => match r with | .done c' => st' = st ∧ Gft a b (n + 1) c' | .yield c' => st' = st ∧ c'.1 = none ∧ JH a b c'.2.2.2.1 c'.2.1 c'.2.2.1 ∧ n + min (y + 1) 1 ≤ c'.2.2.2.1.size) st := by
  obtain ⟨o, na2, nb2, out2, ac, bc⟩ := c
  obtain ⟨rfl, hJ2, hc2⟩ := h
  refine w_he1 (g := g) T hk hJ2 fun r hr => ?_
  dsimp only at hc2
  have up : ∀ c : H6, Gft a b (out2.size + 1) c → Gft a b (n + 1) c := fun c hc => by
    unfold Gft at hc ⊢
    split
    · rename_i e; rw [e] at hc; exact hc
    · rename_i e; rw [e] at hc; exact ⟨hc.1, by have := hc.2; omega⟩
  cases r with
  | done c => exact ⟨rfl, up c hr⟩
  | yield c =>
    obtain ⟨hn, hr⟩ := hr
    refine ⟨rfl, hn, ?_⟩
    unfold Gft at hr
    rw [hn] at hr
    exact ⟨hr.1, by have := hr.2; omega⟩
theorem w_hi0 {st' : SortSt} {c : H5} {x : Nat} (T : Two' a b) (hk : kindOf st = oneType') (h : HiI st a b x c st') (nz : 0 < a.size + b.size) : wpS (model prog w) A E s (hi0 a b c) (HiP st a b x) st' := by
  obtain ⟨o, na, nb, out, g⟩ := c
  obtain ⟨hS, rfl, hJ', hcnt⟩ := h
  unfold hi0
  dsimp only at hJ' hcnt ⊢
  refine wpS_bind (wpS_mono (wpS_forRange
    (I := fun y c st'' => st'' = st' ∧ c.1 = none ∧ JH a b c.2.2.2.1 c.2.1 c.2.2.1 ∧ out.size + min y 1 ≤ c.2.2.2.1.size)
    (Q := fun c st'' => st'' = st' ∧ Gft a b (out.size + 1) c) (fun y c st'' _ _ h => ?_) (fun c st'' h => ?_) ⟨rfl, rfl, hJ', Nat.le_refl _⟩) fun c st'' h => ?_)
  · obtain ⟨rfl, h⟩ := h
    exact wpS_mono (w_he1' T (hS.kind.trans hk) h) fun r st' q => by cases r <;> exact q
  · obtain ⟨rfl, hn, hJ2, hc2⟩ := h
    refine ⟨rfl, ?_⟩
    unfold Gft
    rw [hn]
    refine ⟨hJ2, Nat.le_trans (Nat.add_le_add_left ?_ _) hc2⟩
    rw [Nat.max_eq_right (Nat.zero_le _), Nat.min_eq_right nz]
    exact Nat.le_refl _
  · obtain ⟨rfl, hB⟩ := h
    exact w_hi1 T hk hS hB (Nat.succ_le_succ hcnt)
theorem wpS_mergeHi {Q : Array Keyed → SortSt → Prop} (T : Two' a b) (hk : kindOf st = oneType') (na : 1 ≤ a.size) (nb : 1 ≤ b.size) (hlast : ∀ p ∈ b.toList, numOf p.1 ≤ K a (a.size - 1))
    (h' : ∀ r st', Same st st' → Mrg (a.toList ++ b.toList) r.toList → Q r st') : wpS (model prog w) A E s (mergeHi' a b) Q st := by
  rw [mergeHi'_eq]
  refine wpS_bind (wpS_lift (wpAny_rule ⟨rfl, ?_⟩))
  refine wpS_bind (wpS_elem (by omega) ?_)
  have h1 : MHa a b #[a[a.size - 1]'(by omega)] (a.size - 1) b.size := by
    have h0 : MHa a b #[] a.size b.size := by
      unfold MHa
      rw [List.take_of_length_le (by simp), List.take_of_length_le (by simp)]
      exact ⟨by simpa using T.sa, by simpa using T.sb, by simp⟩
    exact mh_a h0 na (Nat.le_refl _) fun p hp => by rw [← K_eq (by omega)]; exact hlast p (List.mem_of_mem_take hp)
  by_cases e1 : (a.size - 1 == 0) = true
  · rw [if_pos e1]
    exact wpS_pure (h' _ _ (Same.refl st) (doneA h1 (.inl (by simpa using e1))))
  rw [if_neg e1]
  by_cases e2 : (b.size == 1) = true
  · rw [if_pos e2]
    exact wpS_pure (h' _ _ (Same.refl st) (firstB T nb h1 (by simpa using e2)))
  rw [if_neg e2]
  have e1 : a.size - 1 ≠ 0 := by simpa using e1
  have e2 : b.size ≠ 1 := by simpa using e2
  have hJ : JH a b #[a[a.size - 1]'(by omega)] (a.size - 1) b.size := ⟨h1, by omega, by omega, by omega, Nat.le_refl _, by show 1 + _ + _ = _; omega⟩
  refine wpS_bind (wpS_get ?_)
  refine wpS_bind (wpS_mono (wpS_forRange (I := HiI st a b) (Q := HiQ st a b) (fun x c st' _ _ h => wpS_mono (w_hi0 T hk h (by omega)) fun r st' q => by cases r <;> exact q) (fun c st' h => ?_) ⟨Same.refl st, rfl, hJ, Nat.le_refl _⟩) fun c st' h => ?_)
  · obtain ⟨hS, hn, hJ', hcnt⟩ := h
    have h1 := hJ'.ha1
    have h2 := hJ'.hb2
    have h3 := hJ'.cnt
    rw [Nat.max_eq_right (Nat.zero_le _)] at hcnt
    omega
  · obtain ⟨hS, r, hn, hr⟩ := h
    unfold hiE
    rw [hn]
    exact wpS_pure (h' r st' hS hr)
end
end Mine
namespace Mine
open PySem PyProof.Rows
/-- the same outside of [lo, hi) -/
noncomputable def Out (lo hi : Nat) (xs ys : Array Keyed) : Prop := ∀ k, (k < lo ∨ hi ≤ k) → ys[k]? = xs[k]?
theorem Out.refl {lo hi : Nat} {xs : Array Keyed} : Out lo hi xs xs := fun _ _ => rfl
theorem Out.trans {lo hi : Nat} {xs ys zs : Array Keyed} (h : Out lo hi xs ys) (h' : Out lo hi ys zs) : Out lo hi xs zs := fun k hk => (h' k hk).trans (h k hk)
theorem Out.K {lo hi : Nat} {xs ys : Array Keyed} (h : Out lo hi xs ys) {k : Nat} (hk : k < lo ∨ hi ≤ k) : K ys k = K xs k := K_congr (h k hk)
theorem SB.setArr {a₀ : Array Keyed} {st : SortSt} (h : SB a₀ st) {xs : Array Keyed} (hp : xs.Perm (arrOf st)) : SB a₀ (setArr st xs) := ⟨hp.trans h.perm, h.kind, h.failed⟩
/-- what a run's work leaves: the same pending runs, the same outside -/
structure Wk (a₀ : Array Keyed) (lo hi : Nat) (st st' : SortSt) : Prop where
  sb : SB a₀ st'
  out : Out lo hi (arrOf st) (arrOf st')
  pend : pendingOf st' = pendingOf st
theorem Wk.refl {a₀ : Array Keyed} {lo hi : Nat} {st : SortSt} (h : SB a₀ st) : Wk a₀ lo hi st st := ⟨h, .refl, rfl⟩
theorem Wk.trans {a₀ : Array Keyed} {lo hi : Nat} {s1 s2 s3 : SortSt} (h : Wk a₀ lo hi s1 s2) (h' : Wk a₀ lo hi s2 s3) : Wk a₀ lo hi s1 s3 := ⟨h'.sb, h.out.trans h'.out, h'.pend.trans h.pend⟩
theorem out_mirror {xs : Array Keyed} {i j lo hi : Nat} (hj : j ≤ xs.size) (h1 : lo ≤ i) (h2 : j ≤ hi) : Out lo hi xs (mirror xs i j ((j - i) / 2)) := fun k hk => by
  have e := getElem?_mirror_all (i := i) hj k
  rw [if_neg (by omega)] at e; exact e
theorem Wk.mirror {a₀ : Array Keyed} {lo hi i j : Nat} {st : SortSt} (h : SB a₀ st) (hj : j ≤ (arrOf st).size) (h1 : lo ≤ i) (h2 : j ≤ hi) : Wk a₀ lo hi st (setArr st (mirror (arrOf st) i j ((j - i) / 2))) :=
  ⟨h.setArr (mirror_perm _ _ _ _), out_mirror hj h1 h2, rfl⟩
noncomputable def ascL (lo a nrem : Nat) : StateT SortSt Sem AscSt :=
  forIn [a:nrem] ((none, a) : AscSt) fun _ __s => do
    let __x ← ltAt' (lo + __s.snd) (lo + __s.snd - 1)
    match __x with
    | some smaller => if smaller = true then pure (ForInStep.done (none, __s.snd)) else pure (ForInStep.yield (none, __s.snd + 1))
    | _ => pure (ForInStep.done (some none, __s.snd))
noncomputable def tail3L (lo n nrem : Nat) : StateT SortSt Sem (Option Nat) := do
  reverseSlice' lo (lo + n)
  let __s ← ascL lo n nrem
  match __s.fst with
  | some r => pure r
  | none => pure (some __s.snd)
noncomputable def descL (lo n nrem : Nat) : StateT SortSt Sem DescSt :=
  forIn [n:nrem] ((none, n, 0) : DescSt) fun _ __s => do
    let __x ← ltAt' (lo + __s.snd.fst) (lo + __s.snd.fst - 1)
    match __x with
    | some smaller =>
      if smaller = true then
        if __s.snd.snd > 0 then do
          reverseSlice' (lo + __s.snd.fst - (__s.snd.snd + 1)) (lo + __s.snd.fst)
          pure (ForInStep.yield (none, __s.snd.fst + 1, 0))
        else pure (ForInStep.yield (none, __s.snd.fst + 1, 0))
      else do
        let __x ← ltAt' (lo + __s.snd.fst - 1) (lo + __s.snd.fst)
        match __x with
        | some larger =>
          if larger = true then pure (ForInStep.done (none, __s.snd.fst, __s.snd.snd))
          else pure (ForInStep.yield (none, __s.snd.fst + 1, __s.snd.snd + 1))
        | _ => pure (ForInStep.done (some none, __s.snd.fst, __s.snd.snd))
    | _ => pure (ForInStep.done (some none, __s.snd.fst, __s.snd.snd))
noncomputable def descPartL (lo n nrem : Nat) : StateT SortSt Sem (Option Nat) := do
  liftM (rule "list.sort.descending-run")
  let __s ← descL lo (n + 1) nrem
  match __s.fst with
  | some r => pure r
  | none =>
    if __s.snd.snd > 0 then do
      reverseSlice' (lo + __s.snd.fst - (__s.snd.snd + 1)) (lo + __s.snd.fst)
      tail3L lo __s.snd.fst nrem
    else tail3L lo __s.snd.fst nrem
theorem bind_ext {α β : Type} {m : StateT SortSt Sem α} {f g : α → StateT SortSt Sem β} (h : ∀ a, f a = g a) : (m >>= f) = (m >>= g) := by rw [funext h]
theorem countRunL_eq (lo nrem : Nat) : countRun' lo nrem = (do
    let __s ← ascL lo 1 nrem
    match __s.fst with
    | some r => pure r
    | none =>
      if (__s.snd == nrem) = true then pure (some __s.snd)
      else if __s.snd > 1 then do
        let __x ← ltAt' lo (lo + __s.snd - 1)
        match __x with
        | some rose => if rose = true then pure (some __s.snd) else do
            reverseSlice' lo (lo + __s.snd)
            descPartL lo __s.snd nrem
        | _ => pure none
      else descPartL lo __s.snd nrem) := by
  rw [countRun'_eq]
  refine bind_ext fun c => ?_
  obtain ⟨r, n⟩ := c
  cases r with
  | some r => rfl
  | none =>
    have t3 : ∀ (n3 : Nat) (X Y : AscSt → StateT SortSt Sem (Option Nat)) (m : StateT SortSt Sem AscSt), (∀ r3 n3, X (some r3, n3) = Y (some r3, n3)) → (∀ n3, X (none, n3) = Y (none, n3)) → (m >>= X) = (m >>= Y) := fun _ X Y m h1 h2 => bind_ext fun c => by
      obtain ⟨r3, n3⟩ := c
      cases r3 with
      | some r3 => exact h1 r3 n3
      | none => exact h2 n3
    dsimp only
    split
    · rfl
    · split
      · refine bind_ext fun x => ?_
        cases x with
        | none => rfl
        | some rose =>
          dsimp only
          split
          · rfl
          · refine bind_ext fun _ => bind_ext fun _ => bind_ext fun c => ?_
            obtain ⟨r2, n2, q2⟩ := c
            cases r2 with
            | some r2 => rfl
            | none =>
              dsimp only
              split
              · exact bind_ext fun _ => bind_ext fun _ => t3 0 _ _ _ (fun _ _ => rfl) (fun _ => rfl)
              · exact bind_ext fun _ => t3 0 _ _ _ (fun _ _ => rfl) (fun _ => rfl)
      · refine bind_ext fun _ => bind_ext fun c => ?_
        obtain ⟨r2, n2, q2⟩ := c
        cases r2 with
        | some r2 => rfl
        | none =>
          dsimp only
          split
          · exact bind_ext fun _ => bind_ext fun _ => t3 0 _ _ _ (fun _ _ => rfl) (fun _ => rfl)
          · exact bind_ext fun _ => t3 0 _ _ _ (fun _ _ => rfl) (fun _ => rfl)
end Mine
namespace Mine
open PySem PyProof.Rows
noncomputable def NonI (xs : Array Keyed) (lo hi : Nat) : Prop := ∀ i j, lo ≤ i → i ≤ j → j < hi → K xs j ≤ K xs i
theorem srt_more {xs : Array Keyed} {lo x : Nat} (h : Srt xs lo x) (hx : lo < x) (hk : ¬ K xs x < K xs (x - 1)) : Srt xs lo (x + 1) := fun i j h1 hij hj => by
  by_cases hjx : j < x
  · exact h i j h1 hij hjx
  · have hj' : j = x := by omega
    subst hj'
    by_cases hi' : i = j
    · subst hi'; exact Int.le_refl _
    · exact Int.le_trans (h i (j - 1) h1 (by omega) (by omega)) (Int.not_lt.mp hk)
theorem non_more {xs : Array Keyed} {lo x : Nat} (h : NonI xs lo x) (hx : lo < x) (hk : K xs x ≤ K xs (x - 1)) : NonI xs lo (x + 1) := fun i j h1 hij hj => by
  by_cases hjx : j < x
  · exact h i j h1 hij hjx
  · have hj' : j = x := by omega
    subst hj'
    by_cases hi' : i = j
    · subst hi'; exact Int.le_refl _
    · exact Int.le_trans hk (h i (j - 1) h1 (by omega) (by omega))
theorem srt_one {xs : Array Keyed} {lo : Nat} : Srt xs lo (lo + 1) := fun i j _ _ _ => by
  have : i = j := by omega
  subst this; exact Int.le_refl _
section
variable {prog : Program} {w : World} {A : Around} {E : Value → Shared → Prop} {s : Shared} {a₀ : Array Keyed} {st : SortSt} {lo nrem : Nat}
theorem w_ascL {a : Nat} {Q : AscSt → SortSt → Prop} (h0 : IntKeys a₀) (hn : lo + nrem ≤ a₀.size) (ha : 1 ≤ a) (han : a ≤ nrem) (hB : SB a₀ st) (hs : Srt (arrOf st) lo (lo + a))
    (h : ∀ n, a ≤ n → n ≤ nrem → Srt (arrOf st) lo (lo + n) → (n = nrem ∨ K (arrOf st) (lo + n) < K (arrOf st) (lo + n - 1)) → Q (none, n) st) : wpS (model prog w) A E s (ascL lo a nrem) Q st := by
  unfold ascL
  refine wpS_forRange (I := fun x c st' => st' = st ∧ c = (none, x) ∧ Srt (arrOf st) lo (lo + x)) ?_ ?_ ⟨rfl, rfl, hs⟩
  · rintro x c st' hax hxn ⟨rfl, rfl, hs'⟩
    dsimp only
    refine wpS_bind (wpS_lt2 hB h0 (by omega) (by omega) ?_)
    by_cases hless : K (arrOf st') (lo + x) < K (arrOf st') (lo + x - 1)
    · simp only [hless, decide_true, if_true]
      exact wpS_pure (h x hax (by omega) hs' (.inr hless))
    · simp only [hless, decide_false, Bool.false_eq_true, if_false]
      exact wpS_pure ⟨rfl, rfl, srt_more (x := lo + x) hs' (by omega) hless⟩
  · rintro c st' ⟨rfl, rfl, hs'⟩
    rw [show max a nrem = nrem by omega] at hs' ⊢
    exact h nrem han (Nat.le_refl _) hs' (.inl rfl)
theorem w_rev {i j : Nat} {Q : Unit → SortSt → Prop} (h : Q () (setArr st (mirror (arrOf st) i j ((j - i) / 2)))) : wpS (model prog w) A E s (reverseSlice' i j) Q st := by
  rw [reverseSlice'_eq]; exact wpS_modify h
theorem w_tail3 {n : Nat} {Q : Option Nat → SortSt → Prop} (h0 : IntKeys a₀) (hn : lo + nrem ≤ a₀.size) (h1 : 1 ≤ n) (hnn : n ≤ nrem) (hB : SB a₀ st) (hs : NonI (arrOf st) lo (lo + n))
    (h : ∀ m st', Wk a₀ lo (lo + nrem) st st' → 1 ≤ m → m ≤ nrem → Srt (arrOf st') lo (lo + m) → Q (some m) st') : wpS (model prog w) A E s (tail3L lo n nrem) Q st := by
  unfold tail3L
  have hsz : lo + n ≤ (arrOf st).size := by rw [hB.size]; omega
  refine wpS_bind (w_rev ?_)
  have hW : Wk a₀ lo (lo + nrem) st (setArr st (mirror (arrOf st) lo (lo + n) ((lo + n - lo) / 2))) := .mirror hB hsz (Nat.le_refl _) (by omega)
  refine wpS_bind (w_ascL h0 hn h1 hnn hW.sb ?_ fun m hm1 hm2 hsm _ => wpS_pure (h m _ hW (by omega) hm2 hsm))
  intro i j hi hij hj
  show K (mirror (arrOf st) lo (lo + n) ((lo + n - lo) / 2)) i ≤ K (mirror (arrOf st) lo (lo + n) ((lo + n - lo) / 2)) j
  rw [K_mirror hsz, K_mirror hsz, if_pos (by omega), if_pos (by omega)]
  exact hs _ _ (by omega) (by omega) (by omega)
theorem w_descL {n : Nat} {Q : DescSt → SortSt → Prop} (h0 : IntKeys a₀) (hn : lo + nrem ≤ a₀.size) (h1 : 1 ≤ n) (hnn : n ≤ nrem) (hB : SB a₀ st) (hs : NonI (arrOf st) lo (lo + n))
    (h : ∀ m neq st', Wk a₀ lo (lo + nrem) st st' → n ≤ m → m ≤ nrem → NonI (arrOf st') lo (lo + m) → neq + 1 ≤ m → (∀ i, lo + m - (neq + 1) ≤ i → i < lo + m → K (arrOf st') i = K (arrOf st') (lo + m - 1)) → Q (none, m, neq) st') :
    wpS (model prog w) A E s (descL lo n nrem) Q st := by
  unfold descL
  refine wpS_forRange (I := fun x c st' => ∃ neq, c = (none, x, neq) ∧ Wk a₀ lo (lo + nrem) st st' ∧ NonI (arrOf st') lo (lo + x) ∧ neq + 1 ≤ x ∧ (∀ i, lo + x - (neq + 1) ≤ i → i < lo + x → K (arrOf st') i = K (arrOf st') (lo + x - 1))) ?_ ?_
    ⟨0, rfl, .refl hB, hs, by omega, fun i h1 h2 => by congr 1; omega⟩
  · rintro x c st' hax hxn ⟨neq, rfl, hW, hs', hq, he⟩
    dsimp only
    have hsz : lo + x ≤ (arrOf st').size := by rw [hW.sb.size]; omega
    refine wpS_bind (wpS_lt2 hW.sb h0 (by omega) (by omega) ?_)
    by_cases hless : K (arrOf st') (lo + x) < K (arrOf st') (lo + x - 1)
    · simp only [hless, decide_true, if_true]
      by_cases hneq : neq > 0
      · rw [if_pos hneq]
        have hW2 := hW.trans (.mirror (i := lo + x - (neq + 1)) (j := lo + x) hW.sb hsz (by omega) (by omega))
        refine wpS_bind (w_rev (wpS_pure ⟨0, rfl, hW2, ?_, by omega, fun i h1 h2 => by congr 1; omega⟩))
        have hK := K_mirror_equal hsz he
        refine non_more (x := lo + x) (fun i j h1 h2 h3 => ?_) (by omega) ?_
        · show K (mirror (arrOf st') _ _ _) j ≤ K (mirror (arrOf st') _ _ _) i
          rw [hK, hK]; exact hs' i j h1 h2 h3
        · show K (mirror (arrOf st') _ _ _) _ ≤ K (mirror (arrOf st') _ _ _) _
          rw [hK, hK]; exact Int.le_of_lt hless
      · rw [if_neg hneq]
        exact wpS_pure ⟨0, rfl, hW, non_more (x := lo + x) hs' (by omega) (Int.le_of_lt hless), by omega, fun i h1 h2 => by congr 1; omega⟩
    · simp only [hless, decide_false, Bool.false_eq_true, if_false]
      refine wpS_bind (wpS_lt2 hW.sb h0 (by omega) (by omega) ?_)
      by_cases hlarger : K (arrOf st') (lo + x - 1) < K (arrOf st') (lo + x)
      · simp only [hlarger, decide_true, if_true]
        exact wpS_pure (h x neq st' hW hax (by omega) hs' hq he)
      · simp only [hlarger, decide_false, Bool.false_eq_true, if_false]
        have heqx : K (arrOf st') (lo + x) = K (arrOf st') (lo + x - 1) := by omega
        refine wpS_pure ⟨neq + 1, rfl, hW, non_more (x := lo + x) hs' (by omega) (Int.le_of_eq heqx), by omega, fun i h1 h2 => ?_⟩
        rw [show lo + (x + 1) - 1 = lo + x by omega]
        by_cases hix : i = lo + x
        · subst hix; rfl
        · rw [heqx]; exact he i (by omega) (by omega)
  · rintro c st' ⟨neq, rfl, hW, hs', hq, he⟩
    rw [show max n nrem = nrem by omega] at hs' hq he ⊢
    exact h nrem neq st' hW hnn (Nat.le_refl _) hs' hq he
theorem w_descPart {n : Nat} {Q : Option Nat → SortSt → Prop} (h0 : IntKeys a₀) (hn : lo + nrem ≤ a₀.size) (hnn : n + 1 ≤ nrem) (hB : SB a₀ st) (hs : NonI (arrOf st) lo (lo + (n + 1)))
    (h : ∀ m st', Wk a₀ lo (lo + nrem) st st' → 1 ≤ m → m ≤ nrem → Srt (arrOf st') lo (lo + m) → Q (some m) st') : wpS (model prog w) A E s (descPartL lo n nrem) Q st := by
  unfold descPartL
  refine wpS_bind (wpS_lift (wpAny_rule ⟨rfl, ?_⟩))
  refine wpS_bind (w_descL h0 hn (by omega) hnn hB hs fun m neq st' hW hm1 hm2 hs' hq he => ?_)
  dsimp only
  have hsz : lo + m ≤ (arrOf st').size := by rw [hW.sb.size]; omega
  by_cases hneq : neq > 0
  · rw [if_pos hneq]
    have hW2 := hW.trans (.mirror (i := lo + m - (neq + 1)) (j := lo + m) hW.sb hsz (by omega) (by omega))
    refine wpS_bind (w_rev (w_tail3 h0 hn (by omega) hm2 hW2.sb ?_ fun m' st'' hW3 => h m' st'' (hW2.trans hW3)))
    intro i j h1 h2 h3
    show K (mirror (arrOf st') _ _ _) j ≤ K (mirror (arrOf st') _ _ _) i
    rw [K_mirror_equal hsz he, K_mirror_equal hsz he]
    exact hs' i j h1 h2 h3
  · rw [if_neg hneq]
    exact w_tail3 h0 hn (by omega) hm2 hW.sb hs' fun m' st'' hW3 => h m' st'' (hW.trans hW3)
theorem w_count {Q : Option Nat → SortSt → Prop} (h0 : IntKeys a₀) (hn : lo + nrem ≤ a₀.size) (h1 : 1 ≤ nrem) (hB : SB a₀ st)
    (h : ∀ m st', Wk a₀ lo (lo + nrem) st st' → 1 ≤ m → m ≤ nrem → Srt (arrOf st') lo (lo + m) → Q (some m) st') : wpS (model prog w) A E s (countRun' lo nrem) Q st := by
  rw [countRunL_eq]
  refine wpS_bind (w_ascL h0 hn (Nat.le_refl 1) h1 hB srt_one fun n hn1 hn2 hsn hor => ?_)
  dsimp only
  by_cases hnn : n = nrem
  · rw [if_pos (by simpa using hnn)]
    exact wpS_pure (h n st (.refl hB) hn1 hn2 hsn)
  · rw [if_neg (by simpa using hnn)]
    have hlt : K (arrOf st) (lo + n) < K (arrOf st) (lo + n - 1) := hor.resolve_left hnn
    by_cases hgt : n > 1
    · rw [if_pos hgt]
      refine wpS_bind (wpS_lt2 hB h0 (by omega) (by omega) ?_)
      by_cases hrose : K (arrOf st) lo < K (arrOf st) (lo + n - 1)
      · simp only [hrose, decide_true, if_true]
        exact wpS_pure (h n st (.refl hB) hn1 hn2 hsn)
      · simp only [hrose, decide_false, Bool.false_eq_true, if_false]
        have hsz : lo + n ≤ (arrOf st).size := by rw [hB.size]; omega
        have hall : ∀ k, lo ≤ k → k < lo + n → K (arrOf st) k = K (arrOf st) (lo + n - 1) := by
          intro k hk1 hk
          have a1 := hsn lo k (Nat.le_refl _) hk1 hk
          have a2 := hsn k (lo + n - 1) hk1 (by omega) (by omega)
          omega
        have hW : Wk a₀ lo (lo + nrem) st (setArr st (mirror (arrOf st) lo (lo + n) ((lo + n - lo) / 2))) := .mirror hB hsz (Nat.le_refl _) (by omega)
        refine wpS_bind (w_rev (w_descPart h0 hn (by omega) hW.sb ?_ fun m st' hW' => h m st' (hW.trans hW')))
        have hK := K_mirror_equal hsz hall
        have hno : NonI (arrOf st) lo (lo + n) := fun i j h1 h2 h3 => by rw [hall i h1 (by omega), hall j (by omega) h3]; exact Int.le_refl _
        intro i j h1 h2 h3
        show K (mirror (arrOf st) _ _ _) j ≤ K (mirror (arrOf st) _ _ _) i
        rw [hK, hK]
        exact non_more (x := lo + n) hno (by omega) (Int.le_of_lt hlt) i j h1 h2 (by omega)
    · rw [if_neg hgt]
      have hn1' : n = 1 := by omega
      subst hn1'
      refine w_descPart h0 hn (by omega) hB ?_ h
      have hno : NonI (arrOf st) lo (lo + 1) := fun i j _ _ _ => by
        have : i = j := by omega
        subst this; exact Int.le_refl _
      exact non_more (x := lo + 1) hno (by omega) (Int.le_of_lt hlt)
theorem w_bin {n ok : Nat} {Q : Bool → SortSt → Prop} (h0 : IntKeys a₀) (hn : lo + n ≤ a₀.size) (hok : ok ≤ n) (hB : SB a₀ st) (hs : Srt (arrOf st) lo (lo + ok))
    (h : ∀ st', Wk a₀ lo (lo + n) st st' → Srt (arrOf st') lo (lo + n) → Q true st') : wpS (model prog w) A E s (binarySort' lo n ok) Q st := by
  rw [binarySort'_eq]
  refine wpS_bind (wpS_mono (wpS_forRange (I := fun k c st' => c = (none, ()) ∧ Wk a₀ lo (lo + n) st st' ∧ Srt (arrOf st') lo (lo + min k n))
    (Q := fun c st' => c = (none, ()) ∧ Wk a₀ lo (lo + n) st st' ∧ Srt (arrOf st') lo (lo + n)) ?_ ?_ ⟨rfl, .refl hB, fun i j h1 hij hj => ?_⟩) ?_)
  · rintro k c st' hak hkn ⟨rfl, hW, hs'⟩
    rw [show min k n = k by omega] at hs'
    have hk : lo + k < a₀.size := by omega
    refine wpS_bind (wpS_mono (wpS_forRange (I := fun x c st'' => st'' = st' ∧ ∃ l r, c = (none, l, r) ∧ l ≤ r ∧ r ≤ k ∧ r - l ≤ k - x ∧
        (∀ i, i < l → K (arrOf st') (lo + i) ≤ K (arrOf st') (lo + k)) ∧ (∀ i, r ≤ i → i < k → K (arrOf st') (lo + k) < K (arrOf st') (lo + i)))
      (Q := fun c st'' => st'' = st' ∧ ∃ l r, c = (none, l, r) ∧ l ≤ k ∧
        (∀ i, i < l → K (arrOf st') (lo + i) ≤ K (arrOf st') (lo + k)) ∧ (∀ i, l ≤ i → i < k → K (arrOf st') (lo + k) < K (arrOf st') (lo + i))) ?_ ?_ ⟨rfl, 0, k, rfl, by omega, by omega, by omega, fun i hi => by omega, fun i h1 h2 => by omega⟩) ?_)
    · rintro x c st'' _ hxk ⟨rfl, l, r, rfl, hlr, hrk, hm, hlo, hhi⟩
      dsimp only
      by_cases hge : l ≥ r
      · rw [if_pos hge]
        have : l = r := by omega
        subst this
        exact wpS_pure ⟨rfl, l, l, rfl, hrk, hlo, hhi⟩
      · rw [if_neg hge]
        refine wpS_bind (wpS_lt2 hW.sb h0 hk (by omega) ?_)
        by_cases hless : K (arrOf st'') (lo + k) < K (arrOf st'') (lo + (l + r) / 2)
        · simp only [hless, decide_true, if_true]
          refine wpS_pure ⟨rfl, l, (l + r) / 2, rfl, by omega, by omega, by omega, hlo, fun i h1 h2 => ?_⟩
          exact Int.lt_of_lt_of_le hless (hs' _ _ (by omega) (by omega) (by omega))
        · simp only [hless, decide_false, Bool.false_eq_true, if_false]
          refine wpS_pure ⟨rfl, (l + r) / 2 + 1, r, rfl, by omega, by omega, by omega, fun i h1 => ?_, hhi⟩
          exact Int.le_trans (hs' (lo + i) (lo + (l + r) / 2) (by omega) (by omega) (by omega)) (Int.not_lt.mp hless)
    · rintro c st'' ⟨rfl, l, r, rfl, hlr, hrk, hm, hlo, hhi⟩
      have : l = r := by omega
      subst this
      exact ⟨rfl, l, l, rfl, hrk, hlo, hhi⟩
    · rintro c st'' ⟨rfl, l, r, rfl, hlk, hlo, hhi⟩
      show wpS _ _ _ _ (do moveDown' (lo + k) (lo + l); pure (ForInStep.yield (none, ()))) _ _
      rw [moveDown'_eq]
      have hks : lo + k < (arrOf st'').size := by rw [hW.sb.size]; exact hk
      refine wpS_bind (wpS_modify (wpS_pure ⟨rfl, hW.trans ⟨hW.sb.setArr (bubble_perm _ _ _), fun i hi => ?_, rfl⟩, ?_⟩))
      · have e := getElem?_bubble hks (lo + k - (lo + l)) (by omega) i
        rw [if_neg (by omega), if_neg (by omega)] at e
        exact e
      · rw [show min (k + 1) n = k + 1 by omega]
        intro i j h1 hij hj
        show K (bubble (arrOf st'') (lo + k) (lo + k - (lo + l))) i ≤ K (bubble (arrOf st'') (lo + k) (lo + k - (lo + l))) j
        rw [K_bubble hks (by omega), K_bubble hks (by omega), show lo + k - (lo + k - (lo + l)) = lo + l by omega]
        have hlo' : ∀ i, lo ≤ i → i < lo + l → K (arrOf st'') i ≤ K (arrOf st'') (lo + k) := fun i h1 h2 => by
          have := hlo (i - lo) (by omega); rwa [show lo + (i - lo) = i by omega] at this
        have hhi' : ∀ i, lo + l ≤ i → i < lo + k → K (arrOf st'') (lo + k) < K (arrOf st'') i := fun i h1 h2 => by
          have := hhi (i - lo) (by omega) (by omega); rwa [show lo + (i - lo) = i by omega] at this
        repeat' split
        all_goals first
          | (exfalso; omega)
          | exact Int.le_refl _
          | exact hlo' _ (by omega) (by omega)
          | exact Int.le_of_lt (hhi' _ (by omega) (by omega))
          | exact hs' _ _ (by omega) (by omega) (by omega)
  · rintro c st' ⟨hc, hW, hs'⟩
    refine ⟨hc, hW, ?_⟩
    rwa [show min (max (max ok 1) n) n = n by omega] at hs'
  · by_cases h2 : ok = 0
    · have : i = j := by omega
      subst this; exact Int.le_refl _
    · exact hs i j h1 hij (by omega)
  · rintro c st' ⟨rfl, hW, hs'⟩
    exact wpS_pure (h st' hW hs')
end
end Mine
namespace Mine
open PySem PyProof.Rows
theorem mergeAt'_eq (i : Nat) : mergeAt' i = (do
  let s ← get
  let (some (sa, na, power), some (sb, nb, _)) := ((pendingOf s)[i]?, (pendingOf s)[i + 1]?) | unsupported "internal:list.sort.pending"
  set (setPending s (((pendingOf s).setIfInBounds i (sa, na + nb, power)).eraseIdxIfInBounds (i + 1)))
  let some k ← gallop' false (← elem' (arrOf s) sb) (arrOf s) sa na 0 | return false
  let (sa, na) := (sa + k, na - k)
  if na == 0 then return true
  let some nb ← gallop' true (← elem' (arrOf s) (sa + na - 1)) (arrOf s) sb nb (nb - 1) | return false
  if nb == 0 then return true
  let x := (arrOf s).extract sa sb
  let y := (arrOf s).extract sb (sb + nb)
  let merged ← if na ≤ nb then mergeLo' x y else mergeHi' x y
  modify fun s => setArr s (merged.toList.zipIdx.foldl (fun a (p, j) => a.setIfInBounds (sa + j) p) (arrOf s))
  return (failedOf (← get)).isNone) := rfl
/-- a row written into an array -/
noncomputable def wr (sa : Nat) (l : List (Keyed × Nat)) (xs : Array Keyed) : Array Keyed := l.foldl (fun a (p, j) => a.setIfInBounds (sa + j) p) xs
theorem wr_list (sa : Nat) : ∀ (m : List Keyed) (n : Nat) (xs : Array Keyed), sa + n + m.length ≤ xs.size → (wr sa (m.zipIdx n) xs).toList = xs.toList.take (sa + n) ++ m ++ xs.toList.drop (sa + n + m.length)
  | [], n, xs, _ => by
    show xs.toList = _
    rw [List.append_nil, List.length_nil, Nat.add_zero, List.take_append_drop]
  | p :: m, n, xs, h => by
    rw [List.length_cons] at h
    show (wr sa (m.zipIdx (n + 1)) (xs.setIfInBounds (sa + n) p)).toList = _
    rw [wr_list sa m (n + 1) _ (by rw [Array.size_setIfInBounds]; omega)]
    have hlt : sa + n < xs.toList.length := by rw [Array.length_toList]; omega
    have e : (xs.setIfInBounds (sa + n) p).toList = xs.toList.set (sa + n) p := Array.toList_setIfInBounds ..
    rw [e, List.set_eq_take_append_cons_drop, if_pos hlt]
    have hl : (xs.toList.take (sa + n)).length = sa + n := by rw [List.length_take]; omega
    have e1 : (xs.toList.take (sa + n) ++ p :: xs.toList.drop (sa + n + 1)).take (sa + (n + 1)) = xs.toList.take (sa + n) ++ [p] := by
      rw [List.take_append, hl, List.take_of_length_le (by omega), show sa + (n + 1) - (sa + n) = 1 by omega]; rfl
    have e2 : (xs.toList.take (sa + n) ++ p :: xs.toList.drop (sa + n + 1)).drop (sa + (n + 1) + m.length) = xs.toList.drop (sa + n + (m.length + 1)) := by
      rw [List.drop_append, hl, List.drop_of_length_le (by omega), List.nil_append, show sa + (n + 1) + m.length - (sa + n) = m.length + 1 by omega, List.drop_succ_cons, List.drop_drop]
      congr 1; omega
    rw [e1, e2, List.append_assoc, List.length_cons]
    simp
/-- the runs that wait, one behind the other -/
noncomputable def Chain : Nat → List (Nat × Nat × Nat) → Nat → Prop
  | s, [], e => s = e
  | s, (a, n, _) :: r, e => a = s ∧ 1 ≤ n ∧ Chain (s + n) r e
theorem Chain.len : ∀ {l : List (Nat × Nat × Nat)} {s e : Nat}, Chain s l e → s + l.length ≤ e
  | [], _, _, h => Nat.le_of_eq h
  | (_, n, _) :: r, s, e, h => by have := Chain.len h.2.2; have := h.2.1; rw [List.length_cons]; omega
theorem Chain.snoc : ∀ {l : List (Nat × Nat × Nat)} {s e n p : Nat}, Chain s l e → 1 ≤ n → Chain s (l ++ [(e, n, p)]) (e + n)
  | [], s, e, n, p, h, hn => ⟨h.symm, hn, by show s + n = e + n; rw [show s = e from h]⟩
  | (a, m, q) :: r, s, e, n, p, h, hn => ⟨h.1, h.2.1, Chain.snoc h.2.2 hn⟩
/-- the third number is of no weight -/
theorem Chain.pw : ∀ {l : List (Nat × Nat × Nat)} {s e i p : Nat}, Chain s l e → Chain s (l.modify i fun x => (x.1, x.2.1, p)) e
  | [], _, _, i, _, h => by cases i <;> exact h
  | (a, n, q) :: r, s, e, 0, p, h => h
  | (a, n, q) :: r, s, e, i + 1, p, h => ⟨h.1, h.2.1, Chain.pw (l := r) (i := i) h.2.2⟩
/-- two neighbours made one -/
theorem Chain.two : ∀ {l : List (Nat × Nat × Nat)} {s e i : Nat} {x y : Nat × Nat × Nat}, Chain s l e → l[i]? = some x → l[i + 1]? = some y →
    (s ≤ x.1 ∧ y.1 = x.1 + x.2.1 ∧ 1 ≤ x.2.1 ∧ 1 ≤ y.2.1 ∧ y.1 + y.2.1 ≤ e) ∧ Chain s ((l.set i (x.1, x.2.1 + y.2.1, x.2.2)).eraseIdx (i + 1)) e ∧
    ∀ r ∈ (l.set i (x.1, x.2.1 + y.2.1, x.2.2)).eraseIdx (i + 1), r = (x.1, x.2.1 + y.2.1, x.2.2) ∨ (r ∈ l ∧ (r.1 + r.2.1 ≤ x.1 ∨ y.1 + y.2.1 ≤ r.1))
  | (a, n, q) :: (b, m, t) :: r, s, e, 0, x, y, h, hx, hy => by
    cases hx
    cases hy
    obtain ⟨h1, h2, h3, h4, h5⟩ := h
    have hl := Chain.len h5
    have above : ∀ {l : List (Nat × Nat × Nat)} {s e : Nat}, Chain s l e → ∀ r ∈ l, s ≤ r.1 := by
      intro l
      induction l with
      | nil => intro _ _ _ r hr; exact nomatch hr
      | cons z l ih =>
        intro s e hc r hr
        rcases List.mem_cons.mp hr with rfl | hr
        · exact Nat.le_of_eq hc.1.symm
        · have := ih hc.2.2 r hr; omega
    refine ⟨⟨Nat.le_of_eq h1.symm, by dsimp only; omega, h2, h4, by dsimp only; omega⟩, ⟨h1, by dsimp only; omega, ?_⟩, fun z hz => ?_⟩
    · show Chain (s + (n + m)) r e
      rw [← Nat.add_assoc]; exact h5
    · rcases List.mem_cons.mp hz with rfl | hz
      · exact .inl rfl
      · refine .inr ⟨.tail _ (.tail _ hz), .inr ?_⟩
        have := above h5 z hz
        dsimp only; omega
  | (a, n, q) :: l, s, e, i + 1, x, y, h, hx, hy => by
    obtain ⟨⟨g1, g2, g3, g4, g5⟩, g6, g7⟩ := Chain.two h.2.2 (show l[i]? = some x from hx) (show l[i + 1]? = some y from hy)
    have h1 := h.1
    refine ⟨⟨by omega, g2, g3, g4, g5⟩, ⟨h.1, h.2.1, g6⟩, fun z hz => ?_⟩
    rcases List.mem_cons.mp hz with rfl | hz
    · exact .inr ⟨.head _, .inl (by dsimp only; omega)⟩
    · rcases g7 z hz with q | ⟨q1, q2⟩
      · exact .inl q
      · exact .inr ⟨.tail _ q1, q2⟩
structure Runs (a₀ : Array Keyed) (lo : Nat) (st : SortSt) : Prop where
  sb : SB a₀ st
  ch : Chain 0 (pendingOf st).toList lo
  le : lo ≤ a₀.size
  srt : ∀ r ∈ (pendingOf st).toList, Srt (arrOf st) r.1 (r.1 + r.2.1)
theorem Srt.out {xs ys : Array Keyed} {lo hi a b : Nat} (h : Srt xs a b) (ho : Out lo hi xs ys) (hd : b ≤ lo ∨ hi ≤ a) : Srt ys a b := fun i j h1 h2 h3 => by
  rw [ho.K (by omega), ho.K (by omega)]; exact h i j h1 h2 h3
section
variable {prog : Program} {w : World} {A : Around} {E : Value → Shared → Prop} {s : Shared} {a₀ : Array Keyed} {st : SortSt} {lo : Nat}
theorem ext_mem {xs : Array Keyed} {a b : Nat} {p : Keyed} (h : p ∈ (xs.extract a b).toList) : ∃ j, a ≤ j ∧ j < b ∧ j < xs.size ∧ K xs j = numOf p.1 := by
  rw [ext_mid] at h; exact mem_mid_at h
theorem ext_sd {xs : Array Keyed} {a b : Nat} (h : Srt xs a b) (hb : b ≤ xs.size) : Sd (xs.extract a b).toList := by
  rw [ext_mid]
  refine List.pairwise_iff_getElem.mpr fun i j hi hj hij => ?_
  rw [List.length_drop, List.length_take, Array.length_toList] at hi hj
  rw [List.getElem_drop, List.getElem_drop, List.getElem_take, List.getElem_take, ← K_list (by rw [Array.length_toList]; omega), ← K_list (by rw [Array.length_toList]; omega)]
  exact h _ _ (by omega) (by omega) (by omega)
theorem ext_ints {xs : Array Keyed} {a b : Nat} (h : IntKeys xs) : IntKeys (xs.extract a b) := fun p hp => by
  rw [ext_mid] at hp
  exact h p (List.mem_of_mem_take (List.mem_of_mem_drop hp))
theorem ext_K {xs : Array Keyed} {a b i : Nat} (h : a + i < b) (hb : b ≤ xs.size) : K (xs.extract a b) i = K xs (a + i) := by
  unfold K; rw [Array.getElem?_extract, if_pos (by omega)]
/-- what comes of two rows when they are merged -/
theorem merged_srt {xs ys : Array Keyed} {sa sb e c d : Nat} {m : List Keyed} {k b : Int} (h1 : sa ≤ c) (h2 : c ≤ sb) (h3 : sb ≤ d) (h4 : d ≤ e) (he : e ≤ xs.size) (hm : m.length = d - c) (hys : ys.toList = xs.toList.take c ++ m ++ xs.toList.drop d)
    (sA : Srt xs sa sb) (sB : Srt xs sb e) (f1 : ∀ i, sa ≤ i → i < c → K xs i ≤ k) (f2 : ∀ p ∈ m, k ≤ numOf p.1 ∧ numOf p.1 ≤ b) (f3 : ∀ i, d ≤ i → i < e → b ≤ K xs i) (f4 : Sd m) (hkb : k ≤ b) : Srt ys sa e ∧ Out sa e xs ys := by
  have hl : (xs.toList.take c).length = c := by rw [List.length_take, Array.length_toList]; omega
  have g1 : ∀ i, i < c → ys[i]? = xs[i]? := fun i hi => by
    have h' : i < (xs.toList.take c).length := by omega
    rw [← Array.getElem?_toList, hys, List.append_assoc, List.getElem?_append_left h', List.getElem?_take_of_lt hi, Array.getElem?_toList]
  have g2 : ∀ i, c ≤ i → i < d → ys[i]? = m[i - c]? := fun i hi hd => by
    rw [← Array.getElem?_toList, hys, List.append_assoc, List.getElem?_append_right (by omega), hl, List.getElem?_append_left (by omega)]
  have g3 : ∀ i, d ≤ i → ys[i]? = xs[i]? := fun i hi => by
    rw [← Array.getElem?_toList, hys, List.append_assoc, List.getElem?_append_right (by omega), hl, List.getElem?_append_right (by omega), List.getElem?_drop, Array.getElem?_toList]
    congr 1; omega
  have k1 : ∀ i, i < c → K ys i = K xs i := fun i hi => K_congr (g1 i hi)
  have k3 : ∀ i, d ≤ i → K ys i = K xs i := fun i hi => K_congr (g3 i hi)
  have k2 : ∀ i, (hi : c ≤ i) → (hd : i < d) → K ys i = numOf (m[i - c]'(by omega)).1 := fun i hi hd => by
    unfold K; rw [g2 i hi hd, List.getElem?_eq_getElem (by omega)]
  refine ⟨fun i j h1 h2 h3 => ?_, fun i hi => ?_⟩
  · by_cases a1 : j < c
    · rw [k1 i (by omega), k1 j a1]; exact sA i j h1 h2 (by omega)
    · by_cases a2 : j < d
      · rw [k2 j (by omega) a2]
        by_cases b1 : i < c
        · rw [k1 i b1]
          exact Int.le_trans (f1 i h1 b1) (f2 _ (List.getElem_mem _)).1
        · rw [k2 i (by omega) (by omega)]
          by_cases e : i = j
          · subst e; exact Int.le_refl _
          · exact List.pairwise_iff_getElem.mp f4 (i - c) (j - c) (by omega) (by omega) (by omega)
      · rw [k3 j (by omega)]
        by_cases b1 : i < c
        · rw [k1 i b1]
          exact Int.le_trans (f1 i h1 b1) (Int.le_trans hkb (f3 j (by omega) h3))
        · by_cases b2 : i < d
          · rw [k2 i (by omega) b2]
            exact Int.le_trans (f2 _ (List.getElem_mem _)).2 (f3 j (by omega) h3)
          · rw [k3 i (by omega)]; exact sB i j (by omega) h2 h3
  · rcases hi with hi | hi
    · exact g1 i (by omega)
    · exact g3 i (by omega)
end
end Mine
namespace Mine
open PySem PyProof.Rows
section
variable {prog : Program} {w : World} {A : Around} {E : Value → Shared → Prop} {s : Shared} {a₀ : Array Keyed} {st : SortSt} {lo : Nat}
theorem wpS_set {st' : SortSt} {Q : PUnit → SortSt → Prop} (h : Q ⟨⟩ st') : wpS (model prog w) A E s (set st' : StateT SortSt Sem PUnit) Q st := by
  unfold wpS; rw [StateT.run_set]; exact wpAny_pure ⟨rfl, h⟩
theorem nA {a c n b : Nat} (e : b = a + n) (h : c < n) : a + c + (n - c) - 1 = b - 1 := by rw [e, Nat.add_assoc, Nat.add_sub_cancel' (Nat.le_of_lt h)]
theorem nB {a b : Nat} (h : a < b) : a + (b - a - 1) = b - 1 := by obtain ⟨k, rfl⟩ := Nat.exists_eq_add_of_lt h; rw [Nat.add_assoc, Nat.add_sub_cancel_left, Nat.add_sub_cancel, ← Nat.add_assoc, Nat.add_sub_cancel]
theorem nC {x y d : Nat} (h : x < y) : y - x + d = y + d - x := (Nat.sub_add_comm (Nat.le_of_lt h)).symm
theorem nD {a b : Nat} (h : a < b) : a + (b - a - 1) < b := by omega
theorem nE {a b : Nat} (h : a < b) : a ≤ b - 1 := by omega
theorem nF {a b : Nat} (h : a < b) : b - 1 < b := by omega
theorem nG {a b n : Nat} (h : b < a + n) (h1 : a ≤ b) : b - a < n := by omega
/-- two rows that lie side by side become one -/
theorem w_mergeAt {i : Nat} {Q : Bool → SortSt → Prop} (h0 : IntKeys a₀) (R : Runs a₀ lo st) (hi : i + 1 < (pendingOf st).size)
    (h : ∀ st', Runs a₀ lo st' → (pendingOf st').size + 1 = (pendingOf st).size → Out 0 lo (arrOf st) (arrOf st') → Q true st') : wpS (model prog w) A E s (mergeAt' i) Q st := by
  have hI := R.sb.ints h0
  have hsz := R.sb.size
  have hx := List.getElem?_eq_getElem (l := (pendingOf st).toList) (i := i) (by rw [Array.length_toList]; omega)
  have hy := List.getElem?_eq_getElem (l := (pendingOf st).toList) (i := i + 1) (by rw [Array.length_toList]; omega)
  rcases hxe : (pendingOf st).toList[i]'(by rw [Array.length_toList]; omega) with ⟨sa, na, pw⟩
  rcases hye : (pendingOf st).toList[i + 1]'(by rw [Array.length_toList]; omega) with ⟨sb, nb, pw2⟩
  rw [hxe] at hx
  rw [hye] at hy
  obtain ⟨⟨_, e1, e2, e3, e4⟩, hch, hmem⟩ := Chain.two R.ch hx hy
  have sA := R.srt _ (List.mem_of_getElem? hx)
  have sB := R.srt _ (List.mem_of_getElem? hy)
  have hle := R.le
  dsimp only at e1 e2 e3 e4 sA sB
  rw [← e1] at sA
  rw [Array.getElem?_toList] at hx hy
  -- the state behind
  have fin : ∀ (g : Nat) (ys : Array Keyed), ys.Perm (arrOf st) → Srt ys sa (sb + nb) → Out sa (sb + nb) (arrOf st) ys →
      Q true (SortSt.mk' (kindOf st) ys (((pendingOf st).setIfInBounds i (sa, na + nb, pw)).eraseIdxIfInBounds (i + 1)) g (failedOf st)) := fun g ys hp hs ho => by
    have hpl : (((pendingOf st).setIfInBounds i (sa, na + nb, pw)).eraseIdxIfInBounds (i + 1)).toList = ((pendingOf st).toList.set i (sa, na + nb, pw)).eraseIdx (i + 1) := by
      rw [Array.toList_eraseIdxIfInBounds, Array.toList_setIfInBounds]
    refine h _ ⟨⟨hp.trans R.sb.perm, R.sb.kind, R.sb.failed⟩, ?_, hle, fun r hr => ?_⟩ ?_ (fun k hk => ho k (by omega))
    · show Chain 0 (((pendingOf st).setIfInBounds i (sa, na + nb, pw)).eraseIdxIfInBounds (i + 1)).toList lo
      rw [hpl]; exact hch
    · have hr : r ∈ (((pendingOf st).setIfInBounds i (sa, na + nb, pw)).eraseIdxIfInBounds (i + 1)).toList := hr
      rw [hpl] at hr
      show Srt ys r.1 (r.1 + r.2.1)
      rcases hmem r hr with rfl | ⟨q1, q2⟩
      · show Srt ys sa (sa + (na + nb))
        rw [show sa + (na + nb) = sb + nb by omega]; exact hs
      · exact (R.srt r q1).out ho (by dsimp only at q2; omega)
    · show (((pendingOf st).setIfInBounds i (sa, na + nb, pw)).eraseIdxIfInBounds (i + 1)).size + 1 = _
      rw [← Array.length_toList, hpl, List.length_eraseIdx_of_lt (by rw [List.length_set, Array.length_toList]; omega), List.length_set, Array.length_toList]
      omega
  have keep : ∀ (g : Nat), Srt (arrOf st) sa (sb + nb) → Q true (SortSt.mk' (kindOf st) (arrOf st) (((pendingOf st).setIfInBounds i (sa, na + nb, pw)).eraseIdxIfInBounds (i + 1)) g (failedOf st)) := fun g hs => fin g _ (Array.Perm.refl _) hs .refl
  rw [mergeAt'_eq]
  refine wpS_bind (wpS_get ?_)
  rw [hx, hy]
  dsimp only
  refine wpS_bind (wpS_set ?_)
  refine wpS_bind (wpS_elem (by omega) ?_)
  refine wpS_bind (wpS_gallop R.sb.kind hI (hI _ (by simp)) (by omega) (by omega) (by rw [← e1]; exact sA) fun c hc => ?_)
  obtain ⟨c1, c2, c3⟩ := hc
  rw [← K_eq (by omega)] at c2 c3
  have low : ∀ j, sa ≤ j → j < sa + c → K (arrOf st) j ≤ K (arrOf st) sb := fun j h1 h2 => by
    have := c2 (j - sa) (nG h2 h1)
    unfold Bel at this
    rwa [if_neg (by decide), Nat.add_sub_cancel' h1] at this
  have up : ∀ j, sa + c ≤ j → j < sb → K (arrOf st) sb < K (arrOf st) j := fun j h1 h2 => by
    have h0 := Nat.le_trans (Nat.le_add_right _ _) h1
    have := c3 (j - sa) (Nat.le_sub_of_add_le' h1) (nG (e1 ▸ h2) h0)
    unfold Bel at this
    rw [if_neg (by decide), Nat.add_sub_cancel' h0] at this
    exact Int.not_le.mp this
  dsimp only
  by_cases hn : (na - c == 0) = true
  · rw [if_pos hn]
    replace hn : na ≤ c := Nat.le_of_sub_eq_zero (by simpa using hn)
    refine wpS_pure (keep _ fun i j h1 h2 h3 => ?_)
    by_cases a1 : j < sb
    · exact sA i j h1 h2 a1
    · by_cases a2 : i < sb
      · exact Int.le_trans (low i h1 (by omega)) (sB sb j (Nat.le_refl _) (by omega) h3)
      · exact sB i j (by omega) h2 h3
  rw [if_neg hn]
  replace hn : c < na := Nat.lt_of_sub_ne_zero fun q => hn (by rw [q]; rfl)
  refine wpS_bind (wpS_elem (by omega) ?_)
  refine wpS_bind (wpS_gallop R.sb.kind hI (hI _ (by simp)) (by omega) (by omega) sB fun d hd => ?_)
  obtain ⟨d1, d2, d3⟩ := hd
  rw [← K_eq (by omega), nA e1 hn] at d2 d3
  have low2 : ∀ j, sb ≤ j → j < sb + d → K (arrOf st) j < K (arrOf st) (sb - 1) := fun j h1 h2 => by
    have := d2 (j - sb) (nG h2 h1)
    unfold Bel at this
    rwa [if_pos rfl, Nat.add_sub_cancel' h1] at this
  have up2 : ∀ j, sb + d ≤ j → j < sb + nb → K (arrOf st) (sb - 1) ≤ K (arrOf st) j := fun j h1 h2 => by
    have h0 := Nat.le_trans (Nat.le_add_right _ _) h1
    have := d3 (j - sb) (Nat.le_sub_of_add_le' h1) (nG h2 h0)
    unfold Bel at this
    rw [if_pos rfl, Nat.add_sub_cancel' h0] at this
    exact Int.not_lt.mp this
  dsimp only
  by_cases hd0 : (d == 0) = true
  · rw [if_pos hd0]
    replace hd0 : d = 0 := by simpa using hd0
    refine wpS_pure (keep _ fun i j h1 h2 h3 => ?_)
    by_cases a1 : j < sb
    · exact sA i j h1 h2 a1
    · by_cases a2 : i < sb
      · exact Int.le_trans (sA i (sb - 1) h1 (by omega) (by omega)) (up2 j (by omega) h3)
      · exact sB i j (by omega) h2 h3
  rw [if_neg hd0]
  replace hd0 : 0 < d := Nat.pos_of_ne_zero fun q => hd0 (by rw [q]; rfl)
  have f1 : sa + c < sb := by rw [e1]; exact Nat.add_lt_add_left hn _
  have f2 : sb + d ≤ (arrOf st).size := by omega
  have f3 : sb ≤ (arrOf st).size := Nat.le_trans (Nat.le_add_right _ _) f2
  have f4 : sb < sb + d := Nat.lt_add_of_pos_right hd0
  have f5 : sb + d ≤ sb + nb := Nat.add_le_add_left d1 _
  have sx : Srt (arrOf st) (sa + c) sb := fun i j h1 h2 h3 => sA i j (Nat.le_trans (Nat.le_add_right _ _) h1) h2 h3
  have sy : Srt (arrOf st) sb (sb + d) := fun i j h1 h2 h3 => sB i j h1 h2 (Nat.lt_of_lt_of_le h3 f5)
  have zx : ((arrOf st).extract (sa + c) sb).size = sb - (sa + c) := by rw [Array.size_extract, Nat.min_eq_left f3]
  have zy : ((arrOf st).extract sb (sb + d)).size = d := by rw [Array.size_extract, Nat.min_eq_left f2, Nat.add_sub_cancel_left]
  have Kx : K ((arrOf st).extract (sa + c) sb) (((arrOf st).extract (sa + c) sb).size - 1) = K (arrOf st) (sb - 1) := by
    rw [zx, ext_K (nD f1) f3, nB f1]
  have Ky : K ((arrOf st).extract sb (sb + d)) 0 = K (arrOf st) sb := ext_K f4 f2
  have first : ∀ q ∈ ((arrOf st).extract (sa + c) sb).toList, K ((arrOf st).extract sb (sb + d)) 0 ≤ numOf q.1 := fun q hq => by
    obtain ⟨j, h1, h2, _, h3⟩ := ext_mem hq
    rw [Ky, ← h3]; exact Int.le_of_lt (up j h1 h2)
  have last : ∀ p ∈ ((arrOf st).extract sb (sb + d)).toList, numOf p.1 ≤ K ((arrOf st).extract (sa + c) sb) (((arrOf st).extract (sa + c) sb).size - 1) := fun p hp => by
    obtain ⟨j, h1, h2, _, h3⟩ := ext_mem hp
    rw [Kx, ← h3]; exact Int.le_of_lt (low2 j h1 h2)
  have done : ∀ (r : Array Keyed) (st' : SortSt), Same (setPending st (((pendingOf st).setIfInBounds i (sa, na + nb, pw)).eraseIdxIfInBounds (i + 1))) st' →
      Mrg (((arrOf st).extract (sa + c) sb).toList ++ ((arrOf st).extract sb (sb + d)).toList) r.toList →
      wpS (model prog w) A E s (do
        modify fun s => setArr s (r.toList.zipIdx.foldl (fun a (p, j) => a.setIfInBounds (sa + c + j) p) (arrOf s))
        return (failedOf (← get)).isNone) Q st' := fun r st' hS hM => by
    obtain ⟨q1, q2, q3, q4⟩ := hS
    have q1 : arrOf st' = arrOf st := q1
    have q4 : failedOf st' = none := q4.trans R.sb.failed
    have hlen : r.toList.length = sb + d - (sa + c) := by
      rw [hM.1.length_eq, List.length_append, Array.length_toList, Array.length_toList, zx, zy]; exact nC f1
    have hw := wr_list (sa + c) r.toList 0 (arrOf st) (by omega)
    rw [Nat.add_zero, hlen, Nat.add_sub_cancel' (Nat.le_of_lt (Nat.lt_trans f1 f4))] at hw
    have hxy : ((arrOf st).extract (sa + c) sb).toList ++ ((arrOf st).extract sb (sb + d)).toList = ((arrOf st).toList.take (sb + d)).drop (sa + c) := by
      rw [ext_mid, ext_mid, ← List.drop_append_of_le_length (by rw [List.length_take, Array.length_toList, Nat.min_eq_left f3]; exact Nat.le_of_lt f1)]
      congr 1
      have : (arrOf st).toList.take sb = ((arrOf st).toList.take (sb + d)).take sb := by rw [List.take_take, Nat.min_eq_left (Nat.le_of_lt f4)]
      rw [this, List.take_append_drop]
    have hperm : (wr (sa + c) r.toList.zipIdx (arrOf st)).Perm (arrOf st) := by
      refine Array.perm_iff_toList_perm.mpr ?_
      rw [hw]
      have : (arrOf st).toList = (arrOf st).toList.take (sa + c) ++ ((arrOf st).toList.take (sb + d)).drop (sa + c) ++ (arrOf st).toList.drop (sb + d) := by
        have : (arrOf st).toList.take (sa + c) = ((arrOf st).toList.take (sb + d)).take (sa + c) := by rw [List.take_take, Nat.min_eq_left (Nat.le_of_lt (Nat.lt_trans f1 f4))]
        rw [this, List.take_append_drop, List.take_append_drop]
      conv => rhs; rw [this]
      exact List.Perm.append_right _ (List.Perm.append_left _ (hxy ▸ hM.1))
    obtain ⟨s1, s2⟩ := merged_srt (k := K (arrOf st) sb) (b := K (arrOf st) (sb - 1)) (sa := sa) (c := sa + c) (sb := sb) (d := sb + d) (e := sb + nb) (by omega) (by omega) (by omega) (by omega) (by omega) hlen hw sA sB low (fun p hp => by
      rcases List.mem_append.mp (hM.1.mem_iff.mp hp) with hp | hp
      · obtain ⟨j, h1, h2, _, h3⟩ := ext_mem hp
        rw [← h3]
        exact ⟨Int.le_of_lt (up j h1 h2), sA j (sb - 1) (Nat.le_trans (Nat.le_add_right _ _) h1) (nE h2) (nF h2)⟩
      · obtain ⟨j, h1, h2, _, h3⟩ := ext_mem hp
        rw [← h3]
        exact ⟨sB sb j (Nat.le_refl _) h1 (Nat.lt_of_lt_of_le h2 f5), Int.le_of_lt (low2 j h1 h2)⟩) up2 hM.2 (Int.le_of_lt (up (sb - 1) (nE f1) (nF f1)))
    refine wpS_bind (wpS_modify (wpS_bind (wpS_get ?_)))
    have hf : (failedOf (setArr st' (r.toList.zipIdx.foldl (fun a (p, j) => a.setIfInBounds (sa + c + j) p) (arrOf st')))).isNone = true := by
      show (failedOf st').isNone = true
      rw [q4]; rfl
    rw [hf]
    refine wpS_pure ?_
    have q2 : kindOf st' = kindOf st := q2
    have q3 : pendingOf st' = (((pendingOf st).setIfInBounds i (sa, na + nb, pw)).eraseIdxIfInBounds (i + 1)) := q3
    show Q true (SortSt.mk' (kindOf st') (wr (sa + c) r.toList.zipIdx (arrOf st')) (pendingOf st') (gallopOf st') (failedOf st'))
    rw [q1, q2, q3, q4, ← R.sb.failed]
    exact fin _ _ hperm s1 s2
  by_cases hle' : na - c ≤ d
  · rw [if_pos hle']
    exact wpS_bind (wpS_mergeLo ⟨ext_ints hI, ext_ints hI, ext_sd sx f3, ext_sd sy f2, last⟩ R.sb.kind (by omega) (by omega) first fun r st' hS hM => done r st' hS hM)
  · rw [if_neg hle']
    exact wpS_bind (wpS_mergeHi ⟨ext_ints hI, ext_ints hI, ext_sd sx f3, ext_sd sy f2, first⟩ R.sb.kind (by omega) (by omega) last fun r st' hS hM => done r st' hS hM)
end
end Mine
namespace Mine
open PySem PyProof.Rows
section
variable {prog : Program} {w : World} {A : Around} {E : Value → Shared → Prop} {s : Shared} {a₀ : Array Keyed} {st : SortSt} {lo : Nat}
theorem Runs.push {n : Nat} (R : Runs a₀ lo st) (hn : 1 ≤ n) (hl : lo + n ≤ a₀.size) (hs : Srt (arrOf st) lo (lo + n)) : Runs a₀ (lo + n) (setPending st ((pendingOf st).push (lo, n, 0))) := by
  have hp : (pendingOf (setPending st ((pendingOf st).push (lo, n, 0)))).toList = (pendingOf st).toList ++ [(lo, n, 0)] := Array.toList_push
  refine ⟨⟨R.sb.perm, R.sb.kind, R.sb.failed⟩, by rw [hp]; exact R.ch.snoc hn, hl, fun r hr => ?_⟩
  rw [hp] at hr
  rcases List.mem_append.mp hr with hr | hr
  · exact R.srt r hr
  · rw [List.mem_singleton.mp hr]; exact hs
theorem Runs.pw {i p : Nat} (R : Runs a₀ lo st) : Runs a₀ lo (setPending st ((pendingOf st).modify i fun x => (x.1, x.2.1, p))) := by
  have hp : (pendingOf (setPending st ((pendingOf st).modify i fun x => (x.1, x.2.1, p)))).toList = (pendingOf st).toList.modify i fun x => (x.1, x.2.1, p) := Array.toList_modify
  refine ⟨⟨R.sb.perm, R.sb.kind, R.sb.failed⟩, by rw [hp]; exact R.ch.pw, R.le, fun r hr => ?_⟩
  rw [hp] at hr
  obtain ⟨j, hj, e⟩ := List.mem_iff_getElem.mp hr
  rw [List.getElem_modify] at e
  rw [List.length_modify] at hj
  have hm : (pendingOf st).toList[j] ∈ (pendingOf st).toList := List.getElem_mem hj
  have := R.srt _ hm
  split at e
  · rw [← e]; exact this
  · rw [← e]; exact this
theorem Runs.work {lo' hi : Nat} {st' : SortSt} (R : Runs a₀ lo st) (hW : Wk a₀ lo' hi st st') (h : lo ≤ lo') : Runs a₀ lo st' := by
  refine ⟨hW.sb, by rw [hW.pend]; exact R.ch, R.le, fun r hr => ?_⟩
  rw [hW.pend] at hr
  have := R.srt r hr
  refine this.out hW.out (.inl ?_)
  have key : ∀ {l : List (Nat × Nat × Nat)} {s e : Nat}, Chain s l e → ∀ r ∈ l, r.1 + r.2.1 ≤ e := by
    intro l
    induction l with
    | nil => intro _ _ _ r hr; exact nomatch hr
    | cons z l ih =>
      obtain ⟨za, zn, zq⟩ := z
      intro s e hc r hr
      rcases List.mem_cons.mp hr with rfl | hr
      · have := Chain.len hc.2.2; have := hc.1; dsimp only; omega
      · exact ih hc.2.2 r hr
  exact Nat.le_trans (key R.ch r hr) h
theorem ite_le {c : Prop} [Decidable c] {a b n : Nat} (h1 : a ≤ n) (h2 : b ≤ n) : (if c then a else b) ≤ n := by split <;> assumption
theorem w_sortRuns {Q : Unit → SortSt → Prop} (h0 : IntKeys a₀) (hB : SB a₀ st) (hp : pendingOf st = #[]) (h2 : 2 ≤ a₀.size)
    (h : ∀ st', (arrOf st').Perm a₀ → failedOf st' = none → SortedTo (arrOf st') a₀.size → Q () st') : wpS (model prog w) A E s sortRuns' Q st := by
  rw [sortRuns'_eq]
  refine wpS_bind (wpS_get ?_)
  dsimp only
  rw [hB.size]
  generalize minRun' a₀.size a₀.size 0 = mr
  have R0 : Runs a₀ 0 st := ⟨hB, by rw [hp]; exact rfl, Nat.zero_le _, fun r hr => by rw [hp] at hr; exact nomatch hr⟩
  refine wpS_bind (wpS_mono (wpS_forRange (I := fun x c st' => ∃ lo, c = (none, lo) ∧ x ≤ lo ∧ Runs a₀ lo st') (Q := fun c st' => c = (none, a₀.size) ∧ Runs a₀ a₀.size st') ?_ ?_ ⟨0, rfl, Nat.le_refl _, R0⟩) ?_)
  · rintro x c st' _ hx ⟨lo, rfl, hxl, R⟩
    dsimp only
    by_cases hge : lo ≥ a₀.size
    · rw [if_pos hge]
      have : lo = a₀.size := by have := R.le; omega
      subst this
      exact wpS_pure ⟨rfl, R⟩
    rw [if_neg hge]
    refine wpS_bind (w_count h0 (by omega) (by omega) R.sb fun m st2 hW hm1 hm2 hs2 => ?_)
    have R2 := R.work hW (Nat.le_refl _)
    dsimp only
    by_cases hlt : m < mr
    · rw [if_pos hlt]
      refine wpS_bind (wpS_lift (wpAny_rule ⟨rfl, ?_⟩))
      have hn : 1 ≤ min (a₀.size - lo) mr := by omega
      have hl : lo + min (a₀.size - lo) mr ≤ a₀.size := by omega
      refine wpS_bind (w_bin h0 (by omega) (by omega) hW.sb hs2 fun st4 hW4 hs4 => ?_)
      have R4 := R2.work hW4 (Nat.le_refl _)
      rw [if_neg (by decide)]
      generalize min (a₀.size - lo) mr = n at *
      refine wpS_bind (wpS_get ?_)
      cases hb : (pendingOf st4).back? with
      | none => exact wpS_bind (wpS_modify (wpS_pure ⟨lo + n, rfl, by omega, R4.push hn hl hs4⟩))
      | some t =>
        obtain ⟨s1, n1, p1⟩ := t
        dsimp only
        refine wpS_bind (wpS_mono (wpS_forRange (I := fun _ c st3 => c = (none, ()) ∧ Runs a₀ lo st3 ∧ Srt (arrOf st3) lo (lo + n)) (Q := fun c st3 => c = (none, ()) ∧ Runs a₀ lo st3 ∧ Srt (arrOf st3) lo (lo + n)) ?_ (fun _ _ hh => hh) ⟨rfl, R4, hs4⟩) ?_)
        · rintro y c st3 _ _ ⟨rfl, R3, hs3⟩
          refine wpS_bind (wpS_get ?_)
          by_cases hz : (pendingOf st3).size > 1
          · rw [if_pos hz, getElem?_pos (pendingOf st3) ((pendingOf st3).size - 2) (by omega)]
            dsimp only
            split
            · exact wpS_pure ⟨rfl, R3, hs3⟩
            · refine wpS_bind (w_mergeAt h0 R3 (by omega) fun st4 R4 _ ho => ?_)
              rw [if_neg (by decide)]
              exact wpS_pure ⟨rfl, R4, hs3.out ho (.inr (Nat.le_refl _))⟩
          · rw [if_neg hz]
            exact wpS_pure ⟨rfl, R3, hs3⟩
        · rintro c st3 ⟨rfl, R3, hs3⟩
          exact wpS_bind (wpS_modify (wpS_bind (wpS_modify (wpS_pure ⟨lo + n, rfl, by omega, Runs.push R3.pw hn hl hs3⟩))))
    · rw [if_neg hlt]
      have hl : lo + m ≤ a₀.size := by omega
      refine wpS_bind (wpS_get ?_)
      cases hb : (pendingOf st2).back? with
      | none => exact wpS_bind (wpS_modify (wpS_pure ⟨lo + m, rfl, by omega, R2.push hm1 hl hs2⟩))
      | some t =>
        obtain ⟨s1, n1, p1⟩ := t
        dsimp only
        refine wpS_bind (wpS_mono (wpS_forRange (I := fun _ c st3 => c = (none, ()) ∧ Runs a₀ lo st3 ∧ Srt (arrOf st3) lo (lo + m)) (Q := fun c st3 => c = (none, ()) ∧ Runs a₀ lo st3 ∧ Srt (arrOf st3) lo (lo + m)) ?_ (fun _ _ hh => hh) ⟨rfl, R2, hs2⟩) ?_)
        · rintro y c st3 _ _ ⟨rfl, R3, hs3⟩
          refine wpS_bind (wpS_get ?_)
          by_cases hz : (pendingOf st3).size > 1
          · rw [if_pos hz, getElem?_pos (pendingOf st3) ((pendingOf st3).size - 2) (by omega)]
            dsimp only
            split
            · exact wpS_pure ⟨rfl, R3, hs3⟩
            · refine wpS_bind (w_mergeAt h0 R3 (by omega) fun st4 R4 _ ho => ?_)
              rw [if_neg (by decide)]
              exact wpS_pure ⟨rfl, R4, hs3.out ho (.inr (Nat.le_refl _))⟩
          · rw [if_neg hz]
            exact wpS_pure ⟨rfl, R3, hs3⟩
        · rintro c st3 ⟨rfl, R3, hs3⟩
          exact wpS_bind (wpS_modify (wpS_bind (wpS_modify (wpS_pure ⟨lo + m, rfl, by omega, Runs.push R3.pw hm1 hl hs3⟩))))
  · rintro c st' ⟨lo, rfl, hxl, R⟩
    have : lo = a₀.size := by have := R.le; omega
    subst this
    exact ⟨rfl, R⟩
  · rintro c st' ⟨rfl, R⟩
    dsimp only
    have hlen := Chain.len R.ch
    rw [Array.length_toList] at hlen
    refine wpS_bind (wpS_mono (wpS_forRange (I := fun y c st3 => c = (none, ()) ∧ Runs a₀ a₀.size st3 ∧ (pendingOf st3).size + y ≤ a₀.size) (Q := fun c st3 => c = (none, ()) ∧ Runs a₀ a₀.size st3 ∧ (pendingOf st3).size ≤ 1) ?_ ?_ ⟨rfl, R, by omega⟩) ?_)
    · rintro y c st3 _ _ ⟨rfl, R3, hc3⟩
      refine wpS_bind (wpS_get ?_)
      by_cases hz : (pendingOf st3).size ≤ 1
      · rw [if_pos hz]
        exact wpS_pure ⟨rfl, R3, hz⟩
      · rw [if_neg hz]
        refine wpS_bind (w_mergeAt h0 R3 (Nat.lt_of_le_of_lt (Nat.add_le_add_right (ite_le (n := (pendingOf st3).size - 2) (Nat.sub_le _ _) (Nat.le_refl _)) 1) (by omega)) fun st4 R4 hz4 _ => ?_)
        rw [if_neg (by decide)]
        exact wpS_pure ⟨rfl, R4, by omega⟩
    · rintro c st3 ⟨rfl, R3, hc3⟩
      exact ⟨rfl, R3, by omega⟩
    · rintro c st3 ⟨rfl, R3, hz⟩
      refine wpS_pure (h st3 R3.sb.perm R3.sb.failed ?_)
      have hch := R3.ch
      have hsr := R3.srt
      rw [← Array.length_toList] at hz
      match hl : (pendingOf st3).toList, hz with
      | [], _ => rw [hl] at hch; have : 0 = a₀.size := hch; omega
      | [(q, n, p)], _ =>
        rw [hl] at hch hsr
        obtain ⟨h1, h2', h3⟩ := hch
        have h3 : 0 + n = a₀.size := h3
        have := hsr (q, n, p) (.head _)
        intro i j hij hj
        exact this i j (by dsimp only; omega) hij (by dsimp only; omega)
/-- list.sort on numbers -/
theorem sort_any {a : Addr} {vs : List Value} {ns : List Int} {n : Nat} {P : Fin → Shared → Prop} (ho : s.heap.get? a = some (seqObj "list" vs.toArray n)) (hI : IntsAre vs ns) (hz : vs.length ≤ sizeLine)
    (h : ∀ (out : Array Value) (ns' : List Int), IntsAre out.toList ns' → ns'.Perm ns → ns'.Pairwise (· ≤ ·) → P (.done (.ret .none)) { s with heap := sortedHeap s.heap a vs out }) :
    wpAny (model prog w) A (Builtin.«list.sort» ⟨[.ref a], []⟩) P E s := by
  by_cases h64 : vs.length < 64
  · exact list_sort_tree ho hI h64 h
  · obtain ⟨v₁, v₂, rest, rfl⟩ : ∃ v₁ v₂ rest, vs = v₁ :: v₂ :: rest := by
      match vs, h64 with
      | [], h64 => exact absurd (show 0 < 64 by decide) h64
      | [_], h64 => exact absurd (show 1 < 64 by decide) h64
      | v₁ :: v₂ :: rest, _ => exact ⟨v₁, v₂, rest, rfl⟩
    rw [list_sort_plain]
    have hlt : a < s.heap.objs.size := Heap.lt_size ho
    obtain ⟨m1, ho1⟩ : ∃ m, (s.heap.update a (Obj.mapSeq fun _ => #[])).get? a = some (seqObj "list" #[] m) := ⟨_, get?_update_seq ho fun _ => #[]⟩
    refine wpAny_bind (listItems_at ho rfl (wpAny_bind (listUpdate_at ho rfl (wpAny_bind (seqEpoch_at ho1 rfl (wpAny_bind (wpAny_newTuple (wpAny_bind (wpAny_newList (wpAny_holding ?_))))))))))
    have ho6 : (((s.heap.update a (Obj.mapSeq fun _ => #[])).push (seqObj "tuple" (v₁ :: v₂ :: rest).toArray 0)).push (seqObj "list" #[] 0)).get? a = some (seqObj "list" #[] m1) :=
      Heap.get?_push_of_some _ (Heap.get?_push_of_some _ ho1)
    show wpAny (model prog w) A _ P E { s with heap := ((s.heap.update a (Obj.mapSeq fun _ => #[])).push (seqObj "tuple" (v₁ :: v₂ :: rest).toArray 0)).push (seqObj "list" #[] 0) }
    dsimp only
    have h2 : ¬ (v₁ :: v₂ :: rest).toArray.size < 2 := by simp
    rw [if_neg h2, if_neg h2, keyKind_ints hI]
    refine wpAny_bind (wpAny_pure ?_)
    refine wpAny_bind (wpAny_mono (w_sortRuns (a₀ := pairsOf (v₁ :: v₂ :: rest)) (st := SortSt.mk' oneType' ((v₁ :: v₂ :: rest).toArray.zip (v₁ :: v₂ :: rest).toArray) #[] 7 none)
      (Q := fun _ st' => (arrOf st').Perm (pairsOf (v₁ :: v₂ :: rest)) ∧ failedOf st' = none ∧ SortedTo (arrOf st') (pairsOf (v₁ :: v₂ :: rest)).size)
      hI.intKeys ⟨Array.Perm.refl _, rfl, rfl⟩ rfl (by rw [pairsOf_size]; simp) fun st' a1 a2 a3 => ⟨a1, a2, a3⟩) ?_ fun _ _ e => e)
    rintro ⟨⟨⟩, st'⟩ s' ⟨rfl, hp, hf, hs⟩
    obtain ⟨ns', q1, q2, q3⟩ := sorted_out hI hp hs
    dsimp only
    refine wpAny_bind (seqEpoch_at ho6 rfl ?_)
    refine wpAny_bind (listUpdate_at ho6 rfl ?_ (hsz2 := by rw [Array.size_map, hp.size_eq, pairsOf_size]; omega))
    rw [hf]
    simp only [bne_self_eq_false, Bool.false_eq_true, if_false]
    exact wpAny_pure (h _ ns' q1 q2 q3)
end
end Mine
namespace Mine
open PySem

section
variable {prog : Program} {w : World} {A : Around} {E : Value → Shared → Prop} {s : Shared}

/-- a store into a plain list leaves a plain list -/
theorem setAt {l : Addr} {its : Array Value} {n : Nat} {k : Int} {t : Tok} {v : Value} {Q : Unit → Shared → Prop} (ho : s.heap.get? l = some { cls := .type "list", data := .seq its n }) (h0 : 0 ≤ k) (hf : k < 2 ^ 63) (hn : k < its.size)
    (hQ : Q () { s with heap := s.heap.update l (Obj.mapSeq (·.setIfInBounds k.toNat v)) }) : wpAny (model prog w) A (PySem.setItem (.ref l) (.int k t) v) Q E s := by
  have hl : s.heap.IsList l its := ⟨_, ho, rfl, n, rfl⟩
  have hi := fitsIndex_of h0 hf
  unfold PySem.setItem
  refine wpAny_holding ?_
  refine wpAny_bind (wpAny_sequenceKey hl.typeIs (by decide) ?_)
  refine wpAny_bind (wpAny_callSpecial?_slot (name := Str.ofString "__setitem__") hl.typeIs slot_list_setitem
    (wpAny_call_entry slot_list_setitem hl.typeIs entry_list_setitem ?_ (args_list_setitem _ _ _)))
  show wpAny _ _ (Builtin.List.listSubscript? (.int k t) >>= _) _ _ s
  refine wpAny_bind (wpAny_listSubscript_int hi ?_)
  clear hi hf
  obtain ⟨j, rfl⟩ := Int.eq_ofNat_of_zero_le h0
  have hx : its[j]? = some its[j] := Array.getElem?_eq_getElem (by omega)
  show wpAny _ _ ((seqItemAt l j >>= fun r => pure (r.map (j, ·))) >>= _) _ _ s
  refine wpAny_bind (wpAny_bind (wpAny_seqItemAt ho rfl (wpAny_pure ?_)))
  rw [hx]
  show wpAny _ _ (setSeqItemAt l j v >>= _) _ _ s
  refine wpAny_bind (wpAny_setSeqItemAt ho rfl ?_)
  exact wpAny_pure ⟨.none, rfl, wpAny_pure hQ⟩

/-- d.keys() -/
theorem keysMade {K : Type} [DecidableEq K] (knd : KeyKind prog w K) {d : Addr} (hd : (d == sysModules) = false) :
    MeetsIn prog w (Builtin.«dict.keys» ⟨[.ref d], []⟩) (fun _ R s => (∃ kvs, s.heap.DictOf knd d kvs) ∧
      R (.ok (.ret (.ref s.heap.objs.size))) { s with heap := s.heap.push { cls := .type "dict_keys", data := .fields #[.ref d] } }) := by
  intro A R s ⟨⟨kvs, hm⟩, h⟩
  have e1 : Builtin.Dict.showsAll d = pure () := by unfold Builtin.Dict.showsAll; rw [hd]; rfl
  refine wpAny_bind (wpAny_bind (wpAny_notOrdered_dict hm.typeIs ?_))
  show wpAny _ _ (pure d) _ _ s
  refine wpAny_pure ?_
  show wpAny _ _ (Builtin.Dict.showsAll d >>= _) _ _ s
  rw [e1]
  exact wpAny_bind (wpAny_pure (wpAny_bind (wpAny_newObj_type (wpAny_pure h))))

theorem keysSlot : Slot "dict_keys" "__iter__" "dict_keys.__iter__" :=
  Slot.of (owner := "dict_keys") (n := "__iter__") (by rw [typeLookup_type, builtinLookup_eq_fast]; kernel_rfl) (by decide +kernel) (by decide +kernel) (by decide +kernel) (.inl (by decide +kernel)) (by rw [isSubtype_type]; kernel_rfl)
theorem keysEntry : entryFor table "dict_keys.__iter__" = some Builtin.«dict_keys.__iter__» := entryFor_of_tree (by kernel_rfl)
theorem keysArgs (a : Value) : argsOk "dict_keys.__iter__" ⟨[a], []⟩ := by unfold argsOk; kernel_rfl
theorem keysLen : typeLookup (.type "dict_keys") "__len__" = pure (some (.builtin "dict_keys.__len__")) := by rw [typeLookup_type, builtinLookup_eq_fast]; kernel_rfl

variable {v d : Addr} {ov : Obj} {kvs : List (Int × Value)} {ep : Nat}

theorem keysIter (hv : s.heap.get? v = some ov) (hc : ov.cls = .type "dict_keys") (hd : ov.data = .fields #[.ref d]) (hm : s.heap.DictAt (intKind prog w) d kvs ep) {Q : Value → Shared → Prop}
    (hQ : Q (.ref s.heap.objs.size) { s with heap := s.heap.push { cls := .type "dict_keyiterator", data := .fields #[.ref d, .int 0 0, .int kvs.length 0, .int ep 0] } }) : wpAny (model prog w) A (pyIter (.ref v)) Q E s := by
  have hT : s.TypeIs (.ref v) "dict_keys" := ⟨ov, hv, hc⟩
  obtain ⟨o, es, ho, _, hdat, _, hp, _⟩ := id hm
  have hsz : es.size = kvs.length := by rw [← hp.length]; simp
  have hown : Builtin.Dict_items.ownsTuple "dict_keyiterator" = false := by decide
  refine wpAny_pyIter_slot hT keysSlot (wpAny_call_entry keysSlot hT keysEntry ?_ (keysArgs _))
  unfold Builtin.«dict_keys.__iter__» Builtin.Dict_items.dictOf Builtin.Dict_items.newIterator
  refine wpAny_bind (wpAny_pure (wpAny_bind (wpAny_bind (wpAny_field hv hd (x := .ref d) rfl (wpAny_pure ?_)))))
  refine wpAny_bind (wpAny_bind (wpAny_dictEntries ho hdat (wpAny_bind (wpAny_dictEpoch ho hdat ?_))))
  simp only [hown, Bool.false_eq_true, if_false]
  refine wpAny_newObj_type (wpAny_pure ⟨_, rfl, "dict_keyiterator", _, ⟨_, Heap.get?_push_size _ rfl, rfl⟩, PySem.F.slot_dict_keyiterator_next.lookup, ?_⟩)
  simpa [rawInt, hsz] using hQ

theorem keysHint (hT : s.TypeIs (.ref v) "dict_keys") {Q : Bool → Shared → Prop} (h : Q false s) : wpAny (model prog w) A (Builtin.List.listLengthHint (.ref v)) Q E s := by
  have e1 : splitId "dict_keys.__len__" = some ("dict_keys", "__len__") := by decide +kernel
  unfold Builtin.List.listLengthHint
  refine wpAny_bind (wpAny_specialOf hT keysLen ?_)
  generalize hid : ("dict_keys.__len__" : String) = i0 at e1 ⊢
  wp_delta
  rw [e1]
  subst hid
  refine wpAny_bind (wpAny_isInstance (T := "dict_keys") (b := true) hT (by rw [isSubtype_type]; kernel_rfl) ?_)
  refine wpAny_ite_split (fun q => absurd q (by decide)) fun _ => wpAny_ite_split (fun _ => ?_) fun q => absurd (by decide +kernel) q
  exact wpAny_bind (wpAny_typeOf hT (wpAny_pure h))

/-- the keys, collected -/
theorem keysCollect (hh : A.handled = none) (hv : s.heap.get? v = some ov) (hc : ov.cls = .type "dict_keys") (hd : ov.data = .fields #[.ref d]) (hm : s.heap.DictAt (intKind prog w) d kvs ep) (hn : kvs.length ≤ sizeLine) {R : List Value → Shared → Prop}
    (h : ∀ (h' : Heap) (tk : Nat) (acc : Array Value), (∀ b o, s.heap.get? b = some o → h'.get? b = some o) → ItemsOf (fun i x => ∃ k y, kvs[i]? = some (k, y) ∧ (intKind prog w).is k x = true) acc kvs.length → R acc.toList { s with heap := h', toks := tk }) :
    wpAny (model prog w) A (collect (.ref v)) R E s := by
  have hvlt := Heap.lt_size hv
  have hdlt : d < s.heap.objs.size := hm.lt_size
  let S := s.heap.objs.size
  let R0 : Result → Shared → Prop := fun r s' => ∃ (h' : Heap) (tk : Nat) (acc : Array Value) (c : Nat), r = .ok (.ret (.ref S)) ∧ s' = { s with heap := h', toks := tk } ∧ (∀ b o, s.heap.get? b = some o → h'.get? b = some o) ∧
    h'.get? S = some { cls := .type "list", dict := none, data := .seq acc c, slots := #[] } ∧ ItemsOf (fun i x => ∃ k y, kvs[i]? = some (k, y) ∧ (intKind prog w).is k x = true) acc kvs.length
  have run : codeAny (model prog w) A (.builtin "proto.collect" ⟨[.ref v], []⟩) R0 s := by
    refine codeAny_builtin PySem.F.entry_proto_collect ?_
    rw [Around.under_plainId PySem.F.plain_proto_collect _]
    show wpAny _ A.in1 (newList [] >>= fun l => again (.builtin "list.__iadd__" ⟨[l, .ref v], []⟩)) _ _ s
    refine wpAny_bind (wpAny_newObj_type (wpAny_pure ⟨plainId_quiet PySem.F.plain_list_iadd _, codeAny_builtin PySem.F.entry_list_iadd ?_⟩))
    rw [Around.under_plainId PySem.F.plain_list_iadd _]
    generalize hH : s.heap.push { cls := .type "list", dict := none, data := .seq ([] : List Value).toArray } = H1
    have hz1 : H1.objs.size = s.heap.objs.size + 1 := by rw [← hH, Heap.size_push]
    have up1 : ∀ b o, s.heap.get? b = some o → H1.get? b = some o := fun b o e => hH ▸ Heap.get?_push_of_some _ e
    have hS : H1.get? S = some { cls := .type "list", data := .seq #[] } := hH ▸ Heap.get?_push_size _ rfl
    have hv1 := up1 _ _ hv
    have hm1 : H1.DictAt (intKind prog w) d kvs ep := hm.at' fun o e => up1 _ o e
    show wpAny _ A.in1 (Builtin.List.listExtendWith (.ref S) (.ref v) (.ref S)) _ _ { s with heap := H1 }
    unfold Builtin.List.listExtendWith
    have hT1 : ({ s with heap := H1 } : Shared).TypeIs (.ref v) "dict_keys" := ⟨ov, hv1, hc⟩
    refine wpAny_bind (wpAny_typeOf hT1 ?_)
    have e1 : Builtin.List.listSameRef (.ref S) (.ref v) = false := by simp [Builtin.List.listSameRef]; exact Nat.ne_of_gt hvlt
    have e2 : (Value.type "dict_keys" == Value.type "list") = false := by decide
    have e3 : (Value.type "dict_keys" == Value.type "tuple") = false := by decide
    simp only [e1, e2, e3, Bool.or_false, Bool.false_eq_true, if_false]
    refine wpAny_bind (keysIter (s := { s with heap := H1 }) hv1 hc hd hm1 ?_)
    generalize hH2 : H1.push { cls := .type "dict_keyiterator", data := .fields #[.ref d, .int 0 0, .int kvs.length 0, .int ep 0] } = H2
    have up2 : ∀ b o, H1.get? b = some o → H2.get? b = some o := fun b o e => hH2 ▸ Heap.get?_push_of_some _ e
    have hI2 : H2.IsKeyIter H1.objs.size d 0 kvs.length ep := hH2 ▸ ⟨_, Heap.get?_push_size _ rfl, rfl, rfl⟩
    have hm2 : H2.DictAt (intKind prog w) d kvs ep := hm1.at' fun o e => up2 _ o e
    have hS2 := up2 _ _ hS
    have hdI : d ≠ H1.objs.size := by rw [hz1]; exact Nat.ne_of_lt (Nat.lt_succ_of_lt hdlt)
    have hSI : S ≠ H1.objs.size := by rw [hz1]; exact Nat.ne_of_lt (Nat.lt_succ_self _)
    have hSd : S ≠ d := Nat.ne_of_gt hdlt
    have hSf : S ∉ [H1.objs.size, d] := by simp only [List.mem_cons, List.not_mem_nil, or_false, not_or]; exact ⟨hSI, hSd⟩
    have W := Walks.dictKeys (A := A.in1) (knd := intKind prog w) hh H1.objs.size d hdI kvs ep
    have loop : ∀ (H : Heap) (c tk : Nat), (∀ b o, b ≠ S → H2.get? b = some o → H.get? b = some o) → H.get? S = some { cls := .type "list", data := .seq #[] c } →
        codeAny (model prog w) A (.builtin "list.extend.loop" ⟨[.ref S, .ref H1.objs.size, .ref S], []⟩) R0 { s with heap := H, toks := tk } := by
      intro H c tk hk hS'
      refine codeAny_extend_loopS W.toS hn S hSf (.ref S) kvs.length 0 _ #[] c rfl (Nat.zero_le _) ?_ hS' (ItemsOf.nil _) fun s' acc' c' hmv hS'' hacc => ?_
      · exact ⟨hI2.at fun o e => hk _ o (Ne.symm hSI) e, hm2.at' fun o e => hk _ o (Ne.symm hSd) e⟩
      · rw [Moved.eq_with hmv]
        refine ⟨s'.heap, s'.toks, acc', c', rfl, rfl, fun b o e => ?_, hS'', hacc⟩
        have hbS : b ≠ S := fun q => by subst q; exact absurd (Heap.lt_size e) (Nat.lt_irrefl _)
        refine hmv.heap b o (fun hmem => ?_) (hk b o hbS (up2 _ _ (up1 _ _ e)))
        rcases List.mem_cons.mp hmem with q | q
        · exact hbS q
        · rw [List.mem_singleton.mp q, hz1] at e
          exact absurd (Heap.lt_size e) (Nat.not_lt.mpr (Nat.le_succ _))
    refine wpAny_bind (wpAny_holding (keysHint (s := { s with heap := H2 }) ⟨ov, up2 _ _ hv1, hc⟩ ?_))
    refine wpAny_ite_split (fun _ => ?_) fun _ => wpAny_pure ⟨plainId_quiet PySem.F.plain_extend_loop _, loop H2 _ _ (fun _ _ _ e => e) hS2⟩
    refine wpAny_bind (wpAny_rule (wpAny_bind ?_))
    show wpAny _ _ (updateSeq S (·.push .none) >>= fun _ => updateSeq S (·.pop)) _ _ _
    refine wpAny_bind (wpAny_updateSeq hS2 rfl ?_)
    have hS3 := Heap.get?_update_self (Obj.mapSeq (·.push Value.none)) hS2 rfl
    refine wpAny_updateSeq (hz := by seq_fits) hS3 rfl ?_
    have hS4 := Heap.get?_update_self (Obj.mapSeq (·.pop)) hS3 rfl
    refine wpAny_pure ⟨plainId_quiet PySem.F.plain_extend_loop _, loop _ _ _ (fun b o hb e => ?_) hS4⟩
    exact (Heap.get?_update_other _ _ (Ne.symm hb)).trans ((Heap.get?_update_other _ _ (Ne.symm hb)).trans e)
  unfold collect
  refine wpAny_bind (wpAny_runValue (codeAny_mono run fun r s' x => ?_))
  obtain ⟨h', tk, acc, c, rfl, rfl, hk, hS', hacc⟩ := x
  show wpAny _ A (load S >>= _) _ _ _
  exact wpAny_bind (wpAny_load hS' (wpAny_pure (h h' tk acc hk hacc)))
end
end Mine
namespace Mine
open PySem

inductive AV where
  | none
  | bool (b : Bool)
  | int (i : Int)
  | str (x : Str)
  | obj (i : Nat)
  | top (v : Value)

inductive AO where
  | ro (xs : List AV)
  | list (xs : List AV)
  | tuple (xs : List AV)
  | dict (es : List (Int × AV))
  | inst (c : Addr) (d : Nat)
  | ns (fs : List (Str × AV))
  | range (a b : Int)
  | slice (l u : AV)
  | keys (d : Nat)
  | exc (c : Addr)

structure ASt where
  σ : List AO
  ρ : List (Option AV)

abbrev M (α : Type) := ASt → Option (Except Nat α × ASt)

inductive BI where
  | len | min | max | sorted | range | list | int | str | tuple | any
inductive TY where
  | int | bool | list | str | tuple
  | exc (c : Addr)
  | exd (c : Addr)
inductive ME where
  | append | clear | pop | keys | extend | remove | index | split | join | find | get

inductive AE where
  | cst (v : AV)
  | loc (i : Nat)
  | bin (op : Operator) (l r : AE)
  | slc (o l u : AE)
  | not (x : AE)
  | and (xs : List AE)
  | or (xs : List AE)
  | cmp (l : AE) (ops : List CmpOp) (rs : List AE)
  | call (f : Addr) (args : List AE)
  | make (c f : Addr) (args : List AE)
  | bi (b : BI) (args : List AE)
  | isi (x : AE) (t : TY)
  | meth (o : AE) (m : ME) (args : List AE)
  | own (o : AE) (c f : Addr) (name : Str) (args : List AE)
  | attr (o : AE) (c : Addr) (name : Str)
  | sub (o i : AE)
  | list (xs : List AE)
  | tuple (xs : List AE)
  | dict0
  | comp (k : Nat) (elt iter : AE) (ifs : List AE)

inductive AT where
  | loc (i : Nat)
  | attr (o : AE) (c : Addr) (name : Str)
  | sub (o i : AE)

inductive AS where
  | expr (e : AE)
  | assign (t : AT) (e : AE)
  | ret (e : AE)
  | ite (t : AE) (b o : List AS)
  | loop (t : AE) (b : List AS)
  | for (k : Nat) (iter : AE) (b : List AS)
  | raise (c : Addr) (text : Str)
  | try (b : List AS) (c : Addr) (h : List AS)
  | pass
  | dead
inductive AF where
  | next
  | ret (v : AV)

structure AFn where
  nparams : Nat
  nslots : Nat
  body : List AS

structure AProg where
  fn : Addr → Option AFn
  isa : Addr → Addr → Bool
  tab : Addr → Option (List (Str × AV))

noncomputable def line : Nat := 16000000

section
variable {α β : Type}
noncomputable def ret (a : α) : M α := fun st => some (.ok a, st)
noncomputable def fail : M α := fun _ => Option.none
noncomputable def raise (e : Nat) : M α := fun st => some (.error e, st)
noncomputable def bnd (m : M α) (f : α → M β) : M β := fun st => match m st with
  | Option.none => Option.none
  | some (.ok a, st') => f a st'
  | some (.error e, st') => some (.error e, st')
/-- m, where it does not raise -/
noncomputable def noerr (m : M α) : M α := fun st => match m st with
  | some (.ok a, st') => some (.ok a, st')
  | _ => Option.none
noncomputable def isExc (c : Addr) (o : Option AO) : Bool := match o with
  | some (.exc d) => decide (d = c)
  | _ => false
/-- an error of the class c goes to h -/
noncomputable def onErr (c : Addr) (h : M α) (r : Option (Except Nat α × ASt)) : Option (Except Nat α × ASt) := match r with
  | some (.ok f, st) => some (.ok f, st)
  | some (.error e, st) => if isExc c st.σ[e]? = true then h st else Option.none
  | Option.none => Option.none
noncomputable def getLoc (i : Nat) : M AV := fun st => match st.ρ[i]? with
  | some (some v) => some (.ok v, st)
  | _ => Option.none
noncomputable def setLoc (i : Nat) (v : AV) : M Unit := fun st => some (.ok (), ⟨st.σ, st.ρ.set i (some v)⟩)
noncomputable def alloc (o : AO) : M AV := fun st => some (.ok (.obj st.σ.length), ⟨st.σ ++ [o], st.ρ⟩)
noncomputable def deref (i : Nat) : M AO := fun st => match st.σ[i]? with
  | some o => some (.ok o, st)
  | Option.none => Option.none
noncomputable def upd (i : Nat) (o : AO) : M Unit := fun st => some (.ok (), ⟨st.σ.set i o, st.ρ⟩)
noncomputable def guard (b : Bool) : M Unit := fun st => if b = true then some (.ok (), st) else Option.none
end

noncomputable def look (es : List (Int × AV)) (k : Int) : Option AV := match es with
  | [] => Option.none
  | (k', v) :: r => if k' = k then some v else look r k
noncomputable def put (es : List (Int × AV)) (k : Int) (v : AV) : List (Int × AV) := match es with
  | [] => [(k, v)]
  | (k', v') :: r => if k' = k then (k', v) :: r else (k', v') :: put r k v
noncomputable def del (es : List (Int × AV)) (k : Int) : List (Int × AV) := match es with
  | [] => []
  | (k', v') :: r => if k' = k then r else (k', v') :: del r k
noncomputable def lookS (fs : List (Str × AV)) (x : Str) : Option AV := match fs with
  | [] => Option.none
  | (y, v) :: r => if y = x then some v else lookS r x
noncomputable def putS (fs : List (Str × AV)) (x : Str) (v : AV) : List (Str × AV) := match fs with
  | [] => [(x, v)]
  | (y, w) :: r => if y = x then (y, v) :: r else (y, w) :: putS r x v

noncomputable def truthy (v : AV) : M Bool := match v with
  | .none => ret false
  | .bool b => ret b
  | .int i => ret (i != 0)
  | .str x => bnd (guard (decide (x.length ≤ line))) fun _ => ret (x.length != 0)
  | .obj i => bnd (deref i) fun o => match o with
    | .list xs => ret (xs.length != 0)
    | .tuple xs => ret (xs.length != 0)
    | _ => fail
  | .top _ => fail

noncomputable def intOp (f : Int → Int → M AV) (a b : AV) : M AV := match a with
  | .int x => (match b with | .int y => f x y | _ => fail)
  | _ => fail
noncomputable def addOp (a b : AV) : M AV := match a with
  | .int x => (match b with | .int y => ret (.int (x + y)) | _ => fail)
  | _ => fail
noncomputable def binop (op : Operator) (a b : AV) : M AV := match op with
  | .Add => addOp a b
  | .Sub => intOp (fun x y => ret (.int (x - y))) a b
  | .Mult => intOp (fun x y => bnd (guard (decide (y.natAbs < 2 ^ 64) || decide (x.natAbs < 2 ^ 64))) fun _ => ret (.int (x * y))) a b
  | .FloorDiv => intOp (fun x y => bnd (guard (y != 0 && decide (y.natAbs < 1073741824))) fun _ => ret (.int (x.fdiv y))) a b
  | .Mod => intOp (fun x y => bnd (guard (y != 0)) fun _ => ret (.int (x.fmod y))) a b
  | _ => fail

/-- equality of two plain values (no objects): none where it is not decided here -/
noncomputable def eqPlain (a b : AV) : Option Bool := match a, b with
  | .none, .none => some true
  | .none, .int _ => some false
  | .int _, .none => some false
  | .bool x, .bool y => some (x == y)
  | .int x, .int y => some (x == y)
  | .str x, .str y => some (decide (x = y))
  | _, _ => Option.none
noncomputable def ofOpt {α : Type} (o : Option α) : M α := fun st => match o with
  | some a => some (.ok a, st)
  | Option.none => Option.none
noncomputable def eqv (a b : AV) : M Bool := ofOpt (eqPlain a b)
noncomputable def inList (a : AV) (xs : List AV) : Option Bool := match xs with
  | [] => some false
  | x :: r => match eqPlain x a, inList a r with
    | some b, some c => some (b || c)
    | _, _ => Option.none
noncomputable def memb (a c : AV) : M Bool := match c with
  | .obj i => bnd (deref i) fun o => match o, a with
    | .list xs, a => ofOpt (inList a xs)
    | .tuple xs, a => ofOpt (inList a xs)
    | .dict es, .int k => ret (look es k).isSome
    | _, _ => fail
  | _ => fail
noncomputable def isNone (a : AV) : Bool := match a with | .none => true | _ => false
noncomputable def intCmp (f : Int → Int → Bool) (a b : AV) : M Bool := match a with
  | .int x => (match b with | .int y => ret (f x y) | _ => fail)
  | _ => fail
noncomputable def isOp (neg : Bool) (a b : AV) : M Bool := match b with
  | .none => ret (if neg then !isNone a else isNone a)
  | _ => fail
noncomputable def cmpop (op : CmpOp) (a b : AV) : M Bool := match op with
  | .Lt => intCmp (fun x y => decide (x < y)) a b
  | .LtE => intCmp (fun x y => decide (x ≤ y)) a b
  | .Gt => intCmp (fun x y => decide (y < x)) a b
  | .GtE => intCmp (fun x y => decide (y ≤ x)) a b
  | .Eq => eqv a b
  | .NotEq => bnd (eqv a b) fun t => ret (!t)
  | .Is => isOp false a b
  | .IsNot => isOp true a b
  | .In => memb a b
  | .NotIn => bnd (memb a b) fun t => ret (!t)

noncomputable def idx? (i : Int) (n : Nat) : Option Nat := if 0 ≤ i then (if i < n then some i.toNat else Option.none) else (if -(n : Int) ≤ i then some (i + n).toNat else Option.none)
noncomputable def getIdx (a : Nat) (k : Int) : M AV := bnd (deref a) fun o => match o with
  | .ro xs => bnd (ofOpt (idx? k xs.length)) fun j => ofOpt xs[j]?
  | .list xs => bnd (ofOpt (idx? k xs.length)) fun j => ofOpt xs[j]?
  | .tuple xs => bnd (ofOpt (idx? k xs.length)) fun j => ofOpt xs[j]?
  | .dict es => ofOpt (look es k)
  | _ => fail
/-- a bound of a slice -/
noncomputable def partOf (v : AV) : Option (Option Int) := match v with
  | .none => some Option.none
  | .int i => if 0 ≤ i then some (some i) else Option.none
  | _ => Option.none
noncomputable def cutL {α : Type} (xs : List α) (lo hi : Option Int) : List α := match lo with
  | Option.none => (match hi with | Option.none => xs | some b => xs.take b.toNat)
  | some a => (match hi with | Option.none => xs.drop a.toNat | some b => (xs.take b.toNat).drop a.toNat)
noncomputable def sliceOf (a l u : AV) : M AV := bnd (ofOpt (partOf l)) fun lo => bnd (ofOpt (partOf u)) fun hi => match a with
  | .obj i => bnd (deref i) fun o => (match o with
    | .list xs => bnd (alloc (.slice l u)) fun _ => alloc (.list (cutL xs lo hi))
    | .ro xs => bnd (alloc (.slice l u)) fun _ => alloc (.list (cutL xs lo hi))
    | _ => fail)
  | _ => fail
noncomputable def getItem (o i : AV) : M AV := match o with
  | .obj a => (match i with
    | .int k => getIdx a k
    | _ => fail)
  | _ => fail
noncomputable def setIdx (a : Nat) (k : Int) (v : AV) : M Unit := bnd (deref a) fun o => match o with
  | .list xs => bnd (ofOpt (idx? k xs.length)) fun j => bnd (guard (decide (0 ≤ k))) fun _ => upd a (.list (xs.set j v))
  | .dict es => bnd (guard (decide (es.length < line))) fun _ => upd a (.dict (put es k v))
  | _ => fail
noncomputable def setItem (o i v : AV) : M Unit := match o with
  | .obj a => (match i with
    | .int k => setIdx a k v
    | _ => fail)
  | _ => fail
noncomputable def fields (c : Addr) (o : AV) : M (Nat × List (Str × AV)) := match o with
  | .obj a => bnd (deref a) fun o => match o with
    | .inst c' d => bnd (guard (decide (c' = c))) fun _ => bnd (deref d) fun p => (match p with
      | .ns fs => ret (d, fs)
      | _ => fail)
    | _ => fail
  | _ => fail
noncomputable def getAttr (c : Addr) (o : AV) (name : Str) : M AV := bnd (fields c o) fun df => ofOpt (lookS df.2 name)
noncomputable def setAttr (c : Addr) (o : AV) (name : Str) (v : AV) : M Unit := bnd (fields c o) fun df => bnd (guard (decide (df.2.length < 400))) fun _ => upd df.1 (.ns (putS df.2 name v))

abbrev Calls := Addr → List AV → List AO → Option (Except Nat AV × List AO)
noncomputable def callFn (C : Calls) (f : Addr) (args : List AV) : M AV := fun st => match C f args st.σ with
  | some (r, σ) => some (r, ⟨σ, st.ρ⟩)
  | Option.none => Option.none
noncomputable def callMake (C : Calls) (c f : Addr) (args : List AV) : M AV := fun st =>
  bnd (callFn C f (.obj (st.σ.length + 1) :: args)) (fun r => match r with
    | .none => ret (.obj (st.σ.length + 1))
    | _ => fail) ⟨st.σ ++ [.ns [], .inst c st.σ.length], st.ρ⟩
noncomputable def isInst (c : Addr) (name : Str) (o : AV) : M Unit := bnd (fields c o) fun df => guard (lookS df.2 name).isNone

inductive VK where
  | int | bool | none | str | list | tuple
noncomputable def vkTy (k : VK) (t : TY) : Option Bool := match t with
  | .int => some (match k with | .int => true | .bool => true | _ => false)
  | .bool => some (match k with | .bool => true | _ => false)
  | .list => some (match k with | .list => true | _ => false)
  | .str => Option.none
  | .tuple => Option.none
  | .exc _ => Option.none
  | .exd _ => Option.none
noncomputable def isaT (P : AProg) (v : AV) (t : TY) : M Bool := match v with
  | .int _ => ofOpt (vkTy .int t)
  | .bool _ => fail
  | .none => fail
  | .str _ => fail
  | .obj i => bnd (deref i) fun o => match o with
    | .list _ => ofOpt (vkTy .list t)
    | _ => fail
  | .top _ => fail
noncomputable def allInts : List AV → Option (List Int)
  | [] => some []
  | x :: r => match x with
    | .int i => (match allInts r with
      | some l => some (i :: l)
      | Option.none => Option.none)
    | _ => Option.none
noncomputable def insInt (i : Int) : List Int → List Int
  | [] => [i]
  | j :: r => if i ≤ j then i :: j :: r else j :: insInt i r
noncomputable def sortInts : List Int → List Int
  | [] => []
  | i :: r => insInt i (sortInts r)

noncomputable def biLen (v : AV) : M AV := match v with
  | .obj i => bnd (deref i) fun o => match o with
    | .ro xs => ret (.int xs.length)
    | .list xs => ret (.int xs.length)
    | .tuple xs => ret (.int xs.length)
    | .dict es => ret (.int es.length)
    | _ => fail
  | .str x => bnd (guard (decide (x.length ≤ line))) fun _ => ret (.int x.length)
  | _ => fail
noncomputable def biTwo (f : Int → Int → Int) (v u : AV) : M AV := match v with
  | .int a => (match u with | .int b => ret (.int (f a b)) | _ => fail)
  | _ => fail
/-- few, or in order already -/
noncomputable def sortOk (l : List Int) : Bool := decide (l.length ≤ 100000)
noncomputable def biSorted (v : AV) : M AV := match v with
  | .obj i => bnd (deref i) fun o => match o with
    | .list xs => bnd (ofOpt (allInts xs)) fun l => bnd (guard (sortOk l)) fun _ => alloc (.list ((sortInts l).map .int))
    | .keys d => bnd (deref d) fun p => (match p with
      | .dict es => bnd (guard (sortOk (es.map (·.1)))) fun _ => alloc (.list ((sortInts (es.map (·.1))).map .int))
      | _ => fail)
    | _ => fail
  | _ => fail
noncomputable def smallR (a b : Int) : Bool := decide (-1000000000 ≤ a) && decide (a ≤ 1000000000) && decide (-1000000000 ≤ b) && decide (b ≤ 1000000000)
noncomputable def biRange (a b : Int) : M AV := bnd (guard (smallR a b)) fun _ => alloc (.range a b)
noncomputable def biList (v : AV) : M AV := match v with
  | .obj i => bnd (deref i) fun o => match o with
    | .list xs => alloc (.list xs)
    | .tuple xs => alloc (.list xs)
    | _ => fail
  | _ => fail
noncomputable def callBi (b : BI) (args : List AV) : M AV := match b with
  | .len => (match args with | [v] => biLen v | _ => fail)
  | .min => (match args with | [v, u] => biTwo (fun a b => if b < a then b else a) v u | _ => fail)
  | .sorted => (match args with | [v] => biSorted v | _ => fail)
  | .range => (match args with
    | [v] => (match v with | .int b => biRange 0 b | _ => fail)
    | [v, u] => (match v with | .int a => (match u with | .int b => biRange a b | _ => fail) | _ => fail)
    | _ => fail)
  | .list => (match args with | [v] => biList v | _ => fail)
--{intb
  | .int => (match args with | [v] => (match v with | .bool b => ret (.int (if b = true then 1 else 0)) | _ => fail) | _ => fail)
--}intb
  | _ => fail

noncomputable def meList (i : Nat) (xs : List AV) (m : ME) (args : List AV) : M AV := match m with
  | .append => (match args with | [v] => bnd (guard (decide (xs.length < line))) fun _ => bnd (upd i (.list (xs ++ [v]))) fun _ => ret .none | _ => fail)
  | .pop => (match args with
    | [] => (match xs.getLast? with | some v => bnd (upd i (.list xs.dropLast)) fun _ => ret v | Option.none => fail)
    | [u] => (match u with | .int k => bnd (guard (k == 0)) fun _ => (match xs with | v :: r => bnd (upd i (.list r)) fun _ => ret v | [] => fail) | _ => fail)
    | _ => fail)
  | .extend => (match args with
    | [u] => (match u with
      | .obj j => bnd (deref j) fun o => (match o with
        | .list ys => bnd (guard (decide (i ≠ j) && decide (xs.length + ys.length ≤ line))) fun _ => bnd (upd i (.list (xs ++ ys))) fun _ => ret .none
        | _ => fail)
      | _ => fail)
    | _ => fail)
  | _ => fail
noncomputable def meDict (i : Nat) (es : List (Int × AV)) (m : ME) (args : List AV) : M AV := match m with
  | .keys => (match args with | [] => alloc (.keys i) | _ => fail)
  | .pop => (match args with
    | [u] => (match u with | .int k => (match look es k with | some v => bnd (upd i (.dict (del es k))) fun _ => ret v | Option.none => fail) | _ => fail)
    | _ => fail)
  | _ => fail
inductive KD where
  | list | dict | str
noncomputable def kindOf (o : AV) : M KD := match o with
  | .obj i => bnd (deref i) fun b => match b with
    | .list _ => ret .list
    | .dict _ => ret .dict
    | _ => fail
  | .str _ => ret .str
  | _ => fail
noncomputable def callMeth (k : KD) (o : AV) (m : ME) (args : List AV) : M AV := match k with
  | .list => (match o with
    | .obj i => bnd (deref i) fun b => (match b with | .list xs => meList i xs m args | _ => fail)
    | _ => fail)
  | .dict => (match o with
    | .obj i => bnd (deref i) fun b => (match b with | .dict es => meDict i es m args | _ => fail)
    | _ => fail)
  | .str => fail

/-- what a for runs over: its kind, and its number of turns -/
inductive IK where
  | list | tuple | range (a : Int)
noncomputable def iterLen (v : AV) : M (IK × Nat) := match v with
  | .obj i => bnd (deref i) fun o => match o with
    | .list xs => ret (.list, xs.length)
    | .tuple xs => ret (.tuple, xs.length)
    | .range a b => ret (.range a, (b - a).toNat)
    | _ => fail
  | _ => fail
/-- the thing must have kept its length n -/
noncomputable def iterSeq (q : IK) (v : AV) (n : Nat) : M (List AV) := match v with
  | .obj i => bnd (deref i) fun o => match q with
    | .list => (match o with | .list xs => bnd (guard (decide (xs.length = n))) fun _ => ret xs | _ => fail)
    | .tuple => (match o with | .tuple xs => bnd (guard (decide (xs.length = n))) fun _ => ret xs | _ => fail)
    | .range _ => fail
  | _ => fail
/-- the item of turn j -/
noncomputable def iterAt (q : IK) (v : AV) (n j : Nat) : M AV := match q with
  | .range a => ret (.int (a + j))
  | q => bnd (iterSeq q v n) fun xs => ofOpt xs[j]?
noncomputable def iterEnd (q : IK) (v : AV) (n : Nat) : M Unit := match q with
  | .range _ => ret ()
  | q => bnd (iterSeq q v n) fun _ => ret ()

noncomputable def forLoop (q : IK) (v : AV) (n k : Nat) (body : M AF) : Nat → Nat → M AF
  | 0, _ => bnd (iterEnd q v n) fun _ => ret .next
  | r + 1, j => bnd (iterAt q v n j) fun x => bnd (setLoc k x) fun _ => bnd body fun f => match f with
    | .next => forLoop q v n k body r (j + 1)
    | .ret y => ret (.ret y)
noncomputable def compLoop (q : IK) (v : AV) (n k : Nat) (tests : M Bool) (elt : M AV) : Nat → Nat → List AV → M (List AV)
  | 0, _, acc => bnd (iterEnd q v n) fun _ => ret acc
  | r + 1, j, acc => bnd (iterAt q v n j) fun x => bnd (setLoc k x) fun _ => bnd tests fun t =>
    if t = true then bnd elt fun y => compLoop q v n k tests elt r (j + 1) (acc ++ [y]) else compLoop q v n k tests elt r (j + 1) acc
noncomputable def whileLoop (test : M Bool) (body : M AF) : Nat → M AF
  | 0 => fail
  | n + 1 => bnd test fun b => if b = true then (bnd body fun f => match f with
    | .next => whileLoop test body n
    | .ret y => ret (.ret y)) else ret .next

section
variable (P : AProg) (C : Calls)
mutual
noncomputable def aeval : AE → M AV
  | .cst v => ret v
  | .loc i => getLoc i
  | .bin op l r => bnd (aeval l) fun a => bnd (aeval r) fun b => binop op a b
  | .slc o l u => bnd (aeval o) fun a => bnd (aeval l) fun b => bnd (aeval u) fun c => sliceOf a b c
  | .not x => bnd (aeval x) fun a => bnd (truthy a) fun b => ret (.bool !b)
  | .and xs => aand xs
  | .or xs => aor xs
  | .cmp l ops rs => bnd (aeval l) fun a => bnd (achain rs a ops) fun b => ret (.bool b)
  | .call f args => bnd (aevals args) fun vs => callFn C f vs
  | .make c f args => bnd (aevals args) fun vs => callMake C c f vs
  | .bi b args => bnd (aevals args) fun vs => callBi b vs
  | .isi x t => bnd (aeval x) fun a => bnd (isaT P a t) fun b => ret (.bool b)
  | .meth o m args => bnd (aeval o) fun a => bnd (kindOf a) fun k => bnd (aevals args) fun vs => callMeth k a m vs
  | .own o c f name args => bnd (aeval o) fun a => bnd (isInst c name a) fun _ => bnd (aevals args) fun vs => callFn C f (a :: vs)
  | .attr o c name => bnd (aeval o) fun a => getAttr c a name
  | .sub o i => bnd (aeval o) fun a => bnd (aeval i) fun b => getItem a b
  | .list xs => bnd (aevals xs) fun vs => alloc (.list vs)
  | .tuple xs => bnd (aevals xs) fun vs => alloc (.tuple vs)
  | .dict0 => alloc (.dict [])
  | .comp k elt iter ifs => bnd (aeval iter) fun v => bnd (iterLen v) fun qn => bnd (guard (decide (qn.2 ≤ line))) fun _ => bnd (compLoop qn.1 v qn.2 k (atests ifs) (aeval elt) qn.2 0 []) fun xs => alloc (.list xs)
noncomputable def aevals : List AE → M (List AV)
  | [] => ret []
  | e :: r => bnd (aeval e) fun v => bnd (aevals r) fun vs => ret (v :: vs)
noncomputable def aand : List AE → M AV
  | [] => fail
  | [e] => aeval e
  | e :: r => bnd (aeval e) fun v => bnd (truthy v) fun b => if b = true then aand r else ret v
noncomputable def aor : List AE → M AV
  | [] => fail
  | [e] => aeval e
  | e :: r => bnd (aeval e) fun v => bnd (truthy v) fun b => if b = true then ret v else aor r
noncomputable def achain : List AE → AV → List CmpOp → M Bool
  | [], _, _ => fail
  | e :: r, a, ops => match ops with
    | [] => fail
    | op :: ops => bnd (aeval e) fun b => bnd (cmpop op a b) fun t =>
      if (ops.isEmpty && r.isEmpty) = true then ret t else if t = true then achain r b ops else ret false
noncomputable def atest : AE → M Bool
  | .not x => bnd (atest x) fun b => ret !b
  | .and xs => aall xs
  | .or xs => aany xs
  | .cmp l ops rs => bnd (aeval l) fun a => achain rs a ops
  | .cst v => truthy v
  | .loc i => bnd (getLoc i) truthy
  | .call f args => bnd (bnd (aevals args) fun vs => callFn C f vs) truthy
  | .bi b args => bnd (bnd (aevals args) fun vs => callBi b vs) truthy
  | .isi x t => bnd (bnd (aeval x) fun a => bnd (isaT P a t) fun b => ret (.bool b)) truthy
  | .meth o m args => bnd (bnd (aeval o) fun a => bnd (kindOf a) fun k => bnd (aevals args) fun vs => callMeth k a m vs) truthy
  | .own o c f name args => bnd (bnd (aeval o) fun a => bnd (isInst c name a) fun _ => bnd (aevals args) fun vs => callFn C f (a :: vs)) truthy
  | .attr o c name => bnd (bnd (aeval o) fun a => getAttr c a name) truthy
  | .sub o i => bnd (bnd (aeval o) fun a => bnd (aeval i) fun b => getItem a b) truthy
  | .bin _ _ _ => fail
  | .slc _ _ _ => fail
  | .make _ _ _ => fail
  | .list _ => fail
  | .tuple _ => fail
  | .dict0 => fail
  | .comp _ _ _ _ => fail
noncomputable def aall : List AE → M Bool
  | [] => ret true
  | e :: r => bnd (atest e) fun b => if b = true then aall r else ret false
noncomputable def aany : List AE → M Bool
  | [] => ret false
  | e :: r => bnd (atest e) fun b => if b = true then ret true else aany r
noncomputable def atests : List AE → M Bool
  | [] => ret true
  | e :: r => bnd (atest e) fun b => if b = true then atests r else ret false
end


noncomputable def aassign (t : AT) (v : AV) : M Unit := match t with
  | .loc i => setLoc i v
  | .attr o c name => bnd (aeval P C o) fun a => setAttr c a name v
  | .sub o i => bnd (aeval P C o) fun a => bnd (aeval P C i) fun b => setItem a b v
/-- an expression whose call at the top may raise -/
noncomputable def axval : AE → M AV
  | .call f args => bnd (noerr (aevals P C args)) fun vs => callFn C f vs
  | .own o c f name args => bnd (noerr (aeval P C o)) fun a => bnd (noerr (isInst c name a)) fun _ => bnd (noerr (aevals P C args)) fun vs => callFn C f (a :: vs)
  | e => noerr (aeval P C e)
mutual
noncomputable def aexec : AS → M AF
  | .expr e => bnd (axval P C e) fun _ => ret .next
  | .assign t e => bnd (axval P C e) fun v => noerr (bnd (aassign P C t v) fun _ => ret .next)
  | .ret e => bnd (axval P C e) fun v => ret (.ret v)
  | .ite t b o => bnd (noerr (atest P C t)) fun x => if x = true then aexecs b else aexecs o
  | .loop t b => noerr (whileLoop (atest P C t) (aexecs b) 100000)
  | .for k iter b => noerr (bnd (aeval P C iter) fun v => bnd (iterLen v) fun qn => bnd (guard (decide (qn.2 ≤ line))) fun _ => forLoop qn.1 v qn.2 k (aexecs b) qn.2 0)
  | .raise c _ => bnd (alloc (.exc c)) fun e => match e with | .obj i => raise i | _ => fail
  | .try b c h => fun st => onErr c (noerr (aexecs h)) (aexecs b st)
  | .pass => ret .next
  | .dead => fail
noncomputable def aexecs : List AS → M AF
  | [] => ret .next
  | x :: r => bnd (aexec x) fun f => match f with
    | .next => aexecs r
    | .ret v => ret (.ret v)
end
end

noncomputable def acall (P : AProg) : Nat → Calls
  | 0, _, _, _ => Option.none
  | n + 1, f, args, σ => match P.fn f with
    | Option.none => Option.none
    | some fn => if args.length = fn.nparams then (match aexecs P (acall P n) fn.body ⟨σ, args.map some ++ List.replicate (fn.nslots - fn.nparams) Option.none⟩ with
      | some (.ok .next, st) => some (.ok .none, st.σ)
      | some (.ok (.ret v), st) => some (.ok v, st.σ)
      | some (.error e, st) => some (.error e, st.σ)
      | Option.none => Option.none) else Option.none
end Mine
namespace Mine
open PySem

/-- what a global name means -/
inductive GV where
  | val (v : AV)
  | fn (f : Addr)
  | cls (c f : Addr)
  | bi (b : BI)
  | isinst
  | ty (t : TY)
inductive MV where
  | me (m : ME)
  | own (c f : Addr)

structure Rsv where
  N : Nat
  slot : Str → Option Nat
  glob : Str → Option GV
  meth : Str → Option MV
  attr : Str → Option Addr
  cel : Str → Bool
  gtab : Str → Option GV

noncomputable def plainBase : Expr → Bool
  | .Call (.Name _ _) [] [] _ => false
  | _ => true
noncomputable def notStar : Expr → Bool
  | .Starred _ _ => false
  | .Set _ _ _ => false
  | _ => true
noncomputable def isComp : Expr → Bool
  | .ListComp _ _ _ _ => true
  | .SetComp _ _ _ _ => true
  | .DictComp _ _ _ _ _ => true
  | _ => false
noncomputable def isSlice : Expr → Bool
  | .Slice _ _ _ _ => true
  | _ => false
noncomputable def dbg : Str := "__debug__"

/-- the names of a comprehension's own block, over those around it -/
noncomputable def rsComp (rs : Rsv) (names : List (Str × NameKind)) (x : Str) (k : Nat) : Rsv where
  N := rs.N
  slot := fun y => if y = x then some k else (match names.lookup y with | some .free => if rs.cel y then rs.slot y else none | _ => none)
  glob := fun y => match names.lookup y with
    | some .globalImplicit => rs.gtab y
    | _ => none
  meth := rs.meth
  attr := rs.attr
  cel := fun y => if y = x then false else (match names.lookup y with | some .free => rs.cel y | _ => false)
  gtab := rs.gtab
noncomputable def kindFine (rs : Rsv) (x : Str) (y : Str × NameKind) : Bool := match y.2 with
    | .local => decide (y.1 = x) || decide (y.1 = (".0" : Str))
    | .free => rs.cel y.1
    | .globalImplicit => true
    | _ => false
noncomputable def compNames (rs : Rsv) (names : List (Str × NameKind)) (x : Str) : Bool :=
  decide (names.lookup x = some .local) && decide (x ≠ dbg) && decide (x ≠ "__classdict__") && names.all fun y => kindFine rs x y && decide (names.lookup y.1 = some y.2)

noncomputable def cstOf : Const → Option AE
  | .none => some (.cst .none)
  | .bool b => some (.cst (.bool b))
  | .int i => some (.cst (.int i))
  | .str x => some (.cst (.str x))
  | _ => none
noncomputable def globVal : GV → Option AE
  | .val v => some (.cst v)
  | _ => none
noncomputable def nameOf : Expr → Option Str
  | .Name x _ => some x
  | _ => none
noncomputable def tyG : GV → Option TY
  | .ty T => some T
  | .bi b => (match b with | .list => some .list | .int => some .int | .str => some .str | .tuple => some .tuple | _ => none)
  | _ => none
noncomputable def tyOf (rs : Rsv) (t : Expr) : Option TY := (nameOf t).bind fun y => if y = dbg then none else if (rs.slot y).isSome then none else (rs.glob y).bind tyG
noncomputable def genOf (gens : List Comprehension) : Option (Str × Expr × List Expr) := match gens with
  | [] => none
  | g :: r => if r.isEmpty && decide (g.is_async = 0) then (nameOf g.target).bind fun x => some (x, g.iter, g.ifs) else none
noncomputable def partsOf : Expr → Option (Option Expr × Option Expr)
  | .Slice a b none _ => some (a, b)
  | _ => none
noncomputable def optE (E : Expr → Option AE) : Option Expr → Option AE
  | none => some (.cst .none)
  | some e => E e
noncomputable def cEF (E : Rsv → Nat → Expr → Option AE) (L : Rsv → Nat → List Expr → Option (List AE)) (rs : Rsv) (k : Nat) (e : Expr) : Option AE := match e with
    | .Constant c _ _ => cstOf c
    | .Name x _ => if x = dbg then none else (match rs.slot x with
      | some i => some (.loc i)
      | none => (rs.glob x).bind globVal)
    | .BinOp l op r _ => (E rs k l).bind fun l' => (E rs k r).bind fun r' => some (.bin op l' r')
    | .UnaryOp op x _ => (E rs k x).bind fun x' => (match op with
      | .Not => some (.not x')
      | _ => none)
    | .BoolOp op xs _ => (L rs k xs).bind fun xs' => (match op with | .And => some (.and xs') | .Or => some (.or xs'))
    | .Compare l ops rs' _ => if ops.length = rs'.length then (E rs k l).bind fun l' => (L rs k rs').bind fun r' => some (.cmp l' ops r') else none
    | .Call f args kw pos => if kw.isEmpty then (match f with
        | .Name g _ => if g = dbg then none else if (rs.slot g).isSome then none else (rs.glob g).bind fun gv => (match gv with
            | .fn a => (L rs k args).bind fun as => some (.call a as)
            | .cls c a => (L rs k args).bind fun as => some (.make c a as)
            | .bi b => (L rs k args).bind fun as => some (.bi b as)
            | .isinst => (match args with
              | [x, t] => (tyOf rs t).bind fun T => if notStar x then (E rs k x).bind fun x' => some (.isi x' T) else none
              | _ => none)
            | _ => none)
        | .Attribute o name apos => if plainBase o && decide (apos.endLine = pos.line) && decide (args.length < 25) then (E rs k o).bind fun o' => (L rs k args).bind fun as => (rs.meth name).bind fun mv => (match mv with
              | .me m => some (.meth o' m as)
              | .own c a => some (.own o' c a name as)) else none
        | _ => none) else none
    | .Attribute o name _ => if plainBase o then (E rs k o).bind fun o' => (rs.attr name).bind fun c => some (.attr o' c name) else none
    | .Subscript o i _ => (match partsOf i with
      | some p => (E rs k o).bind fun o' => (optE (E rs k) p.1).bind fun a' => (optE (E rs k) p.2).bind fun b' => some (.slc o' a' b')
      | none => (E rs k o).bind fun o' => (E rs k i).bind fun i' => some (.sub o' i'))
    | .List xs _ => (L rs k xs).bind fun xs' => if xs.length < 1000 then some (.list xs') else none
    | .Tuple xs _ _ => (L rs k xs).bind fun xs' => if xs.length < 1000 then some (.tuple xs') else none
    | .Dict ks vs _ => if ks.isEmpty && vs.isEmpty then some .dict0 else none
    | .ListComp elt gens sc _ => (genOf gens).bind fun g => (match g with
      | (x, iter, ifs) => if decide (sc.kind = .function) && compNames rs sc.names x && decide (k < rs.N) && notStar iter then (E rs k iter).bind fun iter' =>
          (E (rsComp rs sc.names x k) (k + 1) elt).bind fun elt' => (L (rsComp rs sc.names x k) (k + 1) ifs).bind fun ifs' => some (.comp k elt' iter' ifs') else none)
    | .NamedExpr .. => none
    | .Lambda .. => none
    | .IfExp .. => none
    | .Set .. => none
    | .SetComp .. => none
    | .DictComp .. => none
    | .GeneratorExp .. => none
    | .Await .. => none
    | .Yield .. => none
    | .YieldFrom .. => none
    | .FormattedValue .. => none
    | .JoinedStr .. => none
    | .Starred .. => none
    | .Slice .. => none
noncomputable def cLF (E : Rsv → Nat → Expr → Option AE) (L : Rsv → Nat → List Expr → Option (List AE)) (rs : Rsv) (k : Nat) (es : List Expr) : Option (List AE) := match es with
    | [] => some []
    | e :: r => if notStar e then (E rs k e).bind fun e' => (L rs k r).bind fun r' => some (e' :: r') else none
noncomputable def cEL : Nat → (Rsv → Nat → Expr → Option AE) × (Rsv → Nat → List Expr → Option (List AE))
  | 0 => (fun _ _ _ => none, fun _ _ _ => none)
  | n + 1 => (cEF (cEL n).1 (cEL n).2, cLF (cEL n).1 (cEL n).2)
noncomputable def cE (n : Nat) : Rsv → Nat → Expr → Option AE := (cEL n).1
noncomputable def cEs (n : Nat) : Rsv → Nat → List Expr → Option (List AE) := (cEL n).2

noncomputable def cT (n : Nat) (rs : Rsv) (k : Nat) (t : Expr) : Option AT := match t with
  | .Name x _ => (rs.slot x).bind fun i => some (.loc i)
  | .Attribute o name _ => (cE n rs k o).bind fun o' => (rs.attr name).bind fun c => some (.attr o' c name)
  | .Subscript o i _ => if isSlice i then none else (cE n rs k o).bind fun o' => (cE n rs k i).bind fun i' => some (.sub o' i')
  | _ => none
noncomputable def cSF (n : Nat) (T : Rsv → Nat → List Stmt → Option (List AS)) (rs : Rsv) (k : Nat) (s : Stmt) : Option AS := match s with
    | .Expr e _ => if isComp e then none else (cE n rs k e).bind fun e' => some (.expr e')
    | .Pass _ => some .pass
    | .Return v _ => (match v with
      | some e => (cE n rs k e).bind fun e' => some (.ret e')
      | none => some (.ret (.cst .none)))
    | .Assign ts v _ => (match ts with
      | [t] => (cE n rs k v).bind fun v' => (cT n rs k t).bind fun t' => some (.assign t' v')
      | _ => none)
    | .If t b o _ => (cE n rs k t).bind fun t' => (T rs k b).bind fun b' => (T rs k o).bind fun o' => some (.ite t' b' o')
    | .While t b o _ => if o.isEmpty then (cE n rs k t).bind fun t' => (T rs k b).bind fun b' => some (.loop t' b') else none
    | .For t iter b o _ => if o.isEmpty && notStar iter then (nameOf t).bind fun x => (rs.slot x).bind fun i => (cE n rs k iter).bind fun iter' => (T rs k b).bind fun b' => some (.for i iter' b') else none
    | .AugAssign .. => none
    | .Raise .. => none
    | .Try .. => none
    | .FunctionDef .. => none
    | .AsyncFunctionDef .. => none
    | .ClassDef .. => none
    | .Delete .. => none
    | .TypeAlias .. => none
    | .AnnAssign .. => none
    | .AsyncFor .. => none
    | .With .. => none
    | .AsyncWith .. => none
    | .Match .. => none
    | .TryStar .. => none
    | .Assert .. => none
    | .Import .. => none
    | .ImportFrom .. => none
    | .Global .. => none
    | .Nonlocal .. => none
    | .Break .. => none
    | .Continue .. => none
noncomputable def cTF (S : Rsv → Nat → Stmt → Option AS) (T : Rsv → Nat → List Stmt → Option (List AS)) (rs : Rsv) (k : Nat) (ss : List Stmt) : Option (List AS) := match ss with
    | [] => some []
    | s :: r => (S rs k s).bind fun s' => (T rs k r).bind fun r' => some (s' :: r')
noncomputable def cSL : Nat → (Rsv → Nat → Stmt → Option AS) × (Rsv → Nat → List Stmt → Option (List AS))
  | 0 => (fun _ _ _ => none, fun _ _ _ => none)
  | n + 1 => (cSF n (cSL n).2, cTF (cSL n).1 (cSL n).2)
noncomputable def cS (n : Nat) : Rsv → Nat → Stmt → Option AS := (cSL n).1
noncomputable def cSs (n : Nat) : Rsv → Nat → List Stmt → Option (List AS) := (cSL n).2
end Mine
namespace Mine
open PySem PyProof.Rows

theorem some_in {α : Type} {x y : α} {G : α → Prop} (h : some x = some y) (k : G x) : G y := by cases h; exact k
theorem no_some {α : Type} {y : α} {G : Prop} (h : (none : Option α) = some y) : G := by cases h

noncomputable def F2 {α β : Type} (R : α → β → Prop) : List α → List β → Prop
  | [], [] => True
  | a :: as, b :: bs => R a b ∧ F2 R as bs
  | _, _ => False

section
variable {α β : Type} {R : α → β → Prop}
theorem F2.length : ∀ {as : List α} {bs : List β}, F2 R as bs → as.length = bs.length
  | [], [], _ => rfl
  | _ :: _, _ :: _, h => by simp [F2.length h.2]
  | [], _ :: _, h => h.elim
  | _ :: _, [], h => h.elim
theorem F2.mono {S : α → β → Prop} (hs : ∀ a b, R a b → S a b) : ∀ {as : List α} {bs : List β}, F2 R as bs → F2 S as bs
  | [], [], _ => trivial
  | _ :: _, _ :: _, h => ⟨hs _ _ h.1, F2.mono hs h.2⟩
  | [], _ :: _, h => h.elim
  | _ :: _, [], h => h.elim
theorem F2.get : ∀ {as : List α} {bs : List β} {i : Nat} {b : β}, F2 R as bs → bs[i]? = some b → ∃ a, as[i]? = some a ∧ R a b
  | [], [], _, _, _, e => by simp at e
  | a :: _, b' :: _, 0, b, h, e => by simp at e; subst e; exact ⟨a, by simp, h.1⟩
  | _ :: _, _ :: _, i + 1, b, h, e => by simpa using F2.get h.2 (by simpa using e)
  | [], _ :: _, _, _, h, _ => h.elim
  | _ :: _, [], _, _, h, _ => h.elim
theorem F2.append : ∀ {as as' : List α} {bs bs' : List β}, F2 R as bs → F2 R as' bs' → F2 R (as ++ as') (bs ++ bs')
  | [], _, [], _, _, h' => h'
  | _ :: _, _, _ :: _, _, h, h' => ⟨h.1, F2.append h.2 h'⟩
  | [], _, _ :: _, _, h, _ => h.elim
  | _ :: _, _, [], _, h, _ => h.elim
theorem F2.set : ∀ {as : List α} {bs : List β} {i : Nat} {a : α} {b : β}, F2 R as bs → R a b → F2 R (as.set i a) (bs.set i b)
  | [], [], _, _, _, _, _ => trivial
  | _ :: _, _ :: _, 0, _, _, h, h' => ⟨h', h.2⟩
  | _ :: _, _ :: _, _ + 1, _, _, h, h' => ⟨h.1, F2.set h.2 h'⟩
  | [], _ :: _, _, _, _, h, _ => h.elim
  | _ :: _, [], _, _, _, h, _ => h.elim
theorem F2.take : ∀ {as : List α} {bs : List β} (n : Nat), F2 R as bs → F2 R (as.take n) (bs.take n)
  | [], [], n, _ => by cases n <;> trivial
  | _ :: _, _ :: _, 0, _ => trivial
  | _ :: _, _ :: _, n + 1, h => ⟨h.1, F2.take n h.2⟩
  | [], _ :: _, _, h => h.elim
  | _ :: _, [], _, h => h.elim
theorem F2.drop : ∀ {as : List α} {bs : List β} (n : Nat), F2 R as bs → F2 R (as.drop n) (bs.drop n)
  | [], [], n, _ => by cases n <;> trivial
  | _ :: _, _ :: _, 0, h => h
  | _ :: _, _ :: _, n + 1, h => by simpa using F2.drop n h.2
  | [], _ :: _, _, h => h.elim
  | _ :: _, [], _, h => h.elim
theorem F2.snoc {as : List α} {bs : List β} {a : α} {b : β} (h : F2 R as bs) (h' : R a b) : F2 R (as ++ [a]) (bs ++ [b]) := h.append ⟨h', trivial⟩
end

noncomputable def topV (v : Value) : Bool := match v with
  | .ref _ => true
  | _ => false

/-- a value of the model is an abstract one, tokens forgotten -/
inductive VRel (ι : List Addr) : Value → AV → Prop
  | none : VRel ι .none .none
  | bool (b : Bool) : VRel ι (.bool b) (.bool b)
  | int (i : Int) (t : Tok) : VRel ι (.int i t) (.int i)
  | str (x : Str) (t : Tok) : VRel ι (.str x t) (.str x)
  | obj {a : Addr} {i : Nat} : ι[i]? = some a → VRel ι (.ref a) (.obj i)
  | top (v : Value) : topV v = true → VRel ι v (.top v)

noncomputable def Pre (ι ι' : List Addr) : Prop := ∃ r, ι' = ι ++ r
theorem Pre.refl (ι : List Addr) : Pre ι ι := ⟨[], by simp⟩
theorem Pre.trans {a b c : List Addr} (x : Pre a b) (y : Pre b c) : Pre a c := by
  obtain ⟨r, rfl⟩ := x; obtain ⟨q, rfl⟩ := y; exact ⟨r ++ q, by simp⟩
theorem Pre.snoc (ι : List Addr) (a : Addr) : Pre ι (ι ++ [a]) := ⟨[a], rfl⟩
theorem Pre.get {ι ι' : List Addr} (p : Pre ι ι') {i : Nat} {a : Addr} (h : ι[i]? = some a) : ι'[i]? = some a := by
  obtain ⟨r, rfl⟩ := p
  rw [List.getElem?_append_left (List.getElem?_eq_some_iff.mp h).1]; exact h
theorem VRel.mono {ι ι' : List Addr} (p : Pre ι ι') {v : Value} {a : AV} (h : VRel ι v a) : VRel ι' v a := by
  cases h with
  | none => exact .none
  | bool b => exact .bool b
  | int i t => exact .int i t
  | str x t => exact .str x t
  | obj h => exact .obj (p.get h)
  | top v h => exact .top v h

noncomputable def NsAt (ι : List Addr) : Option Value → Option AV → Prop
  | some v, some a => VRel ι v a
  | none, none => True
  | _, _ => False
theorem NsAt.mono {ι ι' : List Addr} (p : Pre ι ι') : ∀ {v : Option Value} {a : Option AV}, NsAt ι v a → NsAt ι' v a
  | some _, some _, h => VRel.mono p h
  | none, none, _ => trivial
  | some _, none, h => h.elim
  | none, some _, h => h.elim
section
variable (prog : Program) (w : World)
noncomputable def ORel (ι : List Addr) (o : Obj) : AO → Prop
  | .ro xs => (∃ vs n, o.cls = .type "list" ∧ o.data = .seq vs n ∧ F2 (VRel ι) vs.toList xs) ∧ xs.length ≤ line
  | .list xs => (∃ vs n, o = { cls := .type "list", data := .seq vs n } ∧ F2 (VRel ι) vs.toList xs) ∧ xs.length ≤ line
  | .tuple xs => (∃ vs n, o = { cls := .type "tuple", data := .seq vs n } ∧ F2 (VRel ι) vs.toList xs) ∧ xs.length ≤ line
  | .dict es => (∃ kvs, o.IsDictOf (intKind prog w) kvs ∧ F2 (fun kv e => kv.1 = e.1 ∧ VRel ι kv.2 e.2) kvs es) ∧ es.length ≤ line
  | .inst c d => o.cls = .ref c ∧ o.data = .plain ∧ ∃ dx, o.dict = some dx ∧ ι[d]? = some dx
  | .ns fs => (∃ es ep, o.data = .dict es ep ∧ StrKeys es ∧ ∀ x, NsAt ι (nsFind es x) (lookS fs x)) ∧ (∃ es ep, o.data = .dict es ep ∧ es.size ≤ fs.length) ∧ fs.length ≤ 500
  | .range a b => (∃ t u v, o = { cls := .type "range", data := .fields #[.int a t, .int b u, .int 1 v] }) ∧ smallR a b = true
  | .slice l u => o.cls = .type "slice" ∧ ∃ lv uv, o.data = .fields #[lv, uv, .none] ∧ VRel ι lv l ∧ VRel ι uv u
  | .keys d => o.cls = .type "dict_keys" ∧ ∃ dd, o.data = .fields #[.ref dd] ∧ ι[d]? = some dd
  | .exc c => o.cls = .ref c ∧ ∃ vs, o.data = .fields vs
end

theorem ORel.mono {prog : Program} {w : World} {ι ι' : List Addr} (p : Pre ι ι') {o : Obj} {ao : AO} (h : ORel prog w ι o ao) : ORel prog w ι' o ao := by
  cases ao with
  | ro xs => obtain ⟨⟨vs, n, a, b, c⟩, d⟩ := h; exact ⟨⟨vs, n, a, b, c.mono fun _ _ => VRel.mono p⟩, d⟩
  | list xs => obtain ⟨⟨vs, n, b, c⟩, d⟩ := h; exact ⟨⟨vs, n, b, c.mono fun _ _ => VRel.mono p⟩, d⟩
  | tuple xs => obtain ⟨⟨vs, n, b, c⟩, d⟩ := h; exact ⟨⟨vs, n, b, c.mono fun _ _ => VRel.mono p⟩, d⟩
  | dict es => obtain ⟨⟨kvs, a, b⟩, c⟩ := h; exact ⟨⟨kvs, a, b.mono fun _ _ x => ⟨x.1, x.2.mono p⟩⟩, c⟩
  | inst c d => obtain ⟨a, b, dx, e, f⟩ := h; exact ⟨a, b, dx, e, p.get f⟩
  | ns fs => obtain ⟨⟨es, n, a, b, c⟩, d⟩ := h; exact ⟨⟨es, n, a, b, fun x => (c x).mono p⟩, d⟩
  | range a b => exact h
  | slice l u => obtain ⟨a, lv, uv, b, c, d⟩ := h; exact ⟨a, lv, uv, b, c.mono p, d.mono p⟩
  | keys d => obtain ⟨a, dd, b, c⟩ := h; exact ⟨a, dd, b, p.get c⟩
  | exc c => exact h

noncomputable def isRo (o : AO) : Bool := match o with
  | .ro _ => true
  | _ => false

inductive Loc where
  | loc (x : Str)
  | cell (c : Addr)
  | at (C : Addr) (x : Str)
  | gone

structure Cx where
  Kp : Addr → Option Obj
  L : Addr
  locs : List Loc
  s₀ : Shared
  ros : List Addr
  fr : List Addr

/-- the thing o is still at b; if b is a frame, its slots may have changed -/
noncomputable def Fz (fr : List Addr) (h : Heap) (b : Addr) (o : Obj) : Prop := ∃ o', h.get? b = some o' ∧ (o' = o ∨ (b ∈ fr ∧ ∃ sl, o' = { o with slots := sl }))
theorem Fz.ext {fr : List Addr} {h h' : Heap} {b : Addr} {o : Obj} (x : Fz fr h b o) (k : ∀ o', h.get? b = some o' → h'.get? b = some o') : Fz fr h' b o :=
  let ⟨o', e, q⟩ := x; ⟨o', k o' e, q⟩
theorem Fz.get {fr : List Addr} {h : Heap} {b : Addr} {o : Obj} (x : Fz fr h b o) (hb : b ∉ fr) : h.get? b = some o := by
  obtain ⟨o', e, rfl | ⟨q, _⟩⟩ := x
  · exact e
  · exact absurd q hb
theorem Fz.data {fr : List Addr} {h : Heap} {b : Addr} {o : Obj} (x : Fz fr h b o) : ∃ o', h.get? b = some o' ∧ o'.data = o.data := by
  obtain ⟨o', e, rfl | ⟨_, sl, rfl⟩⟩ := x
  · exact ⟨_, e, rfl⟩
  · exact ⟨_, e, rfl⟩

structure CxOk (X : Cx) : Prop where
  inj : ∀ (i j : Nat) (x : Str), X.locs[i]? = some (Loc.loc x) → X.locs[j]? = some (Loc.loc x) → i = j
  cinj : ∀ (i j : Nat) (c : Addr), X.locs[i]? = some (Loc.cell c) → X.locs[j]? = some (Loc.cell c) → i = j
  kL : X.Kp X.L = none
  kc : ∀ (i : Nat) (c : Addr), X.locs[i]? = some (Loc.cell c) → X.Kp c = none ∧ c ≠ X.L
  ats : ∀ (i : Nat) (C : Addr) (x : Str), X.locs[i]? = some (Loc.at C x) → ∃ o, X.Kp C = some o
  ro : ∀ a, a ∈ X.ros → ∃ o, X.Kp a = some o
  rof : ∀ a, a ∈ X.ros → a ∉ X.fr
  frk : ∀ a, a ∈ X.fr → ∃ o, X.Kp a = some o ∧ ∀ vs, o.data ≠ .fields vs

/-- b lies apart from all that the relation speaks of -/
structure Apart (X : Cx) (ι : List Addr) (b : Addr) : Prop where
  kp : X.Kp b = none
  nin : b ∉ ι
  nL : b ≠ X.L
  nc : ∀ (i : Nat) (c : Addr), X.locs[i]? = some (Loc.cell c) → c ≠ b
/-- the exception e of the store has left a call; its last entry says fl -/
inductive Tr (X : Cx) (ι : List Addr) (σ : List AO) (e : Nat) (fl : Value) (h : Heap) : Value → Prop
  | mk {x c : Addr} {oe : Obj} {vs : Array Value} {a0 : Value} {T : Addr} {oT : Obj} {ts : Array Value} (hx : ι[e]? = some x) (hs : σ[e]? = some (.exc c)) (ho : h.get? x = some oe) (hd : oe.data = .fields vs) (h0 : vs[0]? = some a0) (h1 : vs[1]? = some (.ref T)) (hT : T ≠ x) (ap : Apart X ι T) (hoT : h.get? T = some oT) (hdT : oT.data = .fields ts) (h3 : ts[3]? = some fl) : Tr X ι σ e fl h (.ref x)
/-- the exception e of the store flies: it is new, or has left a call -/
inductive Fly (X : Cx) (ι : List Addr) (σ : List AO) (e : Nat) (h : Heap) : Value → Prop
  | new {x c : Addr} {oe : Obj} {vs : Array Value} {a0 : Value} (hx : ι[e]? = some x) (hs : σ[e]? = some (.exc c)) (ho : h.get? x = some oe) (hd : oe.data = .fields vs) (h0 : vs[0]? = some a0) (h1 : vs[1]? = some .none) : Fly X ι σ e h (.ref x)
  | on {v : Value} (t : Tr X ι σ e .none h v) : Fly X ι σ e h v

section
variable (prog : Program) (w : World)
structure Rel (X : Cx) (ι : List Addr) (st : ASt) (s : Shared) : Prop where
  frozen : ∀ b o, X.Kp b = some o → Fz X.fr s.heap b o
  ns : ∃ m, s.heap.Ns X.L m ∧ ∀ (i : Nat) (x : Str) (a : AV), X.locs[i]? = some (Loc.loc x) → st.ρ[i]? = some (some a) → ∃ v, m x = some v ∧ VRel ι v a
  len : ι.length = st.σ.length
  nodup : ι.Nodup
  free : ∀ (i : Nat) (a : Addr) (ao : AO), ι[i]? = some a → st.σ[i]? = some ao → (isRo ao = false → X.Kp a = none) ∧ a ≠ X.L ∧ (isRo ao = true → a ∈ X.ros)
  objs : ∀ (i : Nat) (ao : AO), st.σ[i]? = some ao → ∃ a o, ι[i]? = some a ∧ s.heap.get? a = some o ∧ ORel prog w ι o ao
  cells : ∀ (i : Nat) (c : Addr), X.locs[i]? = some (Loc.cell c) → c ∉ ι ∧ ∃ o v, s.heap.get? c = some o ∧ o.data = .cell v ∧ ∀ a, st.ρ[i]? = some (some a) → ∃ u, v = some u ∧ VRel ι u a
  comps : ∀ (i : Nat) (C : Addr) (x : Str), X.locs[i]? = some (Loc.at C x) → ∀ a, st.ρ[i]? = some (some a) → ∃ o es ep v, X.Kp C = some o ∧ o.data = .dict es ep ∧ StrKeys es ∧ nsFind es x = some v ∧ VRel ι v a
  rlen : st.ρ.length = X.locs.length
  shape : s = { X.s₀ with heap := s.heap, toks := s.toks }

/-- the tree t does what m does -/
noncomputable def SimAt (A : Around) (X : Cx) {α β : Type} (ι : List Addr) (st : ASt) (s : Shared) (t : Sem β) (m : M α) (VR : List Addr → β → α → Prop) : Prop :=
  ∀ a st', m st = some (.ok a, st') → ∀ (Q : β → Shared → Prop) (E : Value → Shared → Prop),
    (∀ ι' s' b, Pre ι ι' → Rel prog w X ι' st' s' → VR ι' b a → Q b s') → wpAny (model prog w) A t Q E s
/-- and raises what m raises -/
noncomputable def SimX (A : Around) (X : Cx) {α β : Type} (ι : List Addr) (st : ASt) (s : Shared) (t : Sem β) (m : M α) : Prop :=
  ∀ e st', m st = some (.error e, st') → ∀ (Q : β → Shared → Prop) (E : Value → Shared → Prop),
    (∀ ι' s' v, Pre ι ι' → Rel prog w X ι' st' s' → Fly X ι' st'.σ e s'.heap v → E v s') → wpAny (model prog w) A t Q E s
end
theorem noerr_eq {α : Type} {m : M α} {st : ASt} {x : Except Nat α × ASt} (h : noerr m st = some x) : ∃ r st', m st = some (.ok r, st') ∧ x = (.ok r, st') := by
  have h : (match m st with | some (.ok a, st') => some (.ok a, st') | _ => Option.none) = some x := h
  generalize m st = y at h
  match y, h with
  | some (.ok a, st'), h => exact ⟨a, st', rfl, (Option.some.inj h).symm⟩
theorem noerr_ok {α : Type} {m : M α} {st st' : ASt} {r : α} (h : noerr m st = some (.ok r, st')) : m st = some (.ok r, st') := by
  obtain ⟨_, _, e, q⟩ := noerr_eq h
  cases q; exact e
theorem noerr_no {α : Type} {m : M α} {st st' : ASt} {e : Nat} (h : noerr m st = some (.error e, st')) : False := by
  obtain ⟨_, _, _, q⟩ := noerr_eq h
  cases q
theorem bnd_err {α β : Type} {m : M α} {f : α → M β} {st st' : ASt} {e : Nat} {G : Prop} (h : bnd m f st = some (.error e, st')) (k1 : m st = some (.error e, st') → G) (k2 : ∀ a st₁, m st = some (.ok a, st₁) → f a st₁ = some (.error e, st') → G) : G := by
  unfold bnd at h
  split at h
  · cases h
  · rename_i e1; exact k2 _ _ e1 h
  · rename_i e1; cases h; exact k1 e1

section
variable {prog : Program} {w : World} {A : Around} {X : Cx} {α β γ δ : Type} {ι : List Addr} {st : ASt} {s : Shared}

theorem bnd_some {m : M α} {f : α → M β} {st st' : ASt} {r : β} (h : bnd m f st = some (.ok r, st')) : ∃ a st₁, m st = some (.ok a, st₁) ∧ f a st₁ = some (.ok r, st') := by
  unfold bnd at h
  split at h
  · first | exact no_some h | cases h
  · rename_i a st₁ e; exact ⟨a, st₁, e, h⟩
  · first | exact no_some h | cases h

theorem bnd_elim {α β : Type} {m : M α} {f : α → M β} {st st' : ASt} {b : β} {G : Prop} (h : bnd m f st = some (.ok b, st')) (k : ∀ a st₁, m st = some (.ok a, st₁) → f a st₁ = some (.ok b, st') → G) : G := by
  obtain ⟨a, s₁, h1, h2⟩ := bnd_some h; exact k a s₁ h1 h2
theorem SimAt.pure {b : β} {a : α} {VR : List Addr → β → α → Prop} (R : Rel prog w X ι st s) (v : VR ι b a) : SimAt prog w A X ι st s (pure b) (ret a) VR := by
  intro a' st' e Q E hk
  unfold ret at e; cases e
  exact wpAny_pure (hk ι s b (Pre.refl ι) R v)

/-- a leaf: no object is made or changed -/
theorem SimAt.leaf {t : Sem β} {m : M α} {VR : List Addr → β → α → Prop} (R : Rel prog w X ι st s)
    (h : ∀ a st', m st = some (.ok a, st') → st' = st ∧ ∀ (Q : β → Shared → Prop) (E : Value → Shared → Prop), (∀ b tk, VR ι b a → Q b { s with toks := tk }) → wpAny (model prog w) A t Q E s) :
    SimAt prog w A X ι st s t m VR := by
  intro a st' e Q E hk
  obtain ⟨rfl, h'⟩ := h a st' e
  refine h' Q E fun b tk v => hk ι _ b (Pre.refl ι) ?_ v
  exact ⟨R.frozen, R.ns, R.len, R.nodup, R.free, R.objs, R.cells, R.comps, R.rlen, by rw [R.shape]⟩

theorem SimAt.fail {t : Sem β} {VR : List Addr → β → α → Prop} : SimAt prog w A X ι st s t (fail : M α) VR := by
  intro a st' e; cases e

theorem Rel.toks (R : Rel prog w X ι st s) (tk : Nat) : Rel prog w X ι st { s with toks := tk } :=
  ⟨R.frozen, R.ns, R.len, R.nodup, R.free, R.objs, R.cells, R.comps, R.rlen, by rw [R.shape]⟩
theorem Rel.get (R : Rel prog w X ι st s) {i : Nat} {a : Addr} {ao : AO} (h : ι[i]? = some a) (e : st.σ[i]? = some ao) : ∃ o, s.heap.get? a = some o ∧ ORel prog w ι o ao := by
  obtain ⟨a', o, h', ho, r⟩ := R.objs i ao e
  rw [h] at h'; cases h'; exact ⟨o, ho, r⟩
theorem Rel.mem {i : Nat} {a : Addr} (h : ι[i]? = some a) : a ∈ ι := List.mem_of_getElem? h
theorem Rel.keep (R : Rel prog w X ι st s) {hb : Heap} (hk : ∀ b o, hb.get? b = some o → X.Kp b = some o) (hf : ∀ b, b ∈ X.fr → hb.get? b = none) : ∀ b o, hb.get? b = some o → s.heap.get? b = some o :=
  fun b o e => (R.frozen b o (hk b o e)).get fun q => by rw [hf b q] at e; cases e

theorem nodup_idx {l : List Addr} (h : l.Nodup) : ∀ {i j : Nat} {a : Addr}, l[i]? = some a → l[j]? = some a → i = j := by
  intro i j a h1 h2
  obtain ⟨hi, e1⟩ := List.getElem?_eq_some_iff.mp h1
  obtain ⟨hj, e2⟩ := List.getElem?_eq_some_iff.mp h2
  exact (List.getElem_inj h).mp (e1.trans e2.symm)

theorem Rel.mem_get (R : Rel prog w X ι st s) {b : Addr} (hb : b ∈ ι) : ∃ (i : Nat) (ao : AO) (ob : Obj), ι[i]? = some b ∧ st.σ[i]? = some ao ∧ s.heap.get? b = some ob := by
  obtain ⟨i, hi⟩ := List.mem_iff_getElem?.mp hb
  have hlt : i < st.σ.length := R.len ▸ (List.getElem?_eq_some_iff.mp hi).1
  obtain ⟨a', ob, h1, h2, _⟩ := R.objs i _ (List.getElem?_eq_getElem hlt)
  rw [hi] at h1; cases h1; exact ⟨i, _, ob, hi, List.getElem?_eq_getElem hlt, h2⟩
/-- a made thing -/
theorem Rel.alloc (R : Rel prog w X ι st s) {h' : Heap} {o : Obj} {ao : AO} {a : Addr} {tk : Nat} (hfr : s.heap.get? a = none) (hkp : X.Kp a = none)
    (hext : ∀ b ob, s.heap.get? b = some ob → h'.get? b = some ob) (ho : h'.get? a = some o) (hr : ORel prog w (ι ++ [a]) o ao) (hro : isRo ao = false := by rfl) :
    Rel prog w X (ι ++ [a]) ⟨st.σ ++ [ao], st.ρ⟩ { s with heap := h', toks := tk } := by
  have p := Pre.snoc ι a
  have hnot : a ∉ ι := fun hm => by obtain ⟨_, _, ob, _, _, e⟩ := R.mem_get hm; rw [hfr] at e; cases e
  have hnl : a ≠ X.L := fun e => by
    obtain ⟨m, ⟨oL, _, _, hL, _⟩, _⟩ := R.ns
    rw [← e, hfr] at hL; cases hL
  refine ⟨fun b ob e => (R.frozen b ob e).ext (hext b), ?_, by simp [R.len], ?_, ?_, ?_, ?_, ?_, R.rlen, by rw [R.shape]⟩
  · obtain ⟨m, hm, hv⟩ := R.ns
    exact ⟨m, hm.keeps hext, fun i x b h1 h2 => by obtain ⟨v, e1, e2⟩ := hv i x b h1 h2; exact ⟨v, e1, e2.mono p⟩⟩
  · rw [List.nodup_append]
    exact ⟨R.nodup, by simp, fun b hb c hc e => by simp at hc; subst hc; subst e; exact hnot hb⟩
  · intro i b bo hb hbo
    by_cases hi : i < ι.length
    · rw [List.getElem?_append_left hi] at hb
      rw [List.getElem?_append_left (R.len ▸ hi)] at hbo
      exact R.free i b bo hb hbo
    · have : i = ι.length := by
        have := (List.getElem?_eq_some_iff.mp hb).1
        simp at this; omega
      subst this
      simp at hb; subst hb
      have hbo' : bo = ao := by rw [R.len] at hbo; simpa using hbo.symm
      subst hbo'
      exact ⟨fun _ => hkp, hnl, fun q => by rw [hro] at q; cases q⟩
  · intro i b e
    by_cases hi : i < st.σ.length
    · rw [List.getElem?_append_left hi] at e
      obtain ⟨a', ob, h1, h2, h3⟩ := R.objs i b e
      exact ⟨a', ob, p.get h1, hext _ _ h2, h3.mono p⟩
    · have : i = st.σ.length := by
        have := (List.getElem?_eq_some_iff.mp e).1
        simp at this; omega
      subst this
      simp at e; subst e
      refine ⟨a, o, ?_, ho, hr⟩
      rw [← R.len]; simp
  · intro i c hc
    obtain ⟨h1, ob, v, h2, h3, h4⟩ := R.cells i c hc
    refine ⟨fun hm => ?_, ob, v, hext _ _ h2, h3, fun b hb => by obtain ⟨u, e1, e2⟩ := h4 b hb; exact ⟨u, e1, e2.mono p⟩⟩
    rcases List.mem_append.mp hm with hm | hm
    · exact h1 hm
    · simp at hm; subst hm; rw [hfr] at h2; cases h2
  · intro i C x hc b hb
    obtain ⟨ob, es, ep, v, h1, h2, h3, h4, h5⟩ := R.comps i C x hc b hb
    exact ⟨ob, es, ep, v, h1, h2, h3, h4, h5.mono p⟩

/-- a changed thing -/
theorem Rel.upd (R : Rel prog w X ι st s) {h' : Heap} {o : Obj} {ao ao₀ : AO} {a : Addr} {i tk : Nat} (hi : ι[i]? = some a) (h0 : st.σ[i]? = some ao₀) (hro : isRo ao₀ = false)
    (hext : ∀ b ob, b ≠ a → s.heap.get? b = some ob → h'.get? b = some ob) (ho : h'.get? a = some o) (hr : ORel prog w ι o ao) (hro' : isRo ao = false := by rfl) :
    Rel prog w X ι ⟨st.σ.set i ao, st.ρ⟩ { s with heap := h', toks := tk } := by
  have hm := Rel.mem hi
  have hf := R.free i a ao₀ hi h0
  have hlt : i < st.σ.length := R.len ▸ (List.getElem?_eq_some_iff.mp hi).1
  refine ⟨fun b ob e => (R.frozen b ob e).ext fun o' => hext b o' fun q => ?_, ?_, by simp [R.len], R.nodup, ?_, ?_, ?_, R.comps, R.rlen, by rw [R.shape]⟩
  · subst q; rw [hf.1 hro] at e; cases e
  · obtain ⟨m, hn, hv⟩ := R.ns
    exact ⟨m, hn.at' fun ob e => hext _ ob (fun q => hf.2.1 q.symm) e, hv⟩
  · intro j b bo hb hbo
    by_cases hj : i = j
    · subst hj
      rw [List.getElem?_set_self hlt] at hbo; cases hbo
      rw [hi] at hb; cases hb
      exact ⟨fun _ => hf.1 hro, hf.2.1, fun q => by rw [hro'] at q; cases q⟩
    · rw [List.getElem?_set_ne hj] at hbo
      exact R.free j b bo hb hbo
  · intro j b e
    by_cases hj : i = j
    · subst hj
      rw [List.getElem?_set_self hlt] at e; cases e
      exact ⟨a, o, hi, ho, hr⟩
    · rw [List.getElem?_set_ne hj] at e
      obtain ⟨a', ob, h1, h2, h3⟩ := R.objs j b e
      exact ⟨a', ob, h1, hext _ _ (fun q => hj (nodup_idx R.nodup hi (q ▸ h1))) h2, h3⟩
  · intro j c hc
    obtain ⟨h1, ob, v, h2, h3, h4⟩ := R.cells j c hc
    exact ⟨h1, ob, v, hext _ _ (fun q => h1 (q ▸ hm)) h2, h3, h4⟩

theorem Rel.modules {hb : Heap} (hk : ∀ b o, hb.get? b = some o → X.Kp b = some o) (hm : ∃ o, hb.get? sysModules = some o) (R : Rel prog w X ι st s) {i : Nat} {a : Addr} {ao : AO} (hi : ι[i]? = some a) (h0 : st.σ[i]? = some ao) (hro : isRo ao = false) : (a == sysModules) = false := by
  obtain ⟨o, ho⟩ := hm
  have := (R.free i a ao hi h0).1 hro
  cases q : a == sysModules with
  | false => rfl
  | true => rw [beq_iff_eq.mp q, hk _ _ ho] at this; cases this
end
end Mine
namespace Mine
open PySem PyProof.Rows

theorem guard_some {b : Bool} {st st' : ASt} {u : Unit} (h : guard b st = some (.ok u, st')) : b = true ∧ st' = st := by
  unfold guard at h
  split at h
  · rename_i e; cases h; exact ⟨e, rfl⟩
  · first | exact no_some h | cases h
theorem ofOpt_some {α : Type} {o : Option α} {st st' : ASt} {a : α} (h : ofOpt o st = some (.ok a, st')) : o = some a ∧ st' = st := by
  unfold ofOpt at h
  split at h
  · cases h; exact ⟨rfl, rfl⟩
  · first | exact no_some h | cases h
theorem ret_some {α : Type} {x a : α} {st st' : ASt} (h : ret x st = some (.ok a, st')) : a = x ∧ st' = st := by unfold ret at h; cases h; exact ⟨rfl, rfl⟩
theorem deref_some {i : Nat} {o : AO} {st st' : ASt} (h : deref i st = some (.ok o, st')) : st.σ[i]? = some o ∧ st' = st := by
  unfold deref at h
  split at h
  · rename_i e; cases h; exact ⟨e, rfl⟩
  · first | exact no_some h | cases h
theorem upd_some {i : Nat} {o : AO} {st st' : ASt} {u : Unit} (h : Mine.upd i o st = some (.ok u, st')) : st' = ⟨st.σ.set i o, st.ρ⟩ := by
  unfold Mine.upd at h; cases h; rfl
theorem alloc_some {o : AO} {st st' : ASt} {v : AV} (h : alloc o st = some (.ok v, st')) : v = .obj st.σ.length ∧ st' = ⟨st.σ ++ [o], st.ρ⟩ := by
  unfold alloc at h; cases h; exact ⟨rfl, rfl⟩
theorem fail_some {α : Type} {a : α} {st st' : ASt} (h : (fail : M α) st = some (.ok a, st')) : False := by cases h

section
variable {prog : Program} {w : World} {A : Around} {X : Cx} {ι : List Addr} {st : ASt} {s : Shared} {v u : Value} {a b : AV}

abbrev VR0 : List Addr → Value → AV → Prop := VRel
abbrev BR : List Addr → Bool → Bool → Prop := fun _ x y => x = y
abbrev CR : List Addr → Value → Bool → Prop := fun _ x y => x = .bool y
abbrev UR : List Addr → Unit → Unit → Prop := fun _ _ _ => True

theorem VRel.obj_inv {i : Nat} (h : VRel ι v (.obj i)) : ∃ c, v = .ref c ∧ ι[i]? = some c := by cases h; exact ⟨_, rfl, by assumption⟩

theorem Rel.plainList (R : Rel prog w X ι st s) {i : Nat} {c : Addr} {xs : List AV} (h : ι[i]? = some c) (e : st.σ[i]? = some (.list xs)) :
    ∃ vs n, s.heap.get? c = some { cls := .type "list", data := .seq vs n } ∧ F2 (VRel ι) vs.toList xs ∧ xs.length ≤ line := by
  obtain ⟨o, ho, ⟨vs, n, rfl, hf⟩, hl⟩ := R.get h e
  exact ⟨vs, n, ho, hf, hl⟩
theorem Rel.isList (R : Rel prog w X ι st s) {i : Nat} {c : Addr} {xs : List AV} (h : ι[i]? = some c) (e : st.σ[i]? = some (.list xs)) :
    ∃ vs, s.heap.IsList c vs ∧ F2 (VRel ι) vs.toList xs ∧ xs.length ≤ line := by
  obtain ⟨vs, n, ho, hf, hl⟩ := R.plainList h e
  exact ⟨vs, ⟨_, ho, rfl, n, rfl⟩, hf, hl⟩
theorem Rel.isTuple (R : Rel prog w X ι st s) {i : Nat} {c : Addr} {xs : List AV} (h : ι[i]? = some c) (e : st.σ[i]? = some (.tuple xs)) :
    ∃ vs, IsTup s.heap c vs ∧ F2 (VRel ι) vs.toList xs ∧ xs.length ≤ line := by
  obtain ⟨o, ho, ⟨vs, n, rfl, hf⟩, hl⟩ := R.get h e
  exact ⟨vs, ⟨_, ho, rfl, n, rfl⟩, hf, hl⟩
theorem Rel.isDict (R : Rel prog w X ι st s) {i : Nat} {c : Addr} {es : List (Int × AV)} (h : ι[i]? = some c) (e : st.σ[i]? = some (.dict es)) :
    ∃ kvs, s.heap.DictOf (intKind prog w) c kvs ∧ F2 (fun kv e => kv.1 = e.1 ∧ VRel ι kv.2 e.2) kvs es ∧ es.length ≤ line := by
  obtain ⟨o, ho, ⟨kvs, hd, hf⟩, hl⟩ := R.get h e
  exact ⟨kvs, Heap.dictOf_iff.mpr ⟨o, ho, hd⟩, hf, hl⟩
theorem f2_size {vs : Array Value} {xs : List AV} (h : F2 (VRel ι) vs.toList xs) : vs.size = xs.length := by rw [← h.length]; simp

theorem get_size_none (h : Heap) : h.get? h.objs.size = none := by
  cases q : h.get? h.objs.size with
  | none => rfl
  | some o => exact absurd (Heap.lt_size q) (Nat.lt_irrefl _)
theorem Rel.kp_none (R : Rel prog w X ι st s) {c : Addr} (h : s.heap.get? c = none) : X.Kp c = none := by
  cases q : X.Kp c with
  | none => rfl
  | some o => obtain ⟨o', h', _⟩ := R.frozen c o q; rw [h'] at h; cases h
theorem Rel.push (R : Rel prog w X ι st s) {o : Obj} {ao : AO} {tk : Nat} (hf : o.isFreed = false) (hr : ORel prog w (ι ++ [s.heap.objs.size]) o ao) (hro : isRo ao = false := by rfl) :
    Rel prog w X (ι ++ [s.heap.objs.size]) ⟨st.σ ++ [ao], st.ρ⟩ { s with heap := s.heap.push o, toks := tk } :=
  R.alloc (get_size_none _) (R.kp_none (get_size_none _)) (fun _ _ e => Heap.get?_push_of_some _ e) (Heap.get?_push_size _ hf) hr hro
theorem Rel.newIdx (R : Rel prog w X ι st s) (c : Addr) : (ι ++ [c])[st.σ.length]? = some c := by rw [← R.len]; simp
theorem sim_push (R : Rel prog w X ι st s) {t : Sem Value} {o : Obj} {ao : AO} (tk : Nat) (hf : o.isFreed = false ∧ isRo ao = false) (hr : ORel prog w (ι ++ [s.heap.objs.size]) o ao)
    (h : ∀ (Q : Value → Shared → Prop) (E : Value → Shared → Prop), Q (.ref s.heap.objs.size) { s with heap := s.heap.push o, toks := tk } → wpAny (model prog w) A t Q E s) : SimAt prog w A X ι st s t (alloc ao) VR0 := by
  intro r st' e Q E k
  obtain ⟨rfl, rfl⟩ := alloc_some e
  exact h Q E (k _ _ _ (Pre.snoc _ _) (R.push hf.1 hr hf.2) (.obj (R.newIdx _)))

theorem sizeLine_val : sizeLine = 16777216 := by decide +kernel
theorem line_val : line = 16000000 := rfl

theorem sim_truthy (R : Rel prog w X ι st s) (hv : VRel ι v a) : SimAt prog w A X ι st s (PySem.truthy v) (truthy a) BR := by
  refine SimAt.leaf R fun b st' e => ?_
  cases hv with
  | none => obtain ⟨rfl, rfl⟩ := ret_some e; exact ⟨rfl, fun Q E k => PyProof.Rows.truthy_none (k _ s.toks rfl)⟩
  | bool c => obtain ⟨rfl, rfl⟩ := ret_some e; exact ⟨rfl, fun Q E k => wpAny_truthy_bool (k _ s.toks rfl)⟩
  | int i t => obtain ⟨rfl, rfl⟩ := ret_some e; exact ⟨rfl, fun Q E k => PyProof.Rows.truthy_int (k _ s.toks rfl)⟩
  | str x t =>
    refine bnd_elim e fun _ st₁ e1 e2 => ?_
    obtain ⟨hx, rfl⟩ := guard_some e1
    obtain ⟨rfl, rfl⟩ := ret_some e2
    have hx := of_decide_eq_true hx
    rw [line_val] at hx
    refine ⟨rfl, fun Q E k => P.truthy_str (by omega) (k _ _ ?_)⟩
    show ((x.length : Int) != 0) = (x.length != 0)
    by_cases h0 : x.length = 0
    · rw [h0]; rfl
    · have h1 : ((x.length : Int) != 0) = true := bne_iff_ne.mpr (by omega)
      rw [h1, bne_iff_ne.mpr h0]
  | obj h =>
    refine bnd_elim e fun o st₁ e1 e2 => ?_
    obtain ⟨e1, rfl⟩ := deref_some e1
    cases o with
    | list xs =>
      obtain ⟨rfl, rfl⟩ := ret_some e2
      obtain ⟨vs, hl, hf, hb⟩ := R.isList h e1
      have hs := f2_size hf
      rw [line_val] at hb
      refine ⟨rfl, fun Q E k => wpAny_truthy_list hl (by omega) (k _ _ ?_)⟩
      show (!vs.isEmpty) = (xs.length != 0)
      rw [← hs]; unfold Array.isEmpty; by_cases h0 : vs.size = 0 <;> simp [h0]
    | tuple xs =>
      obtain ⟨rfl, rfl⟩ := ret_some e2
      obtain ⟨vs, hl, hf, hb⟩ := R.isTuple h e1
      have hs := f2_size hf
      rw [line_val] at hb
      refine ⟨rfl, fun Q E k => PyProof.Rows.truthy_tuple hl (by omega) (k _ _ ?_)⟩
      show (!vs.isEmpty) = (xs.length != 0)
      rw [← hs]; unfold Array.isEmpty; by_cases h0 : vs.size = 0 <;> simp [h0]
    | _ => exact (fail_some e2).elim
  | top v _ => exact absurd e (fun h => by cases h)

theorem mul_ok {x y : Int} (h : y.natAbs < 2 ^ 64 ∨ x.natAbs < 2 ^ 64) : IntMulOk x y := by
  have key : ∀ z : Int, z.natAbs < 2 ^ 64 → Builtin.Int.intBits z ≤ 64 := by
    intro z hz
    unfold Builtin.Int.intBits
    split
    · exact Nat.zero_le _
    · have h0 : z.natAbs ≠ 0 := by
        rename_i h; intro q; exact h (by simpa using q)
      have := (Nat.log2_lt h0).mpr hz
      omega
  rcases h with h | h
  · exact IntMulOk.of_right (key _ h)
  · exact IntMulOk.of_left (key _ h)

theorem sim_intOp {op : Operator} {f : Int → Int → M AV} (hv : VRel ι v a) (hu : VRel ι u b)
    (h : ∀ x t y t', SimAt prog w A X ι st s (binaryOp op (.int x t) (.int y t')) (f x y) VR0) : SimAt prog w A X ι st s (binaryOp op v u) (intOp f a b) VR0 := by
  intro r st' e Q E k
  cases hv with
  | int x t =>
    cases hu with
    | int y t' => exact h x t y t' r st' e Q E k
    | _ => first | exact no_some e | cases e
  | _ => first | exact no_some e | cases e
theorem sim_addOp (R : Rel prog w X ι st s) (hv : VRel ι v a) (hu : VRel ι u b) : SimAt prog w A X ι st s (binaryOp .Add v u) (addOp a b) VR0 := by
  intro r st' e Q E k
  cases hv with
  | int x t =>
    cases hu with
    | int y t' => obtain ⟨rfl, rfl⟩ := ret_some e; exact PyProof.Rows.add_int (k _ _ _ (Pre.refl ι) (R.toks _) (.int _ _))
    | _ => first | exact no_some e | cases e
  | _ => first | exact no_some e | cases e
theorem sim_binop (R : Rel prog w X ι st s) {op : Operator} (hv : VRel ι v a) (hu : VRel ι u b) : SimAt prog w A X ι st s (binaryOp op v u) (binop op a b) VR0 := by
  cases op with
  | Add => exact sim_addOp R hv hu
  | Sub =>
    refine sim_intOp hv hu fun x t y t' r st' e Q E k => ?_
    obtain ⟨rfl, rfl⟩ := ret_some e; exact PyProof.Rows.sub_int (k _ _ _ (Pre.refl ι) (R.toks _) (.int _ _))
  | Mult =>
    refine sim_intOp hv hu fun x t y t' r st' e Q E k => ?_
    refine bnd_elim e fun _ st₁ e1 e2 => ?_
    obtain ⟨hx, rfl⟩ := guard_some e1
    obtain ⟨rfl, rfl⟩ := ret_some e2
    exact PyProof.Rows.mul_int (k _ _ _ (Pre.refl ι) (R.toks _) (.int _ _)) (mul_ok (by simpa using hx))
  | FloorDiv =>
    refine sim_intOp hv hu fun x t y t' r st' e Q E k => ?_
    refine bnd_elim e fun _ st₁ e1 e2 => ?_
    obtain ⟨hx, rfl⟩ := guard_some e1
    obtain ⟨rfl, rfl⟩ := ret_some e2
    simp only [Bool.and_eq_true, bne_iff_ne, decide_eq_true_eq] at hx
    exact PyProof.Rows.floordiv_int hx.1 (k _ _ _ (Pre.refl ι) (R.toks _) (.int _ _)) (.inl (PyProof.noPylong_small hx.2))
  | Mod =>
    refine sim_intOp hv hu fun x t y t' r st' e Q E k => ?_
    refine bnd_elim e fun _ st₁ e1 e2 => ?_
    obtain ⟨hx, rfl⟩ := guard_some e1
    obtain ⟨rfl, rfl⟩ := ret_some e2
    exact PyProof.Rows.mod_int (by simpa using hx) (k _ _ _ (Pre.refl ι) (R.toks _) (.int _ _))
  | _ => exact SimAt.fail

open PySem.SeqAt in
noncomputable def eqV (y x : Value) : Bool := match y, x with
  | .none, .none => true
  | .bool a, .bool b => a == b
  | .int a _, .int b _ => a == b
  | .str a _, .str b _ => a == b
  | _, _ => false
inductive EqP : AV → AV → Bool → Prop where
  | nn : EqP .none .none true
  | ni (i : Int) : EqP .none (.int i) false
  | iN (i : Int) : EqP (.int i) .none false
  | bb (x y : Bool) : EqP (.bool x) (.bool y) (x == y)
  | ii (x y : Int) : EqP (.int x) (.int y) (x == y)
  | ss (x y : Str) : EqP (.str x) (.str y) (decide (x = y))
theorem eqPlain_inv {a b : AV} {c : Bool} (h : eqPlain a b = some c) : EqP a b c := by
  cases a <;> cases b <;> first | (cases h; constructor) | cases h
open PySem.SeqAt in
theorem eqPlain_at (hv : VRel ι v a) (hu : VRel ι u b) {c : Bool} (h : eqPlain a b = some c) : c = eqV v u ∧ EqAt A s v u (eqV v u) := by
  cases eqPlain_inv h <;> cases hv <;> cases hu
  · exact ⟨rfl, EqAt.same _⟩
  · exact ⟨rfl, EqAt.none_int _ _⟩
  · exact ⟨rfl, EqAt.int_none _ _⟩
  · exact ⟨rfl, EqAt.bool_bool _ _⟩
  · exact ⟨rfl, EqAt.int_int _ _ _ _⟩
  · exact ⟨rfl, EqAt.str_str _ _ _ _⟩

theorem inList_at : ∀ {vs : List Value} {xs : List AV} {c : Bool}, F2 (VRel ι) vs xs → VRel ι v a → inList a xs = some c → (∀ y ∈ vs, PySem.SeqAt.EqAt A s y v (eqV y v)) ∧ c = vs.any (eqV · v)
  | [], [], c, _, _, h => by cases h; exact ⟨(fun _ h => nomatch h), rfl⟩
  | y :: vs, x :: xs, c, hf, hv, h => by
    unfold inList at h
    split at h
    · rename_i b1 c1 h1 h2
      cases h
      obtain ⟨e1, a1⟩ := eqPlain_at (A := A) (s := s) hf.1 hv h1
      obtain ⟨al, ec⟩ := inList_at hf.2 hv h2
      refine ⟨fun z hz => ?_, by rw [List.any_cons, e1, ec]⟩
      cases hz with
      | head => exact a1
      | tail _ hz => exact al z hz
    · first | exact no_some h | cases h
  | [], _ :: _, _, h, _, _ => h.elim
  | _ :: _, [], _, h, _, _ => h.elim

/-- both questions, == and != -/
noncomputable def EqBoth (prog : Program) (w : World) (A : Around) (s : Shared) (v u : Value) (r : Bool) : Prop := ∀ (Q E : Value → Shared → Prop),
  ((∀ tk, Q (.bool r) { s with toks := tk }) → wpAny (model prog w) A (compareOp .Eq v u) Q E s) ∧ ((∀ tk, Q (.bool !r) { s with toks := tk }) → wpAny (model prog w) A (compareOp .NotEq v u) Q E s)
theorem eq_plain (hv : VRel ι v a) (hu : VRel ι u b) {r : Bool} (h : eqPlain a b = some r) : EqBoth prog w A s v u r := by
  intro Q E
  cases eqPlain_inv h <;> cases hv <;> cases hu
  · exact ⟨fun k => EqNone.eq_none_none (k s.toks), fun k => EqNone.ne_none_none (k s.toks)⟩
  · exact ⟨fun k => EqNone.eq_none_int (k s.toks), fun k => EqNone.ne_none_int (k s.toks)⟩
  · exact ⟨fun k => EqNone.eq_int_none (k s.toks), fun k => EqNone.ne_int_none (k s.toks)⟩
  · exact ⟨fun k => PyProof.Rows.eq_bool (k s.toks), fun k => PyProof.Rows.ne_bool (k s.toks)⟩
  · exact ⟨fun k => PyProof.Rows.eq_int (k s.toks), fun k => PyProof.Rows.ne_int (k s.toks)⟩
  · exact ⟨fun k => PyProof.Rows.eq_str (k s.toks), fun k => PyProof.Rows.ne_str (k s.toks)⟩
theorem eq_core (hU : A.units + 1 < cLine) (R : Rel prog w X ι st s) (hv : VRel ι v a) (hu : VRel ι u b) {r : Bool} {st' : ASt} (e : eqv a b st = some (.ok r, st')) : st' = st ∧ EqBoth prog w A s v u r := by
  obtain ⟨e1, rfl⟩ := ofOpt_some e
  exact ⟨rfl, eq_plain hv hu e1⟩
theorem sim_eq (hU : A.units + 1 < cLine) (R : Rel prog w X ι st s) (hv : VRel ι v a) (hu : VRel ι u b) : SimAt prog w A X ι st s (compareOp .Eq v u) (eqv a b) CR :=
  SimAt.leaf R fun r st' e => ⟨(eq_core hU R hv hu e).1, fun Q E k => ((eq_core hU R hv hu e).2 Q E).1 fun tk => k _ tk rfl⟩
theorem sim_ne (hU : A.units + 1 < cLine) (R : Rel prog w X ι st s) (hv : VRel ι v a) (hu : VRel ι u b) : SimAt prog w A X ι st s (compareOp .NotEq v u) (bnd (eqv a b) fun t => ret (!t)) CR := by
  refine SimAt.leaf R fun r st' e => ?_
  refine bnd_elim e fun r0 st0 e er => ?_
  obtain ⟨rfl, rfl⟩ := ret_some er
  exact ⟨(eq_core hU R hv hu e).1, fun Q E k => ((eq_core hU R hv hu e).2 Q E).2 fun tk => k _ tk rfl⟩

theorem look_valueAt : ∀ {kvs : List (Int × Value)} {es : List (Int × AV)} (k : Int), F2 (fun kv e => kv.1 = e.1 ∧ VRel ι kv.2 e.2) kvs es →
    (match look es k with | some a => ∃ v, valueAt kvs k = some v ∧ VRel ι v a | none => valueAt kvs k = none)
  | [], [], _, _ => rfl
  | (k1, v1) :: kvs, (k2, a2) :: es, k, h => by
    obtain ⟨⟨hk, hv⟩, hr⟩ := h
    simp only at hk
    subst hk
    have ih := look_valueAt k hr
    unfold look valueAt
    simp only [List.find?_cons]
    by_cases q : k1 = k
    · subst q; simp only [decide_true, if_true, Option.map_some]; exact ⟨v1, rfl, hv⟩
    · simp only [q, decide_false, if_false]; exact ih
  | [], _ :: _, _, h => h.elim
  | _ :: _, [], _, h => h.elim

theorem sim_memb {hb : Heap} (hk : ∀ b o, hb.get? b = some o → X.Kp b = some o) (hm : ∃ o, hb.get? sysModules = some o) (neg : Bool) (R : Rel prog w X ι st s) (hv : VRel ι v a) (hu : VRel ι u b) :
    SimAt prog w A X ι st s (compareOp (if neg then .NotIn else .In) v u) (bnd (memb a b) fun t => ret (if neg then !t else t)) CR := by
  refine SimAt.leaf R fun r st' e => ?_
  refine bnd_elim e fun r0 st0 e er => ?_
  obtain ⟨rfl, rfl⟩ := ret_some er
  cases hu with
  | obj h =>
    refine bnd_elim e fun o st₁ e1 e2 => ?_
    obtain ⟨e1, rfl⟩ := deref_some e1
    cases o with
    | list xs =>
      obtain ⟨vs, hl, hf, _⟩ := R.isList h e1
      obtain ⟨e5, rfl⟩ := ofOpt_some e2
      obtain ⟨al, ec⟩ := inList_at (A := A.in1) (s := s) hf hv e5
      refine ⟨rfl, fun Q E k => ?_⟩
      cases neg with
      | false => exact SeqAt.in_listAt (eqV · v) hl (fun y hy => al y (by simpa using hy)) (k _ s.toks (by show Value.bool _ = Value.bool _; rw [ec]; simp))
      | true => exact SeqAt.notIn_listAt (eqV · v) hl (fun y hy => al y (by simpa using hy)) (k _ s.toks (by show Value.bool _ = Value.bool _; rw [ec]; simp))
    | tuple xs =>
      obtain ⟨vs, hl, hf, _⟩ := R.isTuple h e1
      obtain ⟨e5, rfl⟩ := ofOpt_some e2
      obtain ⟨al, ec⟩ := inList_at (A := A.in1) (s := s) hf hv e5
      refine ⟨rfl, fun Q E k => ?_⟩
      cases neg with
      | false => exact SeqAt.in_tupleAt (eqV · v) hl (fun y hy => al y (by simpa using hy)) (k _ s.toks (by show Value.bool _ = Value.bool _; rw [ec]; simp))
      | true => exact SeqAt.notIn_tupleAt (eqV · v) hl (fun y hy => al y (by simpa using hy)) (k _ s.toks (by show Value.bool _ = Value.bool _; rw [ec]; simp))
    | dict es =>
      cases hv with
      | int i t =>
        obtain ⟨rfl, rfl⟩ := ret_some e2
        obtain ⟨kvs, hD, hf, _⟩ := R.isDict h e1
        have hval := look_valueAt i hf
        have hsome : (valueAt kvs i).isSome = (look es i).isSome := by
          cases q : look es i with
          | none => rw [q] at hval; rw [hval]; rfl
          | some a => rw [q] at hval; obtain ⟨v, hv, _⟩ := hval; rw [hv]; rfl
        refine ⟨rfl, fun Q E k => ?_⟩
        cases neg with
        | false => exact wpAny_in_of (intKind_is prog w i t) (R.modules hk hm h e1 rfl) hD.mapOf (k _ _ (by show Value.bool _ = Value.bool _; rw [hsome]; rfl))
        | true => exact wpAny_notIn_of (intKind_is prog w i t) (R.modules hk hm h e1 rfl) hD.mapOf (k _ _ (by show Value.bool _ = Value.bool _; rw [hsome]; rfl))
      | _ => exact (fail_some e2).elim
    | _ => exact (fail_some e2).elim
  | _ => first | exact no_some e | cases e

theorem sim_isOp (neg : Bool) (R : Rel prog w X ι st s) (hv : VRel ι v a) (hu : VRel ι u b) :
    SimAt prog w A X ι st s (compareOp (if neg then .IsNot else .Is) v u) (isOp neg a b) CR := by
  refine SimAt.leaf R fun r st' e => ?_
  cases hu with
  | none =>
    obtain ⟨rfl, rfl⟩ := ret_some e
    refine ⟨rfl, fun Q E k => ?_⟩
    have hn : (v == Value.none) = isNone a := by
      cases hv <;> first | rfl | skip
      rename_i h; cases v <;> first | rfl | cases h
    cases neg with
    | false => exact is_none (k _ s.toks (by show Value.bool _ = Value.bool _; rw [hn]; rfl))
    | true => exact isNot_none (k _ s.toks (by show Value.bool _ = Value.bool _; rw [hn]; rfl))
  | _ => first | exact no_some e | cases e
theorem sim_intCmp {op : CmpOp} {f : Int → Int → Bool} (R : Rel prog w X ι st s) (hv : VRel ι v a) (hu : VRel ι u b)
    (h : ∀ x t y t' (Q : Value → Shared → Prop) (E : Value → Shared → Prop), Q (.bool (f x y)) s → wpAny (model prog w) A (compareOp op (.int x t) (.int y t')) Q E s) :
    SimAt prog w A X ι st s (compareOp op v u) (intCmp f a b) CR := by
  refine SimAt.leaf R fun r st' e => ?_
  cases hv with
  | int x t =>
    cases hu with
    | int y t' =>
      obtain ⟨rfl, rfl⟩ := ret_some e
      exact ⟨rfl, fun Q E k => h x t y t' Q E (k _ s.toks rfl)⟩
    | _ => first | exact no_some e | cases e
  | _ => first | exact no_some e | cases e
theorem sim_cmpop {hb : Heap} (hU : A.units + 1 < cLine) (hk : ∀ b o, hb.get? b = some o → X.Kp b = some o) (hm : ∃ o, hb.get? sysModules = some o) {op : CmpOp} (R : Rel prog w X ι st s) (hv : VRel ι v a) (hu : VRel ι u b) :
    SimAt prog w A X ι st s (compareOp op v u) (cmpop op a b) CR := by
  cases op with
  | Eq => exact sim_eq hU R hv hu
  | NotEq => exact sim_ne hU R hv hu
  | In =>
    intro r st' e Q E k
    refine sim_memb hk hm false R hv hu r st' ?_ Q E k
    have e : memb a b st = some (.ok r, st') := e
    unfold bnd; rw [e]; rfl
  | NotIn => exact sim_memb hk hm true R hv hu
  | Is => exact sim_isOp false R hv hu
  | IsNot => exact sim_isOp true R hv hu
  | Lt => exact sim_intCmp R hv hu fun x t y t' Q E h => PyProof.Rows.lt_int h
  | LtE => exact sim_intCmp R hv hu fun x t y t' Q E h => PyProof.Rows.le_int h
  | Gt => exact sim_intCmp R hv hu fun x t y t' Q E h => PyProof.Rows.gt_int h
  | GtE => exact sim_intCmp R hv hu fun x t y t' Q E h => PyProof.Rows.ge_int h
end
end Mine
namespace Mine
open PySem PySem.W PyProof.Rows

section
variable {prog : Program} {w : World} {A : Around} {X : Cx} {ι : List Addr} {st : ASt} {s : Shared} {v u : Value} {a b : AV}

theorem idx_seq {k : Int} {n j : Nat} (h : idx? k n = some j) : seqIndex? k n = some j ∧ -(n : Int) ≤ k ∧ k < n := by
  unfold idx? at h
  unfold seqIndex?
  split at h
  · split at h
    · first | exact no_some h | cases h
      rename_i h1 h2
      have : ¬ k < 0 := by omega
      simp only [this, if_false]
      refine ⟨?_, by omega, h2⟩
      simp [h1, h2]
    · first | exact no_some h | cases h
  · split at h
    · first | exact no_some h | cases h
      rename_i h1 h2
      have : k < 0 := by omega
      simp only [this, if_true]
      refine ⟨?_, h2, by omega⟩
      have a1 : 0 ≤ k + n := by omega
      have a2 : k + n < n := by omega
      simp [a1, a2]
    · first | exact no_some h | cases h

theorem sim_getIdx (R : Rel prog w X ι st s) {i : Nat} {c : Addr} (h : ι[i]? = some c) {k : Int} {t : Tok} :
    SimAt prog w A X ι st s (PySem.getItem (.ref c) (.int k t)) (getIdx i k) VR0 := by
  refine SimAt.leaf R fun r st' e => ?_
  refine bnd_elim e fun o st₁ e1 e2 => ?_
  obtain ⟨e1, rfl⟩ := deref_some e1
  cases o with
  | ro xs =>
    refine bnd_elim e2 fun j st₂ e3 e4 => ?_
    obtain ⟨g3, rfl⟩ := ofOpt_some e3
    obtain ⟨e5, rfl⟩ := ofOpt_some e4
    obtain ⟨o, ho, ⟨vs, n, hc, hd, hf⟩, hb⟩ := R.get h e1
    have hl : s.heap.IsList c vs := ⟨o, ho, hc, n, hd⟩
    obtain ⟨v, hv, hr⟩ := hf.get e5
    obtain ⟨_, q2, q3⟩ := idx_seq g3
    have hs := f2_size hf
    rw [line_val] at hb
    refine ⟨rfl, fun Q E K => ?_⟩
    by_cases h0 : 0 ≤ k
    · have : j = k.toNat := by
        unfold idx? at g3; rw [if_pos h0, if_pos q3] at g3; cases g3; rfl
      subst this
      exact wpAny_getItem_list hl h0 (by omega) (by simpa using hv) (K _ s.toks hr)
    · have : j = (k + xs.length).toNat := by
        unfold idx? at g3; rw [if_neg h0, if_pos q2] at g3; cases g3; rfl
      subst this
      exact wpAny_getItem_list_neg hl (by omega) (by omega) (by omega) (by rw [hs]; simpa using hv) (K _ s.toks hr)
  | list xs =>
    refine bnd_elim e2 fun j st₂ e3 e4 => ?_
    obtain ⟨g3, rfl⟩ := ofOpt_some e3
    obtain ⟨e5, rfl⟩ := ofOpt_some e4
    obtain ⟨vs, hl, hf, hb⟩ := R.isList h e1
    obtain ⟨v, hv, hr⟩ := hf.get e5
    obtain ⟨_, q2, q3⟩ := idx_seq g3
    have hs := f2_size hf
    rw [line_val] at hb
    refine ⟨rfl, fun Q E K => ?_⟩
    by_cases h0 : 0 ≤ k
    · have : j = k.toNat := by
        unfold idx? at g3; rw [if_pos h0, if_pos q3] at g3; cases g3; rfl
      subst this
      exact wpAny_getItem_list hl h0 (by omega) (by simpa using hv) (K _ s.toks hr)
    · have : j = (k + xs.length).toNat := by
        unfold idx? at g3; rw [if_neg h0, if_pos q2] at g3; cases g3; rfl
      subst this
      exact wpAny_getItem_list_neg hl (by omega) (by omega) (by omega) (by rw [hs]; simpa using hv) (K _ s.toks hr)
  | tuple xs =>
    refine bnd_elim e2 fun j st₂ e3 e4 => ?_
    obtain ⟨g3, rfl⟩ := ofOpt_some e3
    obtain ⟨e5, rfl⟩ := ofOpt_some e4
    obtain ⟨vs, hl, hf, hb⟩ := R.isTuple h e1
    obtain ⟨v, hv, hr⟩ := hf.get e5
    obtain ⟨q1, q2, q3⟩ := idx_seq g3
    have hs := f2_size hf
    rw [line_val] at hb
    exact ⟨rfl, fun Q E K => PyProof.Rows.getItem_tuple hl (by omega) (by omega) (by rw [hs]; exact q1) (by simpa using hv) (K _ s.toks hr)⟩
  | dict es =>
    obtain ⟨e3, rfl⟩ := ofOpt_some e2
    obtain ⟨kvs, hD, hf, _⟩ := R.isDict h e1
    have hval := look_valueAt k hf
    rw [e3] at hval
    obtain ⟨v, hv, hr⟩ := hval
    exact ⟨rfl, fun Q E K => wpAny_getItem_of (intKind_is prog w k t) hD.mapOf hv (K _ _ hr)⟩
  | _ => exact (fail_some e2).elim

theorem put_stored : ∀ {kvs : List (Int × Value)} {es : List (Int × AV)} (k : Int) {v : Value} {a : AV}, F2 (fun kv e => kv.1 = e.1 ∧ VRel ι kv.2 e.2) kvs es → (kvs.map (·.1)).Nodup → VRel ι v a →
    F2 (fun kv e => kv.1 = e.1 ∧ VRel ι kv.2 e.2) (stored kvs k v) (put es k a)
  | [], [], _, _, _, _, _, hv => ⟨⟨rfl, hv⟩, trivial⟩
  | (k1, v1) :: kvs, (k2, a2) :: es, k, v, a, h, hn, hv => by
    obtain ⟨⟨hk, hv1⟩, hr⟩ := h
    simp only at hk
    subst hk
    simp only [List.map_cons, List.nodup_cons] at hn
    unfold stored put
    by_cases q : k1 = k
    · subst q
      have hmap : kvs.map (fun kv => if kv.1 = k1 then (kv.1, v) else kv) = kvs := map_store_of_not_mem kvs k1 v hn.1
      simp only [List.any_cons, decide_true, Bool.true_or, if_true, List.map_cons, hmap]
      exact ⟨⟨rfl, hv⟩, hr⟩
    · have ih := put_stored k hr hn.2 hv
      unfold stored at ih
      simp only [List.any_cons, q, decide_false, Bool.false_or, if_false, List.map_cons]
      by_cases q2 : kvs.any (fun kv => decide (kv.1 = k)) = true
      · rw [if_pos q2] at ih ⊢; exact ⟨⟨rfl, hv1⟩, ih⟩
      · rw [if_neg q2] at ih ⊢; exact ⟨⟨rfl, hv1⟩, ih⟩
  | [], _ :: _, _, _, _, h, _, _ => h.elim
  | _ :: _, [], _, _, _, h, _, _ => h.elim
theorem put_length : ∀ (es : List (Int × AV)) (k : Int) (a : AV), (put es k a).length ≤ es.length + 1
  | [], _, _ => by simp [put]
  | (k1, _) :: es, k, a => by
    unfold put
    split
    · simp
    · have := put_length es k a; simp; omega
theorem without_del : ∀ {kvs : List (Int × Value)} {es : List (Int × AV)} (k : Int), F2 (fun kv e => kv.1 = e.1 ∧ VRel ι kv.2 e.2) kvs es → (kvs.map (·.1)).Nodup →
    F2 (fun kv e => kv.1 = e.1 ∧ VRel ι kv.2 e.2) (without kvs k) (del es k)
  | [], [], _, _, _ => trivial
  | (k1, v1) :: kvs, (k2, a2) :: es, k, h, hn => by
    obtain ⟨⟨hk, hv1⟩, hr⟩ := h
    simp only at hk
    subst hk
    simp only [List.map_cons, List.nodup_cons] at hn
    by_cases q : k1 = k
    · subst q
      have := without_of_not_mem kvs k1 hn.1
      unfold without at this ⊢
      unfold del
      simp only [List.filter_cons, ne_eq, not_true_eq_false, decide_false, Bool.false_eq_true, if_false, if_true]
      rw [this]; exact hr
    · have ih := without_del k hr hn.2
      unfold without at ih ⊢
      unfold del
      simp only [List.filter_cons, ne_eq, q, not_false_eq_true, decide_true, if_true, if_false]
      exact ⟨⟨rfl, hv1⟩, ih⟩
  | [], _ :: _, _, h, _ => h.elim
  | _ :: _, [], _, h, _ => h.elim
theorem del_length : ∀ (es : List (Int × AV)) (k : Int), (del es k).length ≤ es.length
  | [], _ => Nat.le_refl _
  | (k1, _) :: es, k => by
    unfold del
    split
    · simp
    · have := del_length es k; simp; omega

theorem sim_setIdx (R : Rel prog w X ι st s) {i : Nat} {c : Addr} (h : ι[i]? = some c) {k : Int} {t : Tok} (hv : VRel ι v a) :
    SimAt prog w A X ι st s (PySem.setItem (.ref c) (.int k t) v) (setIdx i k a) UR := by
  intro r st' e Q E K
  refine bnd_elim e fun o st₁ e1 e2 => ?_
  obtain ⟨e1, rfl⟩ := deref_some e1
  cases o with
  | list xs =>
    refine bnd_elim e2 fun j st₂ e3 e4 => ?_
    obtain ⟨e3, rfl⟩ := ofOpt_some e3
    refine bnd_elim e4 fun _ st₃ e5 e6 => ?_
    obtain ⟨h0, rfl⟩ := guard_some e5
    have h0 := of_decide_eq_true h0
    rw [upd_some e6] at K
    obtain ⟨vs, n, ho, hf, hb⟩ := R.plainList h e1
    have hs := f2_size hf
    unfold idx? at e3
    rw [if_pos h0] at e3
    split at e3
    · first | exact no_some e3 | cases e3
      rename_i h1
      have hb' := hb
      rw [line_val] at hb
      refine setAt ho h0 (by omega) (by omega) ?_
      refine K ι _ () (Pre.refl ι) (R.upd (tk := s.toks) h e1 rfl (fun b ob hb e => (Heap.SameBut.update ..).extBut b ob hb e) (Heap.get?_update_self _ ho rfl) ⟨⟨_, _, rfl, ?_⟩, by simpa using hb'⟩) trivial
      rw [Array.toList_setIfInBounds]; exact hf.set hv
    · first | exact no_some e3 | cases e3
  | dict es =>
    refine bnd_elim e2 fun _ st₂ e3 e4 => ?_
    obtain ⟨hx, rfl⟩ := guard_some e3
    have hx := of_decide_eq_true hx
    rw [upd_some e4] at K
    obtain ⟨kvs, hD, hf, hb⟩ := R.isDict h e1
    obtain ⟨_, _, _, _, _, _, _, _, hn⟩ := id hD
    refine wpAny_setItem_pairs (intKind_is prog w k t) hD (fun h' hD' hs' => ?_) (by rw [hf.length, sizeLine_val]; rw [line_val] at hb; omega)
    obtain ⟨o', ho', hd'⟩ := Heap.dictOf_iff.mp hD'
    exact K ι _ () (Pre.refl ι) (R.upd (tk := s.toks + 1) h e1 rfl (fun b ob hb e => hs'.extBut b ob hb e) ho' ⟨⟨_, hd', put_stored k hf hn hv⟩, by have := put_length es k a; omega⟩) trivial
  | _ => exact (fail_some e2).elim
end
end Mine
namespace Mine
open PySem PySem.W PyProof.Rows

section
variable {prog : Program} {w : World} {A : Around} {X : Cx} {ι : List Addr} {st : ASt} {s : Shared} {v u : Value} {a b : AV} {K : Frag}

/-- what must stand of a class for its instances' own attributes -/
structure AttrOk (K : Frag) (C : Addr) (name : Str) : Prop where
  ga : findIn K (.ref C) "__getattribute__" = some (some (.builtin "object.__getattribute__"))
  dict : hasDictIn K C = true
  none : findIn K (.ref C) name = some none
  sa : findIn K (.ref C) "__setattr__" = some (some (.builtin "object.__setattr__"))
  over : plainOver K C = true

theorem lookIn_of {o : Obj} {es : Array DictEntry} {ep : Nat} {name : Str} (hd : o.data = .dict es ep) (hk : StrKeys es) : lookIn name o = some (nsFind es name) := by
  unfold lookIn
  rw [hd]
  dsimp only
  unfold nsFind findBy
  rw [← Array.find?_toList]
  cases q : es.toList.find? (fun e => e.key.isStr name) with
  | some e => rfl
  | none =>
    have : es.toList.any (·.refKey) = false := by
      rw [List.any_eq_false]
      intro e he
      obtain ⟨n, t, h⟩ := hk e (Array.mem_toList_iff.mp he)
      unfold DictEntry.refKey
      rw [h]; simp
    simp [this]

theorem lookS_putS : ∀ (fs : List (Str × AV)) (n x : Str) (v : AV), lookS (putS fs n v) x = if n = x then some v else lookS fs x
  | [], n, x, v => by simp [putS, lookS]
  | (y, z) :: r, n, x, v => by
    unfold putS
    by_cases h : y = n
    · subst h
      simp only [if_true]
      unfold lookS
      by_cases h2 : y = x <;> simp [h2]
    · simp only [h, if_false]
      unfold lookS
      rw [lookS_putS r n x v]
      by_cases h2 : y = x
      · subst h2; rw [if_pos rfl, if_neg (fun q => h q.symm)]; simp
      · simp [h2]
theorem putS_length : ∀ (fs : List (Str × AV)) (n : Str) (v : AV), (putS fs n v).length ≤ fs.length + 1
  | [], _, _ => by simp [putS]
  | (y, _) :: r, n, v => by
    unfold putS
    split
    · simp
    · have := putS_length r n v; simp; omega

theorem putS_length' : ∀ (fs : List (Str × AV)) (n : Str) (v : AV), fs.length ≤ (putS fs n v).length
  | [], _, _ => by simp [putS]
  | (y, _) :: r, n, v => by
    unfold putS
    split
    · simp
    · have := putS_length' r n v; simp; omega
theorem putS_none : ∀ {fs : List (Str × AV)} {n : Str}, lookS fs n = none → ∀ v, (putS fs n v).length = fs.length + 1
  | [], _, _, _ => by simp [putS]
  | (y, _) :: r, n, h, v => by
    unfold lookS at h
    unfold putS
    by_cases q : y = n
    · rw [if_pos q] at h; cases h
    · rw [if_neg q] at h ⊢; simp [putS_none h v]

theorem fields_some {C : Addr} {o : AV} {st st' : ASt} {df : Nat × List (Str × AV)} (h : fields C o st = some (.ok df, st')) :
    st' = st ∧ ∃ i, o = .obj i ∧ st.σ[i]? = some (.inst C df.1) ∧ st.σ[df.1]? = some (.ns df.2) := by
  unfold fields at h
  cases o with
  | obj i =>
    refine bnd_elim h fun o st₁ e1 e2 => ?_
    obtain ⟨q1, rfl⟩ := deref_some e1
    cases o with
    | inst c d =>
      refine bnd_elim e2 fun _ st₂ e3 e4 => ?_
      obtain ⟨q3, rfl⟩ := guard_some e3
      have q3 := of_decide_eq_true q3
      subst q3
      refine bnd_elim e4 fun p st₃ e5 e6 => ?_
      obtain ⟨q5, rfl⟩ := deref_some e5
      cases p with
      | ns fs => obtain ⟨rfl, rfl⟩ := ret_some e6; exact ⟨rfl, i, rfl, q1, q5⟩
      | _ => exact (fail_some e6).elim
    | _ => exact (fail_some e2).elim
  | _ => first | exact no_some h | cases h

theorem Rel.instAt (R : Rel prog w X ι st s) {i d : Nat} {c C : Addr} {fs : List (Str × AV)} (h : ι[i]? = some c) (e1 : st.σ[i]? = some (.inst C d)) (e2 : st.σ[d]? = some (.ns fs)) :
    ∃ ox dx od es ep, InstAt s.heap c ox C (some od) ∧ ox.dict = some dx ∧ ι[d]? = some dx ∧ s.heap.get? dx = some od ∧ od.data = .dict es ep ∧ StrKeys es ∧ (∀ x, NsAt ι (nsFind es x) (lookS fs x)) ∧ es.size ≤ fs.length ∧ fs.length ≤ 500 := by
  obtain ⟨o, ho, hc, hp, dx, hd, hi⟩ := R.get h e1
  obtain ⟨od, hod, ⟨es, ep, hde, hk, hn⟩, ⟨es', ep', hde', hl⟩, hl'⟩ := R.get hi e2
  rw [hde] at hde'; cases hde'
  refine ⟨o, dx, od, es, ep, ⟨ho, hc, ?_, ?_⟩, hd, hi, hod, hde, hk, hn, hl, hl'⟩
  · unfold notCls; rw [hp]
  · rw [hd]; exact hod

theorem sim_getAttr (R : Rel prog w X ι st s) (hK : K.In s.heap) {C : Addr} {name : Str} (ok : AttrOk K C name) (hv : VRel ι v a) (ex : Bool) :
    SimAt prog w A X ι st s (PySem.getAttr v name ex) (getAttr C a name) VR0 := by
  refine SimAt.leaf R fun r st' e => ?_
  refine bnd_elim e fun df st₁ e1 e2 => ?_
  obtain ⟨rfl, i, rfl, q1, q2⟩ := fields_some e1
  obtain ⟨q3, rfl⟩ := ofOpt_some e2
  obtain ⟨c, rfl, hc⟩ := hv.obj_inv
  obtain ⟨ox, dx, od, es, ep, I, hd, hi, hod, hde, hk, hn, hl, hl'⟩ := R.instAt hc q1 q2
  have hx := hn name
  rw [q3] at hx
  cases hf : nsFind es name with
  | none => rw [hf] at hx; exact hx.elim
  | some y =>
    rw [hf] at hx
    have hx : VRel ι y r := hx
    refine ⟨rfl, fun Q E k => get_value hK I ok.ga (findObj_own ok.dict ok.none rfl (by rw [lookIn_of hde hk, hf])) ?_ (k _ _ hx)⟩
    cases hx with
    | top _ h => cases y <;> first | rfl | cases h
    | _ => rfl

theorem nsSet_sized {M' : Model} {E : Value → Shared → Prop} {Q : Unit → Shared → Prop} {c : Addr} {o : Obj} {es : Array DictEntry} {ep : Nat} {name : Str} {x : Value} (ho : s.heap.get? c = some o) (hd : o.data = .dict es ep) (hk : StrKeys es)
    (hQ : ∀ h' o' es' ep', h'.get? c = some o' → o'.data = .dict es' ep' → StrKeys es' → (∀ y, nsFind es' y = if y = name then some x else nsFind es y) → (es'.size ≤ es.size ∨ (nsFind es name = none ∧ es'.size ≤ es.size + 1)) → Heap.SameBut c s.heap h' → Q () { s with heap := h', toks := s.toks + 1 }) :
    wpAny M' A (nsSet c name x) Q E s := by
  have hany : es.any (·.refKey) = false := by
    rw [Array.any_eq_false']; intro e he; obtain ⟨n, t, h⟩ := hk e he; simp [DictEntry.refKey, h]
  unfold nsSet
  refine wpAny_bind (wpAny_bind (wpAny_askSetting (wpAny_pure (wpAny_bind (wpAny_mkText (wpAny_bind (wpAny_loadPart ho ?_)))))))
  rw [hd]
  dsimp only
  rw [aRefKeyMayBeTheName_eq]
  simp only [aRefKeyMayBeTheNameByArray, hany, Bool.and_false, Bool.false_eq_true, if_false]
  refine wpAny_updatePart ho ?_
  obtain ⟨oc, od, dt, sl⟩ := o
  simp only at hd
  subst hd
  cases hi : es.findIdx? (·.key.isStr name) with
  | some i =>
    refine hQ _ _ _ ep (Heap.get?_update_self _ ho (by simp only [Obj.putName_eq, Obj.putNameByArray, hi]; rfl)) (by simp only [Obj.putName_eq, Obj.putNameByArray, hi]; rfl) (hk.modify _ _) (fun y => ?_) (.inl (by simp)) (Heap.SameBut.update ..)
    exact findBy_modify (fun n v => v.isStr n) Value.isStr_inj es name y x i hi
  | none =>
    refine hQ _ _ _ (ep + 1) (Heap.get?_update_self _ ho (by simp only [Obj.putName_eq, Obj.putNameByArray, hi]; rfl)) (by simp only [Obj.putName_eq, Obj.putNameByArray, hi]; rfl) (hk.push _ _ _ _) (fun y => ?_) (.inr ⟨?_, by simp⟩) (Heap.SameBut.update ..)
    · exact findBy_push (fun n v => v.isStr n) es name y _ _ x (fun z => by
        show (name == z) = decide (z = name)
        by_cases h : z = name
        · subst h; simp
        · have : ¬ name = z := fun e => h e.symm
          simp [h, this]) hi
    · unfold nsFind findBy
      rw [Array.find?_eq_none.mpr (fun e he => by simpa using (Array.findIdx?_eq_none_iff.mp hi) e he)]
      rfl

theorem sim_setAttr (R : Rel prog w X ι st s) (hK : K.In s.heap) {C : Addr} {name : Str} (ok : AttrOk K C name) (hv : VRel ι v a) (hu : VRel ι u b) :
    SimAt prog w A X ι st s (PySem.setAttr v name u) (setAttr C a name b) UR := by
  intro r st' e Q E k
  refine bnd_elim e fun df st₁ e1 e2 => ?_
  obtain ⟨rfl, i, rfl, q1, q2⟩ := fields_some e1
  refine bnd_elim e2 fun _ st₂ e3 e4 => ?_
  obtain ⟨q3, rfl⟩ := guard_some e3
  have q3 := of_decide_eq_true q3
  have q4 := upd_some e4
  subst q4
  obtain ⟨c, rfl, hc⟩ := hv.obj_inv
  obtain ⟨ox, dx, od, es, ep, I, hd, hi, hod, hde, hk, hn, hl, hl'⟩ := R.instAt hc q1 q2
  refine set_plain hK I ok.sa (osa_open (s := { s with toks := s.toks + 1 }) hK I ok.over (r := none) (by unfold takerIn; rw [ok.none]; rfl) fun bb => ?_)
  obtain ⟨cd, hcd, hcd'⟩ := any_some ok.dict
  obtain ⟨hx, hcl, hno, -⟩ := I
  obtain ⟨oc, odi, oda, osl⟩ := ox
  dsimp only at hcl hd
  subst hcl hd
  refine wpAny_bind (wpAny_pure (wpAny_bind (wpAny_bind (wpAny_loadPart hx (wpAny_bind ((looks_clsIn hK hcd) _ _ _ _ (fun _ _ e => e) ?_))))))
  rw [hcd']
  refine wpAny_pure (a := some dx) (wpAny_bind (wpAny_pure (wpAny_bind ?_)))
  refine nsSet_sized hod hde hk fun h' od' es' ep' hod' hde' hk' hf' hz' hsb => ?_
  refine wpAny_bind (wpAny_lookBehind hod' (by rw [hde']; exact pastItsLine_dict (by rw [sizeLine_val]; rcases hz' with hz' | ⟨_, hz'⟩ <;> omega)) (wpAny_pure ?_))
  refine k ι _ () (Pre.refl ι) (R.upd (tk := s.toks + 1 + 1) hi q2 rfl (fun b ob hb e => hsb.extBut b ob hb e) hod' ⟨⟨es', ep', hde', hk', fun x => ?_⟩, ⟨es', ep', hde', ?_⟩, ?_⟩) trivial
  rotate_left
  · have g1 := putS_length df.2 name b
    have g2 := putS_length' df.2 name b
    rcases hz' with hz' | ⟨hz1, hz2⟩
    · omega
    · have := hn name
      rw [hz1] at this
      cases q : lookS df.2 name with
      | some y => rw [q] at this; exact this.elim
      | none => have := putS_none q b; omega
  · have g1 := putS_length df.2 name b; omega
  rw [hf' x, lookS_putS]
  by_cases hxn : x = name
  · subst hxn; rw [if_pos rfl, if_pos rfl]; exact hu
  · rw [if_neg hxn, if_neg (fun q => hxn q.symm)]; exact hn x

theorem Rel.list_upd (R : Rel prog w X ι st s) {i : Nat} {c : Addr} {xs ys : List AV} {vs : Array Value} {n : Nat} (h : ι[i]? = some c) (e : st.σ[i]? = some (.list xs)) (ho : s.heap.get? c = some { cls := .type "list", data := .seq vs n })
    (f : Array Value → Array Value) (hf : F2 (VRel ι) (f vs).toList ys) (hl : ys.length ≤ line) (tk : Nat) :
    Rel prog w X ι ⟨st.σ.set i (.list ys), st.ρ⟩ { s with heap := s.heap.update c (Obj.mapSeq f), toks := tk } :=
  R.upd h e rfl (fun b ob hb e => (Heap.SameBut.update ..).extBut b ob hb e) (Heap.get?_update_self _ ho rfl) ⟨⟨_, _, rfl, hf⟩, hl⟩

theorem sim_len {hb : Heap} (hk : ∀ b o, hb.get? b = some o → X.Kp b = some o) (hm : ∃ o, hb.get? sysModules = some o) (R : Rel prog w X ι st s) (hv : VRel ι v a) :
    SimAt prog w A X ι st s (call (.builtin "len") [v]) (biLen a) VR0 := by
  refine SimAt.leaf R fun r st' e => ?_
  cases hv with
  | str x t =>
    refine bnd_elim e fun _ st₁ e1 e2 => ?_
    obtain ⟨hx, rfl⟩ := guard_some e1
    obtain ⟨rfl, rfl⟩ := ret_some e2
    have hx := of_decide_eq_true hx
    rw [line_val] at hx
    exact ⟨rfl, fun Q E k => PyProof.Rows.len_str (by omega) (k _ _ (.int _ _))⟩
  | obj h =>
    refine bnd_elim e fun o st₁ e1 e2 => ?_
    obtain ⟨e1, rfl⟩ := deref_some e1
    cases o with
    | ro xs =>
      obtain ⟨rfl, rfl⟩ := ret_some e2
      obtain ⟨o, ho, ⟨vs, n, hc, hd, hf⟩, hb⟩ := R.get h e1
      have hl : s.heap.IsList _ vs := ⟨o, ho, hc, n, hd⟩
      have hs := f2_size hf
      rw [line_val] at hb
      exact ⟨rfl, fun Q E k => PyProof.Rows.len_list hl (by omega) (k _ _ (by rw [hs]; exact .int _ _))⟩
    | list xs =>
      obtain ⟨rfl, rfl⟩ := ret_some e2
      obtain ⟨vs, hl, hf, hb⟩ := R.isList h e1
      have hs := f2_size hf
      rw [line_val] at hb
      exact ⟨rfl, fun Q E k => PyProof.Rows.len_list hl (by omega) (k _ _ (by rw [hs]; exact .int _ _))⟩
    | tuple xs =>
      obtain ⟨rfl, rfl⟩ := ret_some e2
      obtain ⟨vs, hl, hf, hb⟩ := R.isTuple h e1
      have hs := f2_size hf
      rw [line_val] at hb
      exact ⟨rfl, fun Q E k => PyProof.Rows.len_tuple hl (by omega) (k _ _ (by rw [hs]; exact .int _ _))⟩
    | dict es =>
      obtain ⟨rfl, rfl⟩ := ret_some e2
      obtain ⟨kvs, hD, hf, hb⟩ := R.isDict h e1
      have hs := hf.length
      rw [line_val] at hb
      exact ⟨rfl, fun Q E k => call_len_dict (R.modules hk hm h e1 rfl) hD (by omega) (k _ _ (by rw [hs]; exact .int _ _))⟩
    | _ => exact (fail_some e2).elim
  | _ => first | exact no_some e | cases e

theorem Rel.ext (R : Rel prog w X ι st s) {h' : Heap} {tk : Nat} (hext : ∀ b ob, s.heap.get? b = some ob → h'.get? b = some ob) : Rel prog w X ι st { s with heap := h', toks := tk } := by
  refine ⟨fun b ob e => (R.frozen b ob e).ext (hext b), ?_, R.len, R.nodup, R.free, ?_, ?_, R.comps, R.rlen, by rw [R.shape]⟩
  · obtain ⟨m, hm, hv⟩ := R.ns; exact ⟨m, hm.keeps hext, hv⟩
  · intro i b e; obtain ⟨a', ob, h1, h2, h3⟩ := R.objs i b e; exact ⟨a', ob, h1, hext _ _ h2, h3⟩
  · intro i c hc
    obtain ⟨h1, ob, v, h2, h3, h4⟩ := R.cells i c hc
    exact ⟨h1, ob, v, hext _ _ h2, h3, h4⟩

theorem sim_min (hh : A.handled = none) (R : Rel prog w X ι st s) (hv : VRel ι v a) (hu : VRel ι u b) :
    SimAt prog w A X ι st s (call (.builtin "min") [v, u]) (biTwo (fun a b => if b < a then b else a) a b) VR0 := by
  intro r st' e Q E k
  cases hv with
  | int x t =>
    cases hu with
    | int y t' =>
      obtain ⟨rfl, rfl⟩ := ret_some e
      refine min_two_ints hh fun h' tk hk => ?_
      by_cases hc : y < x
      · rw [if_pos hc]; refine k _ _ _ (Pre.refl ι) (R.ext hk) ?_; simp only [hc, if_true]; exact .int _ _
      · rw [if_neg hc]; refine k _ _ _ (Pre.refl ι) (R.ext hk) ?_; simp only [hc, if_false]; exact .int _ _
    | _ => first | exact no_some e | cases e
  | _ => first | exact no_some e | cases e
theorem sim_intb (R : Rel prog w X ι st s) {b : Bool} : SimAt prog w A X ι st s (call (.type "int") [.bool b]) (ret (.int (if b = true then 1 else 0))) VR0 := by
  intro r st' e Q E k
  obtain ⟨rfl, rfl⟩ := ret_some e
  exact call_int_bool (k _ _ _ (Pre.refl ι) (R.toks _) (.int _ _))
theorem sim_range1 (R : Rel prog w X ι st s) {y : Int} {t : Tok} : SimAt prog w A X ι st s (call (.type "range") [.int y t]) (biRange 0 y) VR0 := by
  intro r st' e Q E k
  refine bnd_elim e fun _ st₁ e1 e2 => ?_
  obtain ⟨hx, rfl⟩ := guard_some e1
  exact sim_push R (ao := .range 0 y) (o := { cls := .type "range", data := .fields #[.int 0 s.toks, .int y t, .int 1 (s.toks + 1)] }) (s.toks + 1 + 1) ⟨rfl, rfl⟩ ⟨⟨_, _, _, rfl⟩, hx⟩ (fun Q E q => call_range_1 q) r st' e2 Q E k
theorem sim_range2 (R : Rel prog w X ι st s) {x y : Int} {t u : Tok} : SimAt prog w A X ι st s (call (.type "range") [.int x t, .int y u]) (biRange x y) VR0 := by
  intro r st' e Q E k
  refine bnd_elim e fun _ st₁ e1 e2 => ?_
  obtain ⟨hx, rfl⟩ := guard_some e1
  exact sim_push R (ao := .range x y) (o := { cls := .type "range", data := .fields #[.int x t, .int y u, .int 1 s.toks] }) (s.toks + 1) ⟨rfl, rfl⟩ ⟨⟨_, _, _, rfl⟩, hx⟩ (fun Q E q => call_range_2 q) r st' e2 Q E k
theorem sim_list (R : Rel prog w X ι st s) (hv : VRel ι v a) : SimAt prog w A X ι st s (call (.type "list") [v]) (biList a) VR0 := by
  intro r st' e Q E k
  cases hv with
  | obj h =>
    refine bnd_elim e fun o st₁ e1 e2 => ?_
    obtain ⟨e1, rfl⟩ := deref_some e1
    have fin : ∀ {xs : List AV} {vs : Array Value} {o : Obj} {n : Nat} {c : Addr}, s.heap.get? c = some o → (o.cls = .type "list" ∨ o.cls = .type "tuple") → o.data = .seq vs n → F2 (VRel ι) vs.toList xs → xs.length ≤ line → alloc (.list xs) st₁ = some (.ok r, st') →
        wpAny (model prog w) A (call (.type "list") [.ref c]) Q E s := by
      intro xs vs o n c ho hc hd hf hl e3
      obtain ⟨rfl, rfl⟩ := alloc_some e3
      have hs := f2_size hf
      have hl' := hl
      rw [line_val] at hl'
      rcases hc with hc | hc
      · refine call_list_seq (hsz := by rw [sizeLine_val]; omega) c (.inl rfl) ho hc hd fun h' c' hk hD => ?_
        exact k _ _ _ (Pre.snoc _ _) (R.alloc (tk := s.toks) (get_size_none _) (R.kp_none (get_size_none _)) hk hD ⟨⟨_, _, rfl, hf.mono fun _ _ => VRel.mono (Pre.snoc _ _)⟩, hl⟩) (.obj (R.newIdx _))
      · refine call_list_seq (hsz := by rw [sizeLine_val]; omega) c (.inr rfl) ho hc hd fun h' c' hk hD => ?_
        exact k _ _ _ (Pre.snoc _ _) (R.alloc (tk := s.toks) (get_size_none _) (R.kp_none (get_size_none _)) hk hD ⟨⟨_, _, rfl, hf.mono fun _ _ => VRel.mono (Pre.snoc _ _)⟩, hl⟩) (.obj (R.newIdx _))
    cases o with
    | list xs =>
      obtain ⟨vs, n, ho, hf, hl⟩ := R.plainList h e1
      exact fin ho (.inl rfl) rfl hf hl e2
    | tuple xs =>
      obtain ⟨o, ho, ⟨vs, n, rfl, hf⟩, hl⟩ := R.get h e1
      exact fin ho (.inr rfl) rfl hf hl e2
    | _ => exact (fail_some e2).elim
  | _ => first | exact no_some e | cases e
end
end Mine
namespace Mine
open PySem PySem.W PyProof.Rows

section
variable {prog : Program} {w : World} {A : Around} {X : Cx} {ι : List Addr} {st : ASt} {s : Shared} {v u : Value} {a b : AV} {K : Frag}

theorem insInt_perm (i : Int) : ∀ l : List Int, (insInt i l).Perm (i :: l)
  | [] => .refl _
  | j :: r => by
    unfold insInt
    split
    · exact .refl _
    · exact ((insInt_perm i r).cons j).trans (.swap i j r)
theorem sortInts_perm : ∀ l : List Int, (sortInts l).Perm l
  | [] => .refl _
  | i :: r => (insInt_perm i _).trans ((sortInts_perm r).cons i)
theorem insInt_sorted (i : Int) : ∀ {l : List Int}, l.Pairwise (· ≤ ·) → (insInt i l).Pairwise (· ≤ ·)
  | [], _ => by simp [insInt]
  | j :: r, h => by
    unfold insInt
    obtain ⟨h1, h2⟩ := List.pairwise_cons.mp h
    split
    · rename_i hij
      refine List.pairwise_cons.mpr ⟨fun x hx => ?_, h⟩
      rcases List.mem_cons.mp hx with rfl | hx
      · exact hij
      · have := h1 x hx; omega
    · rename_i hij
      refine List.pairwise_cons.mpr ⟨fun x hx => ?_, insInt_sorted i h2⟩
      rcases List.mem_cons.mp ((insInt_perm i r).mem_iff.mp hx) with rfl | hx
      · omega
      · exact h1 x hx
theorem sortInts_sorted : ∀ l : List Int, (sortInts l).Pairwise (· ≤ ·)
  | [] => .nil
  | i :: r => insInt_sorted i (sortInts_sorted r)
theorem sort_unique {l ns : List Int} (p : ns.Perm l) (h : ns.Pairwise (· ≤ ·)) : ns = sortInts l :=
  (p.trans (sortInts_perm l).symm).eq_of_pairwise (fun _ _ _ _ h1 h2 => Int.le_antisymm h1 h2) h (sortInts_sorted l)

theorem intsAre_of : ∀ {vs : List Value} {xs : List AV} {l : List Int}, F2 (VRel ι) vs xs → allInts xs = some l → IntsAre vs l
  | [], [], l, _, e => by cases e; exact .nil
  | v :: vs, x :: xs, l, h, e => by
    unfold allInts at e
    cases h.1 with
    | int i t =>
      dsimp only at e
      cases q : allInts xs with
      | none => rw [q] at e; cases e
      | some l' => rw [q] at e; cases e; exact .cons i t (intsAre_of h.2 q)
    | _ => first | exact no_some e | cases e
  | [], _ :: _, _, h, _ => h.elim
  | _ :: _, [], _, h, _ => h.elim
theorem f2_of_ints : ∀ {vs : List Value} {l : List Int}, IntsAre vs l → F2 (VRel ι) vs (l.map AV.int)
  | _, _, .nil => trivial
  | _, _, .cons n t h => ⟨.int n t, f2_of_ints h⟩
noncomputable def SOk (l : List Int) : Prop := l.length ≤ 100000
theorem SOk.le {l : List Int} (h : SOk l) : l.length ≤ 100000 := h
theorem sOk_of {l : List Int} (h : sortOk l = true) : SOk l := (of_decide_eq_true h : l.length ≤ 100000)
theorem SOk.any {vs : List Value} {l : List Int} (hI : IntsAre vs l) (h : SOk l) : vs.length ≤ sizeLine := by
  have hl := hI.length
  have h := h.le
  rw [sizeLine_val]; omega
theorem sorted_tail {γ : Type} {vs : List Value} {l : List Int} {f : Value → Value → Sem γ} {Q : γ → Shared → Prop} {E : Value → Shared → Prop} {s₁ : Shared} {g : List Value} (hI : IntsAre vs l) (h64 : SOk l)
    (h : ∀ (D : Addr) (h' : Heap) (out : Array Value) (n : Nat), s₁.heap.get? D = none → (∀ b o, s₁.heap.get? b = some o → h'.get? b = some o) → h'.get? D = some { cls := .type "list", data := .seq out n } →
      IntsAre out.toList (sortInts l) → wpAny (model prog w) A (f (.ref D) .none) Q E { s₁ with heap := h' }) :
    wpAny (model prog w) A (newList vs >>= fun r => holding (r :: g) (call (.builtin "list.sort") [r]) >>= fun x => f r x) Q E s₁ := by
  have hlen : vs.length = l.length := hI.length
  have hle := h64.le
  refine wpAny_bind (wpAny_newList ?_ (by rw [sizeLine_val]; omega))
  have hoL : (s₁.heap.push (seqObj "list" vs.toArray 0)).get? s₁.heap.objs.size = some (seqObj "list" vs.toArray 0) := Heap.get?_push_size _ rfl
  refine wpAny_bind (wpAny_holding (wpAny_call_entry slot_list_sort ⟨_, hoL, rfl⟩ entry_list_sort (sort_any (s := { s₁ with heap := s₁.heap.push (seqObj "list" vs.toArray 0) }) hoL hI (h64.any hI) fun out ns' a1 a2 a3 => ⟨_, rfl, ?_⟩) (args_list_sort _)))
  have hD := get_size_none s₁.heap
  have e1 := sort_unique a2 a3
  subst e1
  have q1 := get?_update_seq hoL (fun _ => (#[] : Array Value))
  have q2 := get?_update_seq (Heap.get?_push_of_some (seqObj "list" #[] 0) (Heap.get?_push_of_some (seqObj "tuple" vs.toArray 0) q1)) (fun _ => out)
  refine h s₁.heap.objs.size _ out _ hD (fun b o e => ?_) q2 a1
  have hb : b ≠ s₁.heap.objs.size := fun q => by rw [q, hD] at e; cases e
  exact (Heap.SameBut.update ..).extBut b o hb (Heap.get?_push_of_some _ (Heap.get?_push_of_some _ ((Heap.SameBut.update ..).extBut b o hb (Heap.get?_push_of_some _ e))))

theorem sim_sorted (hh : A.handled = none) (R : Rel prog w X ι st s) (hv : VRel ι v a) : SimAt prog w A X ι st s (call (.builtin "sorted") [v]) (biSorted a) VR0 := by
  intro r st' e Q E k
  cases hv with
  | @obj c i h =>
    refine bnd_elim e fun o st₁ e1 e2 => ?_
    obtain ⟨g1, rfl⟩ := deref_some e1
    have fin : ∀ {l : List Int} {vs : List Value} {h₁ : Heap} {tk : Nat}, IntsAre vs l → SOk l → (∀ b o, s.heap.get? b = some o → h₁.get? b = some o) → alloc (.list ((sortInts l).map .int)) st₁ = some (.ok r, st') →
        wpAny (model prog w) A.in1 (newList vs >>= fun r => holding [r] (call (.builtin "list.sort") [r]) >>= fun _ => PySem.ret r) (fun fin s' => ∃ v, fin = Fin.done (Flow.ret v) ∧ Q v s') E { s with heap := h₁, toks := tk } := by
      intro l vs h₁ tk hI h64 hk e3
      have hle := h64.le
      obtain ⟨rfl, rfl⟩ := alloc_some e3
      refine sorted_tail (f := fun r _ => PySem.ret r) (s₁ := { s with heap := h₁, toks := tk }) hI h64 fun D h' out n hD hk' hD' hout => ?_
      have hDs : s.heap.get? D = none := by
        cases q : s.heap.get? D with
        | none => rfl
        | some ob =>
          have q1 := hk D ob q
          have q2 : h₁.get? D = none := hD
          rw [q2] at q1; cases q1
      refine wpAny_pure ⟨_, rfl, ?_⟩
      refine k _ _ _ (Pre.snoc _ _) (R.alloc (tk := tk) hDs (R.kp_none hDs) (fun b o e => hk' b o (hk b o e)) hD' ⟨⟨_, _, rfl, f2_of_ints hout⟩, ?_⟩) (.obj (R.newIdx _))
      rw [List.length_map, (sortInts_perm l).length_eq, line_val]; omega
    cases o with
    | list xs =>
      refine bnd_elim e2 fun l st₂ e3 e4 => ?_
      obtain ⟨g3, rfl⟩ := ofOpt_some e3
      refine bnd_elim e4 fun _ st₃ e5 e6 => ?_
      obtain ⟨g5, rfl⟩ := guard_some e5
      have g5 := sOk_of g5
      have hle := g5.le
      obtain ⟨vs, hl, hf, hb⟩ := R.isList h g1
      have hI := intsAre_of hf g3
      have hlen := hI.length
      refine Calls.call_function_entry kind_sorted plain_sorted entry_sorted (args_sorted1 _) ?_
      unfold Builtin.«sorted»
      refine wpAny_bind (m := checkCount "sorted" 1 1 _) (wpAny_pure ?_)
      refine wpAny_bind (collect_list (vs := vs.toList) (by simpa using hl) ?_ (by rw [hlen, sizeLine_val]; omega))
      exact fin (tk := s.toks) hI g5 (fun b o e => (Heap.SameBut.update ..).extBut b o (fun q => by rw [q, get_size_none] at e; cases e) (Heap.get?_push_of_some _ e)) e6
    | keys d =>
      refine bnd_elim e2 fun p st₂ e3 e4 => ?_
      obtain ⟨g3, rfl⟩ := deref_some e3
      cases p with
      | dict es =>
        refine bnd_elim e4 fun _ st₃ e5 e6 => ?_
        obtain ⟨g5, rfl⟩ := guard_some e5
        have g5 := sOk_of g5
        have hle := g5.le
        rw [List.length_map] at hle
        obtain ⟨ov, hov, hcv, dd, hdv, hdi⟩ := R.get h g1
        obtain ⟨kvs, hD, hf, hb⟩ := R.isDict hdi g3
        obtain ⟨ep, hat⟩ := hD.dictAt
        have hlen := hf.length
        refine Calls.call_function_entry kind_sorted plain_sorted entry_sorted (args_sorted1 _) ?_
        unfold Builtin.«sorted»
        refine wpAny_bind (m := checkCount "sorted" 1 1 _) (wpAny_pure ?_)
        refine wpAny_bind (keysCollect (A := A.in1) hh hov hcv hdv hat (by rw [sizeLine_val]; omega) fun h' tk acc hk hacc => ?_)
        have hI : IntsAre acc.toList (es.map (·.1)) := by
          have hal : acc.toList.length = kvs.length := by rw [Array.length_toList]; exact hacc.1
          have key : ∀ (vs : List Value) (kvs : List (Int × Value)) (es : List (Int × AV)), vs.length = kvs.length → F2 (fun kv e => kv.1 = e.1 ∧ VRel ι kv.2 e.2) kvs es → (∀ (j : Nat) (v : Value), vs[j]? = some v → ∃ k x, kvs[j]? = some (k, x) ∧ (intKind prog w).is k v = true) → IntsAre vs (es.map (·.1)) := by
            intro vs
            induction vs with
            | nil =>
              intro kvs es hl hf _
              cases kvs with
              | nil => cases es with
                | nil => exact .nil
                | cons _ _ => exact hf.elim
              | cons _ _ => simp at hl
            | cons v vs ih =>
              intro kvs es hl hf hv
              cases kvs with
              | nil => simp at hl
              | cons kv kvs =>
                cases es with
                | nil => exact hf.elim
                | cons e es =>
                  obtain ⟨k, x, hx, hk⟩ := hv 0 v rfl
                  simp at hx
                  have hk1 : kv.1 = e.1 := hf.1.1
                  rw [List.map_cons, ← hk1, show kv.1 = k by rw [hx]]
                  have : ∃ t, v = .int k t := by
                    cases v <;> simp [intKind, Value.isInt] at hk
                    subst hk; exact ⟨_, rfl⟩
                  obtain ⟨t, rfl⟩ := this
                  exact .cons k t (ih kvs es (by simpa using hl) hf.2 fun j u hu => by simpa using hv (j + 1) u (by simpa using hu))
          exact key _ kvs es hal hf fun j v hj => hacc.2 j v (by rw [← Array.getElem?_toList]; exact hj)
        exact fin (h₁ := h') (tk := tk) hI g5 hk e6
      | _ => exact (fail_some e4).elim
    | _ => exact (fail_some e2).elim
  | _ => first | exact no_some e | cases e
end
end Mine
namespace Mine
open PySem PySem.W PyProof.Rows

noncomputable def meName : ME → String
  | .append => "append" | .clear => "clear" | .pop => "pop" | .keys => "keys" | .extend => "extend" | .remove => "remove" | .index => "index"
  | .split => "split" | .join => "join" | .find => "find" | .get => "get"
noncomputable def kdName : KD → String
  | .list => "list" | .dict => "dict" | .str => "str"
/-- the methods that are served -/
noncomputable def served : KD → ME → Bool
  | .list, .append => true | .list, .pop => true
  | .dict, .keys => true | .dict, .pop => true
  | .list, .extend => true
  | _, _ => false

section
variable {prog : Program} {w : World} {A : Around} {X : Cx} {ι : List Addr} {st : ASt} {s : Shared} {v u : Value} {a b : AV} {K : Frag}

theorem kindOf_some {o : AV} {st st' : ASt} {k : KD} (h : kindOf o st = some (.ok k, st')) : st' = st ∧ match k with
    | .list => ∃ i xs, o = .obj i ∧ st.σ[i]? = some (.list xs)
    | .dict => ∃ i es, o = .obj i ∧ st.σ[i]? = some (.dict es)
    | .str => ∃ x, o = .str x := by
  unfold kindOf at h
  cases o with
  | obj i =>
    refine bnd_elim h fun o st₁ e1 e2 => ?_
    obtain ⟨q1, rfl⟩ := deref_some e1
    cases o with
    | list xs => obtain ⟨rfl, rfl⟩ := ret_some e2; exact ⟨rfl, i, xs, rfl, q1⟩
    | dict es => obtain ⟨rfl, rfl⟩ := ret_some e2; exact ⟨rfl, i, es, rfl, q1⟩
    | _ => exact (fail_some e2).elim
  | str x => obtain ⟨rfl, rfl⟩ := ret_some h; exact ⟨rfl, x, rfl⟩
  | _ => first | exact no_some h | cases h

theorem getMeth {k : KD} {m : ME} {pl : Sem Bool} {Q : Value × List Value → Shared → Prop} {E : Value → Shared → Prop} {st' : ASt} (R : Rel prog w X ι st s) (hv : VRel ι v a) (hk : kindOf a st = some (.ok k, st')) (hs : served k m = true)
    (h : Q (.builtin (kdName k ++ "." ++ meName m), [v]) s) : wpAny (model prog w) A (getMethod v (Str.ofString (meName m)) pl) Q E s := by
  obtain ⟨rfl, hk⟩ := kindOf_some hk
  cases k with
  | list =>
    obtain ⟨i, xs, rfl, e⟩ := hk
    obtain ⟨c, rfl, hc⟩ := hv.obj_inv
    obtain ⟨vs, n, ho, _, _⟩ := R.plainList hc e
    have hd : ∀ b, Value.ref c = .ref b → ∃ o, s.heap.get? b = some o ∧ o.dict = none := fun b e => by cases e; exact ⟨_, ho, rfl⟩
    cases m with
    | append => exact getMethod_builtin (T := "list") ⟨_, ho, rfl⟩ PySem.F.plainAttrs_list PySem.F.slot_list_append PySem.F.type_list_append hd h
    | pop => exact getMethod_builtin (T := "list") ⟨_, ho, rfl⟩ PySem.F.plainAttrs_list PySem.F.slot_list_pop PySem.F.type_list_pop hd h
    | extend => exact getMethod_builtin (T := "list") ⟨_, ho, rfl⟩ PySem.F.plainAttrs_list PySem.F.slot_list_extend PySem.F.type_list_extend hd h
    | _ => first | exact no_some hs | cases hs
  | dict =>
    obtain ⟨i, es, rfl, e⟩ := hk
    obtain ⟨c, rfl, hc⟩ := hv.obj_inv
    obtain ⟨kvs, hD, _, _⟩ := R.isDict hc e
    cases m with
    | keys => exact getMethod_builtin (T := "dict") hD.typeIs PySem.F.plainAttrs_dict PySem.F.slot_dict_keys PySem.F.type_dict_keys hD.mapOf.noDict h
    | pop => exact getMethod_builtin (T := "dict") hD.typeIs PySem.F.plainAttrs_dict PySem.F.slot_dict_pop PySem.F.type_dict_pop hD.mapOf.noDict h
    | _ => first | exact no_some hs | cases hs
  | str => cases m <;> cases hs

theorem erase_last {vs : List Value} {xs : List AV} (h : F2 (VRel ι) vs xs) : F2 (VRel ι) (vs.eraseIdx (vs.length - 1)) xs.dropLast := by
  have e1 : vs.eraseIdx (vs.length - 1) = vs.take (vs.length - 1) := by
    rw [List.eraseIdx_eq_take_drop_succ]
    have : vs.drop (vs.length - 1 + 1) = [] := List.drop_eq_nil_of_le (by omega)
    rw [this, List.append_nil]
  rw [e1, List.dropLast_eq_take, ← h.length]
  exact h.take _

theorem sim_meList (R : Rel prog w X ι st s) {i : Nat} {c : Addr} {xs : List AV} {m : ME} {us : List Value} {as : List AV} (h : ι[i]? = some c) (e0 : st.σ[i]? = some (.list xs)) (hs : served .list m = true) (hu : F2 (VRel ι) us as) :
    SimAt prog w A X ι st s (call (.builtin (kdName .list ++ "." ++ meName m)) (.ref c :: us)) (meList i xs m as) VR0 := by
  intro r st' e Q E k
  obtain ⟨vs, n, ho, hf, hl⟩ := R.plainList h e0
  have hsz := f2_size hf
  have hl' := hl
  rw [line_val] at hl'
  have hL : s.heap.IsList c vs := ⟨_, ho, rfl, n, rfl⟩
  have hz : vs.size ≤ sizeLine := by rw [sizeLine_val]; omega
  cases m with
  | append =>
    cases as with
    | nil => first | exact no_some e | cases e
    | cons x as =>
      cases as with
      | nil =>
        cases us with
        | nil => exact hu.elim
        | cons y us =>
          cases us with
          | cons _ _ => exact hu.2.elim
          | nil =>
            refine bnd_elim e fun _ st₁ e1 e2 => ?_
            obtain ⟨g1, rfl⟩ := guard_some e1
            have g1 := of_decide_eq_true g1
            refine bnd_elim e2 fun _ st₂ e3 e4 => ?_
            have g3 := upd_some e3
            obtain ⟨rfl, rfl⟩ := ret_some e4
            subst g3
            refine wpAny_list_append_plain ⟨n, ho⟩ (fun h' hl' hs' => ?_) hz
            obtain ⟨n', ho'⟩ := hl'
            refine k _ _ _ (Pre.refl ι) (R.upd (tk := s.toks) h e0 rfl (fun b ob hb e => hs'.extBut b ob hb e) ho' ⟨⟨_, _, rfl, ?_⟩, ?_⟩) .none
            · rw [Array.toList_push]; exact hf.snoc hu.1
            · rw [List.length_append]; exact g1
      | cons _ _ => first | exact no_some e | cases e
  | pop =>
    cases as with
    | nil =>
      cases us with
      | cons _ _ => exact hu.elim
      | nil =>
        have e' : (match xs.getLast? with | some v => bnd (upd i (.list xs.dropLast)) fun _ => ret v | Option.none => fail) st = some (.ok r, st') := e
        cases q : xs.getLast? with
        | none => rw [q] at e'; cases e'
        | some x =>
          rw [q] at e'
          refine bnd_elim e' fun _ st₂ e3 e4 => ?_
          have g3 := upd_some e3
          obtain ⟨rfl, rfl⟩ := ret_some e4
          subst g3
          have hx : xs[xs.length - 1]? = some r := by rw [← List.getLast?_eq_getElem?]; exact q
          obtain ⟨y, hy, hyr⟩ := hf.get hx
          have hy' : vs[vs.size - 1]? = some y := by rw [hsz]; simpa using hy
          refine call_meets PySem.F.slot_list_pop hL.typeIs PySem.F.entry_list_pop (PySem.F.args_list_pop_1 _) (PySem.MeetsSeq.list_pop_last c vs n y hy' hz) ⟨ho, k _ _ _ (Pre.refl ι) (R.list_upd h e0 ho _ ?_ ?_ s.toks) hyr⟩
          · have := erase_last hf
            rw [Array.length_toList] at this
            rw [Array.toList_eraseIdxIfInBounds]; exact this
          · rw [List.length_dropLast]; omega
    | cons z as =>
      cases as with
      | cons _ _ => first | exact no_some e | cases e
      | nil =>
        cases us with
        | nil => exact hu.elim
        | cons y us =>
          cases us with
          | cons _ _ => exact hu.2.elim
          | nil =>
            cases hu.1 with
            | int kk t =>
              refine bnd_elim e fun _ st₁ e1 e2 => ?_
              obtain ⟨g1, rfl⟩ := guard_some e1
              have g1 : kk = 0 := by simpa using g1
              subst g1
              cases xs with
              | nil => exact (fail_some e2).elim
              | cons x xs =>
                refine bnd_elim e2 fun _ st₂ e3 e4 => ?_
                have g3 := upd_some e3
                obtain ⟨rfl, rfl⟩ := ret_some e4
                subst g3
                obtain ⟨y, hy, hyr⟩ := hf.get (i := 0) (b := r) (by simp)
                have hy' : vs[0]? = some y := by simpa using hy
                have hpos : 0 < vs.size := by rw [hsz]; simp
                refine call_meets PySem.F.slot_list_pop hL.typeIs PySem.F.entry_list_pop (PySem.F.args_list_pop_2 _ _) (PySem.MeetsSeq.list_pop_at c vs n 0 t 0 y (by decide +kernel) (seqIndex_of (by omega) (by omega)) hy' hz) ⟨ho, k _ _ _ (Pre.refl ι) (R.list_upd h e0 ho _ ?_ ?_ s.toks) hyr⟩
                · rw [Array.toList_eraseIdxIfInBounds]
                  have := hf.drop 1
                  simpa using this
                · simp at hl; omega
            | _ => first | exact no_some e | cases e
  | extend =>
    cases as with
    | nil => exact no_some e
    | cons x as =>
      cases as with
      | cons _ _ => exact no_some e
      | nil =>
        cases us with
        | nil => exact hu.elim
        | cons y us =>
          cases us with
          | cons _ _ => exact hu.2.elim
          | nil =>
            cases x with
            | obj j =>
              obtain ⟨d, rfl, hd⟩ := hu.1.obj_inv
              refine bnd_elim e fun o st₁ e1 e2 => ?_
              obtain ⟨q, rfl⟩ := deref_some e1
              cases o with
              | list ys =>
                refine bnd_elim e2 fun _ st₂ e3 e4 => ?_
                obtain ⟨g, rfl⟩ := guard_some e3
                rw [Bool.and_eq_true] at g
                have g2 := of_decide_eq_true g.2
                refine bnd_elim e4 fun _ st₃ e5 e6 => ?_
                have g3 := upd_some e5
                obtain ⟨rfl, rfl⟩ := ret_some e6
                subst g3
                obtain ⟨us', n2, ho2, hf2, hl2⟩ := R.plainList hd q
                have hsz2 := f2_size hf2
                have g2' := g2
                rw [line_val] at g2'
                have hz2 := sizeLine_val
                refine call_meets PySem.F.slot_list_extend hL.typeIs PySem.F.entry_list_extend (PySem.F.args_list_extend_2 _ _) (PySem.AutoSeq1.list_extend_list_list_0 c vs n d us' n2 (fun z => ?_) hz (by omega)) ⟨ho, ho2, k _ _ _ (Pre.refl ι) (R.list_upd h e0 ho (ys := xs ++ ys) (fun x => x ++ us') ?_ (by rw [List.length_append]; exact g2) s.toks) .none⟩
                · rw [Bool.and_eq_true] at z
                  have z := z.2
                  unfold Builtin.List.listTooLong at z
                  have z := of_decide_eq_true z
                  omega
                · rw [Array.toList_append]; exact hf.append hf2
              | _ => exact no_some e2
            | _ => exact no_some e
  | _ => first | exact no_some hs | cases hs

theorem sim_meDict {hb : Heap} (hkp : ∀ b o, hb.get? b = some o → X.Kp b = some o) (hm : ∃ o, hb.get? sysModules = some o) (R : Rel prog w X ι st s) {i : Nat} {c : Addr} {es : List (Int × AV)} {m : ME} {us : List Value} {as : List AV} (h : ι[i]? = some c) (e0 : st.σ[i]? = some (.dict es)) (hs : served .dict m = true) (hu : F2 (VRel ι) us as) :
    SimAt prog w A X ι st s (call (.builtin (kdName .dict ++ "." ++ meName m)) (.ref c :: us)) (meDict i es m as) VR0 := by
  intro r st' e Q E k
  obtain ⟨kvs, hD, hf, hl⟩ := R.isDict h e0
  have hl' := hl
  rw [line_val] at hl'
  have hlen := hf.length
  have hmod := R.modules hkp hm h e0 rfl
  obtain ⟨_, _, _, _, _, _, _, _, hn⟩ := id hD
  cases m with
  | keys =>
    cases as with
    | cons _ _ => first | exact no_some e | cases e
    | nil =>
      cases us with
      | cons _ _ => exact hu.elim
      | nil =>
        refine sim_push (A := A) R (ao := .keys i) (o := { cls := .type "dict_keys", data := .fields #[.ref c] }) s.toks ⟨rfl, rfl⟩ ⟨rfl, c, rfl, (Pre.snoc _ _).get h⟩ (fun Q E q => ?_) r st' e Q E k
        exact call_meetsIn PySem.F.slot_dict_keys hD.typeIs PySem.F.entry_dict_keys (PySem.F.args_dict_keys_1 _) (keysMade (intKind prog w) hmod) ⟨⟨kvs, hD⟩, q⟩
  | pop =>
    cases as with
    | nil => first | exact no_some e | cases e
    | cons z as =>
      cases as with
      | cons _ _ => first | exact no_some e | cases e
      | nil =>
        cases us with
        | nil => exact hu.elim
        | cons y us =>
          cases us with
          | cons _ _ => exact hu.2.elim
          | nil =>
            cases hu.1 with
            | int kk t =>
              have e' : (match look es kk with | some v => bnd (upd i (.dict (del es kk))) fun _ => ret v | Option.none => fail) st = some (.ok r, st') := e
              have hval := look_valueAt kk hf
              cases q : look es kk with
              | none => rw [q] at e'; cases e'
              | some x =>
                rw [q] at e' hval
                obtain ⟨y, hy, hyr⟩ := hval
                refine bnd_elim e' fun _ st₂ e3 e4 => ?_
                have g3 := upd_some e3
                obtain ⟨rfl, rfl⟩ := ret_some e4
                subst g3
                refine call_meetsIn PySem.F.slot_dict_pop hD.typeIs PySem.F.entry_dict_pop (PySem.F.args_dict_pop_2 _ _) (meets_dict_pop_there (intKind prog w) c (intKind_is prog w kk t) [] (.inl rfl) rfl) ⟨kvs, y, hD, by rw [sizeLine_val]; omega, hy, fun h' hmm hs' => ?_⟩
                obtain ⟨o', ho', hd'⟩ := Heap.dictOf_iff.mp hmm
                exact k _ _ _ (Pre.refl ι) (R.upd (tk := s.toks + 1) h e0 rfl (fun b ob hb e => hs'.extBut b ob hb e) ho' ⟨⟨_, hd', without_del kk hf hn⟩, by have := del_length es kk; omega⟩) hyr
            | _ => first | exact no_some e | cases e
  | _ => first | exact no_some hs | cases hs
end
end Mine
namespace Mine
open PySem PySem.W PyProof.Rows

noncomputable def biVal : BI → Value
  | .len => .builtin "len" | .min => .builtin "min" | .max => .builtin "max" | .sorted => .builtin "sorted" | .range => .type "range" | .list => .type "list"
  | .int => .type "int" | .str => .type "str" | .tuple => .type "tuple" | .any => .builtin "any"
noncomputable def tyVal : TY → Value
  | .int => .type "int" | .bool => .type "bool" | .list => .type "list" | .str => .type "str" | .tuple => .type "tuple" | .exc c => .ref c | .exd c => .ref c

/-- the mro behind an own class, from ValueError on -/
noncomputable def bmVE : List Value := [.type "ValueError", .type "Exception", .type "BaseException", .type "object"]
/-- c is an exception class of the text -/
noncomputable def ExcK (K : Frag) (c : Addr) : Prop := ∀ h : Heap, K.In h → OwnCls (Str.ofString "") c bmVE "ValueError.__new__" (fun _ => some (.ref c)) h
/-- a dict whose values are numbers -/
noncomputable def isTab (o : Obj) : Bool := match o.data with
  | .dict es _ => !es.toList.isEmpty && es.toList.all fun e => match e.val with | .int _ _ => true | _ => false
  | _ => false
noncomputable def TabsK (w : World) (K : Frag) : Prop := ∀ a o, K.lookup a = some o → isTab o = true → ∀ prog es ep, o.data = .dict es ep → KeysOf (PySem.strKind prog w) es
/-- what the written part must hold of a global's meaning -/
noncomputable def GOk (K : Frag) : GV → Value → Prop
  | .val a, v => VRel [] v a
  | .fn f, v => v = .ref f ∧ keepIn K (.ref f) = true
  | .cls c f, v => v = .ref c ∧ keepIn K (.ref c) = true ∧ makesIn K c = true ∧ findIn K (.ref c) "__init__" = some (some (.ref f)) ∧ isFn K (.ref f) = true
  | .bi b, v => v = biVal b
  | .isinst, v => v = .builtin "isinstance"
  | .ty t, v => v = tyVal t ∧ ∀ c, t = .exc c → ExcK K c

noncomputable def nm : Str := "__name__"
noncomputable def cld : Str := "__classdict__"

structure EnvOk (K : Frag) (X : Cx) (env : Env) (rs : Rsv) (k : Nat) : Prop where
  len : X.locs.length = rs.N
  gone : ∀ j, k ≤ j → j < rs.N → X.locs[j]? = some Loc.gone
  kind : env.scope.kind = .function
  glb : env.globals = mainGlobals
  bns : env.builtins = builtinsNs
  slots : ∀ x i, rs.slot x = some i → x ≠ dbg ∧ x ≠ cld ∧
    ((env.kindOf x = some .local ∧ ((X.locs[i]? = some (Loc.loc x) ∧ env.locals = X.L) ∨ X.locs[i]? = some (Loc.at env.locals x)))
    ∨ ((env.kindOf x = some .cell ∨ env.kindOf x = some .free) ∧ ∃ c, env.cells.lookup x = some c ∧ X.locs[i]? = some (Loc.cell c)))
  cel : ∀ x, rs.cel x = true → (env.kindOf x = some .cell ∨ env.kindOf x = some .free) ∧ x ≠ dbg ∧ x ≠ cld ∧ ∃ i c, rs.slot x = some i ∧ env.cells.lookup x = some c ∧ X.locs[i]? = some (Loc.cell c)
  globs : ∀ x g, rs.slot x = none → rs.glob x = some g → env.kindOf x = some .globalImplicit ∧ ∃ v, GOk K g v ∧
    (nsIn K mainGlobals x = some (some v) ∨ (nsIn K mainGlobals x = some none ∧ bootBuiltins x = some v ∧ x ≠ nm))
  gt : ∀ x g, rs.gtab x = some g → ∃ v, GOk K g v ∧ (nsIn K mainGlobals x = some (some v) ∨ (nsIn K mainGlobals x = some none ∧ bootBuiltins x = some v ∧ x ≠ nm))

/-- the ground of an activation -/
structure Gr (K : Frag) (hb : Heap) (A : Around) (X : Cx) : Prop where
  kp : ∀ b o, hb.get? b = some o → X.Kp b = some o
  KX : K.In hb
  T : ∃ p loose mg mb, TopRead p loose mg mb hb
  mods : ∃ o, hb.get? sysModules = some o
  hh : A.handled = none
  hU : A.units + 1 < cLine
  ok : CxOk X
  frs : ∃ l, A.frames = some l ∧ ∀ f ∈ l, f.scope.kind ≠ .module ∧ ∃ L, f.frame = some L ∧ (L = X.L ∨ L ∈ X.fr)
  hfr : ∀ b, b ∈ X.fr → hb.get? b = none

section
variable {prog : Program} {w : World} {A : Around} {X : Cx} {ι : List Addr} {st : ASt} {s : Shared} {v u : Value} {a b : AV} {K : Frag} {hb : Heap} {env : Env} {rs : Rsv} {k : Nat}

theorem vrel_any {v : Value} {a : AV} (h : VRel [] v a) (ι : List Addr) : VRel ι v a := h.mono ⟨ι, rfl⟩
theorem getLoc_some {i : Nat} {st st' : ASt} {v : AV} (h : getLoc i st = some (.ok v, st')) : st.ρ[i]? = some (some v) ∧ st' = st := by
  unfold getLoc at h
  split at h
  · rename_i e; cases h; exact ⟨e, rfl⟩
  · first | exact no_some h | cases h
theorem dbg_false {x : Str} (h : x ≠ dbg) : (x == ("__debug__" : Str)) = false := beq_eq_false_iff_ne.mpr h

theorem Gr.keep (G : Gr K hb A X) (R : Rel prog w X ι st s) : ∀ b o, hb.get? b = some o → s.heap.get? b = some o := R.keep G.kp G.hfr
theorem Gr.inK (G : Gr K hb A X) (R : Rel prog w X ι st s) : K.In s.heap := G.KX.keeps (G.keep R)

theorem rd_slot (R : Rel prog w X ι st s) (EO : EnvOk K X env rs k) {x : Str} {i : Nat} {pos : Pos} {Q : Value → Shared → Prop} {E : Value → Shared → Prop} (hx : rs.slot x = some i) (hr : st.ρ[i]? = some (some a)) (h : ∀ v, VRel ι v a → Q v s) :
    wpAny (model prog w) A (eval (.Name x pos) env) Q E s := by
  obtain ⟨hd, hcd, hs⟩ := EO.slots x i hx
  rcases hs with ⟨hk, hl⟩ | ⟨hk, c, hc, hl⟩
  · rcases hl with ⟨hl, hL⟩ | hl
    · obtain ⟨m, hm, hv⟩ := R.ns
      obtain ⟨v, e1, e2⟩ := hv i x a hl hr
      exact wpAny_Name (wpAny_loadName_local EO.kind hk (hL ▸ hm) e1 (h v e2)) (dbg_false hd)
    · obtain ⟨o, es, ep, v, h1, h2, h3, h4, h5⟩ := R.comps i _ x hl a hr
      obtain ⟨o', e1, e2⟩ := (R.frozen _ _ h1).data
      exact wpAny_Name (wpAny_loadName_local (m := nsFind es) EO.kind hk ⟨o', es, ep, e1, e2.trans h2, h3, fun _ => rfl⟩ h4 (h v h5)) (dbg_false hd)
  · obtain ⟨_, o, v', h1, h2, h3⟩ := R.cells i c hl
    obtain ⟨v, rfl, h4⟩ := h3 a hr
    rcases hk with hk | hk
    · exact wpAny_Name (wpAny_loadName_cell EO.kind hk hc ⟨o, h1, h2⟩ (h v h4)) (dbg_false hd)
    · exact wpAny_Name (wpAny_loadName_free EO.kind hk hc ⟨o, h1, h2⟩ (h v h4) (beq_eq_false_iff_ne.mpr hcd)) (dbg_false hd)

theorem rd_globA (hT : ∃ p loose mg mb, TopRead p loose mg mb hb) (keep : ∀ b o, hb.get? b = some o → s.heap.get? b = some o) (KX : K.In hb) (EO : EnvOk K X env rs k) {x : Str} {g : GV} {pos : Pos} {Q : Value → Shared → Prop} {E : Value → Shared → Prop} (hd : x ≠ dbg) (hx : rs.slot x = none) (hg : rs.glob x = some g) (h : ∀ v, GOk K g v → Q v s) :
    wpAny (model prog w) A (eval (.Name x pos) env) Q E s := by
  obtain ⟨hk, v, ho, hv⟩ := EO.globs x g hx hg
  obtain ⟨p, loose, mg, mb, T⟩ := hT
  have T' := T.keeps keep
  rcases hv with hv | ⟨hv, hb', hn⟩
  · exact Calls.Name_function_global EO.kind hk (Calls.loadGlobal_global (env := env) (EO.glb ▸ T'.g) (mg_of KX T.g hv) (h v ho)) (dbg_false hd)
  · exact Calls.Name_function_global EO.kind hk (Calls.loadGlobal_builtin (env := env) (EO.glb ▸ T'.g) (mg_none_of KX T.g hv) (EO.bns ▸ T'.b) ((T'.builtins x hn).trans hb') (h v ho)) (dbg_false hd)
theorem rd_glob (G : Gr K hb A X) (R : Rel prog w X ι st s) (EO : EnvOk K X env rs k) {x : Str} {g : GV} {pos : Pos} {Q : Value → Shared → Prop} {E : Value → Shared → Prop} (hd : x ≠ dbg) (hx : rs.slot x = none) (hg : rs.glob x = some g) (h : ∀ v, GOk K g v → Q v s) :
    wpAny (model prog w) A (eval (.Name x pos) env) Q E s := rd_globA G.T (G.keep R) G.KX EO hd hx hg h

/-- what must stand of the methods and attributes -/
structure StatOk (K : Frag) (rs : Rsv) : Prop where
  own : ∀ name c f, rs.meth name = some (.own c f) → findIn K (.ref c) "__getattribute__" = some (some (.builtin "object.__getattribute__")) ∧ findIn K (.ref c) "__getattr__" = some none ∧
    findIn K (.ref c) name = some (some (.ref f)) ∧ typeIn K (.ref f) = some (.type "function") ∧ keepIn K (.ref f) = true
  me : ∀ name m, rs.meth name = some (.me m) → name = Str.ofString (meName m)
  attr : ∀ name c, rs.attr name = some c → AttrOk K c name

/-- expressions, tests, lists of expressions -/
noncomputable def SE (prog : Program) (w : World) (K : Frag) (hb : Heap) (A : Around) (P : AProg) (C : Calls) (rs : Rsv) (k : Nat) (e : Expr) (ae : AE) : Prop :=
  ∀ X env ι st s, Gr K hb A X → EnvOk K X env rs k → Rel prog w X ι st s → SimAt prog w A X ι st s (eval e env) (aeval P C ae) VR0
noncomputable def ST (prog : Program) (w : World) (K : Frag) (hb : Heap) (A : Around) (P : AProg) (C : Calls) (rs : Rsv) (k : Nat) (e : Expr) (ae : AE) : Prop :=
  ∀ X env ι st s, Gr K hb A X → EnvOk K X env rs k → Rel prog w X ι st s → SimAt prog w A X ι st s (isTrue e env (eval e env)) (atest P C ae) BR
/-- the raising call at the top of an expression -/
noncomputable def SX (prog : Program) (w : World) (K : Frag) (hb : Heap) (A : Around) (P : AProg) (C : Calls) (rs : Rsv) (k : Nat) (e : Expr) (ae : AE) : Prop :=
  ∀ X env ι st s, Gr K hb A X → EnvOk K X env rs k → Rel prog w X ι st s → SimX prog w A X ι st s (eval e env) (axval P C ae)
/-- all for one expression -/
structure S2 (prog : Program) (w : World) (K : Frag) (hb : Heap) (A : Around) (P : AProg) (C : Calls) (rs : Rsv) (k : Nat) (e : Expr) (ae : AE) : Prop where
  ev : SE prog w K hb A P C rs k e ae
  ts : ST prog w K hb A P C rs k e ae
  er : SX prog w K hb A P C rs k e ae
theorem SX.calm {prog : Program} {w : World} {K : Frag} {hb : Heap} {A : Around} {P : AProg} {C : Calls} {rs : Rsv} {k : Nat} {e : Expr} {ae : AE} (h : axval P C ae = noerr (aeval P C ae)) : SX prog w K hb A P C rs k e ae :=
  fun _ _ _ _ _ _ _ _ _ _ q => by rw [h] at q; exact (noerr_no q).elim
inductive SL (prog : Program) (w : World) (K : Frag) (hb : Heap) (A : Around) (P : AProg) (C : Calls) (rs : Rsv) (k : Nat) : List Expr → List AE → Prop
  | nil : SL prog w K hb A P C rs k [] []
  | cons {e ae es aes} : notStar e = true → S2 prog w K hb A P C rs k e ae → SL prog w K hb A P C rs k es aes → SL prog w K hb A P C rs k (e :: es) (ae :: aes)

variable {P : AProg} {C : Calls} {e e₁ e₂ : Expr} {ae ae₁ ae₂ : AE} {es : List Expr} {aes : List AE}

theorem star_one (h : notStar e = true) (r : List Expr) : starEach (e :: r) env = (false, eval e env) :: starEach r env := by
  cases e <;> first | rfl | cases h

theorem sim_args {pos : Pos} (L : SL prog w K hb A P C rs k es aes) : ∀ X env ι st s, Gr K hb A X → EnvOk K X env rs k → Rel prog w X ι st s →
    SimAt prog w A X ι st s (spliced (backTo pos (starEach es env))) (aevals P C aes) (fun ι vs as => F2 (VRel ι) vs as) := by
  induction L with
  | nil => intro X env ι st s G EO R; exact SimAt.pure (VR := fun ι vs as => F2 (VRel ι) vs as) R trivial
  | cons hn h _ ih =>
    intro X env ι st s G EO R r st' e Q E k
    refine bnd_elim e fun a st₁ e1 e2 => ?_
    refine bnd_elim e2 fun as st₂ e3 e4 => ?_
    obtain ⟨rfl, rfl⟩ := ret_some e4
    refine wpAny_items_cons (h.1 X env ι st s G EO R a st₁ e1 _ _ fun ι₁ s₁ v p₁ R₁ hv => ih X env ι₁ st₁ s₁ G EO R₁ as _ e3 _ _ fun ι₂ s₂ vs p₂ R₂ hvs => ?_) (star_one hn _)
    exact k ι₂ s₂ _ (p₁.trans p₂) R₂ ⟨hv.mono p₂, hvs⟩

/-- a plain expression's test -/
theorem test_plain (h : SE prog w K hb A P C rs k e ae) (hp : ∀ env whole, isTrue e env whole = (do let v ← whole; standAt e.pos; holding [v] (PySem.truthy v))) (ha : atest P C ae = bnd (aeval P C ae) truthy) (hx : SX prog w K hb A P C rs k e ae := by exact SX.calm rfl) : S2 prog w K hb A P C rs k e ae := by
  refine ⟨h, fun X env ι st s G EO R r st' e Q E kk => ?_, hx⟩
  rw [ha] at e
  refine bnd_elim e fun a st₁ e1 e2 => ?_
  refine wpAny_isTrue_value (h X env ι st s G EO R a st₁ e1 _ _ fun ι₁ s₁ v p₁ R₁ hv => ?_) (hp env _)
  exact sim_truthy R₁ hv r st' e2 Q E fun ι₂ s₂ b p₂ R₂ hb => kk ι₂ s₂ b (p₁.trans p₂) R₂ hb

theorem s_const {c : Const} {n : Nat} {pos : Pos} {v : AV} (hc : (match c with
      | .none => some (AE.cst .none)
      | .bool b => some (AE.cst (.bool b))
      | .int i => some (AE.cst (.int i))
      | .str x => some (AE.cst (.str x))
      | _ => none) = some (AE.cst v)) : S2 prog w K hb A P C rs k (.Constant c n pos) (.cst v) := by
  refine ⟨fun X env ι st s G EO R => SimAt.leaf R fun r st' e => ?_, fun X env ι st s G EO R r st' e Q E kk => ?_, .calm rfl⟩
  · obtain ⟨rfl, rfl⟩ := ret_some e
    refine ⟨rfl, fun Q E kk => ?_⟩
    cases c <;> first | cases hc | skip
    · exact PySem.wpAny_Constant_none (kk _ s.toks .none)
    · exact PySem.wpAny_Constant_bool (kk _ s.toks (.bool _))
    · exact wpAny_Constant_int (kk _ _ (.int _ _))
    · exact PySem.wpAny_Constant_str (kk _ _ (.str _ _))
  · refine wpAny_isTrue_value ?_ rfl
    cases c <;> first | cases hc | skip
    · exact PySem.wpAny_Constant_none (sim_truthy R .none r st' e Q E kk)
    · exact PySem.wpAny_Constant_bool (sim_truthy R (.bool _) r st' e Q E kk)
    · exact wpAny_Constant_int (sim_truthy (R.toks _) (.int _ _) r st' e Q E kk)
    · exact PySem.wpAny_Constant_str (sim_truthy (R.toks _) (.str _ _) r st' e Q E kk)

theorem s_loc {x : Str} {i : Nat} {pos : Pos} (hx : rs.slot x = some i) : S2 prog w K hb A P C rs k (.Name x pos) (.loc i) := by
  refine test_plain (fun X env ι st s G EO R => SimAt.leaf R fun r st' e => ?_) (fun _ _ => rfl) rfl
  obtain ⟨e1, rfl⟩ := getLoc_some e
  exact ⟨rfl, fun Q E kk => rd_slot R EO hx e1 fun v hv => kk v s.toks hv⟩
theorem s_glob {x : Str} {v : AV} {pos : Pos} (hd : x ≠ dbg) (hx : rs.slot x = none) (hg : rs.glob x = some (.val v)) : S2 prog w K hb A P C rs k (.Name x pos) (.cst v) := by
  refine test_plain (fun X env ι st s G EO R => SimAt.leaf R fun r st' e => ?_) (fun _ _ => rfl) rfl
  obtain ⟨rfl, rfl⟩ := ret_some e
  exact ⟨rfl, fun Q E kk => rd_glob G R EO hd hx hg fun v hv => kk v s.toks (vrel_any hv ι)⟩
theorem s_bin {op : Operator} {pos : Pos} (h₁ : S2 prog w K hb A P C rs k e₁ ae₁) (h₂ : S2 prog w K hb A P C rs k e₂ ae₂) : S2 prog w K hb A P C rs k (.BinOp e₁ op e₂ pos) (.bin op ae₁ ae₂) := by
  refine ⟨fun X env ι st s G EO R r st' e Q E kk => ?_, fun X env ι st s G EO R => SimAt.fail, .calm rfl⟩
  refine bnd_elim e fun a st₁ g1 g2 => ?_
  refine bnd_elim g2 fun b st₂ g3 g4 => ?_
  refine wpAny_BinOp (h₁.1 _ _ _ _ _ G EO R a st₁ g1 _ _ fun ι₁ s₁ v p₁ R₁ hv => h₂.1 _ _ _ _ _ G EO R₁ b st₂ g3 _ _ fun ι₂ s₂ u p₂ R₂ hu => ?_)
  exact sim_binop R₂ (hv.mono p₂) hu r st' g4 Q E fun ι₃ s₃ x p₃ R₃ hx => kk ι₃ s₃ x ((p₁.trans p₂).trans p₃) R₃ hx
theorem s_not {pos : Pos} (h : S2 prog w K hb A P C rs k e ae) : S2 prog w K hb A P C rs k (.UnaryOp .Not e pos) (.not ae) := by
  refine ⟨fun X env ι st s G EO R r st' e Q E kk => ?_, fun X env ι st s G EO R r st' e Q E kk => ?_, .calm rfl⟩
  · refine bnd_elim e fun a st₁ g1 g2 => ?_
    refine bnd_elim g2 fun b st₂ g3 g4 => ?_
    obtain ⟨rfl, rfl⟩ := ret_some g4
    refine wpAny_UnaryOp (h.1 _ _ _ _ _ G EO R a st₁ g1 _ _ fun ι₁ s₁ v p₁ R₁ hv => not_of ?_)
    exact sim_truthy R₁ hv b _ g3 _ _ fun ι₂ s₂ x p₂ R₂ hx => kk ι₂ s₂ _ (p₁.trans p₂) R₂ (by subst hx; exact .bool _)
  · refine bnd_elim e fun b st₁ g1 g2 => ?_
    obtain ⟨rfl, rfl⟩ := ret_some g2
    exact wpAny_isTrue_Not (h.2 _ _ _ _ _ G EO R b _ g1 _ _ fun ι₁ s₁ v p₁ R₁ hv => kk ι₁ s₁ _ p₁ R₁ (by subst hv; rfl))
theorem sim_and {pos : Pos} (L : SL prog w K hb A P C rs k es aes) : ∀ X env ι st s, Gr K hb A X → EnvOk K X env rs k → Rel prog w X ι st s → SimAt prog w A X ι st s (boolOp pos .And (evalEach es env)) (aand P C aes) VR0 := by
  induction L with
  | nil => intro X env ι st s G EO R; exact SimAt.fail
  | @cons e ae es aes hn h L ih =>
    intro X env ι st s G EO R
    cases L with
    | nil => exact h.1 X env ι st s G EO R
    | cons hn' h' L' =>
      intro r st' e Q E kk
      · refine bnd_elim e fun a st₁ g1 g2 => ?_
        refine bnd_elim g2 fun b st₂ g3 g4 => ?_
        rw [evalEach, evalEach]
        · refine wpAny_bind (h.1 _ _ _ _ _ G EO R a st₁ g1 _ _ fun ι₁ s₁ v p₁ R₁ hv => wpAny_bind (wpAny_standAt (wpAny_bind (wpAny_holding ?_))))
          refine sim_truthy R₁ hv b st₂ g3 _ _ fun ι₂ s₂ t p₂ R₂ ht => ?_
          subst ht
          cases t with
          | true => exact ih X env ι₂ st₂ s₂ G EO R₂ r st' (by simpa using g4) Q E fun ι₃ s₃ x p₃ R₃ hx => kk ι₃ s₃ x ((p₁.trans p₂).trans p₃) R₃ hx
          | false =>
            have g4 : ret a st₂ = some (.ok r, st') := by simpa using g4
            obtain ⟨rfl, rfl⟩ := ret_some g4
            exact wpAny_pure (kk ι₂ s₂ v (p₁.trans p₂) R₂ (hv.mono p₂))
theorem sim_or {pos : Pos} (L : SL prog w K hb A P C rs k es aes) : ∀ X env ι st s, Gr K hb A X → EnvOk K X env rs k → Rel prog w X ι st s → SimAt prog w A X ι st s (boolOp pos .Or (evalEach es env)) (aor P C aes) VR0 := by
  induction L with
  | nil => intro X env ι st s G EO R; exact SimAt.fail
  | @cons e ae es aes hn h L ih =>
    intro X env ι st s G EO R
    cases L with
    | nil => exact h.1 X env ι st s G EO R
    | cons hn' h' L' =>
      intro r st' e Q E kk
      · refine bnd_elim e fun a st₁ g1 g2 => ?_
        refine bnd_elim g2 fun b st₂ g3 g4 => ?_
        rw [evalEach, evalEach]
        · refine wpAny_bind (h.1 _ _ _ _ _ G EO R a st₁ g1 _ _ fun ι₁ s₁ v p₁ R₁ hv => wpAny_bind (wpAny_standAt (wpAny_bind (wpAny_holding ?_))))
          refine sim_truthy R₁ hv b st₂ g3 _ _ fun ι₂ s₂ t p₂ R₂ ht => ?_
          subst ht
          cases t with
          | false => exact ih X env ι₂ st₂ s₂ G EO R₂ r st' (by simpa using g4) Q E fun ι₃ s₃ x p₃ R₃ hx => kk ι₃ s₃ x ((p₁.trans p₂).trans p₃) R₃ hx
          | true =>
            have g4 : ret a st₂ = some (.ok r, st') := by simpa using g4
            obtain ⟨rfl, rfl⟩ := ret_some g4
            exact wpAny_pure (kk ι₂ s₂ v (p₁.trans p₂) R₂ (hv.mono p₂))
theorem sim_all (L : SL prog w K hb A P C rs k es aes) : ∀ X env ι st s, Gr K hb A X → EnvOk K X env rs k → Rel prog w X ι st s → SimAt prog w A X ι st s (allTrue .And es env) (aall P C aes) BR := by
  induction L with
  | nil => intro X env ι st s G EO R r st' e Q E kk; obtain ⟨rfl, rfl⟩ := ret_some e; exact wpAny_allTrue_And_nil (kk ι s _ (Pre.refl ι) R rfl)
  | @cons e ae es aes hn h L ih =>
    intro X env ι st s G EO R r st' e Q E kk
    refine bnd_elim e fun b st₁ g1 g2 => ?_
    refine wpAny_allTrue_And_cons (h.2 _ _ _ _ _ G EO R b st₁ g1 _ _ fun ι₁ s₁ t p₁ R₁ ht => ?_)
    subst ht
    cases t with
    | true => exact ih X env ι₁ st₁ s₁ G EO R₁ r st' (by simpa using g2) Q E fun ι₃ s₃ x p₃ R₃ hx => kk ι₃ s₃ x (p₁.trans p₃) R₃ hx
    | false =>
      have g2 : ret false st₁ = some (.ok r, st') := by simpa using g2
      obtain ⟨rfl, rfl⟩ := ret_some g2
      exact kk ι₁ s₁ _ p₁ R₁ rfl
theorem sim_any (L : SL prog w K hb A P C rs k es aes) : ∀ X env ι st s, Gr K hb A X → EnvOk K X env rs k → Rel prog w X ι st s → SimAt prog w A X ι st s (allTrue .Or es env) (aany P C aes) BR := by
  induction L with
  | nil => intro X env ι st s G EO R r st' e Q E kk; obtain ⟨rfl, rfl⟩ := ret_some e; exact wpAny_allTrue_Or_nil (kk ι s _ (Pre.refl ι) R rfl)
  | @cons e ae es aes hn h L ih =>
    intro X env ι st s G EO R r st' e Q E kk
    refine bnd_elim e fun b st₁ g1 g2 => ?_
    refine wpAny_allTrue_Or_cons (h.2 _ _ _ _ _ G EO R b st₁ g1 _ _ fun ι₁ s₁ t p₁ R₁ ht => ?_)
    subst ht
    cases t with
    | false => exact ih X env ι₁ st₁ s₁ G EO R₁ r st' (by simpa using g2) Q E fun ι₃ s₃ x p₃ R₃ hx => kk ι₃ s₃ x (p₁.trans p₃) R₃ hx
    | true =>
      have g2 : ret true st₁ = some (.ok r, st') := by simpa using g2
      obtain ⟨rfl, rfl⟩ := ret_some g2
      exact kk ι₁ s₁ _ p₁ R₁ rfl
theorem s_and {pos : Pos} (L : SL prog w K hb A P C rs k es aes) : S2 prog w K hb A P C rs k (.BoolOp .And es pos) (.and aes) :=
  ⟨fun X env ι st s G EO R => by exact sim_and L X env ι st s G EO R, fun X env ι st s G EO R r st' e Q E kk => by
    exact wpAny_isTrue_BoolOp (sim_all L X env ι st s G EO R r st' e Q E kk), .calm rfl⟩
theorem s_or {pos : Pos} (L : SL prog w K hb A P C rs k es aes) : S2 prog w K hb A P C rs k (.BoolOp .Or es pos) (.or aes) :=
  ⟨fun X env ι st s G EO R => by exact sim_or L X env ι st s G EO R, fun X env ι st s G EO R r st' e Q E kk => by
    exact wpAny_isTrue_BoolOp (sim_any L X env ι st s G EO R r st' e Q E kk), .calm rfl⟩

theorem no_marks : ∀ {es : List Expr} {aes : List AE} (ops : List CmpOp), SL prog w K hb A P C rs k es aes → lastMarks ops es = false
  | [], _, ops, _ => by cases ops with | nil => rfl | cons o r => cases r <;> rfl
  | [e], _, ops, h => by
    cases h with
    | cons hn _ _ =>
      cases ops with
      | nil => rfl
      | cons o r =>
        cases r with
        | nil => cases e <;> first | rfl | cases hn
        | cons p q => cases q <;> rfl
  | e :: e' :: es, _, ops, h => by
    cases h with
    | cons hn _ h' =>
      cases ops with
      | nil => rfl
      | cons o r =>
        have := no_marks r h'
        cases r with
        | nil => rfl
        | cons _ _ => exact this

theorem sim_chain {pos : Pos} (L : SL prog w K hb A P C rs k es aes) : ∀ (ops : List CmpOp) X env ι st s v a, ops.length = es.length → Gr K hb A X → EnvOk K X env rs k → Rel prog w X ι st s → VRel ι v a → SimAt prog w A X ι st s (compareChain pos v ops (evalEach es env)) (achain P C aes a ops) CR := by
  induction L with
  | nil => intro ops X env ι st s v a hl G EO R hv; exact SimAt.fail
  | @cons e ae es aes hn h L ih =>
    intro ops X env ι st s v a hl G EO R hv
    cases ops with
    | nil => exact SimAt.fail
    | cons op ops =>
      intro r st' e Q E kk
      refine bnd_elim e fun b st₁ g1 g2 => ?_
      refine bnd_elim g2 fun t st₂ g3 g4 => ?_
      cases ops with
      | nil =>
        cases L with
        | nil =>
          have g4 : ret t st₂ = some (.ok r, st') := g4
          obtain ⟨rfl, rfl⟩ := ret_some g4
          rw [evalEach, evalEach]
          refine chain_last (h.1 _ _ _ _ _ G EO R b st₁ g1 _ _ fun ι₁ s₁ u p₁ R₁ hu => ?_)
          exact sim_cmpop G.hU G.kp G.mods R₁ (hv.mono p₁) hu r _ g3 Q E fun ι₂ s₂ x p₂ R₂ hx => kk ι₂ s₂ x (p₁.trans p₂) R₂ hx
        | cons hn' h' L' => simp at hl
      | cons op' ops =>
        cases L with
        | nil => simp at hl
        | cons hn' h' L' =>
          have g4 : (if t = true then achain P C _ b (op' :: ops) else ret false) st₂ = some (.ok r, st') := g4
          rw [evalEach, evalEach]
          refine chain_link (h.1 _ _ _ _ _ G EO R b st₁ g1 _ _ fun ι₁ s₁ u p₁ R₁ hu => ?_)
          refine sim_cmpop G.hU G.kp G.mods R₁ (hv.mono p₁) hu t st₂ g3 _ _ fun ι₂ s₂ x p₂ R₂ hx => ?_
          subst hx
          refine wpAny_truthy_bool ?_
          cases t with
          | true =>
            have := ih (op' :: ops) X env ι₂ st₂ s₂ u b (by simpa using hl) G EO R₂ (hu.mono p₂) r st' (by simpa using g4) Q E fun ι₃ s₃ x p₃ R₃ hx => kk ι₃ s₃ x ((p₁.trans p₂).trans p₃) R₃ hx
            rw [evalEach] at this
            exact this
          | false =>
            have g4 : ret false st₂ = some (.ok r, st') := by simpa using g4
            obtain ⟨rfl, rfl⟩ := ret_some g4
            exact kk ι₂ s₂ _ (p₁.trans p₂) R₂ rfl
theorem sim_testChain {pos : Pos} (L : SL prog w K hb A P C rs k es aes) : ∀ (ops : List CmpOp) X env ι st s v a, ops.length = es.length → Gr K hb A X → EnvOk K X env rs k → Rel prog w X ι st s → VRel ι v a → SimAt prog w A X ι st s (testChain pos v ops (evalEach es env)) (achain P C aes a ops) BR := by
  induction L with
  | nil => intro ops X env ι st s v a hl G EO R hv; exact SimAt.fail
  | @cons e ae es aes hn h L ih =>
    intro ops X env ι st s v a hl G EO R hv
    cases ops with
    | nil => exact SimAt.fail
    | cons op ops =>
      intro r st' e Q E kk
      refine bnd_elim e fun b st₁ g1 g2 => ?_
      refine bnd_elim g2 fun t st₂ g3 g4 => ?_
      cases ops with
      | nil =>
        cases L with
        | nil =>
          have g4 : ret t st₂ = some (.ok r, st') := g4
          obtain ⟨rfl, rfl⟩ := ret_some g4
          rw [evalEach, evalEach]
          refine test_last (h.1 _ _ _ _ _ G EO R b st₁ g1 _ _ fun ι₁ s₁ u p₁ R₁ hu => ?_)
          refine sim_cmpop G.hU G.kp G.mods R₁ (hv.mono p₁) hu r _ g3 _ _ fun ι₂ s₂ x p₂ R₂ hx => ?_
          subst hx
          exact wpAny_truthy_bool (kk ι₂ s₂ _ (p₁.trans p₂) R₂ rfl)
        | cons hn' h' L' => simp at hl
      | cons op' ops =>
        cases L with
        | nil => simp at hl
        | cons hn' h' L' =>
          have g4 : (if t = true then achain P C _ b (op' :: ops) else ret false) st₂ = some (.ok r, st') := g4
          rw [evalEach, evalEach]
          refine test_link (h.1 _ _ _ _ _ G EO R b st₁ g1 _ _ fun ι₁ s₁ u p₁ R₁ hu => ?_)
          refine sim_cmpop G.hU G.kp G.mods R₁ (hv.mono p₁) hu t st₂ g3 _ _ fun ι₂ s₂ x p₂ R₂ hx => ?_
          subst hx
          refine wpAny_truthy_bool ?_
          cases t with
          | true =>
            have := ih (op' :: ops) X env ι₂ st₂ s₂ u b (by simpa using hl) G EO R₂ (hu.mono p₂) r st' (by simpa using g4) Q E fun ι₃ s₃ x p₃ R₃ hx => kk ι₃ s₃ x ((p₁.trans p₂).trans p₃) R₃ hx
            rw [evalEach] at this
            exact this
          | false =>
            have g4 : ret false st₂ = some (.ok r, st') := by simpa using g4
            obtain ⟨rfl, rfl⟩ := ret_some g4
            exact kk ι₂ s₂ _ (p₁.trans p₂) R₂ rfl
theorem s_cmp {pos : Pos} {ops : List CmpOp} (h : S2 prog w K hb A P C rs k e ae) (L : SL prog w K hb A P C rs k es aes) (hl : ops.length = es.length) : S2 prog w K hb A P C rs k (.Compare e ops es pos) (.cmp ae ops aes) := by
  refine ⟨fun X env ι st s G EO R r st' e Q E kk => ?_, fun X env ι st s G EO R r st' e Q E kk => ?_, .calm rfl⟩
  · refine bnd_elim e fun a st₁ g1 g2 => ?_
    refine bnd_elim g2 fun b st₂ g3 g4 => ?_
    obtain ⟨rfl, rfl⟩ := ret_some g4
    show wpAny _ A (do compareChain pos (← eval _ env) ops (markedEach ops es (evalEach es env))) Q E s
    rw [markedEach_of_false _ _ _ (no_marks ops L)]
    refine wpAny_bind (h.1 _ _ _ _ _ G EO R a st₁ g1 _ _ fun ι₁ s₁ v p₁ R₁ hv => ?_)
    exact sim_chain L ops X env ι₁ st₁ s₁ v a hl G EO R₁ hv b _ g3 Q E fun ι₂ s₂ x p₂ R₂ hx => kk ι₂ s₂ x (p₁.trans p₂) R₂ (by subst hx; exact .bool _)
  · refine bnd_elim e fun a st₁ g1 g2 => ?_
    show wpAny _ A (do testChain pos (← eval _ env) ops (markedEach ops es (evalEach es env))) Q E s
    rw [markedEach_of_false _ _ _ (no_marks ops L)]
    refine wpAny_bind (h.1 _ _ _ _ _ G EO R a st₁ g1 _ _ fun ι₁ s₁ v p₁ R₁ hv => ?_)
    exact sim_testChain L ops X env ι₁ st₁ s₁ v a hl G EO R₁ hv r _ g2 Q E fun ι₂ s₂ x p₂ R₂ hx => kk ι₂ s₂ x (p₁.trans p₂) R₂ hx
end
end Mine
namespace Mine
open PySem PySem.W PyProof.Rows

section
variable {prog : Program} {w : World} {A : Around} {X : Cx} {ι : List Addr} {st : ASt} {s : Shared} {v u : Value} {a b : AV} {K : Frag} {hb : Heap} {env : Env} {rs : Rsv} {k : Nat}
  {P : AProg} {C : Calls} {e e₁ e₂ : Expr} {ae ae₁ ae₂ : AE} {es : List Expr} {aes : List AE}

theorem sim_isaT {t : TY} (R : Rel prog w X ι st s) (hv : VRel ι v a) : SimAt prog w A X ι st s (call (.builtin "isinstance") [v, tyVal t]) (isaT P a t) CR := by
  refine SimAt.leaf R fun r st' e => ?_
  cases hv with
  | int i t' =>
    obtain ⟨g, rfl⟩ := ofOpt_some e
    refine ⟨rfl, fun Q E kk => ?_⟩
    cases t <;> first | cases g | skip
    · exact IsiPair.int_int (kk _ s.toks rfl)
    · exact IsiPair.int_bool (kk _ _ rfl)
    · exact IsiPair.int_list (kk _ _ rfl)
  | bool i => exact no_some e
  | none => exact no_some e
  | str i t' => exact no_some e
  | obj h =>
    refine bnd_elim e fun o st₁ e1 e2 => ?_
    obtain ⟨g1, rfl⟩ := deref_some e1
    cases o with
    | list xs =>
      obtain ⟨g, rfl⟩ := ofOpt_some e2
      obtain ⟨vs, n, ho, _, _⟩ := R.plainList h g1
      refine ⟨rfl, fun Q E kk => ?_⟩
      cases t <;> first | cases g | skip
      · exact IsiPair.list_int ho rfl (kk _ _ rfl)
      · exact IsiPair.list_bool ho rfl (kk _ _ rfl)
      · exact IsiPair.list_list ho rfl (kk _ s.toks rfl)
    | _ => exact (fail_some e2).elim
  | top _ _ => first | exact no_some e | cases e

theorem args_shape (as : List AV) : as = [] ∨ (∃ x, as = [x]) ∨ (∃ x y, as = [x, y]) ∨ ∃ x y z r, as = x :: y :: z :: r := by
  cases as with
  | nil => exact .inl rfl
  | cons x as =>
    cases as with
    | nil => exact .inr (.inl ⟨x, rfl⟩)
    | cons y as =>
      cases as with
      | nil => exact .inr (.inr (.inl ⟨x, y, rfl⟩))
      | cons z r => exact .inr (.inr (.inr ⟨x, y, z, r, rfl⟩))
theorem f2_one {vs : List Value} {ι₁ : List Addr} {x : AV} (h : F2 (VRel ι₁) vs [x]) : ∃ v, vs = [v] ∧ VRel ι₁ v x := by
  cases vs with
  | nil => exact h.elim
  | cons v vs =>
    cases vs with
    | nil => exact ⟨v, rfl, h.1⟩
    | cons _ _ => exact h.2.elim
theorem f2_two {vs : List Value} {ι₁ : List Addr} {x y : AV} (h : F2 (VRel ι₁) vs [x, y]) : ∃ v u, vs = [v, u] ∧ VRel ι₁ v x ∧ VRel ι₁ u y := by
  cases vs with
  | nil => exact h.elim
  | cons v vs =>
    obtain ⟨u, rfl, hu⟩ := f2_one h.2
    exact ⟨v, u, rfl, h.1, hu⟩

/-- the arguments of a call -/
theorem sim_evalArgs {f : Value} {pos : Pos} (L : SL prog w K hb A P C rs k es aes) (G : Gr K hb A X) (EO : EnvOk K X env rs k) (R : Rel prog w X ι st s) {as : List AV} {st' : ASt} (e : aevals P C aes st = some (.ok as, st'))
    {Q : Args → Shared → Prop} {E : Value → Shared → Prop} (h : ∀ ι' s' vs, Pre ι ι' → Rel prog w X ι' st' s' → F2 (VRel ι') vs as → Q ⟨vs, []⟩ s') : wpAny (model prog w) A (evalArgs f true (backTo pos (starEach es env)) []) Q E s := by
  cases L with
  | nil =>
    obtain ⟨rfl, rfl⟩ := ret_some e
    exact evalArgs_nil3 (h ι s [] (Pre.refl ι) R trivial)
  | cons hn hh L =>
    have := sim_args (pos := pos) (SL.cons hn hh L) X env ι st s G EO R as st' e (fun vs s' => Q ⟨vs, []⟩ s') E (fun ι' s' vs p R' hv => h ι' s' vs p R' hv)
    rw [star_one hn] at this ⊢
    exact Calls.evalArgs_plain this
theorem plain_args {pos : Pos} (L : SL prog w K hb A P C rs k es aes) : (backTo pos (starEach es env)).any (·.1) = false := by
  induction L with
  | nil => rfl
  | cons hn _ _ ih => rw [star_one hn]; show (false || _) = false; rw [Bool.false_or]; exact ih

theorem call_rule {x : Str} {f : Addr} {p pos : Pos} (G : Gr K hb A X) (EO : EnvOk K X env rs k) (R : Rel prog w X ι st s) (hd : x ≠ dbg) (hx : rs.slot x = none) (hg : rs.glob x = some (.fn f)) (L : SL prog w K hb A P C rs k es aes) {as : List AV} {st₁ : ASt} (g1 : aevals P C aes st = some (.ok as, st₁))
    {Q : Value → Shared → Prop} {E : Value → Shared → Prop} (h : ∀ ι₁ s₁ vs, Pre ι ι₁ → Rel prog w X ι₁ st₁ s₁ → F2 (VRel ι₁) vs as → wpAny (model prog w) A (call (.ref f) vs) Q E s₁) : wpAny (model prog w) A (eval (.Call (.Name x p) es [] pos) env) Q E s := by
  refine wpAny_Call_Name_kw (rd_glob G R EO hd hx hg fun v hv => ?_)
  obtain ⟨rfl, hk⟩ := hv
  exact callWith_of (P := fun h => K.In h) (by rw [plain_args L]; rfl) (keeps_K hk) (sim_evalArgs L G EO R g1 fun ι₁ s₁ vs p₁ R₁ hvs => ⟨G.inK R₁, h ι₁ s₁ vs p₁ R₁ hvs⟩)
theorem s_call {x : Str} {f : Addr} {p pos : Pos} (CO : ∀ X ι st s us as, Gr K hb A X → Rel prog w X ι st s → F2 (VRel ι) us as → SimAt prog w A X ι st s (call (.ref f) us) (callFn C f as) VR0 ∧ SimX prog w A X ι st s (call (.ref f) us) (callFn C f as))
    (hd : x ≠ dbg) (hx : rs.slot x = none) (hg : rs.glob x = some (.fn f)) (L : SL prog w K hb A P C rs k es aes) : S2 prog w K hb A P C rs k (.Call (.Name x p) es [] pos) (.call f aes) := by
  refine test_plain (fun X env ι st s G EO R r st' e Q E kk => ?_) (fun _ _ => rfl) rfl (fun X env ι st s G EO R r st' e Q E kk => ?_)
  · refine bnd_elim e fun as st₁ g1 g2 => ?_
    exact call_rule G EO R hd hx hg L g1 fun ι₁ s₁ vs p₁ R₁ hvs => (CO X ι₁ st₁ s₁ vs as G R₁ hvs).1 r st' g2 Q E fun ι₂ s₂ y p₂ R₂ hy => kk ι₂ s₂ y (p₁.trans p₂) R₂ hy
  · refine bnd_err e (fun q => (noerr_no q).elim) fun as st₁ g1 g2 => ?_
    exact call_rule G EO R hd hx hg L (noerr_ok g1) fun ι₁ s₁ vs p₁ R₁ hvs => (CO X ι₁ st₁ s₁ vs as G R₁ hvs).2 r st' g2 Q E fun ι₂ s₂ y p₂ R₂ hy => kk ι₂ s₂ y (p₁.trans p₂) R₂ hy
theorem s_bi {x : Str} {bi : BI} {p pos : Pos} (hd : x ≠ dbg) (hx : rs.slot x = none) (hg : rs.glob x = some (.bi bi)) (L : SL prog w K hb A P C rs k es aes)
    : S2 prog w K hb A P C rs k (.Call (.Name x p) es [] pos) (.bi bi aes) := by
  refine test_plain (fun X env ι st s G EO R r st' e Q E kk => ?_) (fun _ _ => rfl) rfl
  refine bnd_elim e fun as st₁ g1 g2 => ?_
  refine wpAny_Call_Name_kw (rd_glob G R EO hd hx hg fun v hv => ?_)
  have hv : v = biVal bi := hv
  subst hv
  have fin : ∀ {f : Value}, (∀ ι₁ s₁ vs, Rel prog w X ι₁ st₁ s₁ → F2 (VRel ι₁) vs as → SimAt prog w A X ι₁ st₁ s₁ (call f vs) (callBi bi as) VR0) →
      wpAny (model prog w) A (evalArgs f true (backTo pos (starEach es env)) []) (fun a s₁ => wpAny (model prog w) A (call f ([] ++ a.pos) a.kw) Q E s₁) E s := by
    intro f h
    exact sim_evalArgs L G EO R g1 fun ι₁ s₁ vs p₁ R₁ hvs => h ι₁ s₁ vs R₁ hvs r st' g2 Q E fun ι₂ s₂ y p₂ R₂ hy => kk ι₂ s₂ y (p₁.trans p₂) R₂ hy
  have one : ∀ {vs : List Value} {ι₁ : List Addr} {x : AV}, F2 (VRel ι₁) vs [x] → ∃ v, vs = [v] ∧ VRel ι₁ v x := f2_one
  have two : ∀ {vs : List Value} {ι₁ : List Addr} {x y : AV}, F2 (VRel ι₁) vs [x, y] → ∃ v u, vs = [v, u] ∧ VRel ι₁ v x ∧ VRel ι₁ u y := f2_two
  cases bi with
  | len =>
    refine Calls.callWith_builtin (plain_args L) (fin fun ι₁ s₁ vs R₁ hvs => ?_)
    rcases args_shape as with rfl | ⟨x, rfl⟩ | ⟨x, y, rfl⟩ | ⟨x, y, z, r, rfl⟩
    · exact SimAt.fail
    · obtain ⟨v, rfl, hv⟩ := one hvs; exact sim_len G.kp G.mods R₁ hv
    · exact SimAt.fail
    · exact SimAt.fail
  | min =>
    refine Calls.callWith_builtin (plain_args L) (fin fun ι₁ s₁ vs R₁ hvs => ?_)
    rcases args_shape as with rfl | ⟨x, rfl⟩ | ⟨x, y, rfl⟩ | ⟨x, y, z, r, rfl⟩
    · exact SimAt.fail
    · exact SimAt.fail
    · obtain ⟨v, u, rfl, hv, hu⟩ := two hvs; exact sim_min G.hh R₁ hv hu
    · exact SimAt.fail
  | sorted =>
    refine Calls.callWith_builtin (plain_args L) (fin fun ι₁ s₁ vs R₁ hvs => ?_)
    rcases args_shape as with rfl | ⟨x, rfl⟩ | ⟨x, y, rfl⟩ | ⟨x, y, z, r, rfl⟩
    · exact SimAt.fail
    · obtain ⟨v, rfl, hv⟩ := one hvs; exact sim_sorted G.hh R₁ hv
    · exact SimAt.fail
    · exact SimAt.fail
  | range =>
    refine PySem.callWith_type (plain_args L) (fin fun ι₁ s₁ vs R₁ hvs => ?_)
    rcases args_shape as with rfl | ⟨x, rfl⟩ | ⟨x, y, rfl⟩ | ⟨x, y, z, r, rfl⟩
    · exact SimAt.fail
    · obtain ⟨v, rfl, hv⟩ := one hvs
      cases hv with
      | int i t => exact sim_range1 R₁
      | _ => exact SimAt.fail
    · obtain ⟨v, u, rfl, hv, hu⟩ := two hvs
      cases hv with
      | int i t =>
        cases hu with
        | int j t' => exact sim_range2 R₁
        | _ => exact SimAt.fail
      | _ => exact SimAt.fail
    · exact SimAt.fail
  | list =>
    refine PySem.callWith_type (plain_args L) (fin fun ι₁ s₁ vs R₁ hvs => ?_)
    rcases args_shape as with rfl | ⟨x, rfl⟩ | ⟨x, y, rfl⟩ | ⟨x, y, z, r, rfl⟩
    · exact SimAt.fail
    · obtain ⟨v, rfl, hv⟩ := one hvs; exact sim_list R₁ hv
    · exact SimAt.fail
    · exact SimAt.fail
--{intb
  | int =>
    refine PySem.callWith_type (plain_args L) (fin fun ι₁ s₁ vs R₁ hvs => ?_)
    rcases args_shape as with rfl | ⟨x, rfl⟩ | ⟨x, y, rfl⟩ | ⟨x, y, z, r, rfl⟩
    · exact SimAt.fail
    · obtain ⟨v, rfl, hv⟩ := one hvs
      cases hv with
      | bool b => exact sim_intb R₁
      | _ => exact SimAt.fail
    · exact SimAt.fail
    · exact SimAt.fail
--}intb
  | _ => first | exact no_some g2 | cases g2
theorem s_isi {x y : Str} {t : TY} {p p' pos : Pos} (hd : x ≠ dbg) (hx : rs.slot x = none) (hg : rs.glob x = some .isinst) (hd' : y ≠ dbg) (hy : rs.slot y = none) {g' : GV} (hg' : rs.glob y = some g') (hty : ∀ u, GOk K g' u → u = tyVal t) (hn : notStar e = true) (h : S2 prog w K hb A P C rs k e ae)
    : S2 prog w K hb A P C rs k (.Call (.Name x p) [e, .Name y p'] [] pos) (.isi ae t) := by
  refine test_plain (fun X env ι st s G EO R r st' ee Q E kk => ?_) (fun _ _ => rfl) rfl
  refine bnd_elim ee fun a st₁ g1 g2 => ?_
  refine bnd_elim g2 fun b st₂ g3 g4 => ?_
  obtain ⟨rfl, rfl⟩ := ret_some g4
  refine wpAny_Call_Name_kw (rd_glob G R EO hd hx hg fun v hv => ?_)
  have hv : v = .builtin "isinstance" := hv
  subst hv
  refine Calls.callWith_builtin (by rw [star_one hn]; rfl) ?_
  have := wpAny_items_cons (M := model prog w) (A := A) (env := env) (pos := pos) (e := e) (rest := [.Name y p']) (s := s) (E := E) (Q := fun vs s₁ => wpAny (model prog w) A (call (.builtin "isinstance") ([] ++ vs) []) Q E s₁)
    (h.1 X env ι st s G EO R a st₁ g1 _ _ fun ι₁ s₁ v p₁ R₁ hv => by
      refine wpAny_items_cons (rd_glob G R₁ EO hd' hy hg' fun u hu => wpAny_items_nil ?_)
      have hu : u = tyVal t := hty u hu
      subst hu
      exact sim_isaT R₁ hv b _ g3 Q E fun ι₂ s₂ y p₂ R₂ hy => kk ι₂ s₂ y (p₁.trans p₂) R₂ (by subst hy; exact .bool _)) (star_one hn _)
  rw [star_one hn] at this ⊢
  exact Calls.evalArgs_plain this
end
end Mine
namespace Mine
open PySem PySem.W PyProof.Rows

/-- what a call gives, or raises -/
noncomputable def Outs (X : Cx) (ι : List Addr) (σ : List AO) (r : Except Nat AV) (v : Value) (h : Heap) : Prop := match r with
  | .ok a => VRel ι v a
  | .error e => Fly X ι σ e h v
noncomputable def resOf (r : Except Nat AV) (v : Value) : Result := match r with
  | .ok _ => .ok (.ret v)
  | .error _ => .error v
/-- the oracle for calls of the text's own defs -/
noncomputable def CodeOk (prog : Program) (w : World) (K : Frag) (hb : Heap) (A : Around) (C : Calls) : Prop :=
  ∀ f X ι st s us as, Gr K hb A X → Rel prog w X ι st s → F2 (VRel ι) us as → ∀ r st', callFn C f as st = some (r, st') →
    ∀ R : Result → Shared → Prop, (∀ ι' s' v, Pre ι ι' → Rel prog w X ι' st' s' → Outs X ι' st'.σ r v s'.heap → (∀ b o, b ∉ ι → b ∉ (A.frames.getD []).filterMap (·.frame) → s.heap.get? b = some o → s'.heap.get? b = some o) → R (resOf r v) s') → codeAny (model prog w) A (.call (.ref f) ⟨us, []⟩) R s
structure Oracle (prog : Program) (w : World) (K : Frag) (hb : Heap) (A : Around) (C : Calls) : Prop where
  here : CodeOk prog w K hb A C
  made : ∀ c rest, CodeOk prog w K hb (A.under (.builtin "type.__call__" ⟨.ref c :: rest, []⟩)) C
  room : A.units + 2 < cLine
  tabs : TabsK w K

section
variable {prog : Program} {w : World} {A : Around} {X : Cx} {ι : List Addr} {st : ASt} {s : Shared} {v u : Value} {a b : AV} {K : Frag} {hb : Heap} {env : Env} {rs : Rsv} {k : Nat}
  {P : AProg} {C : Calls} {e e₁ e₂ : Expr} {ae ae₁ ae₂ : AE} {es : List Expr} {aes : List AE}

theorem Oracle.call (O : Oracle prog w K hb A C) (f X ι st s us as) (G : Gr K hb A X) (R : Rel prog w X ι st s) (hu : F2 (VRel ι) us as) : SimAt prog w A X ι st s (call (.ref f) us) (callFn C f as) VR0 ∧ SimX prog w A X ι st s (call (.ref f) us) (callFn C f as) :=
  ⟨fun r st' e _ _ kk => wpAny_call (O.here f X ι st s us as G R hu (.ok r) st' e _ fun ι' s' v p R' hv _ => kk ι' s' v p R' hv),
   fun r st' e _ _ kk => wpAny_call (O.here f X ι st s us as G R hu (.error r) st' e _ fun ι' s' v p R' hv _ => kk ι' s' v p R' hv)⟩

theorem under_type {c : Addr} {rest : List Value} : (A.under (.builtin "type.__call__" ⟨.ref c :: rest, []⟩)).handled = A.handled ∧ (A.under (.builtin "type.__call__" ⟨.ref c :: rest, []⟩)).units = A.units + 1 ∧ (A.under (.builtin "type.__call__" ⟨.ref c :: rest, []⟩)).depth = A.depth + 1 ∧ (A.under (.builtin "type.__call__" ⟨.ref c :: rest, []⟩)).frames = A.frames := by
  refine ⟨rfl, ?_, ?_, ?_⟩
  · show A.units + (1 + 3 * _) = _
    have : (Code.builtin "type.__call__" ⟨.ref c :: rest, []⟩).frames = 0 := by rfl
    rw [this]
  · show A.depth + Code.weight _ = _
    have : (Code.builtin "type.__call__" ⟨.ref c :: rest, []⟩).weight = 1 := by rfl
    rw [this]
  · rfl

theorem Gr.made (G : Gr K hb A X) (O : Oracle prog w K hb A C) (c : Addr) (rest : List Value) : Gr K hb (A.under (.builtin "type.__call__" ⟨.ref c :: rest, []⟩)) X :=
  ⟨G.kp, G.KX, G.T, G.mods, by rw [under_type.1]; exact G.hh, by rw [under_type.2.1]; have := O.room; omega, G.ok, by rw [under_type.2.2.2]; exact G.frs, G.hfr⟩

theorem callFn_some {f : Addr} {as : List AV} {st st' : ASt} {r : Except Nat AV} (h : callFn C f as st = some (r, st')) : C f as st.σ = some (r, st'.σ) ∧ st'.ρ = st.ρ := by
  unfold callFn at h
  split at h
  · rename_i e; cases h; exact ⟨e, rfl⟩
  · first | exact no_some h | cases h

theorem attrBase_plain {o : Expr} {name : Str} {env : Env} (hp : plainBase o = true) : attributeBase o name env (eval o env) = eval o env := by
  cases o with
  | Call f as kw p => cases f with
    | Name id q => cases as with
      | nil => cases kw with
        | nil => cases hp
        | cons _ _ => rfl
      | cons _ _ => rfl
    | _ => rfl
  | _ => rfl
theorem s_attr {o : Expr} {ao : AE} {name : Str} {c : Addr} {pos : Pos} (hp : plainBase o = true) (h : S2 prog w K hb A P C rs k o ao) (ok : AttrOk K c name) : S2 prog w K hb A P C rs k (.Attribute o name pos) (.attr ao c name) := by
  refine test_plain (fun X env ι st s G EO R r st' ee Q E kk => ?_) (fun _ _ => rfl) rfl
  refine bnd_elim ee fun a st₁ g1 g2 => ?_
  have hb' := attrBase_plain (name := name) (env := env) hp
  refine Attribute_any_ (h.1 X env ι st s G EO R a st₁ g1 _ _ fun ι₁ s₁ v p₁ R₁ hv => ?_) (by rw [arm_eval_Attribute, hb'])
  exact sim_getAttr R₁ (G.inK R₁) ok hv true r st' g2 Q E fun ι₂ s₂ y p₂ R₂ hy => kk ι₂ s₂ y (p₁.trans p₂) R₂ hy

theorem isInst_some {c : Addr} {name : Str} {o : AV} {st st' : ASt} {x : Unit} (h : isInst c name o st = some (.ok x, st')) :
    st' = st ∧ ∃ i d fs, o = .obj i ∧ st.σ[i]? = some (.inst c d) ∧ st.σ[d]? = some (.ns fs) ∧ lookS fs name = none := by
  refine bnd_elim h fun df st₁ e1 e2 => ?_
  obtain ⟨rfl, i, rfl, q1, q2⟩ := fields_some e1
  obtain ⟨g, rfl⟩ := guard_some e2
  exact ⟨rfl, i, df.1, df.2, rfl, q1, q2, Option.isNone_iff_eq_none.mp g⟩

theorem MethodCall2_ {o : Expr} {name : Str} {apos pos : Pos} {args : List Expr} {Q : Value → Shared → Prop} {E : Value → Shared → Prop} (hp : plainBase o = true) (hpos : apos.endLine = pos.line) (hst : (backTo pos (starEach args env)).any (·.1) = false) (hlen : args.length < 25)
    (h : wpAny (model prog w) A (eval o env) (fun ov s₁ => ∀ pl, wpAny (model prog w) A (getMethod ov name pl) (fun fx s₂ => wpAny (model prog w) A (callWith pos fx.1 fx.2 (backTo pos (starEach args env)) []) Q E s₂) E s₁) E s) :
    wpAny (model prog w) A (eval (.Call (.Attribute o name apos) args [] pos) env) Q E s := by
  have hb' := attrBase_plain (name := name) (env := env) hp
  have hform : methodCallForm (args.length + ([] : List Keyword).length) (backTo pos (starEach args env)) (backToKw pos (keywordEach [] env)) = true := by
    unfold methodCallForm
    have h1 : (backTo pos (starEach args env)).all (!·.1) = true := by
      rw [List.all_eq_not_any_not]; simpa using hst
    rw [h1]
    have : (backToKw pos (keywordEach [] env)) = [] := rfl
    rw [this]
    simp; omega
  show wpAny _ A (do
    let ov ← attributeBase o name env (eval o env)
    standAt apos.atName
    methodCall o name apos pos env ov (args.length + ([] : List Keyword).length) (backTo pos (starEach args env)) (backToKw pos (keywordEach [] env))) Q E s
  rw [hb']
  refine wpAny_bind (wpAny_mono h (fun ov s₁ h₁ => wpAny_bind (wpAny_standAt ?_)) fun _ _ x => x)
  unfold methodCall
  rw [hform]
  have hc : ∀ ov, calleeOf true o env ov name = getMethod ov name (do return (← importBound o env).getD true) := fun ov => rfl
  rw [hc]
  refine wpAny_bind (wpAny_holding (wpAny_mono (h₁ _) (fun fx s₂ h₂ => ?_) fun _ _ x => x))
  have hm : methodCallPos true o env apos pos = pure pos := by
    unfold methodCallPos
    rw [hpos]; simp
  show wpAny _ A (methodCallPos true o env apos pos >>= fun callPos => callWith callPos fx.1 fx.2 (backTo pos (starEach args env)) (backToKw pos (keywordEach [] env))) Q E s₂
  rw [hm]
  exact wpAny_bind (wpAny_pure h₂)

theorem own_rule {o : Expr} {ao : AE} {name : Str} {c f : Addr} {apos pos : Pos} (G : Gr K hb A X) (EO : EnvOk K X env rs k) (R : Rel prog w X ι st s) (hp : plainBase o = true) (hpos : apos.endLine = pos.line) (hlen : es.length < 25) (h : S2 prog w K hb A P C rs k o ao) (L : SL prog w K hb A P C rs k es aes)
    (ok : findIn K (.ref c) "__getattribute__" = some (some (.builtin "object.__getattribute__")) ∧ findIn K (.ref c) "__getattr__" = some none ∧
    findIn K (.ref c) name = some (some (.ref f)) ∧ typeIn K (.ref f) = some (.type "function") ∧ keepIn K (.ref f) = true) {a : AV} {as : List AV} {st₁ st₂ st₃ : ASt} {u : Unit} (g1 : aeval P C ao st = some (.ok a, st₁)) (g3 : isInst c name a st₁ = some (.ok u, st₂)) (g5 : aevals P C aes st₂ = some (.ok as, st₃))
    {Q : Value → Shared → Prop} {E : Value → Shared → Prop} (kk : ∀ ι₂ s₂ vs, Pre ι ι₂ → Rel prog w X ι₂ st₃ s₂ → F2 (VRel ι₂) vs (a :: as) → wpAny (model prog w) A (call (.ref f) vs) Q E s₂) : wpAny (model prog w) A (eval (.Call (.Attribute o name apos) es [] pos) env) Q E s := by
  obtain ⟨rfl, i, d, fs, rfl, q1, q2, q3⟩ := isInst_some g3
  refine MethodCall2_ hp hpos (plain_args L) hlen (h.1 X env ι st s G EO R _ st₂ g1 _ _ fun ι₁ s₁ v p₁ R₁ hv pl => ?_)
  obtain ⟨x, rfl, hx⟩ := hv.obj_inv
  obtain ⟨ox, dx, od, es', ep, I, hd, hi, hod, hde, hk, hn, hl, hl'⟩ := R₁.instAt hx q1 q2
  have hnn := hn name
  rw [q3] at hnn
  refine method_fn (G.inK R₁) I ok.1 ok.2.1 ok.2.2.1 ok.2.2.2.1 ?_ ?_
  · show (lookIn name od).map (·.isSome) = some false
    rw [lookIn_of hde hk]
    cases q : nsFind es' name with
    | none => rfl
    | some _ => rw [q] at hnn; exact hnn.elim
  · exact callWith_of (P := fun h => K.In h) (by rw [plain_args L]; rfl) (keeps_K ok.2.2.2.2) (sim_evalArgs L G EO R₁ g5 fun ι₂ s₂ vs p₂ R₂ hvs => ⟨G.inK R₂, kk ι₂ s₂ (.ref x :: vs) (p₁.trans p₂) R₂ ⟨hv.mono p₂, hvs⟩⟩)
theorem s_own {o : Expr} {ao : AE} {name : Str} {c f : Addr} {apos pos : Pos} (O : Oracle prog w K hb A C) (hp : plainBase o = true) (hpos : apos.endLine = pos.line) (hlen : es.length < 25) (h : S2 prog w K hb A P C rs k o ao) (L : SL prog w K hb A P C rs k es aes)
    (ok : findIn K (.ref c) "__getattribute__" = some (some (.builtin "object.__getattribute__")) ∧ findIn K (.ref c) "__getattr__" = some none ∧
    findIn K (.ref c) name = some (some (.ref f)) ∧ typeIn K (.ref f) = some (.type "function") ∧ keepIn K (.ref f) = true) :
    S2 prog w K hb A P C rs k (.Call (.Attribute o name apos) es [] pos) (.own ao c f name aes) := by
  refine test_plain (fun X env ι st s G EO R r st' ee Q E kk => ?_) (fun _ _ => rfl) rfl (fun X env ι st s G EO R r st' ee Q E kk => ?_)
  · refine bnd_elim ee fun a st₁ g1 g2 => ?_
    refine bnd_elim g2 fun _ st₂ g3 g4 => ?_
    refine bnd_elim g4 fun as st₃ g5 g6 => ?_
    exact own_rule G EO R hp hpos hlen h L ok g1 g3 g5 fun ι₂ s₂ vs p₂ R₂ hvs => (O.call f X ι₂ st₃ s₂ vs (a :: as) G R₂ hvs).1 r st' g6 Q E fun ι₃ s₃ y p₃ R₃ hy => kk ι₃ s₃ y (p₂.trans p₃) R₃ hy
  · refine bnd_err ee (fun q => (noerr_no q).elim) fun a st₁ g1 g2 => ?_
    refine bnd_err g2 (fun q => (noerr_no q).elim) fun _ st₂ g3 g4 => ?_
    refine bnd_err g4 (fun q => (noerr_no q).elim) fun as st₃ g5 g6 => ?_
    exact own_rule G EO R hp hpos hlen h L ok (noerr_ok g1) (noerr_ok g3) (noerr_ok g5) fun ι₂ s₂ vs p₂ R₂ hvs => (O.call f X ι₂ st₃ s₂ vs (a :: as) G R₂ hvs).2 r st' g6 Q E fun ι₃ s₃ y p₃ R₃ hy => kk ι₃ s₃ y (p₂.trans p₃) R₃ hy

theorem s_meth {o : Expr} {ao : AE} {m : ME} {apos pos : Pos} (hp : plainBase o = true) (hpos : apos.endLine = pos.line) (hlen : es.length < 25) (h : S2 prog w K hb A P C rs k o ao) (L : SL prog w K hb A P C rs k es aes) :
    S2 prog w K hb A P C rs k (.Call (.Attribute o (Str.ofString (meName m)) apos) es [] pos) (.meth ao m aes) := by
  refine test_plain (fun X env ι st s G EO R r st' ee Q E kk => ?_) (fun _ _ => rfl) rfl
  refine bnd_elim ee fun a st₁ g1 g2 => ?_
  refine bnd_elim g2 fun kd st₂ g3 g4 => ?_
  refine bnd_elim g4 fun as st₃ g5 g6 => ?_
  have e12 := (kindOf_some g3).1
  subst e12
  have hs : served kd m = true := by
    cases kd with
    | list =>
      unfold callMeth at g6
      cases a with
      | obj i =>
        refine bnd_elim g6 fun o st₄ e1 e2 => ?_
        cases o with
        | list xs => cases m <;> first | rfl | exact no_some e2
        | _ => exact (fail_some e2).elim
      | _ => first | exact no_some g6 | cases g6
    | dict =>
      unfold callMeth at g6
      cases a with
      | obj i =>
        refine bnd_elim g6 fun o st₄ e1 e2 => ?_
        cases o with
        | dict xs => cases m <;> first | rfl | exact no_some e2
        | _ => exact (fail_some e2).elim
      | _ => first | exact no_some g6 | cases g6
    | str => first | exact no_some g6 | cases g6
  refine MethodCall2_ hp hpos (plain_args L) hlen (h.1 X env ι st s G EO R _ st₂ g1 _ _ fun ι₁ s₁ v p₁ R₁ hv pl => ?_)
  refine getMeth R₁ hv g3 hs ?_
  refine Calls.callWith_builtin (plain_args L) (sim_evalArgs L G EO R₁ g5 fun ι₂ s₂ vs p₂ R₂ hvs => ?_)
  obtain ⟨_, hk⟩ := kindOf_some g3
  show wpAny _ A (call _ (v :: vs) []) Q E s₂
  have hv₂ := hv.mono p₂
  cases kd with
  | list =>
    obtain ⟨i, xs, rfl, _⟩ := hk
    obtain ⟨x, rfl, hx⟩ := hv₂.obj_inv
    refine bnd_elim g6 fun o st₄ e1 e2 => ?_
    obtain ⟨q1, rfl⟩ := deref_some e1
    cases o with
    | list xs => exact sim_meList R₂ hx q1 hs hvs r st' e2 Q E fun ι₃ s₃ y p₃ R₃ hy => kk ι₃ s₃ y ((p₁.trans p₂).trans p₃) R₃ hy
    | _ => exact (fail_some e2).elim
  | dict =>
    obtain ⟨i, xs, rfl, _⟩ := hk
    obtain ⟨x, rfl, hx⟩ := hv₂.obj_inv
    refine bnd_elim g6 fun o st₄ e1 e2 => ?_
    obtain ⟨q1, rfl⟩ := deref_some e1
    cases o with
    | dict xs => exact sim_meDict G.kp G.mods R₂ hx q1 hs hvs r st' e2 Q E fun ι₃ s₃ y p₃ R₃ hy => kk ι₃ s₃ y ((p₁.trans p₂).trans p₃) R₃ hy
    | _ => exact (fail_some e2).elim
  | str => first | exact no_some g6 | cases g6

theorem getItem_obj {a b : AV} {st st' : ASt} {r : AV} (h : getItem a b st = some (.ok r, st')) : ∃ i, a = .obj i := by
  cases a <;> first | exact ⟨_, rfl⟩ | cases h
end
end Mine
namespace Mine
open PySem PySem.W PyProof.Rows

section
variable {prog : Program} {w : World} {A : Around} {X : Cx} {ι : List Addr} {st : ASt} {s : Shared} {v u : Value} {a b : AV} {K : Frag} {hb : Heap} {env : Env} {rs : Rsv} {k : Nat}
  {P : AProg} {C : Calls} {e e₁ e₂ : Expr} {ae ae₁ ae₂ : AE} {es : List Expr} {aes : List AE}

theorem subscripted_of {sl : Expr} {o i : Value} {Q : Value → Shared → Prop} {E : Value → Shared → Prop} (h : wpAny (model prog w) A (PySem.getItem o i) Q E s) : wpAny (model prog w) A (subscripted sl false o i) Q E s := by
  cases sl with
  | Slice a b c p => cases c with
    | none => exact wpAny_operating h
    | some _ => exact wpAny_operating h
  | _ => exact wpAny_operating h

theorem giPy_of {o : Value} {T id : String} {Q : Bool → Shared → Prop} {E : Value → Shared → Prop} (hT : s.TypeIs o T) (hl : typeLookup (.type T) "__getitem__" = pure (some (.builtin id))) (h : Q false s) : wpAny (model prog w) A (getitemInPython o) Q E s := by
  unfold getitemInPython
  refine wpAny_bind (wpAny_specialOf hT hl ?_)
  exact wpAny_pure h

theorem getItem_safe {i : Nat} {c : Addr} {b : AV} {r : AV} {st' : ASt} (R : Rel prog w X ι st s) (hc : ι[i]? = some c) (h : getItem (.obj i) b st = some (.ok r, st')) {Q : Bool → Shared → Prop} {E : Value → Shared → Prop} (q : Q false s) :
    wpAny (model prog w) A (getitemInPython (.ref c)) Q E s := by
  cases b with
  | int k =>
    have h : getIdx i k st = some (.ok r, st') := h
    refine bnd_elim h fun o st₁ e1 e2 => ?_
    obtain ⟨q1, rfl⟩ := deref_some e1
    cases o with
    | ro xs => obtain ⟨o, ho, ⟨vs, n, hcl, _⟩, _⟩ := R.get hc q1; exact giPy_of (T := "list") ⟨o, ho, hcl⟩ PySem.F.slot_list_getitem.lookup q
    | list xs => obtain ⟨vs, n, ho, _⟩ := R.plainList hc q1; exact giPy_of (T := "list") ⟨_, ho, rfl⟩ PySem.F.slot_list_getitem.lookup q
    | tuple xs => obtain ⟨o, ho, ⟨vs, n, rfl, _⟩, _⟩ := R.get hc q1; exact giPy_of (T := "tuple") ⟨_, ho, rfl⟩ PySem.F.slot_tuple_getitem.lookup q
    | dict es => obtain ⟨kvs, hD, _, _⟩ := R.isDict hc q1; exact giPy_of (T := "dict") hD.typeIs PySem.F.slot_dict_getitem.lookup q
    | _ => exact (fail_some e2).elim
  | _ => first | exact no_some h | cases h

theorem sim_getItem (R : Rel prog w X ι st s) (hv : VRel ι v a) (hu : VRel ι u b) : SimAt prog w A X ι st s (PySem.getItem v u) (getItem a b) VR0 := by
  intro r st' e
  cases hv with
  | obj hc =>
    cases hu with
    | int k t => exact sim_getIdx R hc r st' e
    | _ => first | exact no_some e | cases e
  | _ => first | exact no_some e | cases e
theorem sim_setItem {v' : Value} {a' : AV} (R : Rel prog w X ι st s) (hv : VRel ι v a) (hu : VRel ι u b) (hv' : VRel ι v' a') : SimAt prog w A X ι st s (PySem.setItem v u v') (setItem a b a') UR := by
  intro r st' e
  cases hv with
  | obj hc =>
    cases hu with
    | int k t => exact sim_setIdx R hc hv' r st' e
    | _ => first | exact no_some e | cases e
  | _ => first | exact no_some e | cases e

theorem s_sub {o i : Expr} {ao ai : AE} {pos : Pos} (h₁ : S2 prog w K hb A P C rs k o ao) (h₂ : S2 prog w K hb A P C rs k i ai) : S2 prog w K hb A P C rs k (.Subscript o i pos) (.sub ao ai) := by
  refine test_plain (fun X env ι st s G EO R r st' ee Q E kk => ?_) (fun _ _ => rfl) rfl
  refine bnd_elim ee fun a st₁ g1 g2 => ?_
  refine bnd_elim g2 fun b st₂ g3 g4 => ?_
  rw [eval_Subscript]
  refine wpAny_bind (h₁.1 X env ι st s G EO R a st₁ g1 _ _ fun ι₁ s₁ v p₁ R₁ hv => wpAny_bind (wpAny_holding (h₂.1 X env ι₁ st₁ s₁ G EO R₁ b st₂ g3 _ _ fun ι₂ s₂ u p₂ R₂ hu => wpAny_bind (wpAny_standAt ?_))))
  have hv := hv.mono p₂
  obtain ⟨i, rfl⟩ := getItem_obj g4
  obtain ⟨c, rfl, hc⟩ := hv.obj_inv
  refine wpAny_bind (getItem_safe R₂ hc g4 ?_)
  refine wpAny_bind (subscripted_of (sim_getItem R₂ hv hu r st' g4 _ _ fun ι₃ s₃ y p₃ R₃ hy => ?_))
  exact wpAny_bind (wpAny_letTemporaryGo (wpAny_pure (kk ι₃ s₃ y ((p₁.trans p₂).trans p₃) R₃ hy)))

/-- a bound that may be lacking -/
noncomputable def OptS (prog : Program) (w : World) (K : Frag) (hb : Heap) (A : Around) (P : AProg) (C : Calls) (rs : Rsv) (k : Nat) (o : Option Expr) (ae : AE) : Prop := match o with
  | none => ae = .cst .none
  | some e => S2 prog w K hb A P C rs k e ae
theorem opt_ev {o : Option Expr} {ae : AE} (h : OptS prog w K hb A P C rs k o ae) (G : Gr K hb A X) (EO : EnvOk K X env rs k) (R : Rel prog w X ι st s) : SimAt prog w A X ι st s (evalPart o env) (aeval P C ae) VR0 := by
  cases o with
  | none =>
    have h : ae = .cst .none := h
    subst h
    exact SimAt.pure R .none
  | some e => exact h.1 X env ι st s G EO R
theorem part_is {l : AV} {lo : Option Int} {v : Value} (h : partOf l = some lo) (hv : VRel ι v l) : IsPart v lo ∧ ∀ a, lo = some a → 0 ≤ a := by
  cases hv with
  | none => cases h; exact ⟨.none, fun _ e => by cases e⟩
  | int i t =>
    unfold partOf at h
    dsimp only at h
    split at h
    · rename_i h0; cases h; exact ⟨.int i t, fun a e => by cases e; exact h0⟩
    · exact no_some h
  | _ => exact no_some h
theorem F2.cut {α β : Type} {R : α → β → Prop} {as : List α} {bs : List β} (h : F2 R as bs) (lo hi : Option Int) : F2 R (cutL as lo hi) (cutL bs lo hi) := by
  cases lo with
  | none => cases hi with
    | none => exact h
    | some b => exact h.take _
  | some a => cases hi with
    | none => exact h.drop _
    | some b => exact (h.take _).drop _
theorem cut_len {α : Type} (xs : List α) (lo hi : Option Int) : (cutL xs lo hi).length ≤ xs.length := by
  cases lo with
  | none => cases hi with
    | none => exact Nat.le_refl _
    | some b => show (xs.take _).length ≤ _; rw [List.length_take]; omega
  | some a => cases hi with
    | none => show (xs.drop _).length ≤ _; rw [List.length_drop]; omega
    | some b => show ((xs.take _).drop _).length ≤ _; rw [List.length_drop, List.length_take]; omega
theorem pick_cut {vs : Array Value} {lo hi : Option Int} (h1 : ∀ a, lo = some a → 0 ≤ a) (h2 : ∀ a, hi = some a → 0 ≤ a) : slicePick vs lo hi none = (cutL vs.toList lo hi).toArray := by
  cases lo with
  | none => cases hi with
    | none => rw [slicePick_all]; rfl
    | some b =>
      obtain ⟨b, rfl⟩ := Int.eq_ofNat_of_zero_le (h2 b rfl)
      exact slicePick_upto' vs b
  | some a => cases hi with
    | none =>
      obtain ⟨a, rfl⟩ := Int.eq_ofNat_of_zero_le (h1 a rfl)
      exact slicePick_from' vs a
    | some b =>
      obtain ⟨a, rfl⟩ := Int.eq_ofNat_of_zero_le (h1 a rfl)
      obtain ⟨b, rfl⟩ := Int.eq_ofNat_of_zero_le (h2 b rfl)
      rw [slicePick_plain]
      simp only [Option.elim, clipAt_nat]
      show _ = ((vs.toList.take b).drop a).toArray
      congr 1
      rw [List.drop_take]
      by_cases ha : a ≤ vs.size
      · rw [Nat.min_eq_left ha]
        by_cases hb : b ≤ vs.size
        · rw [Nat.min_eq_left hb]
        · rw [Nat.min_eq_right (by omega), List.take_of_length_le (by rw [List.length_drop, Array.length_toList]; omega), List.take_of_length_le (by rw [List.length_drop, Array.length_toList]; omega)]
      · rw [List.drop_of_length_le (by rw [Array.length_toList]; omega), List.drop_of_length_le (by rw [Array.length_toList]; omega), List.take_nil, List.take_nil]
theorem s_slc {o : Expr} {lo hi : Option Expr} {ps pos : Pos} {ao al au : AE} (h₁ : S2 prog w K hb A P C rs k o ao) (h₂ : OptS prog w K hb A P C rs k lo al) (h₃ : OptS prog w K hb A P C rs k hi au) : S2 prog w K hb A P C rs k (.Subscript o (.Slice lo hi none ps) pos) (.slc ao al au) := by
  refine ⟨fun X env ι st s G EO R r st' ee Q E kk => ?_, fun X env ι st s G EO R => SimAt.fail, .calm rfl⟩
  refine bnd_elim ee fun a st₁ g1 g2 => ?_
  refine bnd_elim g2 fun l st₂ g3 g4 => ?_
  refine bnd_elim g4 fun u st₃ g5 g6 => ?_
  refine bnd_elim g6 fun lo' st₄ g7 g8 => ?_
  obtain ⟨q7, rfl⟩ := ofOpt_some g7
  refine bnd_elim g8 fun hi' st₅ g9 g10 => ?_
  obtain ⟨q9, rfl⟩ := ofOpt_some g9
  rw [eval_Subscript]
  refine wpAny_bind (h₁.1 X env ι st s G EO R a st₁ g1 _ _ fun ι₁ s₁ v p₁ R₁ hv => wpAny_bind (wpAny_holding (wpAny_Slice ?_)))
  refine opt_ev h₂ G EO R₁ l st₂ g3 _ _ fun ι₂ s₂ vl p₂ R₂ hvl => opt_ev h₃ G EO R₂ u st₅ g5 _ _ fun ι₃ s₃ vu p₃ R₃ hvu => ?_
  rw [evalPart_none]
  refine wpAny_pure (wpAny_bind (wpAny_standAt ?_))
  have hv := (hv.mono p₂).mono p₃
  have hvl := hvl.mono p₃
  obtain ⟨pl, pl0⟩ := part_is q7 hvl
  obtain ⟨pu, pu0⟩ := part_is q9 hvu
  have R₄ := R₃.push (tk := s₃.toks) (o := { cls := .type "slice", data := .fields #[vl, vu, .none] }) (ao := .slice l u) rfl ⟨rfl, _, _, rfl, hvl.mono (Pre.snoc _ _), hvu.mono (Pre.snoc _ _)⟩
  have p4 := Pre.snoc ι₃ s₃.heap.objs.size
  have hs : (s₃.heap.push { cls := .type "slice", data := .fields #[vl, vu, .none] }).IsSliceOf s₃.heap.objs.size vl vu .none := Heap.IsSliceOf.new ..
  have seqs : ∀ {i : Nat} {c : Addr} {xs : List AV} {ob : Obj} {vs : Array Value} {nn : Nat}, ι₃[i]? = some c → s₃.heap.get? c = some ob → ob.cls = .type "list" → ob.data = .seq vs nn → F2 (VRel ι₃) vs.toList xs → xs.length ≤ line → v = .ref c →
      (bnd (alloc (.slice l u)) fun _ => alloc (.list (cutL xs lo' hi'))) st₅ = some (.ok r, st') → wpAny (model prog w) A (do
        let py ← getitemInPython v
        let r ← subscripted (.Slice lo hi none ps) py v (.ref s₃.heap.objs.size)
        letTemporaryGo o v r
        pure r) Q E { s₃ with heap := s₃.heap.push { cls := .type "slice", data := .fields #[vl, vu, .none] } } := by
    intro i c xs ob vs nn hc ho hcl hda hf hl hvc g
    subst hvc
    refine bnd_elim g fun _ st₆ g11 g12 => ?_
    obtain ⟨rfl, rfl⟩ := alloc_some g11
    obtain ⟨rfl, rfl⟩ := alloc_some g12
    have hl' : (s₃.heap.push { cls := .type "slice", data := .fields #[vl, vu, .none] }).IsList c vs := ⟨ob, Heap.get?_push_of_some _ ho, hcl, nn, hda⟩
    have hsz := f2_size hf
    refine wpAny_bind (giPy_of (T := "list") hl'.typeIs PySem.F.slot_list_getitem.lookup ?_)
    refine wpAny_bind (subscripted_of (wpAny_getItem_list_slice hl' hs pl pu .none (by simp) ?_ (by rw [line_val] at hl; rw [sizeLine_val]; omega)))
    rw [pick_cut pl0 pu0]
    refine wpAny_bind (wpAny_letTemporaryGo (wpAny_pure ?_))
    have R₅ := R₄.push (tk := s₃.toks) (o := { cls := .type "list", data := .seq (cutL vs.toList lo' hi').toArray }) (ao := .list (cutL xs lo' hi')) rfl ⟨⟨_, _, rfl, (hf.cut lo' hi').mono fun _ _ h => (VRel.mono (Pre.snoc _ _) (VRel.mono p4 h))⟩, Nat.le_trans (cut_len _ _ _) hl⟩
    refine kk _ _ _ (((p₁.trans p₂).trans p₃).trans (p4.trans (Pre.snoc _ _))) R₅ (.obj ?_)
    exact R₄.newIdx _
  cases hv with
  | obj hc =>
    refine bnd_elim g10 fun ob st₆ g11 g12 => ?_
    obtain ⟨q11, rfl⟩ := deref_some g11
    cases ob with
    | list xs =>
      obtain ⟨vs, n, ho, hf, hl⟩ := R₃.plainList hc q11
      exact seqs hc ho rfl rfl hf hl rfl g12
    | ro xs =>
      obtain ⟨ob, ho, ⟨vs, n, hcl, hda, hf⟩, hl⟩ := R₃.get hc q11
      exact seqs hc ho hcl hda hf hl rfl g12
    | _ => exact no_some g12
  | _ => exact no_some g10
theorem sl_len (L : SL prog w K hb A P C rs k es aes) : es.length = aes.length := by
  induction L with
  | nil => rfl
  | cons _ _ _ ih => simp [ih]
theorem aevals_len : ∀ {aes : List AE} {st st' : ASt} {as : List AV}, aevals P C aes st = some (.ok as, st') → as.length = aes.length
  | [], _, _, _, h => by obtain ⟨rfl, rfl⟩ := ret_some h; rfl
  | _ :: _, _, _, _, h => by
    refine bnd_elim h fun a st₁ e1 e2 => ?_
    refine bnd_elim e2 fun as st₂ e3 e4 => ?_
    obtain ⟨rfl, rfl⟩ := ret_some e4
    simp [aevals_len e3]

theorem s_list {pos : Pos} (L : SL prog w K hb A P C rs k es aes) (hn : es.length < 1000) : S2 prog w K hb A P C rs k (.List es pos) (.list aes) := by
  refine ⟨fun X env ι st s G EO R r st' ee Q E kk => ?_, fun X env ι st s G EO R => SimAt.fail, .calm rfl⟩
  refine bnd_elim ee fun as st₁ g1 g2 => ?_
  have hlen := aevals_len g1
  have hlen' := sl_len L
  show wpAny _ A (do standAt pos; newList (← spliced (backTo pos (starEach es env)))) Q E s
  refine wpAny_bind (wpAny_standAt (wpAny_bind (sim_args L X env ι st s G EO R as st₁ g1 _ _ fun ι₁ s₁ vs p₁ R₁ hvs => ?_)))
  have hl := F2.length hvs
  refine sim_push (A := A) R₁ (ao := .list as) (o := { cls := .type "list", data := .seq vs.toArray }) s₁.toks ⟨rfl, rfl⟩ ⟨⟨vs.toArray, 0, rfl, ?_⟩, by rw [line_val]; omega⟩ (fun Q E q => wpAny_newList q (by rw [sizeLine_val]; omega)) r st' g2 Q E fun ι₂ s₂ y p₂ R₂ hy => kk ι₂ s₂ y (p₁.trans p₂) R₂ hy
  exact hvs.mono fun _ _ => VRel.mono (Pre.snoc _ _)
theorem s_tuple {pos : Pos} {n : Nat} (L : SL prog w K hb A P C rs k es aes) (hn : es.length < 1000) : S2 prog w K hb A P C rs k (.Tuple es n pos) (.tuple aes) := by
  refine ⟨fun X env ι st s G EO R r st' ee Q E kk => ?_, fun X env ι st s G EO R => SimAt.fail, .calm rfl⟩
  refine bnd_elim ee fun as st₁ g1 g2 => ?_
  have hlen := aevals_len g1
  have hlen' := sl_len L
  show wpAny _ A (do standAt pos; newTuple (← spliced (backTo pos (starEach es env)))) Q E s
  refine wpAny_bind (wpAny_standAt (wpAny_bind (sim_args L X env ι st s G EO R as st₁ g1 _ _ fun ι₁ s₁ vs p₁ R₁ hvs => ?_)))
  have hl := F2.length hvs
  refine sim_push (A := A) R₁ (ao := .tuple as) (o := { cls := .type "tuple", data := .seq vs.toArray }) s₁.toks ⟨rfl, rfl⟩ ⟨⟨vs.toArray, 0, rfl, ?_⟩, by rw [line_val]; omega⟩ (fun Q E q => wpAny_newTuple q (by rw [sizeLine_val]; omega)) r st' g2 Q E fun ι₂ s₂ y p₂ R₂ hy => kk ι₂ s₂ y (p₁.trans p₂) R₂ hy
  exact hvs.mono fun _ _ => VRel.mono (Pre.snoc _ _)
theorem s_dict0 {pos : Pos} : S2 prog w K hb A P C rs k (.Dict [] [] pos) .dict0 := by
  refine ⟨fun X env ι st s G EO R r st' ee Q E kk => ?_, fun X env ι st s G EO R => SimAt.fail, .calm rfl⟩
  refine sim_push (A := A) R (ao := .dict []) (o := { cls := .type "dict", data := .dict #[] }) s.toks ⟨rfl, rfl⟩ ⟨⟨[], ⟨#[], 0, ⟨rfl, rfl, rfl⟩, rfl, fun _ he => by simp at he, Pairs.nil, List.nodup_nil⟩, trivial⟩, Nat.zero_le _⟩ (fun Q E q => wpAny_Dict_empty q) r st' ee Q E kk

theorem s_make {x : Str} {c f : Addr} {p pos : Pos} (O : Oracle prog w K hb A C) (hd : x ≠ dbg) (hx : rs.slot x = none) (hg : rs.glob x = some (.cls c f)) (L : SL prog w K hb A P C rs k es aes) : S2 prog w K hb A P C rs k (.Call (.Name x p) es [] pos) (.make c f aes) := by
  refine ⟨fun X env ι st s G EO R r st' ee Q E kk => ?_, fun X env ι st s G EO R => SimAt.fail, .calm rfl⟩
  refine bnd_elim ee fun as st₁ g1 g2 => ?_
  refine bnd_elim g2 fun q st₂ g3 g4 => ?_
  refine wpAny_Call_Name_kw (rd_glob G R EO hd hx hg fun v hv => ?_)
  obtain ⟨rfl, hk, hm, hi, hf⟩ := hv
  refine callWith_of (P := fun h => K.In h) (by rw [plain_args L]; rfl) (keeps_K hk) (sim_evalArgs L G EO R g1 fun ι₁ s₁ vs p₁ R₁ hvs => ⟨G.inK R₁, ?_⟩)
  have hK := G.inK R₁
  obtain ⟨h, g, d, t, os⟩ := s₁
  have R₂ := R₁.push (tk := t) (o := emptyDict) (ao := .ns []) rfl ⟨⟨#[], 0, rfl, fun _ he => by simp at he, fun _ => trivial⟩, ⟨#[], 0, rfl, Nat.le_refl _⟩, Nat.zero_le _⟩
  have R₃ := R₂.push (tk := t) (o := instObj c h.objs.size) (ao := .inst c st₁.σ.length) rfl ⟨rfl, rfl, h.objs.size, rfl, by rw [← R₁.len]; simp⟩
  have hp : Pre ι₁ ((ι₁ ++ [h.objs.size]) ++ [(h.push emptyDict).objs.size]) := ⟨[h.objs.size, (h.push emptyDict).objs.size], by rw [List.append_assoc]; rfl⟩
  refine wpAny_call (make_core (makes_of hK hm) (looks_findIn hK hi) (fun self => bind_fn hK self (beq_iff_eq.mp hf)) (.inl rfl) ?_)
  have hsz : (h.push emptyDict).objs.size = h.objs.size + 1 := Heap.size_push _ _
  have hnew : VRel ((ι₁ ++ [h.objs.size]) ++ [(h.push emptyDict).objs.size]) (.ref (h.objs.size + 1)) (.obj (st₁.σ.length + 1)) := by
    refine .obj ?_
    rw [← hsz, ← R₁.len, List.append_assoc]
    rw [List.getElem?_append_right (by omega)]
    simp
  have e3 : (⟨(st₁.σ ++ [AO.ns []]) ++ [AO.inst c st₁.σ.length], st₁.ρ⟩ : ASt) = ⟨st₁.σ ++ [.ns [], .inst c st₁.σ.length], st₁.ρ⟩ := by simp
  rw [← e3] at g3
  refine O.made c vs f X _ _ _ (.ref (h.objs.size + 1) :: vs) (.obj (st₁.σ.length + 1) :: as) (G.made O c vs) R₃ ⟨hnew, hvs.mono fun _ _ => VRel.mono hp⟩ (.ok q) st₂ g3 _ fun ι₄ s₄ y p₄ R₄ hy _ => ?_
  cases q with
  | none =>
    obtain ⟨rfl, rfl⟩ := ret_some g4
    cases hy
    exact ⟨rfl, kk ι₄ s₄ _ ((p₁.trans hp).trans p₄) R₄ (hnew.mono p₄)⟩
  | _ => exact (fail_some g4).elim
end
end Mine
namespace Mine
open PySem PySem.W PyProof.Rows

/-- things held aside, unseen by the abstract machine -/
noncomputable def Cx.hold (X : Cx) (l : List (Addr × Obj)) : Cx := { X with Kp := fun b => match l.lookup b with | some o => some o | none => X.Kp b }

section
variable {prog : Program} {w : World} {A : Around} {X : Cx} {ι : List Addr} {st : ASt} {s : Shared} {v u : Value} {a b : AV} {K : Frag} {hb : Heap} {env : Env} {rs : Rsv} {k : Nat}
  {P : AProg} {C : Calls}

theorem Rel.apart (R : Rel prog w X ι st s) {b : Addr} (h : s.heap.get? b = none) : Apart X ι b := by
  refine ⟨R.kp_none h, fun hm => ?_, fun e => ?_, fun i c hc e => ?_⟩
  · obtain ⟨_, _, ob, _, _, e⟩ := R.mem_get hm; rw [h] at e; cases e
  · obtain ⟨m, ⟨oL, _, _, hL, _⟩, _⟩ := R.ns; rw [← e, h] at hL; cases hL
  · obtain ⟨_, ob, v, h2, _⟩ := R.cells i c hc; rw [e, h] at h2; cases h2

/-- a change of a thing apart -/
theorem Rel.aside (R : Rel prog w X ι st s) {b : Addr} {h' : Heap} {tk : Nat} (ap : Apart X ι b) (hext : ∀ c o, c ≠ b → s.heap.get? c = some o → h'.get? c = some o) : Rel prog w X ι st { s with heap := h', toks := tk } := by
  refine ⟨fun c o e => (R.frozen c o e).ext fun o' => hext c o' fun q => (by subst q; rw [ap.kp] at e; cases e), ?_, R.len, R.nodup, R.free, ?_, ?_, R.comps, R.rlen, by rw [R.shape]⟩
  · obtain ⟨m, hm, hv⟩ := R.ns; exact ⟨m, hm.at' fun ob e => hext _ ob (fun q => ap.nL q.symm) e, hv⟩
  · intro i c e; obtain ⟨a', ob, h1, h2, h3⟩ := R.objs i c e; exact ⟨a', ob, h1, hext _ _ (fun q => ap.nin (q ▸ Rel.mem h1)) h2, h3⟩
  · intro i c hc
    obtain ⟨h1, ob, v, h2, h3, h4⟩ := R.cells i c hc
    exact ⟨h1, ob, v, hext _ _ (ap.nc i c hc) h2, h3, h4⟩

theorem lookup_mem {l : List (Addr × Obj)} {b : Addr} {o : Obj} (h : l.lookup b = some o) : (b, o) ∈ l := by
  induction l with
  | nil => first | exact no_some h | cases h
  | cons x r ih =>
    rw [List.lookup_cons] at h
    split at h
    · rename_i e; cases h; rw [beq_iff_eq.mp e]; exact .head _
    · exact .tail _ (ih h)

theorem hold_kp {l : List (Addr × Obj)} (hn : ∀ p ∈ l, X.Kp p.1 = none) {b : Addr} {o : Obj} (h : X.Kp b = some o) : (X.hold l).Kp b = some o := by
  show (match l.lookup b with | some o => some o | none => X.Kp b) = some o
  cases q : l.lookup b with
  | none => exact h
  | some o' => have := hn _ (lookup_mem q); rw [h] at this; cases this

/-- things apart may be held -/
theorem Rel.hold (R : Rel prog w X ι st s) {l : List (Addr × Obj)} (hl : ∀ p ∈ l, Apart X ι p.1 ∧ s.heap.get? p.1 = some p.2) : Rel prog w (X.hold l) ι st s := by
  have hn : ∀ p ∈ l, X.Kp p.1 = none := fun p hp => (hl p hp).1.kp
  refine ⟨fun b o e => ?_, R.ns, R.len, R.nodup, ?_, R.objs, R.cells, ?_, R.rlen, R.shape⟩
  · have e : (match l.lookup b with | some o => some o | none => X.Kp b) = some o := e
    cases q : l.lookup b with
    | none => rw [q] at e; exact R.frozen b o e
    | some o' => rw [q] at e; cases e; exact ⟨_, (hl _ (lookup_mem q)).2, .inl rfl⟩
  · intro i c ao hi hs
    obtain ⟨f1, f2, f3⟩ := R.free i c ao hi hs
    refine ⟨fun q => ?_, f2, f3⟩
    show (match l.lookup c with | some o => some o | none => X.Kp c) = none
    cases q' : l.lookup c with
    | none => exact f1 q
    | some o' => exact absurd (Rel.mem hi) (hl _ (lookup_mem q')).1.nin
  · intro i C x hc a ha
    obtain ⟨o, es, ep, v, h1, h2⟩ := R.comps i C x hc a ha
    exact ⟨o, es, ep, v, hold_kp hn h1, h2⟩

/-- and let go again -/
theorem Rel.letgo {l : List (Addr × Obj)} (R : Rel prog w (X.hold l) ι st s) (ok : CxOk X) (hn : ∀ p ∈ l, X.Kp p.1 = none ∧ p.1 ≠ X.L) : Rel prog w X ι st s := by
  have hn' : ∀ p ∈ l, X.Kp p.1 = none := fun p hp => (hn p hp).1
  refine ⟨fun b o e => R.frozen b o (hold_kp hn' e), R.ns, R.len, R.nodup, ?_, R.objs, R.cells, ?_, R.rlen, R.shape⟩
  · intro i c ao hi hs
    obtain ⟨f1, f2, f3⟩ := R.free i c ao hi hs
    refine ⟨fun q => ?_, f2, f3⟩
    have f1 : (match l.lookup c with | some o => some o | none => X.Kp c) = none := f1 q
    cases q' : l.lookup c with
    | none => rw [q'] at f1; exact f1
    | some o' => rw [q'] at f1; cases f1
  · intro i C x hc a ha
    obtain ⟨o, es, ep, v, h1, h2⟩ := R.comps i C x hc a ha
    obtain ⟨o', h'⟩ := ok.ats i C x hc
    have := hold_kp hn' h'
    rw [h1] at this; cases this
    exact ⟨o, es, ep, v, h', h2⟩
/-- what was held lies apart still -/
theorem Rel.held {l : List (Addr × Obj)} (R : Rel prog w (X.hold l) ι st s) (ok : CxOk X) {b : Addr} {o : Obj} (hb : l.lookup b = some o) (hn : X.Kp b = none) (hL : b ≠ X.L) (hc : ∀ (i : Nat) (c : Addr), X.locs[i]? = some (Loc.cell c) → c ≠ b) : Apart X ι b ∧ s.heap.get? b = some o := by
  have hk : (X.hold l).Kp b = some o := by show (match l.lookup b with | some o => some o | none => X.Kp b) = some o; rw [hb]
  refine ⟨⟨hn, fun hm => ?_, hL, hc⟩, (R.frozen b o hk).get fun q => by obtain ⟨o', h', _⟩ := ok.frk b q; rw [hn] at h'; cases h'⟩
  obtain ⟨i, ao, ob, hi, hs, _⟩ := R.mem_get hm
  obtain ⟨f1, f2, f3⟩ := R.free i b ao hi hs
  cases q : isRo ao with
  | false => rw [f1 q] at hk; cases hk
  | true => obtain ⟨o', h'⟩ := ok.ro b (f3 q); rw [hn] at h'; cases h'

theorem Gr.hold (G : Gr K hb A X) {l : List (Addr × Obj)} (hl : ∀ p ∈ l, Apart X ι p.1) : Gr K hb A (X.hold l) := by
  have hn : ∀ p ∈ l, X.Kp p.1 = none := fun p hp => (hl p hp).kp
  refine ⟨fun b o e => hold_kp hn (G.kp b o e), G.KX, G.T, G.mods, G.hh, G.hU, ⟨G.ok.inj, G.ok.cinj, ?_, ?_, ?_, ?_, G.ok.rof, fun a ha => let ⟨o, h, q⟩ := G.ok.frk a ha; ⟨o, hold_kp hn h, q⟩⟩, G.frs, G.hfr⟩
  · show (match l.lookup X.L with | some o => some o | none => X.Kp X.L) = none
    cases q : l.lookup X.L with
    | none => exact G.ok.kL
    | some o => exact absurd rfl (hl _ (lookup_mem q)).nL
  · intro i c hc
    refine ⟨?_, (G.ok.kc i c hc).2⟩
    show (match l.lookup c with | some o => some o | none => X.Kp c) = none
    cases q : l.lookup c with
    | none => exact (G.ok.kc i c hc).1
    | some o => exact absurd rfl ((hl _ (lookup_mem q)).nc i c hc)
  · intro i C x hc; obtain ⟨o, h⟩ := G.ok.ats i C x hc; exact ⟨o, hold_kp hn h⟩
  · intro c hc; obtain ⟨o, h⟩ := G.ok.ro c hc; exact ⟨o, hold_kp hn h⟩
theorem EnvOk.hold (EO : EnvOk K X env rs k) (l : List (Addr × Obj)) : EnvOk K (X.hold l) env rs k := ⟨EO.len, EO.gone, EO.kind, EO.glb, EO.bns, EO.slots, EO.cel, EO.globs, EO.gt⟩

theorem Apart.mono {ι' : List Addr} {b : Addr} (ap : Apart X ι b) (h : b ∉ ι') : Apart X ι' b := ⟨ap.kp, h, ap.nL, ap.nc⟩

/-- an iterator at turn j -/
noncomputable def ItH (ι : List Addr) (q : IK) (v : AV) (n j : Nat) (I : Addr) (h : Heap) : Prop := match q with
  | .list => ∃ i c, v = .obj i ∧ ι[i]? = some c ∧ h.IsListIter I c j
  | .tuple => ∃ i c, v = .obj i ∧ ι[i]? = some c ∧ h.IsTupleIter I c j
  | .range a => IsRangeIter h I (a + j) ((n : Int) - j) 1
theorem ItH.at {q : IK} {n j : Nat} {I : Addr} {h h' : Heap} {ι' : List Addr} (x : ItH ι q a n j I h) (p : Pre ι ι') (e : ∀ o, h.get? I = some o → h'.get? I = some o) : ItH ι' q a n j I h' := by
  cases q with
  | list => obtain ⟨i, c, rfl, hc, o, ho, hr⟩ := x; exact ⟨i, c, rfl, p.get hc, o, e o ho, hr⟩
  | tuple => obtain ⟨i, c, rfl, hc, o, ho, hr⟩ := x; exact ⟨i, c, rfl, p.get hc, o, e o ho, hr⟩
  | range y => exact e _ x
theorem ItH.obj {q : IK} {n j : Nat} {I : Addr} {h : Heap} (x : ItH ι q a n j I h) : ∃ o, h.get? I = some o := by
  cases q with
  | list => obtain ⟨i, c, rfl, hc, o, ho, hr⟩ := x; exact ⟨o, ho⟩
  | tuple => obtain ⟨i, c, rfl, hc, o, ho, hr⟩ := x; exact ⟨o, ho⟩
  | range y => exact ⟨_, x⟩

theorem it_new (R : Rel prog w X ι st s) (hv : VRel ι v a) {q : IK} {n : Nat} {st' : ASt} (e : iterLen a st = some (.ok (q, n), st')) :
    st' = st ∧ ∀ (Q : Value → Shared → Prop) (E : Value → Shared → Prop), (∀ I h', s.heap.get? I = none → (∀ b o, s.heap.get? b = some o → h'.get? b = some o) → ItH ι q a n 0 I h' → Q (.ref I) { s with heap := h' }) → wpAny (model prog w) A (pyIter v) Q E s := by
  cases hv with
  | obj hc =>
    refine bnd_elim e fun o st₁ e1 e2 => ?_
    obtain ⟨q1, rfl⟩ := deref_some e1
    cases o with
    | list xs =>
      obtain ⟨e3, rfl⟩ := ret_some e2
      cases e3
      obtain ⟨vs, hl, hf, hb⟩ := R.isList hc q1
      exact ⟨rfl, fun Q E h => wpAny_pyIter_list hl (h _ _ (get_size_none _) (fun _ _ e => Heap.get?_push_of_some _ e) ⟨_, _, rfl, hc, _, Heap.get?_push_size _ rfl, rfl, rfl⟩)⟩
    | tuple xs =>
      obtain ⟨e3, rfl⟩ := ret_some e2
      cases e3
      obtain ⟨o, ho, ⟨vs, nn, rfl, hf⟩, hb⟩ := R.get hc q1
      exact ⟨rfl, fun Q E h => wpAny_pyIter_tuple ⟨_, ho, rfl, _, rfl⟩ (h _ _ (get_size_none _) (fun _ _ e => Heap.get?_push_of_some _ e) ⟨_, _, rfl, hc, _, Heap.get?_push_size _ rfl, rfl, rfl⟩)⟩
    | range x y =>
      obtain ⟨e3, rfl⟩ := ret_some e2
      cases e3
      obtain ⟨o, ho, ⟨t, u, v, rfl⟩, hb⟩ := R.get hc q1
      obtain ⟨⟨⟨h1, h2⟩, h3⟩, h4⟩ : ((-1000000000 ≤ x ∧ x ≤ 1000000000) ∧ -1000000000 ≤ y) ∧ y ≤ 1000000000 := by simpa [smallR] using hb
      refine ⟨rfl, fun Q E h => wpAny_pyIter_range ho (small_one (by omega) (by omega) (by omega) (by omega)) (h _ _ (get_size_none _) (fun _ _ e => Heap.get?_push_of_some _ e) ?_)⟩
      have hsz : Builtin.Range.rangeSize x y 1 = ((y - x).toNat : Int) := by rw [rangeSize_one]; split <;> omega
      show IsRangeIter _ _ (x + ((0 : Nat) : Int)) (((y - x).toNat : Int) - ((0 : Nat) : Int)) 1
      have e1 : (x + ((0 : Nat) : Int)) = x := by simp
      have e2 : (((y - x).toNat : Int) - ((0 : Nat) : Int)) = Builtin.Range.rangeSize x y 1 := by rw [hsz]; simp
      rw [e1, e2]
      exact Heap.get?_push_size _ rfl
    | _ => exact (fail_some e2).elim
  | _ => first | exact no_some e | cases e

theorem iterSeq_some {q : IK} {n : Nat} {st st' : ASt} {xs : List AV} (h : iterSeq q a n st = some (.ok xs, st')) : st' = st ∧ xs.length = n ∧ ∃ i, a = .obj i ∧ ((q = .list ∧ st.σ[i]? = some (.list xs)) ∨ (q = .tuple ∧ st.σ[i]? = some (.tuple xs))) := by
  cases a with
  | obj i =>
    refine bnd_elim h fun o st₁ e1 e2 => ?_
    obtain ⟨q1, rfl⟩ := deref_some e1
    cases q with
    | list =>
      cases o with
      | list ys =>
        refine bnd_elim e2 fun _ st₂ e3 e4 => ?_
        obtain ⟨g, rfl⟩ := guard_some e3
        obtain ⟨rfl, rfl⟩ := ret_some e4
        exact ⟨rfl, of_decide_eq_true g, i, rfl, .inl ⟨rfl, q1⟩⟩
      | _ => exact (fail_some e2).elim
    | tuple =>
      cases o with
      | tuple ys =>
        refine bnd_elim e2 fun _ st₂ e3 e4 => ?_
        obtain ⟨g, rfl⟩ := guard_some e3
        obtain ⟨rfl, rfl⟩ := ret_some e4
        exact ⟨rfl, of_decide_eq_true g, i, rfl, .inr ⟨rfl, q1⟩⟩
      | _ => exact (fail_some e2).elim
    | range y => exact (fail_some e2).elim
  | _ => first | exact no_some h | cases h

theorem it_next (R : Rel prog w X ι st s) {q : IK} {n j : Nat} {I : Addr} (hi : ItH ι q a n j I s.heap) (hj : j < n) {x : AV} {st' : ASt} (e : iterAt q a n j st = some (.ok x, st')) :
    st' = st ∧ ∀ (Q : Option Value → Shared → Prop) (E : Value → Shared → Prop), (∀ v h' tk, VRel ι v x → ItH ι q a n (j + 1) I h' → (∀ b o, b ≠ I → s.heap.get? b = some o → h'.get? b = some o) → Q (some v) { s with heap := h', toks := tk }) → wpAny (model prog w) A (pyNext (.ref I)) Q E s := by
  cases q with
  | range y =>
    obtain ⟨rfl, rfl⟩ := ret_some e
    refine ⟨rfl, fun Q E h => wpAny_pyNext_range_item hi (by omega) fun h' hit hs => h _ _ _ (.int _ _) ?_ (fun b o hb e => hs.extBut b o hb e)⟩
    show IsRangeIter _ _ (y + ((j + 1 : Nat) : Int)) ((n : Int) - ((j + 1 : Nat) : Int)) 1
    have e1 : y + ((j + 1 : Nat) : Int) = y + j + 1 := by omega
    have e2 : (n : Int) - ((j + 1 : Nat) : Int) = (n : Int) - j - 1 := by omega
    rw [e1, e2]; exact hit
  | list =>
    refine bnd_elim e fun xs st₁ e1 e2 => ?_
    obtain ⟨rfl, hn, i, rfl, ⟨_, q1⟩ | ⟨q0, _⟩⟩ := iterSeq_some e1
    · obtain ⟨g, rfl⟩ := ofOpt_some e2
      obtain ⟨i', c, hi', hc, hit⟩ := hi
      cases hi'
      obtain ⟨vs, hl, hf, _⟩ := R.isList hc q1
      obtain ⟨y, hy, hyr⟩ := hf.get g
      exact ⟨rfl, fun Q E h => wpAny_pyNext_list_item hit hl (x := y) (by simpa using hy) fun h' hit' hs => h y h' s.toks hyr ⟨i, c, rfl, hc, hit'⟩ (fun b o hb e => hs.extBut b o hb e)⟩
    · first | exact no_some q0 | cases q0
  | tuple =>
    refine bnd_elim e fun xs st₁ e1 e2 => ?_
    obtain ⟨rfl, hn, i, rfl, ⟨q0, _⟩ | ⟨_, q1⟩⟩ := iterSeq_some e1
    · first | exact no_some q0 | cases q0
    · obtain ⟨g, rfl⟩ := ofOpt_some e2
      obtain ⟨i', c, hi', hc, hit⟩ := hi
      cases hi'
      obtain ⟨vs, hl, hf, _⟩ := R.isTuple hc q1
      obtain ⟨y, hy, hyr⟩ := hf.get g
      exact ⟨rfl, fun Q E h => wpAny_pyNext_tuple_item hit hl (x := y) (by simpa using hy) fun h' hit' hs => h y h' s.toks hyr ⟨i, c, rfl, hc, hit'⟩ (fun b o hb e => hs.extBut b o hb e)⟩

theorem it_end (hh : A.handled = none) (R : Rel prog w X ι st s) {q : IK} {n : Nat} {I : Addr} (hi : ItH ι q a n n I s.heap) {x : Unit} {st' : ASt} (e : iterEnd q a n st = some (.ok x, st')) :
    st' = st ∧ ∀ (Q : Option Value → Shared → Prop) (E : Value → Shared → Prop), (∀ h', (∀ b o, b ≠ I → s.heap.get? b = some o → h'.get? b = some o) → Q none { s with heap := h' }) → wpAny (model prog w) A (pyNext (.ref I)) Q E s := by
  cases q with
  | range y =>
    obtain ⟨_, rfl⟩ := ret_some e
    exact ⟨rfl, fun Q E h => wpAny_pyNext_range_end hh hi (by omega) fun h' hs => h h' fun b o hb e => hs b o hb e⟩
  | list =>
    refine bnd_elim e fun xs st₁ e1 e2 => ?_
    obtain ⟨rfl, hn, i, rfl, ⟨_, q1⟩ | ⟨q0, _⟩⟩ := iterSeq_some e1
    · obtain ⟨_, rfl⟩ := ret_some e2
      obtain ⟨i', c, hi', hc, hit⟩ := hi
      cases hi'
      obtain ⟨vs, hl, hf, _⟩ := R.isList hc q1
      have hsz := f2_size hf
      exact ⟨rfl, fun Q E h => wpAny_pyNext_list_end hh hit hl (Array.getElem?_eq_none (by omega)) fun h' hs => h h' fun b o hb e => hs b o hb e⟩
    · first | exact no_some q0 | cases q0
  | tuple =>
    refine bnd_elim e fun xs st₁ e1 e2 => ?_
    obtain ⟨rfl, hn, i, rfl, ⟨q0, _⟩ | ⟨_, q1⟩⟩ := iterSeq_some e1
    · first | exact no_some q0 | cases q0
    · obtain ⟨_, rfl⟩ := ret_some e2
      obtain ⟨i', c, hi', hc, hit⟩ := hi
      cases hi'
      obtain ⟨vs, hl, hf, _⟩ := R.isTuple hc q1
      have hsz := f2_size hf
      exact ⟨rfl, fun Q E h => wpAny_pyNext_tuple_end hh hit hl (Array.getElem?_eq_none (by omega)) fun h' hs => h h' fun b o hb e => hs b o hb e⟩
end
end Mine
namespace Mine
open PySem PySem.W PyProof.Rows

noncomputable def Cx.seat (X : Cx) (k : Nat) (C : Addr) (x : Str) : Cx := { X with locs := X.locs.set k (Loc.at C x) }

section
variable {prog : Program} {w : World} {A : Around} {X : Cx} {ι : List Addr} {st : ASt} {s : Shared} {v u : Value} {a b : AV} {K : Frag} {hb : Heap} {env : Env} {rs : Rsv} {k : Nat}
  {P : AProg} {C : Calls} {e e₁ e₂ : Expr} {ae ae₁ ae₂ : AE} {es : List Expr} {aes : List AE}

theorem Rel.setGone (R : Rel prog w X ι st s) (hg : X.locs[k]? = some Loc.gone) (y : Option AV) : Rel prog w X ι ⟨st.σ, st.ρ.set k y⟩ s := by
  have ne : ∀ {i : Nat} {l : Loc}, X.locs[i]? = some l → l ≠ Loc.gone → (st.ρ.set k y)[i]? = st.ρ[i]? := by
    intro i l h1 h2
    rw [List.getElem?_set_ne]
    rintro rfl
    rw [hg] at h1; cases h1; exact h2 rfl
  refine ⟨R.frozen, ?_, R.len, R.nodup, R.free, R.objs, ?_, ?_, by simp [R.rlen], R.shape⟩
  · obtain ⟨m, hm, hv⟩ := R.ns
    exact ⟨m, hm, fun i x b h1 h2 => hv i x b h1 (by rw [ne h1 (by simp)] at h2; exact h2)⟩
  · intro i c hc
    obtain ⟨h1, o, v, h2, h3, h4⟩ := R.cells i c hc
    exact ⟨h1, o, v, h2, h3, fun b h => h4 b (by rw [ne hc (by simp)] at h; exact h)⟩
  · intro i D x hc b h
    exact R.comps i D x hc b (by rw [ne hc (by simp)] at h; exact h)

theorem seat_ne {D : Addr} {x : Str} {i : Nat} {l : Loc} (h : (X.seat k D x).locs[i]? = some l) (hne : ∀ y, l ≠ Loc.at D y) : X.locs[i]? = some l ∧ i ≠ k := by
  have h : (X.locs.set k (Loc.at D x))[i]? = some l := h
  by_cases q : k = i
  · subst q
    rw [List.getElem?_set] at h
    simp only [if_true] at h
    split at h
    · cases h; exact absurd rfl (hne x)
    · first | exact no_some h | cases h
  · rw [List.getElem?_set_ne q] at h
    exact ⟨h, fun e => q e.symm⟩

theorem Rel.seat (R : Rel prog w X ι st s) (hg : X.locs[k]? = some Loc.gone) {D : Addr} {x : Str} (hD : ∀ a, st.ρ[k]? = some (some a) → ∃ o es ep v, X.Kp D = some o ∧ o.data = .dict es ep ∧ StrKeys es ∧ nsFind es x = some v ∧ VRel ι v a) :
    Rel prog w (X.seat k D x) ι st s := by
  refine ⟨R.frozen, ?_, R.len, R.nodup, R.free, R.objs, ?_, ?_, by show _ = (X.locs.set k _).length; rw [List.length_set]; exact R.rlen, R.shape⟩
  · obtain ⟨m, hm, hv⟩ := R.ns
    exact ⟨m, hm, fun i y b h1 h2 => hv i y b (seat_ne h1 (by intro _ h; cases h)).1 h2⟩
  · intro i c hc; exact R.cells i c (seat_ne hc (by intro _ h; cases h)).1
  · intro i D' y hc b h
    by_cases q : k = i
    · subst q
      have hc : (X.locs.set k (Loc.at D x))[k]? = some (Loc.at D' y) := hc
      rw [List.getElem?_set_self (List.getElem?_eq_some_iff.mp hg).1] at hc
      cases hc
      exact hD b h
    · have hc : (X.locs.set k (Loc.at D x))[i]? = some (Loc.at D' y) := hc
      rw [List.getElem?_set_ne q] at hc
      exact R.comps i D' y hc b h
theorem Rel.unseat {D : Addr} {x : Str} (R : Rel prog w (X.seat k D x) ι st s) (hg : X.locs[k]? = some Loc.gone) : Rel prog w X ι st s := by
  have up : ∀ {i : Nat} {l : Loc}, X.locs[i]? = some l → l ≠ Loc.gone → (X.seat k D x).locs[i]? = some l := by
    intro i l h1 h2
    show (X.locs.set k _)[i]? = _
    rw [List.getElem?_set_ne, h1]
    rintro rfl
    rw [hg] at h1; cases h1; exact h2 rfl
  refine ⟨R.frozen, ?_, R.len, R.nodup, R.free, R.objs, ?_, ?_, by have := R.rlen; rw [this]; show (X.locs.set k _).length = _; simp, R.shape⟩
  · obtain ⟨m, hm, hv⟩ := R.ns
    exact ⟨m, hm, fun i y b h1 h2 => hv i y b (up h1 (by simp)) h2⟩
  · intro i c hc; exact R.cells i c (up hc (by simp))
  · intro i D' y hc; exact R.comps i D' y (up hc (by simp))

theorem Gr.seat (G : Gr K hb A X) {D : Addr} {x : Str} {o : Obj} (hD : X.Kp D = some o) : Gr K hb A (X.seat k D x) := by
  refine ⟨G.kp, G.KX, G.T, G.mods, G.hh, G.hU, ⟨?_, ?_, G.ok.kL, ?_, ?_, G.ok.ro, G.ok.rof, G.ok.frk⟩, G.frs, G.hfr⟩
  · intro i j y h1 h2; exact G.ok.inj i j y (seat_ne h1 (by intro _ h; cases h)).1 (seat_ne h2 (by intro _ h; cases h)).1
  · intro i j y h1 h2; exact G.ok.cinj i j y (seat_ne h1 (by intro _ h; cases h)).1 (seat_ne h2 (by intro _ h; cases h)).1
  · intro i c hc; exact G.ok.kc i c (seat_ne hc (by intro _ h; cases h)).1
  · intro i D' y hc
    by_cases q : D' = D
    · subst q; exact ⟨o, hD⟩
    · exact G.ok.ats i D' y (seat_ne hc (by intro _ h; cases h; exact q rfl)).1

/-- the closure of an inlined block -/
noncomputable def clOf (env : Env) : List (Str × NameKind) → List (Str × Addr) → List (Str × Addr)
  | [], acc => acc
  | (n, kd) :: r, acc => clOf env r (if kd = .free then (match env.cells.lookup n with | some c => (n, c) :: acc | none => acc) else acc)
theorem closureFor_of {sc : Scope} (h : ∀ y ∈ sc.names, y.2 = .free → ∃ c, env.cells.lookup y.1 = some c) : closureFor sc env = pure (clOf env sc.names []) := by
  unfold closureFor
  have key : ∀ (l : List (Str × NameKind)) (acc : List (Str × Addr)), (∀ y ∈ l, y.2 = .free → ∃ c, env.cells.lookup y.1 = some c) →
      (do
        let r ← forIn l acc fun (x : Str × NameKind) (r : List (Str × Addr)) =>
          if (x.2 == NameKind.free) = true then do let c ← cellOf env x.1; pure (ForInStep.yield ((x.1, c) :: r)) else pure (ForInStep.yield r)
        pure r : Sem (List (Str × Addr))) = pure (clOf env l acc) := by
    intro l
    induction l with
    | nil => intro acc _; rfl
    | cons y r ih =>
      intro acc hl
      obtain ⟨n, kd⟩ := y
      rw [List.forIn_cons]
      by_cases q : kd = .free
      · subst q
        obtain ⟨c, hc⟩ := hl _ (.head _) rfl
        have hc : env.cells.lookup n = some c := hc
        have e1 : cellOf env n = pure c := by unfold cellOf; rw [hc]
        have := ih ((n, c) :: acc) fun y hy => hl y (.tail _ hy)
        simp only [beq_self_eq_true, if_true, e1, pure_bind, clOf, hc]
        exact this
      · have := ih acc fun y hy => hl y (.tail _ hy)
        have q' : (kd == NameKind.free) = false := beq_eq_false_iff_ne.mpr q
        simp only [q', Bool.false_eq_true, if_false, pure_bind, clOf, if_neg q]
        exact this
  have := key sc.names [] h
  refine Eq.trans ?_ this
  exact bind_pure _
theorem clOf_lookup {n : Str} {c : Addr} (hc : env.cells.lookup n = some c) : ∀ (l : List (Str × NameKind)) (acc : List (Str × Addr)), (acc.lookup n = some c ∨ (n, NameKind.free) ∈ l) → (∀ p ∈ acc, p.1 = n → p.2 = c) → (clOf env l acc).lookup n = some c
  | [], acc, h, _ => by
    rcases h with h | h
    · exact h
    · first | exact no_some h | cases h
  | (m, kd) :: r, acc, h, hacc => by
    unfold clOf
    apply clOf_lookup hc r
    · rcases h with h | h
      · left
        by_cases q : kd = .free
        · rw [if_pos q]
          cases q' : env.cells.lookup m with
          | none => exact h
          | some c' =>
            show List.lookup n ((m, c') :: acc) = some c
            rw [List.lookup_cons]
            split
            · rename_i e; rw [← beq_iff_eq.mp e, hc] at q'; cases q'; rfl
            · exact h
        · rw [if_neg q]; exact h
      · rcases List.mem_cons.mp h with h | h
        · first | exact no_some h | cases h
          left
          rw [if_pos rfl, hc]
          simp
        · right; exact h
    · intro p hp hpn
      by_cases q : kd = .free
      · rw [if_pos q] at hp
        cases q' : env.cells.lookup m with
        | none => rw [q'] at hp; exact hacc p hp hpn
        | some c' =>
          rw [q'] at hp
          rcases List.mem_cons.mp hp with hp | hp
          · subst hp; subst hpn; rw [hc] at q'; cases q'; rfl
          · exact hacc p hp hpn
      · rw [if_neg q] at hp; exact hacc p hp hpn

theorem lookup_relabel {y : Str} {kd : NameKind} : ∀ {names : List (Str × NameKind)}, names.lookup y = some kd →
    (names.map fun (n, k) => if (k == NameKind.free && env.scope.kind == .function && env.kindOf n == some .cell) then (n, NameKind.cell) else (n, k)).lookup y = some (if (kd == NameKind.free && env.scope.kind == .function && env.kindOf y == some .cell) then NameKind.cell else kd)
  | [], h => by cases h
  | (n, kk) :: r, h => by
    rw [List.lookup_cons] at h
    rw [List.map_cons]
    have e1 : (if (kk == NameKind.free && env.scope.kind == .function && env.kindOf n == some .cell) = true then (n, NameKind.cell) else (n, kk)) = (n, if (kk == NameKind.free && env.scope.kind == .function && env.kindOf n == some .cell) = true then NameKind.cell else kk) := by split <;> rfl
    show List.lookup y ((if (kk == NameKind.free && env.scope.kind == .function && env.kindOf n == some .cell) = true then (n, NameKind.cell) else (n, kk)) :: _) = _
    rw [e1, List.lookup_cons]
    split at h
    · rename_i e
      cases h
      rw [beq_iff_eq.mp e]
    · exact lookup_relabel h

theorem mem_of_lookup {y : Str} {kd : NameKind} : ∀ {names : List (Str × NameKind)}, names.lookup y = some kd → (y, kd) ∈ names
  | [], h => by cases h
  | (n, kk) :: r, h => by
    rw [List.lookup_cons] at h
    split at h
    · rename_i e; cases h; rw [beq_iff_eq.mp e]; exact .head _
    · exact .tail _ (mem_of_lookup h)

theorem EnvOk.comp {sc : Scope} {x : Str} {D : Addr} {l : List (Addr × Obj)} (EO : EnvOk K X env rs k) (hsk : sc.kind = .function) (hn : compNames rs sc.names x = true) (hk : k < rs.N) :
    EnvOk K ((X.hold l).seat k D x) (compEnvC sc (clOf env sc.names []) D env) (rsComp rs sc.names x k) (k + 1) := by
  obtain ⟨⟨⟨hx, hxd⟩, hxc⟩, hall⟩ : ((sc.names.lookup x = some .local ∧ x ≠ dbg) ∧ x ≠ "__classdict__") ∧ ∀ y ∈ sc.names, kindFine rs x y = true ∧ sc.names.lookup y.1 = some y.2 := by
    simpa [compNames, List.all_eq_true] using hn
  have hgone := EO.gone k (Nat.le_refl _) hk
  have hlen : k < X.locs.length := by rw [EO.len]; exact hk
  have locs_ne : ∀ {i : Nat} {l' : Loc}, X.locs[i]? = some l' → l' ≠ Loc.gone → ((X.hold l).seat k D x).locs[i]? = some l' := by
    intro i l' h1 h2
    show (X.locs.set k _)[i]? = _
    rw [List.getElem?_set_ne, h1]
    rintro rfl
    rw [hgone] at h1; cases h1; exact h2 rfl
  have kx : (compEnvC sc (clOf env sc.names []) D env).kindOf x = some .local := lookup_relabel_local hx
  have kfree : ∀ {y : Str}, sc.names.lookup y = some .free → ((compEnvC sc (clOf env sc.names []) D env).kindOf y = some .cell ∨ (compEnvC sc (clOf env sc.names []) D env).kindOf y = some .free) := by
    intro y hy
    have := lookup_relabel (env := env) hy
    by_cases q : (NameKind.free == NameKind.free && env.scope.kind == .function && env.kindOf y == some .cell) = true
    · rw [if_pos q] at this; exact .inl this
    · rw [if_neg q] at this; exact .inr this
  have cel' : ∀ {y : Str}, sc.names.lookup y = some .free → rs.cel y = true → ((compEnvC sc (clOf env sc.names []) D env).kindOf y = some .cell ∨ (compEnvC sc (clOf env sc.names []) D env).kindOf y = some .free) ∧ y ≠ dbg ∧ y ≠ cld ∧ ∃ i c, rs.slot y = some i ∧ (compEnvC sc (clOf env sc.names []) D env).cells.lookup y = some c ∧ ((X.hold l).seat k D x).locs[i]? = some (Loc.cell c) := by
    intro y hy hc
    obtain ⟨_, hd, hcd, i, c, hi, hcl, hl⟩ := EO.cel y hc
    exact ⟨kfree hy, hd, hcd, i, c, hi, clOf_lookup hcl _ _ (.inr (mem_of_lookup hy)) (fun _ h => by cases h), locs_ne hl (by simp)⟩
  refine ⟨by show (X.locs.set k _).length = rs.N; rw [List.length_set]; exact EO.len, ?_, hsk, EO.glb, EO.bns, ?_, ?_, ?_, EO.gt⟩
  · intro j h1 h2
    show (X.locs.set k _)[j]? = _
    rw [List.getElem?_set_ne (by omega)]
    exact EO.gone j (by omega) h2
  · intro y i hy
    have hy : (if y = x then some k else (match sc.names.lookup y with | some .free => if rs.cel y then rs.slot y else none | _ => none)) = some i := hy
    by_cases q : y = x
    · subst q
      rw [if_pos rfl] at hy
      cases hy
      refine ⟨hxd, hxc, .inl ⟨kx, .inr ?_⟩⟩
      show (X.locs.set k _)[k]? = _
      rw [List.getElem?_set_self hlen]
      rfl
    · rw [if_neg q] at hy
      split at hy
      · rename_i hfr
        split at hy
        · rename_i hc
          obtain ⟨h1, h2, h3, i', c, h4, h5, h6⟩ := cel' hfr hc
          rw [hy] at h4; cases h4
          exact ⟨h2, h3, .inr ⟨h1, c, h5, h6⟩⟩
        · first | exact no_some hy | cases hy
      · first | exact no_some hy | cases hy
  · intro y hy
    have hy : (if y = x then false else (match sc.names.lookup y with | some .free => rs.cel y | _ => false)) = true := hy
    by_cases q : y = x
    · rw [if_pos q] at hy; cases hy
    · rw [if_neg q] at hy
      split at hy
      · rename_i hfr
        obtain ⟨h1, h2, h3, i, c, h4, h5, h6⟩ := cel' hfr hy
        refine ⟨h1, h2, h3, i, c, ?_, h5, h6⟩
        show (if y = x then some k else (match sc.names.lookup y with | some .free => if rs.cel y then rs.slot y else none | _ => none)) = some i
        rw [if_neg q, hfr]
        simp only [hy, if_true]
        exact h4
      · first | exact no_some hy | cases hy
  · intro y g _ hg
    have hg : (match sc.names.lookup y with
      | some .globalImplicit => rs.gtab y
      | _ => none) = some g := hg
    split at hg
    · rename_i hgl
      exact ⟨lookup_relabel (env := env) hgl, EO.gt y g hg⟩
    · first | exact no_some hg | cases hg

theorem sim_tests (L : SL prog w K hb A P C rs k es aes) : ∀ X env ι st s (r : Bool), Gr K hb A X → EnvOk K X env rs k → Rel prog w X ι st s →
    SimAt prog w A X ι st s (forIn es r fun c r => if r = true then do let ok ← isTrue c env (eval c env); pure (ForInStep.yield ok) else pure (ForInStep.yield r)) (if r = true then atests P C aes else ret false) BR := by
  induction L with
  | nil =>
    intro X env ι st s r G EO R
    cases r with
    | true => simp only [if_true]; exact SimAt.pure R rfl
    | false => exact SimAt.pure R rfl
  | @cons e ae es aes hn h L ih =>
    intro X env ι st s r G EO R x st' ee Q E kk
    rw [List.forIn_cons]
    cases r with
    | false =>
      have := ih X env ι st s false G EO R x st' ee Q E kk
      simp only [Bool.false_eq_true, if_false, pure_bind] at this ⊢
      exact this
    | true =>
      simp only [if_true] at ee ⊢
      refine bnd_elim ee fun b st₁ g1 g2 => ?_
      rw [bind_assoc]
      refine wpAny_bind (h.2 X env ι st s G EO R b st₁ g1 _ _ fun ι₁ s₁ t p₁ R₁ ht => ?_)
      subst ht
      rw [pure_bind]
      exact ih X env ι₁ st₁ s₁ t G EO R₁ x st' g2 Q E fun ι₂ s₂ y p₂ R₂ hy => kk ι₂ s₂ y (p₁.trans p₂) R₂ hy
end
end Mine
namespace Mine
open PySem PySem.W PyProof.Rows

section
variable {prog : Program} {w : World} {A : Around} {X : Cx} {ι : List Addr} {st : ASt} {s : Shared} {v u : Value} {a b : AV} {K : Frag} {hb : Heap} {env : Env} {rs : Rsv} {k : Nat}
  {P : AProg} {C : Calls} {e e₁ e₂ : Expr} {ae ae₁ ae₂ : AE} {es : List Expr} {aes : List AE}

/-- a thing apart enters the abstract machine -/
theorem Rel.adopt (R : Rel prog w X ι st s) {o : Obj} {ao : AO} {D : Addr} (ap : Apart X ι D) (ho : s.heap.get? D = some o) (hr : ORel prog w (ι ++ [D]) o ao) (hro : isRo ao = false) : Rel prog w X (ι ++ [D]) ⟨st.σ ++ [ao], st.ρ⟩ s := by
  have p := Pre.snoc ι D
  refine ⟨R.frozen, ?_, by simp [R.len], ?_, ?_, ?_, ?_, ?_, R.rlen, R.shape⟩
  · obtain ⟨m, hm, hv⟩ := R.ns
    exact ⟨m, hm, fun i x b h1 h2 => by obtain ⟨v, e1, e2⟩ := hv i x b h1 h2; exact ⟨v, e1, e2.mono p⟩⟩
  · rw [List.nodup_append]
    exact ⟨R.nodup, by simp, fun b hb c hc e => by simp at hc; subst hc; subst e; exact ap.nin hb⟩
  · intro i b bo hb hbo
    by_cases hi : i < ι.length
    · rw [List.getElem?_append_left hi] at hb
      rw [List.getElem?_append_left (R.len ▸ hi)] at hbo
      exact R.free i b bo hb hbo
    · have : i = ι.length := by
        have := (List.getElem?_eq_some_iff.mp hb).1
        simp at this; omega
      subst this
      simp at hb; subst hb
      have hbo' : bo = ao := by rw [R.len] at hbo; simpa using hbo.symm
      subst hbo'
      exact ⟨fun _ => ap.kp, ap.nL, fun q => by rw [hro] at q; cases q⟩
  · intro i b e
    by_cases hi : i < st.σ.length
    · rw [List.getElem?_append_left hi] at e
      obtain ⟨a', ob, h1, h2, h3⟩ := R.objs i b e
      exact ⟨a', ob, p.get h1, h2, h3.mono p⟩
    · have : i = st.σ.length := by
        have := (List.getElem?_eq_some_iff.mp e).1
        simp at this; omega
      subst this
      simp at e; subst e
      refine ⟨D, o, ?_, ho, hr⟩
      rw [← R.len]; simp
  · intro i c hc
    obtain ⟨h1, ob, v, h2, h3, h4⟩ := R.cells i c hc
    refine ⟨fun hm => ?_, ob, v, h2, h3, fun b hb => by obtain ⟨u, e1, e2⟩ := h4 b hb; exact ⟨u, e1, e2.mono p⟩⟩
    rcases List.mem_append.mp hm with hm | hm
    · exact h1 hm
    · simp at hm; subst hm; exact ap.nc i c hc rfl
  · intro i D' x hc b hb
    obtain ⟨ob, es, ep, v, h1, h2, h3, h4, h5⟩ := R.comps i D' x hc b hb
    exact ⟨ob, es, ep, v, h1, h2, h3, h4, h5.mono p⟩

theorem setLoc_some {i : Nat} {v : AV} {st st' : ASt} {x : Unit} (h : setLoc i v st = some (.ok x, st')) : st' = ⟨st.σ, st.ρ.set i (some v)⟩ := by unfold setLoc at h; cases h; rfl

/-- three things held aside at once -/
theorem hold3 {h : Heap} {Cc D I : Addr} {oC oD oI : Obj} (hID : I ≠ D) (hIC : I ≠ Cc) (hDC : D ≠ Cc) (aC : Apart X ι Cc) (aD : Apart X ι D) (aI : Apart X ι I) (h1 : h.get? Cc = some oC) (h2 : h.get? D = some oD) (h3 : h.get? I = some oI) :
    ∃ l : List (Addr × Obj), (∀ p ∈ l, Apart X ι p.1 ∧ h.get? p.1 = some p.2) ∧ l.lookup Cc = some oC ∧ l.lookup D = some oD ∧ l.lookup I = some oI := by
  refine ⟨[(Cc, oC), (D, oD), (I, oI)], fun p hp => ?_, by rw [List.lookup_cons]; simp, by rw [List.lookup_cons, beq_eq_false_iff_ne.mpr hDC, List.lookup_cons]; simp, by rw [List.lookup_cons, beq_eq_false_iff_ne.mpr hIC, List.lookup_cons, beq_eq_false_iff_ne.mpr hID, List.lookup_cons]; simp⟩
  simp only [List.mem_cons, List.not_mem_nil, or_false] at hp
  rcases hp with rfl | rfl | rfl
  · exact ⟨aC, h1⟩
  · exact ⟨aD, h2⟩
  · exact ⟨aI, h3⟩
theorem ite_ff {A B : Prop} (h : B) : if false = true then A else B := h
theorem ite_tt {A B : Prop} (h : A) : if true = true then A else B := h
/-- what holds between two turns of a comprehension -/
inductive CInv (prog : Program) (w : World) (X : Cx) (ι : List Addr) (q : IK) (a : AV) (n : Nat) (go : Nat → Nat → List AV → M (List AV)) (out : Option (Except Nat (List AV) × ASt)) (I D Cc : Addr) (r : Nat) (s : Shared) : Prop
  | mk (ι' : List Addr) (st₁ : ASt) (j : Nat) (acc : List AV) (ys : Array Value) (nn : Nat) (m : Str → Option Value) (hr : r = n - j) (hj : j ≤ n) (p : Pre ι ι') (R : Rel prog w X ι' st₁ s) (e : go (n - j) j acc st₁ = out) (hit : ItH ι' q a n j I s.heap) (aI : Apart X ι' I) (aD : Apart X ι' D) (aC : Apart X ι' Cc) (hD : s.heap.get? D = some { cls := .type "list", data := .seq ys nn }) (hys : F2 (VRel ι') ys.toList acc) (hacc : acc.length ≤ j) (hC : s.heap.Ns Cc m) : CInv prog w X ι q a n go out I D Cc r s
theorem comp_loop {elt iter : Expr} {x : Str} {px : Pos} {ifs : List Expr} {sc : Scope} {pos : Pos} {aelt : AE} {aifs : List AE} (G : Gr K hb A X) (EO : EnvOk K X env rs k)
    (hel : S2 prog w K hb A P C (rsComp rs sc.names x k) (k + 1) elt aelt) (hifs : SL prog w K hb A P C (rsComp rs sc.names x k) (k + 1) ifs aifs)
    (hsk : sc.kind = .function) (hn : compNames rs sc.names x = true) (hk : k < rs.N) {q : IK} {n : Nat} (hsz : n ≤ line) {xs : List AV} {st' : ASt} {I D Cc : Addr} (hID : I ≠ D) (hIC : I ≠ Cc) (hDC : D ≠ Cc)
    {R : Result → Shared → Prop} (hR : ∀ ι' s', Pre ι ι' → Rel prog w X (ι' ++ [D]) ⟨st'.σ ++ [.list xs], st'.ρ⟩ s' → Apart X (ι' ++ [D]) Cc → (∃ m, s'.heap.Ns Cc m) → R (.ok .next) s')
    {st₀ : ASt} {s₀ : Shared} (e0 : compLoop q a n k (atests P C aifs) (aeval P C aelt) n 0 [] st₀ = some (.ok xs, st')) (R₀ : Rel prog w X ι st₀ s₀) (hit₀ : ItH ι q a n 0 I s₀.heap) (aI : Apart X ι I) (aD : Apart X ι D) (aC : Apart X ι Cc)
    {n0 : Nat} (hD₀ : s₀.heap.get? D = some { cls := .type "list", data := .seq #[] n0 }) {m₀ : Str → Option Value} (hC₀ : s₀.heap.Ns Cc m₀) :
    codeAny (model prog w) A (.compLoop (.ListComp elt [⟨.Name x px, iter, ifs, 0⟩] sc pos) 0 (.ref I) (.ref D) (compEnvC sc (clOf env sc.names []) Cc env)) R s₀ := by
  have hgone := EO.gone k (Nat.le_refl _) hk
  have hlenk : k < X.locs.length := by rw [EO.len]; exact hk
  obtain ⟨⟨⟨hx, _⟩, _⟩, _⟩ : ((sc.names.lookup x = some .local ∧ x ≠ dbg) ∧ x ≠ "__classdict__") ∧ ∀ y ∈ sc.names, kindFine rs x y = true ∧ sc.names.lookup y.1 = some y.2 := by
    simpa [compNames, List.all_eq_true] using hn
  have kx : (compEnvC sc (clOf env sc.names []) Cc env).kindOf x = some .local := lookup_relabel_local hx
  refine codeAny_compLoop_tests (CInv prog w X ι q a n (compLoop q a n k (atests P C aifs) (aeval P C aelt)) (some (.ok xs, st')) I D Cc) ?_ n ⟨ι, st₀, 0, [], #[], n0, m₀, rfl, Nat.zero_le _, Pre.refl ι, R₀, e0, hit₀, aI, aD, aC, hD₀, trivial, Nat.le_refl _, hC₀⟩
  rintro r s ⟨ι₁, st₁, j, acc, ys, nn, m, rfl, hj, p₁, R₁, e1, hit, aI, aD, aC, hD, hys, hacc, hC⟩
  by_cases hjn : j = n
  · subst hjn
    rw [Nat.sub_self] at e1
    refine bnd_elim e1 fun _ st₂ g1 g2 => ?_
    obtain ⟨rfl, hend⟩ := it_end (A := A) G.hh R₁ hit g1
    obtain ⟨rfl, rfl⟩ := ret_some g2
    refine hend _ _ fun h' hext => ?_
    have R₂ := R₁.aside (tk := s.toks) (h' := h') aI hext
    have R₃ := R₂.adopt (ao := .list xs) aD (hext D _ (Ne.symm hID) hD) ⟨⟨_, _, rfl, hys.mono fun _ _ => VRel.mono (Pre.snoc _ _)⟩, by omega⟩ rfl
    refine hR ι₁ _ p₁ R₃ (aC.mono fun hm => ?_) ⟨m, hC.at' fun o e => hext _ o (Ne.symm hIC) e⟩
    rcases List.mem_append.mp hm with hm | hm
    · exact aC.nin hm
    · simp at hm; exact hDC hm.symm
  · have hlt : j < n := by omega
    have hr : n - j = (n - (j + 1)) + 1 := by omega
    rw [hr] at e1
    refine bnd_elim e1 fun y st₂ g1 g2 => ?_
    obtain ⟨rfl, hnext⟩ := it_next (A := A) R₁ hit hlt g1
    refine bnd_elim g2 fun _ st₃ g3 g4 => ?_
    have g3 := setLoc_some g3
    subst g3
    refine bnd_elim g4 fun t st₄ g5 g6 => ?_
    refine hnext _ _ fun v h₁ tk₁ hv hit₁ hext₁ => ?_
    have R₂ := R₁.aside (tk := tk₁) (h' := h₁) aI hext₁
    have hC₁ : h₁.Ns Cc m := hC.at' fun o e => hext₁ _ o (Ne.symm hIC) e
    refine wpAny_assign_Name (wpAny_storeName_local (env := compEnvC sc (clOf env sc.names []) Cc env) kx hC₁ (fun h₂ hn₂ hs₂ => ?_) (by simp [compEnvC, relabel, hsk]))
    have hext₂ : ∀ c o, c ≠ Cc → h₁.get? c = some o → h₂.get? c = some o := fun c o hc e => hs₂.extBut c o hc e
    have R₃ := (R₂.aside (tk := tk₁ + 1) (h' := h₂) aC hext₂).setGone hgone (some y)
    obtain ⟨oC, esC, epC, hoC, hdC, hkC, hfC⟩ := id hn₂
    have hoC : h₂.get? Cc = some oC := hoC
    have hD₂ : h₂.get? D = some { cls := .type "list", data := .seq ys nn } := hext₂ _ _ hDC (hext₁ _ _ (Ne.symm hID) hD)
    obtain ⟨oI, hoI⟩ := hit₁.obj
    have hI₂ : h₂.get? I = some oI := hext₂ _ _ hIC hoI
    obtain ⟨l, hl, lk1, lk2, lk3⟩ := hold3 hID hIC hDC aC aD aI hoC hD₂ hI₂
    have R₄ := R₃.hold hl
    have hKC : (X.hold l).Kp Cc = some oC := by
      show (match List.lookup Cc _ with | some o => some o | none => X.Kp Cc) = some oC
      rw [lk1]
    have R₅ := R₄.seat (k := k) (D := Cc) (x := x) hgone (by
      intro b hb
      have hb : (st₂.ρ.set k (some y))[k]? = some (some b) := hb
      rw [List.getElem?_set_self (by rw [R₁.rlen]; exact hlenk)] at hb
      cases hb
      exact ⟨oC, esC, epC, v, hKC, hdC, hkC, by rw [hfC]; simp, hv⟩)
    have G' := (G.hold (l := l) (fun p hp => (hl p hp).1)).seat (k := k) (x := x) hKC
    have EO' := EO.comp (D := Cc) (l := l) hsk hn hk
    have hkn : ∀ p ∈ l, X.Kp p.1 = none ∧ p.1 ≠ X.L := fun p hp => ⟨(hl p hp).1.kp, (hl p hp).1.nL⟩
    have back : ∀ {ι₃ : List Addr} {s₃ : Shared} {st₃ : ASt}, Rel prog w ((X.hold l).seat k Cc x) ι₃ st₃ s₃ → Pre ι₁ ι₃ →
        Rel prog w X ι₃ st₃ s₃ ∧ Apart X ι₃ I ∧ Apart X ι₃ D ∧ Apart X ι₃ Cc ∧ s₃.heap.get? D = some { cls := .type "list", data := .seq ys nn } ∧ s₃.heap.Ns Cc (fun z => if z = x then some v else m z) ∧ ItH ι₃ q a n (j + 1) I s₃.heap := by
      intro ι₃ s₃ st₃ R' p'
      have R'' := R'.unseat hgone
      obtain ⟨c1, c2⟩ := R''.held G.ok lk1 aC.kp aC.nL aC.nc
      obtain ⟨d1, d2⟩ := R''.held G.ok lk2 aD.kp aD.nL aD.nc
      obtain ⟨i1, i2⟩ := R''.held G.ok lk3 aI.kp aI.nL aI.nc
      exact ⟨R''.letgo G.ok hkn, i1, d1, c1, d2, ⟨oC, esC, epC, c2, hdC, hkC, hfC⟩, hit₁.at p' fun o e => by rw [hoI] at e; cases e; exact i2⟩
    refine sim_tests hifs _ _ _ _ _ true G' EO' R₅ t st₄ (by simpa using g5) _ _ fun ι₃ s₃ t' p₃ R₆ ht => ?_
    subst ht
    cases t' with
    | false =>
      rw [if_neg Bool.false_ne_true] at g6
      refine ite_ff ?_
      obtain ⟨b1, b2, b3, b4, b5, b6, b7⟩ := back R₆ p₃
      exact ⟨n - (j + 1), by omega, ι₃, st₄, j + 1, acc, ys, nn, _, rfl, hlt, p₁.trans p₃, b1, g6, b7, b2, b3, b4, b5, hys.mono fun _ _ => VRel.mono p₃, by omega, b6⟩
    | true =>
      rw [if_pos rfl] at g6
      refine ite_tt ?_
      refine bnd_elim g6 fun z st₅ g7 g8 => ?_
      refine hel.1 _ _ _ _ _ G' EO' R₆ z st₅ g7 _ _ fun ι₄ s₄ zv p₄ R₇ hz => ?_
      obtain ⟨b1, b2, b3, b4, b5, b6, b7⟩ := back R₇ (p₃.trans p₄)
      have hsz' := f2_size hys
      refine wpAny_list_append_plain ⟨nn, b5⟩ (fun h₅ hl₅ hs₅ => ?_) (by rw [sizeLine_val]; rw [line_val] at hsz; omega)
      obtain ⟨n₅, ho₅⟩ := hl₅
      have hext₅ : ∀ c o, c ≠ D → s₄.heap.get? c = some o → h₅.get? c = some o := fun c o hc e => hs₅.extBut c o hc e
      have R₈ := b1.aside (tk := s₄.toks) (h' := h₅) b3 hext₅
      exact ⟨n - (j + 1), by omega, ι₄, st₅, j + 1, acc ++ [z], ys.push zv, n₅, _, rfl, hlt, (p₁.trans p₃).trans p₄, R₈, g8, b7.at (Pre.refl _) fun o e => hext₅ _ o hID e, b2, b3, b4, ho₅,
        by rw [Array.toList_push]; exact (hys.mono fun _ _ => VRel.mono (p₃.trans p₄)).snoc hz, by rw [List.length_append]; exact Nat.succ_le_succ hacc, b6.at' fun o e => hext₅ _ o (Ne.symm hDC) e⟩

theorem comp_core {elt iter : Expr} {x : Str} {px : Pos} {ifs : List Expr} {sc : Scope} {pos : Pos} {aelt : AE} {aifs : List AE} (G : Gr K hb A X) (EO : EnvOk K X env rs k)
    (hel : S2 prog w K hb A P C (rsComp rs sc.names x k) (k + 1) elt aelt) (hifs : SL prog w K hb A P C (rsComp rs sc.names x k) (k + 1) ifs aifs)
    (hsk : sc.kind = .function) (hn : compNames rs sc.names x = true) (hk : k < rs.N) {q : IK} {n : Nat} (hsz : n ≤ line) {xs : List AV} {st₁ st' : ASt} (R : Rel prog w X ι st s) (hv : VRel ι v a)
    (e1 : iterLen a st = some (.ok (q, n), st₁)) (e2 : compLoop q a n k (atests P C aifs) (aeval P C aelt) n 0 [] st₁ = some (.ok xs, st'))
    {E : Value → Shared → Prop} {RR : Value → Addr → Result → Shared → Prop} (hR : ∀ D Cc ι' s', Pre ι ι' → Rel prog w X (ι' ++ [D]) ⟨st'.σ ++ [.list xs], st'.ρ⟩ s' → Apart X (ι' ++ [D]) Cc → (∃ m, s'.heap.Ns Cc m) → RR (.ref D) Cc (.ok .next) s') :
    wpAny (model prog w) A (pyIter v) (fun it s₂ => wpAny (model prog w) A (newList []) (fun acc s₃ => wpAny (model prog w) A (newFunctionEnv sc env.globals (clOf env sc.names []) [] env.qual none .none (some env)) (fun cenv s₄ =>
      codeAny (model prog w) A (.compStart (.ListComp elt [⟨.Name x px, iter, ifs, 0⟩] sc pos) 0 it acc { cenv with scope := relabel sc env }) (RR acc cenv.locals) s₄) E s₃) E s₂) E s := by
  obtain ⟨rfl, hnew⟩ := it_new (A := A) R hv e1
  have hall : ∀ y ∈ sc.names, kindFine rs x y = true := by
    have : ((sc.names.lookup x = some .local ∧ x ≠ dbg) ∧ x ≠ "__classdict__") ∧ ∀ y ∈ sc.names, kindFine rs x y = true ∧ sc.names.lookup y.1 = some y.2 := by
      simpa [compNames, List.all_eq_true] using hn
    exact fun y hy => (this.2 y hy).1
  have hcell : ∀ y ∈ sc.names, y.2 ≠ .cell := by
    intro y hy e
    have := hall y hy
    unfold kindFine at this
    rw [e] at this; cases this
  refine hnew _ _ fun I h₁ hI hext₁ hit₁ => ?_
  refine wpAny_newObj_type (wpAny_newFunctionEnv hcell (by intro y hy; simp at hy) (fun h₃ hns₃ hsb₃ => ?_) hsk)
  dsimp only at hns₃ hsb₃ ⊢
  generalize hH2 : h₁.push { cls := .type "list", dict := none, data := .seq ([] : List Value).toArray } = H2 at hns₃ hsb₃ ⊢
  have hsz2 : H2.objs.size = h₁.objs.size + 1 := by rw [← hH2, Heap.size_push]
  have hIlt : I < h₁.objs.size := by obtain ⟨o, ho⟩ := hit₁.obj; exact Heap.lt_size ho
  have R₁ := R.ext (tk := s.toks) hext₁
  have aI : Apart X ι I := R.apart hI
  have fr : ∀ {b : Addr}, h₁.objs.size ≤ b → s.heap.get? b = none := by
    intro b hb
    cases e : s.heap.get? b with
    | none => rfl
    | some o => exact absurd (Heap.lt_size (hext₁ _ _ e)) (Nat.not_lt.mpr hb)
  have aD : Apart X ι h₁.objs.size := R.apart (fr (Nat.le_refl _))
  have aC : Apart X ι H2.objs.size := R.apart (fr (by omega))
  have hDC : h₁.objs.size ≠ H2.objs.size := by omega
  have hID : I ≠ h₁.objs.size := Nat.ne_of_lt hIlt
  have hIC : I ≠ H2.objs.size := Nat.ne_of_lt (by rw [hsz2]; exact Nat.lt_succ_of_lt hIlt)
  have old : ∀ b o, h₁.get? b = some o → h₃.get? b = some o := fun b o e => hsb₃.extBut b o (Nat.ne_of_lt (by rw [hsz2]; exact Nat.lt_succ_of_lt (Heap.lt_size e))) (Heap.get?_push_of_some _ (hH2 ▸ Heap.get?_push_of_some _ e))
  have hD : h₃.get? h₁.objs.size = some { cls := .type "list", data := .seq #[] } := hsb₃.extBut _ _ hDC (Heap.get?_push_of_some _ (hH2 ▸ Heap.get?_push_size _ rfl))
  have R₃ := R.ext (h' := h₃) (tk := s.toks + ([] : List (Str × Value)).length) fun b o e => old b o (hext₁ b o e)
  have loop : codeAny (model prog w) A (.compLoop (.ListComp elt [⟨.Name x px, iter, ifs, 0⟩] sc pos) 0 (.ref I) (.ref h₁.objs.size) (compEnvC sc (clOf env sc.names []) H2.objs.size env)) (RR (.ref h₁.objs.size) H2.objs.size) { s with heap := h₃, toks := s.toks + ([] : List (Str × Value)).length } :=
    comp_loop (ι := ι) G EO hel hifs hsk hn hk hsz hID hIC hDC (fun ι' s' p R' aC' hns => hR _ _ ι' s' p R' aC' hns) e2 R₃ (hit₁.at (Pre.refl ι) fun o e => old I o e) aI aD aC hD hns₃
  refine codeAny_compStart_list loop ?_
  have hit₃ : ItH ι q a n 0 I h₃ := hit₁.at (Pre.refl ι) fun o e => old I o e
  cases q with
  | list => obtain ⟨i, c, rfl, hc, hit⟩ := hit₃; exact wpAny_pyIter_listiter hit loop
  | tuple => obtain ⟨i, c, rfl, hc, hit⟩ := hit₃; exact wpAny_pyIter_tupleiter hit loop
  | range y => exact wpAny_pyIter_rangeiter hit₃ loop

theorem folded_plain (hn : notStar e = true) (x : Value) : foldedSetIterable e env x = pure x := by
  cases e with
  | Set _ _ _ => cases hn
  | _ => rfl

theorem comp_facts {sc : Scope} {x : Str} (EO : EnvOk K X env rs k) (hn : compNames rs sc.names x = true) :
    closureFor sc env = pure (clOf env sc.names []) ∧ (∀ y ∈ sc.names, y.2 = .local → sc.names.lookup y.1 = some .local) ∧ (∀ y ∈ sc.names, kindFine rs x y = true) := by
  have h : ((sc.names.lookup x = some .local ∧ x ≠ dbg) ∧ x ≠ "__classdict__") ∧ ∀ y ∈ sc.names, kindFine rs x y = true ∧ sc.names.lookup y.1 = some y.2 := by
    simpa [compNames, List.all_eq_true] using hn
  refine ⟨closureFor_of fun y hy hf => ?_, fun y hy hl => by rw [← hl]; exact (h.2 y hy).2, fun y hy => (h.2 y hy).1⟩
  have hc := (h.2 y hy).1
  unfold kindFine at hc
  rw [hf] at hc
  obtain ⟨_, _, _, i, c, _, h5, _⟩ := EO.cel y.1 hc
  exact ⟨c, h5⟩

theorem s_comp {elt iter : Expr} {x : Str} {px : Pos} {ifs : List Expr} {sc : Scope} {pos : Pos} {aelt aiter : AE} {aifs : List AE}
    (hit : S2 prog w K hb A P C rs k iter aiter) (hel : S2 prog w K hb A P C (rsComp rs sc.names x k) (k + 1) elt aelt) (hifs : SL prog w K hb A P C (rsComp rs sc.names x k) (k + 1) ifs aifs)
    (hsk : sc.kind = .function) (hn : compNames rs sc.names x = true) (hk : k < rs.N) (hst : notStar iter = true) :
    S2 prog w K hb A P C rs k (.ListComp elt [⟨.Name x px, iter, ifs, 0⟩] sc pos) (.comp k aelt aiter aifs) := by
  refine ⟨fun X env ι st s G EO R r st' ee Q E kk => ?_, fun X env ι st s G EO R => SimAt.fail, .calm rfl⟩
  refine bnd_elim ee fun a st₁ g1 g2 => ?_
  obtain ⟨⟨q, n⟩, st₂, g3, g4⟩ := bnd_some g2
  refine bnd_elim g4 fun _ st₃ g5 g6 => ?_
  obtain ⟨h5, rfl⟩ := guard_some g5
  refine bnd_elim g6 fun xs st₄ g7 g8 => ?_
  obtain ⟨rfl, rfl⟩ := alloc_some g8
  obtain ⟨f1, f2, f3⟩ := comp_facts EO hn
  rw [eval_ListComp]
  refine wpAny_comprehension_free (use := none) rfl (folded_plain hst) f1 hsk f2 (hit.1 X env ι st s G EO R a st₁ g1 _ _ fun ι₁ s₁ v p₁ R₁ hv => ?_)
  refine comp_core G EO hel hifs hsk hn hk (of_decide_eq_true h5) R₁ hv g3 g7 fun D Cc ι₂ s₂ p₂ R₂ aC ⟨m, hm⟩ => ⟨m, hm, fun h' hs' => ?_⟩
  have p₃ := Pre.snoc ι₂ D
  refine kk (ι₂ ++ [D]) _ _ ((p₁.trans p₂).trans p₃) (R₂.aside (tk := s₂.toks) (h' := h') aC fun c o hc e => hs'.extBut c o hc e) (.obj ?_)
  have hlen : (ι₂ ++ [D]).length = (st₄.σ ++ [AO.list xs]).length := R₂.len
  simp at hlen
  rw [← hlen]; simp
end
end Mine
namespace Mine
open PySem PySem.W PyProof.Rows

section
variable {prog : Program} {w : World} {A : Around} {X : Cx} {ι : List Addr} {st : ASt} {s : Shared} {v : Value} {K : Frag} {hb : Heap} {env : Env} {M : Model} {l outer : List Env} {e : Nat} {x c : Addr} {a0 fl : Value} {oe : Obj} {E : Value → Shared → Prop} {Q : Unit → Shared → Prop}

/-- the frames of the stack, as they lie -/
noncomputable def Stk (X : Cx) (h : Heap) (l : List Env) : Prop := ∀ f ∈ l, f.scope.kind ≠ .module ∧ ∃ L o, f.frame = some L ∧ (L = X.L ∨ L ∈ X.fr) ∧ h.get? L = some o ∧ ∀ vs, o.data ≠ .fields vs
theorem Rel.stk (R : Rel prog w X ι st s) (ok : CxOk X) (h : ∀ f ∈ l, f.scope.kind ≠ .module ∧ ∃ L, f.frame = some L ∧ (L = X.L ∨ L ∈ X.fr)) : Stk X s.heap l := by
  intro f hf
  obtain ⟨hk, L, hL, hq⟩ := h f hf
  refine ⟨hk, L, ?_⟩
  rcases hq with rfl | hq
  · obtain ⟨m, ⟨o, es, ep, ho, hd, _⟩, _⟩ := R.ns
    exact ⟨o, hL, .inl rfl, ho, fun vs q => by rw [hd] at q; cases q⟩
  · obtain ⟨o, hk, hn⟩ := ok.frk L hq
    obtain ⟨o', h1, h2⟩ := (R.frozen L o hk).data
    exact ⟨o', hL, .inr hq, h1, fun vs q => hn vs (h2 ▸ q)⟩
theorem Stk.frames {base h : Heap} : ∀ {l : List Env}, Stk X h l → (∀ f ∈ l, ∀ L, f.frame = some L → base.get? L = none) → h.FunFrames base l
  | [], _, _ => trivial
  | f :: r, S, hb => by
    obtain ⟨hk, L, o, hL, _, ho, hn⟩ := S f (.head _)
    exact ⟨hk, ⟨L, o, hL, hb f (.head _) L hL, ho, hn⟩, Stk.frames (fun g hg => S g (.tail _ hg)) fun g hg => hb g (.tail _ hg)⟩
/-- what a note on the exception does to the heap keeps all -/
theorem Rel.after (R : Rel prog w X ι st s) (ok : CxOk X) (S : Stk X s.heap l) (hx : ι[e]? = some x) (hs : st.σ[e]? = some (.exc c)) (ho : s.heap.get? x = some oe) {hid : List Addr} (Ts : ∀ b ∈ hid, (∃ f ∈ l, f.frame = some b) ∨ b = x ∨ Apart X ι b) {h' : Heap}
    (n1 : (hideAll s.heap hid).StaysIn h') (n2 : h'.FunFrames (hideAll s.heap hid) l) (n3 : h'.TracedAtW (hideAll s.heap hid) x oe.cls a0 fl) (n4 : s.heap.UpToSlots h') : Rel prog w X ι st { s with heap := h' } ∧ Tr X ι st.σ e fl h' (.ref x) := by
  have keepb : ∀ b o, b ∉ hid → s.heap.get? b = some o → h'.get? b = some o := fun b o nb hb => n1 b o (hideAll_get _ hb nb)
  have hkx : X.Kp x = none := (R.free e x _ hx hs).1 rfl
  have fr : ∀ {b : Addr}, (∃ f ∈ l, f.frame = some b) → b = X.L ∨ b ∈ X.fr := fun ⟨f, hf, hb⟩ => by
    obtain ⟨_, L, _, hL, hq, _⟩ := S f hf
    rw [hb] at hL; cases hL; exact hq
  obtain ⟨oe', vs', T', oT', ts', g1, ⟨g2, g3⟩, g4, g5, g6, g7, g8, g9, g10⟩ := n3
  constructor
  · refine ⟨fun b o q => ?_, ?_, R.len, R.nodup, R.free, ?_, ?_, R.comps, R.rlen, by rw [R.shape]⟩
    · obtain ⟨o', h1, h2⟩ := R.frozen b o q
      by_cases hm : b ∈ hid
      · rcases Ts b hm with hf | rfl | ap
        · rcases fr hf with rfl | hf
          · rw [ok.kL] at q; cases q
          · obtain ⟨o2, k1, k2⟩ := ok.frk b hf
            rw [q] at k1; cases k1
            obtain ⟨sl, h3⟩ := n4 b o' h1 (fun vs z => by
              rcases h2 with rfl | ⟨_, sl, rfl⟩
              · exact k2 vs z
              · exact k2 vs z)
            refine ⟨_, h3, .inr ⟨hf, sl, ?_⟩⟩
            rcases h2 with rfl | ⟨_, sl', rfl⟩
            · rfl
            · rfl
        · rw [hkx] at q; cases q
        · rw [ap.kp] at q; cases q
      · exact ⟨o', keepb b o' hm h1, h2⟩
    · obtain ⟨m, hm, hv⟩ := R.ns
      exact ⟨m, n4.ns hm, hv⟩
    · intro i ao hi
      obtain ⟨a', ob, h1, h2, h3⟩ := R.objs i ao hi
      by_cases hm : a' ∈ hid
      · rcases Ts a' hm with hf | rfl | ap
        · obtain ⟨f1, f2, f3⟩ := R.free i a' ao h1 hi
          rcases fr hf with rfl | hf
          · exact absurd rfl f2
          · cases q : isRo ao with
            | false => obtain ⟨o2, k1, _⟩ := ok.frk a' hf; rw [f1 q] at k1; cases k1
            | true => exact absurd hf (ok.rof a' (f3 q))
        · have := nodup_idx R.nodup h1 hx
          subst this
          rw [hs] at hi; cases hi
          rw [ho] at h2; cases h2
          exact ⟨a', oe', hx, g1, g2.trans h3.1, vs', g4⟩
        · exact absurd (Rel.mem h1) ap.nin
      · exact ⟨a', ob, h1, keepb _ _ hm h2, h3⟩
    · intro i d hd
      obtain ⟨h1, ob, u, h2, h3, h4⟩ := R.cells i d hd
      refine ⟨h1, ob, u, keepb _ _ (fun hm => ?_) h2, h3, h4⟩
      obtain ⟨k1, k2⟩ := ok.kc i d hd
      rcases Ts d hm with hf | rfl | ap
      · rcases fr hf with rfl | hf
        · exact k2 rfl
        · obtain ⟨o2, k3, _⟩ := ok.frk d hf; rw [k1] at k3; cases k3
      · exact h1 (Rel.mem hx)
      · exact ap.nc i d hd rfl
  · refine .mk hx hs g1 g4 g3 g5 g7 ?_ g8 g9 g10
    cases q : s.heap.get? T' with
    | none => exact R.apart q
    | some o =>
      by_cases hm : T' ∈ hid
      · rcases Ts T' hm with ⟨f, hf, hq⟩ | hq | ap
        · obtain ⟨_, o2, k1, k2⟩ := n2.mem (List.mem_filterMap.mpr ⟨f, hf, hq⟩)
          rw [g8] at k1; cases k1
          exact absurd g9 (k2 _)
        · exact absurd hq g7
        · exact ap
      · rw [hideAll_get _ q hm] at g6; cases g6
/-- out of a call -/
theorem leave_ (R : Rel prog w X ι st s) (ok : CxOk X) (hfr : A.frames = some (env :: outer)) (S : Stk X s.heap (env :: outer)) (hf : env.frame = some X.L) (F : Fly X ι st.σ e s.heap v)
    (h : ∀ s', Rel prog w X ι st s' → Tr X ι st.σ e .none s'.heap v → Q () s') : wpAny M A (leaving env v) Q E s := by
  have inF : ∀ (r : List Addr), ∀ f ∈ env :: outer, ∀ L, f.frame = some L → (hideAll s.heap ((env :: outer).filterMap (·.frame) ++ r)).get? L = none := fun r f hf L hL => hideAll_none _ (List.mem_append.mpr (.inl (List.mem_filterMap.mpr ⟨f, hf, hL⟩)))
  cases F with
  | @new x c oe vs a0 hx hs ho hd h0 h1 =>
    refine wpAny_leaving_firstW hfr (S.frames (inF [x])) hf ho (fun b o q => of_hideAll _ q) (hideAll_none _ (List.mem_append.mpr (.inr (.head _)))) hd h1 h0 fun h' k => ?_
    obtain ⟨k1, k2, k3, k4⟩ := k
    obtain ⟨R', T⟩ := R.after ok S hx hs ho (fun b hb => (List.mem_append.mp hb).elim (fun hb => let ⟨f, hf, q⟩ := List.mem_filterMap.mp hb; .inl ⟨f, hf, q⟩) fun hb => .inr (.inl (List.mem_singleton.mp hb))) k1 k2 k3 k4
    exact h _ R' T
  | on t =>
    cases t with
    | @mk x c oe vs a0 T oT ts hx hs ho hd h0 h1 hT ap hoT hdT h3 =>
    refine wpAny_leaving_nextW (cls := oe.cls) (a0 := a0) hfr (S.frames (inF [x, T])) hf ⟨oe, vs, T, oT, ts, ho, ⟨rfl, h0⟩, hd, h1, hideAll_none _ (List.mem_append.mpr (.inr (.tail _ (.head _)))), hT, hoT, hdT, h3⟩ (fun b o q => of_hideAll _ q) (hideAll_none _ (List.mem_append.mpr (.inr (.head _)))) fun h' k => ?_
    obtain ⟨k1, k2, k3, k4⟩ := k
    obtain ⟨R', T⟩ := R.after ok S hx hs ho (fun b hb => (List.mem_append.mp hb).elim (fun hb => let ⟨f, hf, q⟩ := List.mem_filterMap.mp hb; .inl ⟨f, hf, q⟩) fun hb => (List.mem_cons.mp hb).elim (fun q => .inr (.inl q)) fun hb => .inr (.inr (List.mem_singleton.mp hb ▸ ap))) k1 k2 k3 k4
    exact h _ R' T
end
end Mine
namespace Mine
open PySem PySem.W PyProof.Rows

noncomputable def FR (ι : List Addr) (f : Flow) (af : AF) : Prop := match af with
  | .next => f = .next
  | .ret a => ∃ v, f = .ret v ∧ VRel ι v a

/-- the block of a whole def -/
structure SEnv (A : Around) (X : Cx) (env : Env) : Prop where
  L : env.locals = X.L
  nf : ∀ x, env.kindOf x ≠ some .free
  frame : env.frame = some X.L
  stack : ∃ outer, A.frames = some (env :: outer)

section
variable {prog : Program} {w : World} {A : Around} {X : Cx} {ι : List Addr} {st : ASt} {s : Shared} {v u : Value} {a b : AV} {K : Frag} {hb : Heap} {env : Env} {rs : Rsv} {k : Nat}
  {P : AProg} {C : Calls} {e e₁ e₂ : Expr} {ae ae₁ ae₂ : AE} {es : List Expr} {aes : List AE}

theorem Rel.setLocal (R : Rel prog w X ι st s) (ok : CxOk X) {i : Nat} {x : Str} (hl : X.locs[i]? = some (Loc.loc x)) (hv : VRel ι v a) {m : Str → Option Value} (hm : s.heap.Ns X.L m)
    (hmv : ∀ (j : Nat) (y : Str) (b : AV), X.locs[j]? = some (Loc.loc y) → st.ρ[j]? = some (some b) → ∃ v, m y = some v ∧ VRel ι v b) {h' : Heap} {tk : Nat}
    (hn : h'.Ns X.L (fun y => if y = x then some v else m y)) (hext : ∀ c o, c ≠ X.L → s.heap.get? c = some o → h'.get? c = some o) : Rel prog w X ι ⟨st.σ, st.ρ.set i (some a)⟩ { s with heap := h', toks := tk } := by
  have hi : i < st.ρ.length := by rw [R.rlen]; exact (List.getElem?_eq_some_iff.mp hl).1
  have ne : ∀ {j : Nat} {l : Loc}, X.locs[j]? = some l → l ≠ Loc.loc x → (st.ρ.set i (some a))[j]? = st.ρ[j]? := by
    intro j l h1 h2
    rw [List.getElem?_set_ne]
    rintro rfl
    rw [hl] at h1; cases h1; exact h2 rfl
  refine ⟨fun b o e => (R.frozen b o e).ext fun o' => hext b o' fun q => (by subst q; rw [ok.kL] at e; cases e), ⟨_, hn, fun j y b h1 h2 => ?_⟩, R.len, R.nodup, R.free, ?_, ?_, ?_, by simp [R.rlen], by rw [R.shape]⟩
  · by_cases q : y = x
    · subst q
      have := ok.inj j i y h1 hl
      subst this
      have h2 : (st.ρ.set j (some a))[j]? = some (some b) := h2
      rw [List.getElem?_set_self hi] at h2
      cases h2
      exact ⟨v, by simp, hv⟩
    · have h2 : (st.ρ.set i (some a))[j]? = some (some b) := h2
      rw [ne h1 (fun h => q (by cases h; rfl))] at h2
      obtain ⟨v', e1, e2⟩ := hmv j y b h1 h2
      exact ⟨v', by simp [q, e1], e2⟩
  · intro j b e
    obtain ⟨a', ob, h1, h2, h3⟩ := R.objs j b e
    exact ⟨a', ob, h1, hext _ _ ((R.free j a' b h1 e).2.1) h2, h3⟩
  · intro j c hc
    obtain ⟨h1, ob, v', h2, h3, h4⟩ := R.cells j c hc
    refine ⟨h1, ob, v', hext _ _ (ok.kc j c hc).2 h2, h3, fun b hb => h4 b ?_⟩
    have hb : (st.ρ.set i (some a))[j]? = some (some b) := hb
    rw [ne hc (by simp)] at hb; exact hb
  · intro j D y hc b hb
    have hb : (st.ρ.set i (some a))[j]? = some (some b) := hb
    rw [ne hc (by simp)] at hb
    exact R.comps j D y hc b hb

theorem Rel.setCell (R : Rel prog w X ι st s) (ok : CxOk X) {i : Nat} {c : Addr} (hl : X.locs[i]? = some (Loc.cell c)) (hv : VRel ι v a) {h' : Heap} {tk : Nat}
    (hn : h'.IsCell c (some v)) (hext : ∀ d o, d ≠ c → s.heap.get? d = some o → h'.get? d = some o) : Rel prog w X ι ⟨st.σ, st.ρ.set i (some a)⟩ { s with heap := h', toks := tk } := by
  have hi : i < st.ρ.length := by rw [R.rlen]; exact (List.getElem?_eq_some_iff.mp hl).1
  have ne : ∀ {j : Nat} {l : Loc}, X.locs[j]? = some l → l ≠ Loc.cell c → (st.ρ.set i (some a))[j]? = st.ρ[j]? := by
    intro j l h1 h2
    rw [List.getElem?_set_ne]
    rintro rfl
    rw [hl] at h1; cases h1; exact h2 rfl
  have hc0 := R.cells i c hl
  refine ⟨fun b o e => (R.frozen b o e).ext fun o' => hext b o' fun q => (by subst q; rw [(ok.kc i b hl).1] at e; cases e), ?_, R.len, R.nodup, R.free, ?_, ?_, ?_, by simp [R.rlen], by rw [R.shape]⟩
  · obtain ⟨m, hm, hmv⟩ := R.ns
    refine ⟨m, hm.at' fun o e => hext _ o (Ne.symm (ok.kc i c hl).2) e, fun j y b h1 h2 => hmv j y b h1 ?_⟩
    have h2 : (st.ρ.set i (some a))[j]? = some (some b) := h2
    rw [ne h1 (by simp)] at h2; exact h2
  · intro j b e
    obtain ⟨a', ob, h1, h2, h3⟩ := R.objs j b e
    exact ⟨a', ob, h1, hext _ _ (fun q => hc0.1 (q ▸ Rel.mem h1)) h2, h3⟩
  · intro j d hd
    by_cases q : d = c
    · subst q
      have := ok.cinj j i d hd hl
      subst this
      obtain ⟨o, ho, hdat⟩ := hn
      refine ⟨hc0.1, o, some v, ho, hdat, fun b hb => ?_⟩
      have hb : (st.ρ.set j (some a))[j]? = some (some b) := hb
      rw [List.getElem?_set_self hi] at hb
      cases hb
      exact ⟨v, rfl, hv⟩
    · obtain ⟨h1, ob, v', h2, h3, h4⟩ := R.cells j d hd
      refine ⟨h1, ob, v', hext _ _ q h2, h3, fun b hb => h4 b ?_⟩
      have hb : (st.ρ.set i (some a))[j]? = some (some b) := hb
      rw [ne hd (fun h => q (by cases h; rfl))] at hb; exact hb
  · intro j D y hc b hb
    have hb : (st.ρ.set i (some a))[j]? = some (some b) := hb
    rw [ne hc (by simp)] at hb
    exact R.comps j D y hc b hb

theorem st_slot (ok : CxOk X) (EO : EnvOk K X env rs k) (hL0 : env.locals = X.L) (hnf : ∀ x, env.kindOf x ≠ some .free) (R : Rel prog w X ι st s) {x : Str} {i : Nat} (hx : rs.slot x = some i) (hv : VRel ι v a) :
    SimAt prog w A X ι st s (storeName env x v) (setLoc i a) UR := by
  intro r st' e Q E kk
  have := setLoc_some e
  subst this
  obtain ⟨hd, hcd, hs⟩ := EO.slots x i hx
  rcases hs with ⟨hk, hl⟩ | ⟨hk, c, hc, hl⟩
  · rcases hl with ⟨hl, hL⟩ | hl
    · obtain ⟨m, hm, hmv⟩ := R.ns
      refine wpAny_storeName_local hk (hL ▸ hm) (fun h' hn hs => kk ι _ _ (Pre.refl ι) (R.setLocal ok hl hv hm hmv (hL ▸ hn) fun c o hc e => hs.extBut c o (hL ▸ hc) e) trivial) (by simp [EO.kind])
    · obtain ⟨o, ho⟩ := ok.ats i _ x hl
      rw [hL0, ok.kL] at ho; cases ho
  · obtain ⟨_, o, v', h1, h2, h3⟩ := R.cells i c hl
    rcases hk with hk | hk
    · exact wpAny_storeName_cell EO.kind hk hc ⟨o, h1, h2⟩ fun h' hn hs => kk ι _ _ (Pre.refl ι) (R.setCell (tk := s.toks) ok hl hv hn fun d o hd e => hs.extBut d o hd e) trivial
    · exact absurd hk (hnf x)

theorem axval_ok {st st' : ASt} {r : AV} (h : axval P C ae st = some (.ok r, st')) : aeval P C ae st = some (.ok r, st') := by
  cases ae with
  | call f args =>
    refine bnd_elim h fun as st₁ g1 g2 => ?_
    show bnd _ _ st = _
    unfold bnd
    rw [noerr_ok g1]; exact g2
  | own o c f name args =>
    refine bnd_elim h fun a st₁ g1 g2 => ?_
    refine bnd_elim g2 fun _ st₂ g3 g4 => ?_
    refine bnd_elim g4 fun as st₃ g5 g6 => ?_
    show bnd _ _ st = _
    unfold bnd
    rw [noerr_ok g1]
    dsimp only
    rw [noerr_ok g3]
    dsimp only
    rw [noerr_ok g5]; exact g6
  | _ => exact noerr_ok h
/-- statements -/
noncomputable def SO (prog : Program) (w : World) (K : Frag) (hb : Heap) (A : Around) (P : AProg) (C : Calls) (rs : Rsv) (k : Nat) (t : Stmt) (at' : AS) : Prop :=
  ∀ X env ι st s, Gr K hb A X → EnvOk K X env rs k → SEnv A X env → Rel prog w X ι st s → SimAt prog w A X ι st s (exec t env) (aexec P C at') FR
noncomputable def SOs (prog : Program) (w : World) (K : Frag) (hb : Heap) (A : Around) (P : AProg) (C : Calls) (rs : Rsv) (k : Nat) (ts : List Stmt) (ats : List AS) : Prop :=
  ∀ X env ι st s, Gr K hb A X → EnvOk K X env rs k → SEnv A X env → Rel prog w X ι st s → SimAt prog w A X ι st s (execs ts env) (aexecs P C ats) FR

theorem ss_nil : SOs prog w K hb A P C rs k [] [] := by
  intro X env ι st s G EO SV R r st' e Q E kk
  obtain ⟨rfl, rfl⟩ := ret_some e
  exact wpAny_execs_nil (kk ι s _ (Pre.refl ι) R rfl)
theorem ss_cons {t : Stmt} {at' : AS} {ts : List Stmt} {ats : List AS} (h₁ : SO prog w K hb A P C rs k t at') (h₂ : SOs prog w K hb A P C rs k ts ats) : SOs prog w K hb A P C rs k (t :: ts) (at' :: ats) := by
  intro X env ι st s G EO SV R r st' e Q E kk
  refine bnd_elim e fun f st₁ g1 g2 => ?_
  refine wpAny_execs_cons (h₁ X env ι st s G EO SV R f st₁ g1 _ _ fun ι₁ s₁ fv p₁ R₁ hf => ?_)
  cases f with
  | next =>
    have hf : fv = .next := hf
    subst hf
    exact h₂ X env ι₁ st₁ s₁ G EO SV R₁ r st' g2 Q E fun ι₂ s₂ y p₂ R₂ hy => kk ι₂ s₂ y (p₁.trans p₂) R₂ hy
  | ret a =>
    obtain ⟨rfl, rfl⟩ := ret_some g2
    obtain ⟨v, rfl, hv⟩ := hf
    exact kk ι₁ s₁ _ p₁ R₁ ⟨v, rfl, hv⟩

theorem ss_pass {pos : Pos} : SO prog w K hb A P C rs k (.Pass pos) .pass := by
  intro X env ι st s G EO SV R r st' e Q E kk
  obtain ⟨rfl, rfl⟩ := ret_some e
  exact wpAny_Pass (kk ι s _ (Pre.refl ι) R rfl)
theorem no_inter (EO : EnvOk K X env rs k) : interactive env = false := by unfold interactive; rw [EO.kind]; rfl
theorem no_swap {t : Option Expr} {n : Nat} (h : isComp e = false) : swapsWith e t n env = pure false := by
  cases e <;> first | rfl | cases h

theorem ss_expr {pos : Pos} (hc : isComp e = false) (h : S2 prog w K hb A P C rs k e ae) : SO prog w K hb A P C rs k (.Expr e pos) (.expr ae) := by
  intro X env ι st s G EO SV R r st' ee Q E kk
  refine bnd_elim ee fun a st₁ g1 g2 => ?_
  obtain ⟨rfl, rfl⟩ := ret_some g2
  exact wpAny_Expr_any (h.1 X env ι st s G EO R a _ (axval_ok g1) _ _ fun ι₁ s₁ v p₁ R₁ hv => kk ι₁ s₁ _ p₁ R₁ rfl) (no_inter EO) (no_swap hc)
theorem ss_ret {pos : Pos} (h : S2 prog w K hb A P C rs k e ae) : SO prog w K hb A P C rs k (.Return (some e) pos) (.ret ae) := by
  intro X env ι st s G EO SV R r st' ee Q E kk
  refine bnd_elim ee fun a st₁ g1 g2 => ?_
  obtain ⟨rfl, rfl⟩ := ret_some g2
  exact wpAny_Return_some (h.1 X env ι st s G EO R a _ (axval_ok g1) _ _ fun ι₁ s₁ v p₁ R₁ hv => kk ι₁ s₁ _ p₁ R₁ ⟨v, rfl, hv⟩)
theorem ss_ret0 {pos : Pos} : SO prog w K hb A P C rs k (.Return none pos) (.ret (.cst .none)) := by
  intro X env ι st s G EO SV R r st' ee Q E kk
  have ee : bnd (noerr (aeval P C (.cst .none))) (fun v => ret (.ret v)) st = some (.ok r, st') := ee
  refine bnd_elim ee fun a st₁ g1 g2 => ?_
  obtain ⟨rfl, rfl⟩ := ret_some (noerr_ok g1)
  obtain ⟨rfl, rfl⟩ := ret_some g2
  exact wpAny_Return_none (kk ι s _ (Pre.refl ι) R ⟨_, rfl, .none⟩)
theorem ss_if {pos : Pos} {ts os : List Stmt} {ats aos : List AS} (h : S2 prog w K hb A P C rs k e ae) (h₁ : SOs prog w K hb A P C rs k ts ats) (h₂ : SOs prog w K hb A P C rs k os aos) : SO prog w K hb A P C rs k (.If e ts os pos) (.ite ae ats aos) := by
  intro X env ι st s G EO SV R r st' ee Q E kk
  refine bnd_elim ee fun b st₁ g1 g2 => ?_
  refine wpAny_If (h.2 X env ι st s G EO R b st₁ (noerr_ok g1) _ _ fun ι₁ s₁ t p₁ R₁ ht => ?_)
  subst ht
  cases t with
  | true => exact h₁ X env ι₁ st₁ s₁ G EO SV R₁ r st' (by simpa using g2) Q E fun ι₂ s₂ y p₂ R₂ hy => kk ι₂ s₂ y (p₁.trans p₂) R₂ hy
  | false => exact h₂ X env ι₁ st₁ s₁ G EO SV R₁ r st' (by simpa using g2) Q E fun ι₂ s₂ y p₂ R₂ hy => kk ι₂ s₂ y (p₁.trans p₂) R₂ hy

theorem ss_while {pos : Pos} {ts : List Stmt} {ats : List AS} (h : S2 prog w K hb A P C rs k e ae) (h₁ : SOs prog w K hb A P C rs k ts ats) : SO prog w K hb A P C rs k (.While e ts [] pos) (.loop ae ats) := by
  intro X env ι st s G EO SV R r st' ee Q E kk
  refine wpAny_While (codeAny_whileLoop (fun n s => ∃ ι₁ st₁, Pre ι ι₁ ∧ Rel prog w X ι₁ st₁ s ∧ whileLoop (atest P C ae) (aexecs P C ats) n st₁ = some (.ok r, st')) ?_ 100000 ⟨ι, st, Pre.refl ι, R, noerr_ok ee⟩)
  rintro n s₁ ⟨ι₁, st₁, p₁, R₁, g⟩
  cases n with
  | zero => first | exact no_some g | cases g
  | succ n =>
    refine bnd_elim g fun b st₂ g1 g2 => ?_
    refine h.2 X env ι₁ st₁ s₁ G EO R₁ b st₂ g1 _ _ fun ι₂ s₂ t p₂ R₂ ht => ?_
    subst ht
    cases t with
    | false =>
      have g2 : ret AF.next st₂ = some (.ok r, st') := by simpa using g2
      obtain ⟨rfl, rfl⟩ := ret_some g2
      exact wpAny_execs_nil (kk ι₂ s₂ _ (p₁.trans p₂) R₂ rfl)
    | true =>
      rw [if_pos rfl] at g2
      refine bnd_elim g2 fun f st₃ g3 g4 => ?_
      refine h₁ X env ι₂ st₂ s₂ G EO SV R₂ f st₃ g3 _ _ fun ι₃ s₃ fv p₃ R₃ hf => ?_
      cases f with
      | next =>
        have hf : fv = .next := hf
        subst hf
        exact ⟨n, Nat.lt_succ_self _, ι₃, st₃, (p₁.trans p₂).trans p₃, R₃, g4⟩
      | ret a =>
        obtain ⟨rfl, rfl⟩ := ret_some g4
        obtain ⟨v, rfl, hv⟩ := hf
        exact kk ι₃ s₃ _ ((p₁.trans p₂).trans p₃) R₃ ⟨v, rfl, hv⟩

/-- what holds between two turns of a for -/
inductive FInv (prog : Program) (w : World) (X : Cx) (ι : List Addr) (q : IK) (a : AV) (n : Nat) (go : Nat → Nat → M AF) (out : Option (Except Nat AF × ASt)) (I : Addr) (m : Nat) (s : Shared) : Prop
  | mk (ι' : List Addr) (st₁ : ASt) (j : Nat) (hm : m = n - j) (hj : j ≤ n) (p : Pre ι ι') (R : Rel prog w X ι' st₁ s) (e : go (n - j) j st₁ = out) (hit : ItH ι' q a n j I s.heap) (aI : Apart X ι' I) : FInv prog w X ι q a n go out I m s
theorem ss_for {pos px : Pos} {x : Str} {i : Nat} {ts : List Stmt} {ats : List AS} (hx : rs.slot x = some i) (hst : notStar e = true) (h : S2 prog w K hb A P C rs k e ae) (h₁ : SOs prog w K hb A P C rs k ts ats) : SO prog w K hb A P C rs k (.For (.Name x px) e ts [] pos) (.for i ae ats) := by
  intro X env ι st s G EO SV R r st' ee Q E kk
  refine bnd_elim (noerr_ok ee) fun a st₁ g1 g2 => ?_
  obtain ⟨⟨q, n⟩, st₂, g3, g4⟩ := bnd_some g2
  refine bnd_elim g4 fun _ st₃ g5 g6 => ?_
  obtain ⟨h5, rfl⟩ := guard_some g5
  refine wpAny_For (h.1 X env ι st s G EO R a st₁ g1 _ _ fun ι₁ s₁ v p₁ R₁ hv => ?_) (folded_plain hst)
  obtain ⟨rfl, hnew⟩ := it_new (A := A) R₁ hv g3
  refine hnew _ _ fun I h' hI hext hit => ?_
  have aI := R₁.apart hI
  have R₂ := R₁.ext (tk := s₁.toks) hext
  refine codeAny_forLoop (FInv prog w X ι q a n (forLoop q a n i (aexecs P C ats)) (some (.ok r, st')) I) ?_ n ⟨ι₁, _, 0, rfl, Nat.zero_le _, p₁, R₂, g6, hit, aI⟩
  rintro m s₂ ⟨ι₂, st₃, j, rfl, hj, p₂, R₂, e1, hit, aI⟩
  by_cases hjn : j = n
  · subst hjn
    rw [Nat.sub_self] at e1
    refine bnd_elim e1 fun _ st₄ g7 g8 => ?_
    obtain ⟨rfl, hend⟩ := it_end (A := A) G.hh R₂ hit g7
    obtain ⟨rfl, rfl⟩ := ret_some g8
    refine hend _ _ fun h' hext => wpAny_execs_nil ?_
    exact kk ι₂ _ _ p₂ (R₂.aside (tk := s₂.toks) (h' := h') aI hext) rfl
  · have hlt : j < n := by omega
    have hr : n - j = (n - (j + 1)) + 1 := by omega
    rw [hr] at e1
    refine bnd_elim e1 fun y st₄ g7 g8 => ?_
    obtain ⟨rfl, hnext⟩ := it_next (A := A) R₂ hit hlt g7
    refine bnd_elim g8 fun _ st₅ g9 g10 => ?_
    refine bnd_elim g10 fun f st₆ g11 g12 => ?_
    refine hnext _ _ fun v h₁' tk₁ hv hit₁ hext₁ => ?_
    have R₃ := R₂.aside (tk := tk₁) (h' := h₁') aI hext₁
    obtain ⟨oI, hoI⟩ := hit₁.obj
    have hl : ∀ p ∈ [(I, oI)], Apart X ι₂ p.1 ∧ h₁'.get? p.1 = some p.2 := by
      intro p hp
      simp only [List.mem_singleton] at hp
      subst hp
      exact ⟨aI, hoI⟩
    have R₄ := R₃.hold hl
    have G' := G.hold (l := [(I, oI)]) (fun p hp => (hl p hp).1)
    have EO' := EO.hold [(I, oI)]
    have SV' : SEnv A (X.hold [(I, oI)]) env := ⟨SV.L, SV.nf, SV.frame, SV.stack⟩
    have lk : List.lookup I [(I, oI)] = some oI := by rw [List.lookup_cons]; simp
    refine wpAny_assign_Name (st_slot G'.ok EO' SV'.L SV'.nf R₄ hx hv () st₅ g9 _ _ fun ι₅ s₅ _ p₅ R₅ _ => ?_)
    refine h₁ _ env ι₅ st₅ s₅ G' EO' SV' R₅ f st₆ g11 _ _ fun ι₆ s₆ fv p₆ R₆ hf => ?_
    obtain ⟨i1, i2⟩ := R₆.held G.ok lk aI.kp aI.nL aI.nc
    have R₇ := R₆.letgo G.ok (fun p hp => by simp only [List.mem_singleton] at hp; subst hp; exact ⟨aI.kp, aI.nL⟩)
    have hit₆ : ItH ι₆ q a n (j + 1) I s₆.heap := hit₁.at (p₅.trans p₆) fun o e => by rw [hoI] at e; cases e; exact i2
    cases f with
    | next =>
      have hf : fv = .next := hf
      subst hf
      exact ⟨n - (j + 1), by omega, ι₆, st₆, j + 1, rfl, hlt, (p₂.trans p₅).trans p₆, R₇, g12, hit₆, i1⟩
    | ret a =>
      obtain ⟨rfl, rfl⟩ := ret_some g12
      obtain ⟨v, rfl, hv⟩ := hf
      exact kk ι₆ s₆ _ ((p₂.trans p₅).trans p₆) R₇ ⟨v, rfl, hv⟩

theorem no_swapped {t : Expr} (h : ∀ ts a b, t ≠ .Tuple ts a b) (h' : ∀ ts a, t ≠ .List ts a) : swappedStores [t] e env = pure none := by
  unfold swappedStores
  cases t <;> first | rfl | exact absurd rfl (h _ _ _) | exact absurd rfl (h' _ _)

theorem ss_assign_name {pos px : Pos} {x : Str} {i : Nat} (hx : rs.slot x = some i) (hc : isComp e = false) (h : S2 prog w K hb A P C rs k e ae) : SO prog w K hb A P C rs k (.Assign [.Name x px] e pos) (.assign (.loc i) ae) := by
  intro X env ι st s G EO SV R r st' ee Q E kk
  refine bnd_elim ee fun a st₁ g1 g2 => ?_
  refine bnd_elim (noerr_ok g2) fun _ st₂ g3 g4 => ?_
  obtain ⟨rfl, rfl⟩ := ret_some g4
  refine wpAny_Assign_Name (h.1 X env ι st s G EO R a st₁ (axval_ok g1) _ _ fun ι₁ s₁ v p₁ R₁ hv => ?_) (no_swap hc)
  exact st_slot G.ok EO SV.L SV.nf R₁ hx hv () _ g3 _ _ fun ι₂ s₂ _ p₂ R₂ _ => kk ι₂ s₂ _ (p₁.trans p₂) R₂ rfl

theorem assign_one {t : Expr} {pos : Pos} {Q : Flow → Shared → Prop} {E : Value → Shared → Prop} (h1 : swapsWith e (some t) pos.line env = pure false) (h2 : swappedStores [t] e env = pure none) (h3 : (assignEach [t] env).map (·.2) = [assign t env])
    (h : wpAny (model prog w) A (eval e env) (fun v s₁ => wpAny (model prog w) A (assign t env v) (fun _ => Q .next) E s₁) E s) : wpAny (model prog w) A (exec (.Assign [t] e pos) env) Q E s := by
  refine wpAny_Assign_stores (wpAny_mono h (fun v s₁ h₁ => ?_) fun _ _ x => x) h1 h2
  rw [h3]; exact h₁

theorem swap_other {t : Expr} {n : Nat} (ht : ∀ x p, t ≠ .Name x p) : swapsWith e (some t) n env = pure false := by
  cases e <;> first | rfl | (cases t <;> first | rfl | exact absurd rfl (ht _ _))

theorem ss_assign_attr {pos pa : Pos} {o : Expr} {ao : AE} {name : Str} {c : Addr} (ho : S2 prog w K hb A P C rs k o ao) (ok : AttrOk K c name) (h : S2 prog w K hb A P C rs k e ae) : SO prog w K hb A P C rs k (.Assign [.Attribute o name pa] e pos) (.assign (.attr ao c name) ae) := by
  intro X env ι st s G EO SV R r st' ee Q E kk
  refine bnd_elim ee fun a st₁ g1 g2 => ?_
  refine bnd_elim (noerr_ok g2) fun _ st₂ g3 g4 => ?_
  obtain ⟨rfl, rfl⟩ := ret_some g4
  refine bnd_elim g3 fun b st₃ g5 g6 => ?_
  refine assign_one (swap_other (by intros; simp)) (no_swapped (by intros; simp) (by intros; simp)) rfl (h.1 X env ι st s G EO R a st₁ (axval_ok g1) _ _ fun ι₁ s₁ v p₁ R₁ hv => ?_)
  show wpAny _ A (do
    let ov ← holding [v] (eval o env)
    standAt pa.atName
    holding [v, ov] (PySem.setAttr ov name v)
    release [v, ov] []) _ _ s₁
  refine wpAny_bind (wpAny_holding (ho.1 X env ι₁ st₁ s₁ G EO R₁ b st₃ g5 _ _ fun ι₂ s₂ u p₂ R₂ hu => wpAny_bind (wpAny_standAt (wpAny_bind (wpAny_holding ?_)))))
  exact sim_setAttr R₂ (G.inK R₂) ok hu (hv.mono p₂) () _ g6 _ _ fun ι₃ s₃ _ p₃ R₃ _ => wpAny_release (kk ι₃ s₃ _ ((p₁.trans p₂).trans p₃) R₃ rfl)

theorem ss_assign_sub {pos pa : Pos} {o i : Expr} {ao ai : AE} (ho : S2 prog w K hb A P C rs k o ao) (hi : S2 prog w K hb A P C rs k i ai) (h : S2 prog w K hb A P C rs k e ae) : SO prog w K hb A P C rs k (.Assign [.Subscript o i pa] e pos) (.assign (.sub ao ai) ae) := by
  intro X env ι st s G EO SV R r st' ee Q E kk
  refine bnd_elim ee fun a st₁ g1 g2 => ?_
  refine bnd_elim (noerr_ok g2) fun _ st₂ g3 g4 => ?_
  obtain ⟨rfl, rfl⟩ := ret_some g4
  refine bnd_elim g3 fun b st₃ g5 g6 => ?_
  refine bnd_elim g6 fun c st₄ g7 g8 => ?_
  refine wpAny_Assign_Subscript (h.1 X env ι st s G EO R a st₁ (axval_ok g1) _ _ fun ι₁ s₁ v p₁ R₁ hv => ?_) (swap_other (by intros; simp))
  refine ho.1 X env ι₁ st₁ s₁ G EO R₁ b st₃ g5 _ _ fun ι₂ s₂ u p₂ R₂ hu => ?_
  refine hi.1 X env ι₂ st₃ s₂ G EO R₂ c st₄ g7 _ _ fun ι₃ s₃ y p₃ R₃ hy => ?_
  exact sim_setItem R₃ (hu.mono p₃) hy (hv.mono (p₂.trans p₃)) () _ g8 _ _ fun ι₄ s₄ _ p₄ R₄ _ => kk ι₄ s₄ _ (((p₁.trans p₂).trans p₃).trans p₄) R₄ rfl

theorem ss_assign_comp {elt iter : Expr} {x y : Str} {i : Nat} {px py : Pos} {ifs : List Expr} {sc : Scope} {pos spos : Pos} {aelt aiter : AE} {aifs : List AE}
    (hy : rs.slot y = some i) (hit : S2 prog w K hb A P C rs k iter aiter) (hel : S2 prog w K hb A P C (rsComp rs sc.names x k) (k + 1) elt aelt) (hifs : SL prog w K hb A P C (rsComp rs sc.names x k) (k + 1) ifs aifs)
    (hsk : sc.kind = .function) (hn : compNames rs sc.names x = true) (hk : k < rs.N) (hst : notStar iter = true) :
    SO prog w K hb A P C rs k (.Assign [.Name y py] (.ListComp elt [⟨.Name x px, iter, ifs, 0⟩] sc pos) spos) (.assign (.loc i) (.comp k aelt aiter aifs)) := by
  intro X env ι st s G EO SV R r st' ee Q E kk
  have hsw : ∃ b, swapsWith (.ListComp elt [⟨.Name x px, iter, ifs, 0⟩] sc pos) (some (.Name y py)) spos.line env = pure b := ⟨_, rfl⟩
  obtain ⟨bb, hsw⟩ := hsw
  cases bb with
  | false =>
    refine bnd_elim ee fun a st₁ g1 g2 => ?_
    refine bnd_elim (noerr_ok g2) fun _ st₂ g3 g4 => ?_
    obtain ⟨rfl, rfl⟩ := ret_some g4
    refine wpAny_Assign_Name ((s_comp hit hel hifs hsk hn hk hst).1 X env ι st s G EO R a st₁ (axval_ok g1) _ _ fun ι₁ s₁ v p₁ R₁ hv => ?_) hsw
    exact st_slot G.ok EO SV.L SV.nf R₁ hy hv () _ g3 _ _ fun ι₂ s₂ _ p₂ R₂ _ => kk ι₂ s₂ _ (p₁.trans p₂) R₂ rfl
  | true =>
    refine bnd_elim ee fun a' st₁' g1' g2' => ?_
    refine bnd_elim (noerr_ok g2') fun _ st₂' g3' g4' => ?_
    obtain ⟨rfl, rfl⟩ := ret_some g4'
    refine bnd_elim (noerr_ok g1') fun a st₁ g1 g2 => ?_
    obtain ⟨⟨q, n⟩, st₂, g3, g4⟩ := bnd_some g2
    refine bnd_elim g4 fun _ st₃ g5 g6 => ?_
    obtain ⟨h5, rfl⟩ := guard_some g5
    refine bnd_elim g6 fun xs st₄ g7 g8 => ?_
    obtain ⟨rfl, rfl⟩ := alloc_some g8
    obtain ⟨f1, f2, f3⟩ := comp_facts EO hn
    rw [exec_Assign_Name_used _ _ _ _ hsw]
    refine wpAny_bind (wpAny_standAt (wpAny_bind ?_))
    show wpAny _ A (do let _ ← comprehension (.ListComp elt [⟨.Name x px, iter, ifs, 0⟩] sc pos) sc env _ (newList []) false (eval iter env) (some (assign (.Name y py) env))) _ _ s
    refine wpAny_bind (wpAny_mono (wpAny_comprehension_free (use := some (assign (.Name y py) env)) (Q := fun _ s' => Q .next s') rfl (folded_plain hst) f1 hsk f2
      (hit.1 X env ι st s G EO R a st₁ g1 _ _ fun ι₁ s₁ v p₁ R₁ hv => ?_)) (fun _ s' hq => wpAny_pure (wpAny_pure hq)) fun _ _ e => e)
    refine comp_core G EO hel hifs hsk hn hk (of_decide_eq_true h5) R₁ hv g3 g7 fun D Cc ι₂ s₂ p₂ R₂ aC ⟨m, hm⟩ => ?_
    show wpAny _ A (assign (.Name y py) env (.ref D)) _ _ _
    have hnew : VRel (ι₂ ++ [D]) (.ref D) (.obj st₄.σ.length) := by
      refine .obj ?_
      have hlen : (ι₂ ++ [D]).length = (st₄.σ ++ [AO.list xs]).length := R₂.len
      simp at hlen
      rw [← hlen]; simp
    obtain ⟨oC, hoC⟩ : ∃ o, s₂.heap.get? Cc = some o := by obtain ⟨o, _, _, ho, _⟩ := id hm; exact ⟨o, ho⟩
    have hl : ∀ p ∈ [(Cc, oC)], Apart X (ι₂ ++ [D]) p.1 ∧ s₂.heap.get? p.1 = some p.2 := by
      intro p hp
      simp only [List.mem_singleton] at hp
      subst hp
      exact ⟨aC, hoC⟩
    have lk : List.lookup Cc [(Cc, oC)] = some oC := by rw [List.lookup_cons]; simp
    refine wpAny_assign_Name (st_slot (G.hold (l := [(Cc, oC)]) fun p hp => (hl p hp).1).ok (EO.hold [(Cc, oC)]) SV.L SV.nf (R₂.hold hl) hy hnew () _ g3' _ _ fun ι₃ s₃ _ p₃ R₃ _ => ?_)
    obtain ⟨c1, c2⟩ := R₃.held G.ok lk aC.kp aC.nL aC.nc
    have R₄ := R₃.letgo G.ok (fun p hp => by simp only [List.mem_singleton] at hp; subst hp; exact ⟨aC.kp, aC.nL⟩)
    refine ⟨m, ?_, fun h' hs' => kk ι₃ _ _ (((p₁.trans p₂).trans (Pre.snoc _ _)).trans p₃) (R₄.aside (tk := s₃.toks) (h' := h') c1 fun c o hc e => hs'.extBut c o hc e) rfl⟩
    exact hm.at' fun o e => by rw [hoC] at e; cases e; exact c2
end
end Mine
namespace Mine
open PySem PySem.W PyProof.Rows

section
variable {prog : Program} {w : World} {A : Around} {X : Cx} {ι : List Addr} {st : ASt} {s : Shared} {v u : Value} {a b : AV} {K : Frag} {hb : Heap} {env : Env} {rs : Rsv} {k : Nat}
  {P : AProg} {C : Calls} {e e₁ e₂ : Expr} {ae ae₁ ae₂ : AE} {es : List Expr} {aes : List AE} {t : Stmt} {at' : AS} {ts os : List Stmt} {ats aos : List AS}
/-- what a statement raises -/
noncomputable def SQ (prog : Program) (w : World) (K : Frag) (hb : Heap) (A : Around) (P : AProg) (C : Calls) (rs : Rsv) (k : Nat) (t : Stmt) (at' : AS) : Prop :=
  ∀ X env ι st s, Gr K hb A X → EnvOk K X env rs k → SEnv A X env → Rel prog w X ι st s → SimX prog w A X ι st s (exec t env) (aexec P C at')
noncomputable def SQs (prog : Program) (w : World) (K : Frag) (hb : Heap) (A : Around) (P : AProg) (C : Calls) (rs : Rsv) (k : Nat) (ts : List Stmt) (ats : List AS) : Prop :=
  ∀ X env ι st s, Gr K hb A X → EnvOk K X env rs k → SEnv A X env → Rel prog w X ι st s → SimX prog w A X ι st s (execs ts env) (aexecs P C ats)
structure SS (prog : Program) (w : World) (K : Frag) (hb : Heap) (A : Around) (P : AProg) (C : Calls) (rs : Rsv) (k : Nat) (t : Stmt) (at' : AS) : Prop where
  o : SO prog w K hb A P C rs k t at'
  x : SQ prog w K hb A P C rs k t at'
structure SSs (prog : Program) (w : World) (K : Frag) (hb : Heap) (A : Around) (P : AProg) (C : Calls) (rs : Rsv) (k : Nat) (ts : List Stmt) (ats : List AS) : Prop where
  o : SOs prog w K hb A P C rs k ts ats
  x : SQs prog w K hb A P C rs k ts ats
theorem SQ.calm {m : M AF} (h : aexec P C at' = noerr m) : SQ prog w K hb A P C rs k t at' := fun _ _ _ _ _ _ _ _ _ _ _ q => by rw [h] at q; exact (noerr_no q).elim
theorem sq_nil : SQs prog w K hb A P C rs k [] [] := fun _ _ _ _ _ _ _ _ _ _ _ q => by cases q
theorem sq_cons (h₁ : SS prog w K hb A P C rs k t at') (h₂ : SQs prog w K hb A P C rs k ts ats) : SQs prog w K hb A P C rs k (t :: ts) (at' :: ats) := by
  intro X env ι st s G EO SV R r st' e Q E kk
  refine bnd_err e (fun g1 => ?_) fun f st₁ g1 g2 => ?_
  · exact wpAny_execs_cons (h₁.x X env ι st s G EO SV R r st' g1 _ _ kk)
  · refine wpAny_execs_cons (h₁.o X env ι st s G EO SV R f st₁ g1 _ _ fun ι₁ s₁ fv p₁ R₁ hf => ?_)
    cases f with
    | next =>
      have hf : fv = .next := hf
      subst hf
      exact h₂ X env ι₁ st₁ s₁ G EO SV R₁ r st' g2 Q E fun ι₂ s₂ y p₂ R₂ hy => kk ι₂ s₂ y (p₁.trans p₂) R₂ hy
    | ret a => cases g2
theorem sq_pass {pos : Pos} : SQ prog w K hb A P C rs k (.Pass pos) .pass := fun _ _ _ _ _ _ _ _ _ _ _ q => by cases q
theorem sq_expr {pos : Pos} (hc : isComp e = false) (h : S2 prog w K hb A P C rs k e ae) : SQ prog w K hb A P C rs k (.Expr e pos) (.expr ae) := by
  intro X env ι st s G EO SV R r st' ee Q E kk
  refine bnd_err ee (fun g1 => ?_) fun f st₁ g1 g2 => by cases g2
  exact wpAny_Expr_any (h.3 X env ι st s G EO R r st' g1 _ _ kk) (no_inter EO) (no_swap hc)
theorem sq_ret {pos : Pos} (h : S2 prog w K hb A P C rs k e ae) : SQ prog w K hb A P C rs k (.Return (some e) pos) (.ret ae) := by
  intro X env ι st s G EO SV R r st' ee Q E kk
  refine bnd_err ee (fun g1 => ?_) fun f st₁ g1 g2 => by cases g2
  exact wpAny_Return_some (h.3 X env ι st s G EO R r st' g1 _ _ kk)
theorem sq_ret0 {pos : Pos} : SQ prog w K hb A P C rs k (.Return none pos) (.ret (.cst .none)) := by
  intro X env ι st s G EO SV R r st' ee Q E kk
  have ee : bnd (noerr (aeval P C (.cst .none))) (fun v => ret (AF.ret v)) st = some (.error r, st') := ee
  exact bnd_err ee (fun g1 => (noerr_no g1).elim) fun f st₁ g1 g2 => by cases g2
theorem sq_if {pos : Pos} (h : S2 prog w K hb A P C rs k e ae) (h₁ : SQs prog w K hb A P C rs k ts ats) (h₂ : SQs prog w K hb A P C rs k os aos) : SQ prog w K hb A P C rs k (.If e ts os pos) (.ite ae ats aos) := by
  intro X env ι st s G EO SV R r st' ee Q E kk
  refine bnd_err ee (fun g1 => (noerr_no g1).elim) fun b st₁ g1 g2 => ?_
  refine wpAny_If (h.2 X env ι st s G EO R b st₁ (noerr_ok g1) _ _ fun ι₁ s₁ t p₁ R₁ ht => ?_)
  subst ht
  cases t with
  | true => exact h₁ X env ι₁ st₁ s₁ G EO SV R₁ r st' (by simpa using g2) Q E fun ι₂ s₂ y p₂ R₂ hy => kk ι₂ s₂ y (p₁.trans p₂) R₂ hy
  | false => exact h₂ X env ι₁ st₁ s₁ G EO SV R₁ r st' (by simpa using g2) Q E fun ι₂ s₂ y p₂ R₂ hy => kk ι₂ s₂ y (p₁.trans p₂) R₂ hy
theorem assign_err {tt : AT} {st' : ASt} {r : Nat} (h : aexec P C (.assign tt ae) st = some (.error r, st')) : axval P C ae st = some (.error r, st') :=
  bnd_err (G := axval P C ae st = some (.error r, st')) h id fun _ _ _ g2 => (noerr_no g2).elim
theorem sq_assign_calm {tt : AT} (h : axval P C ae = noerr (aeval P C ae)) : SQ prog w K hb A P C rs k t (.assign tt ae) :=
  fun _ _ _ _ _ _ _ _ _ _ _ q => by have := assign_err q; rw [h] at this; exact (noerr_no this).elim
theorem sq_assign_name {pos px : Pos} {x : Str} {tt : AT} (hc : isComp e = false) (h : S2 prog w K hb A P C rs k e ae) : SQ prog w K hb A P C rs k (.Assign [.Name x px] e pos) (.assign tt ae) :=
  fun X env ι st s G EO SV R r st' ee Q E kk => wpAny_Assign_Name (h.3 X env ι st s G EO R r st' (assign_err ee) _ _ kk) (no_swap hc)
theorem sq_assign_attr {pos pa : Pos} {o : Expr} {name : Str} {tt : AT} (h : S2 prog w K hb A P C rs k e ae) : SQ prog w K hb A P C rs k (.Assign [.Attribute o name pa] e pos) (.assign tt ae) :=
  fun X env ι st s G EO SV R r st' ee Q E kk => assign_one (swap_other (by intros; simp)) (no_swapped (by intros; simp) (by intros; simp)) rfl (h.3 X env ι st s G EO R r st' (assign_err ee) _ _ kk)
theorem sq_assign_sub {pos pa : Pos} {o i : Expr} {tt : AT} (h : S2 prog w K hb A P C rs k e ae) : SQ prog w K hb A P C rs k (.Assign [.Subscript o i pa] e pos) (.assign tt ae) :=
  fun X env ι st s G EO SV R r st' ee Q E kk => wpAny_Assign_Subscript (h.3 X env ι st s G EO R r st' (assign_err ee) _ _ kk) (swap_other (by intros; simp))
theorem nameOf_at {e : Expr} {x : Str} (h : nameOf e = some x) : ∃ p, e = .Name x p := by
  cases e with
  | Name y p => exact ⟨p, by rw [Option.some.inj h]⟩
  | _ => exact no_some h
end
end Mine
namespace Mine
open PySem PySem.W PyProof.Rows

section
variable {prog : Program} {w : World} {A : Around} {K : Frag} {hb : Heap} {P : AProg} {C : Calls}

theorem StatOk.comp {rs : Rsv} (S : StatOk K rs) (names : List (Str × NameKind)) (x : Str) (k : Nat) : StatOk K (rsComp rs names x k) := ⟨S.own, S.me, S.attr⟩

theorem opt_some {α β : Type} {o : Option α} {f : α → Option β} {b : β} (h : o.bind f = some b) : ∃ a, o = some a ∧ f a = some b := Option.bind_eq_some_iff.mp h
theorem opt_elim {α β : Type} {o : Option α} {f : α → Option β} {b : β} {G : Prop} (h : o.bind f = some b) (k : ∀ a, o = some a → f a = some b → G) : G := by
  obtain ⟨a, h1, h2⟩ := opt_some h; exact k a h1 h2
theorem ite_some {α : Type} {p : Prop} [Decidable p] {o : Option α} {b : α} (h : (if p then o else none) = some b) : p ∧ o = some b := by
  split at h
  · rename_i q; exact ⟨q, h⟩
  · first | exact no_some h | cases h
theorem ite_someB {α : Type} {p : Bool} {o : Option α} {b : α} (h : (if p = true then o else none) = some b) : p = true ∧ o = some b := by
  cases p with
  | true => exact ⟨rfl, by simpa using h⟩
  | false => simp at h
theorem ite_some' {α : Type} {p : Prop} [Decidable p] {o : Option α} {b : α} (h : (if p then none else o) = some b) : ¬p ∧ o = some b := by
  split at h
  · first | exact no_some h | cases h
  · rename_i q; exact ⟨q, h⟩

theorem genOf_some {gens : List Comprehension} {g : Str × Expr × List Expr} (h : genOf gens = some g) : ∃ px, gens = [⟨.Name g.1 px, g.2.1, g.2.2, 0⟩] := by
  cases gens with
  | nil => exact no_some h
  | cons c r =>
    obtain ⟨hc, h⟩ := ite_someB h
    rw [Bool.and_eq_true] at hc
    have hr := List.isEmpty_iff.mp hc.1
    have ha := of_decide_eq_true hc.2
    refine opt_elim h fun x h1 h2 => ?_
    obtain ⟨p, hp⟩ := nameOf_at h1
    obtain ⟨t, it, fs, as⟩ := c
    have hp : t = .Name x p := hp
    have ha : as = 0 := ha
    have hg := Option.some.inj h2
    subst hp; subst ha; subst hg; subst hr
    exact ⟨p, rfl⟩
theorem tyOf_some {rs : Rsv} {t : Expr} {T : TY} (h : tyOf rs t = some T) : ∃ y p g, t = .Name y p ∧ y ≠ dbg ∧ rs.slot y = none ∧ rs.glob y = some g ∧ tyG g = some T := by
  refine opt_elim h fun y h1 h2 => ?_
  obtain ⟨p, hp⟩ := nameOf_at h1
  obtain ⟨hd, h3⟩ := ite_some' h2
  obtain ⟨hs, h4⟩ := ite_some' h3
  exact opt_elim h4 fun g hg h5 => ⟨y, p, g, hp, hd, by simpa using hs, hg, h5⟩
theorem tyG_ok {g : GV} {T : TY} (h : tyG g = some T) (u : Value) (hu : GOk K g u) : u = tyVal T := by
  cases g with
  | ty T' => cases h; exact hu.1
  | bi b => cases b <;> first | (cases h; exact hu) | cases h
  | _ => first | exact no_some h | cases h

theorem partsOf_some {i : Expr} {p : Option Expr × Option Expr} (h : partsOf i = some p) : ∃ ps, i = .Slice p.1 p.2 none ps := by
  cases i with
  | Slice a b c ps => cases c with
    | none => cases h; exact ⟨ps, rfl⟩
    | some _ => exact no_some h
  | _ => exact no_some h
theorem compile (O : Oracle prog w K hb A C) : ∀ n,
    (∀ rs k e ae, StatOk K rs → cE n rs k e = some ae → S2 prog w K hb A P C rs k e ae) ∧
    (∀ rs k es aes, StatOk K rs → cEs n rs k es = some aes → SL prog w K hb A P C rs k es aes) := by
  intro n
  induction n with
  | zero =>
    refine ⟨fun _ _ _ _ _ h => ?_, fun _ _ _ _ _ h => ?_⟩
    · exact no_some h
    · exact no_some h
  | succ n ih =>
    obtain ⟨ihE, ihL⟩ := ih
    refine ⟨fun rs k e ae S h => ?_, fun rs k es aes S h => ?_⟩
    · have h : cEF (cE n) (cEs n) rs k e = some ae := h
      cases e with
      | Constant c kd pos =>
        cases c <;> first | exact some_in h (s_const rfl) | exact no_some h
      | Name x pos =>
        obtain ⟨hd, h⟩ := ite_some' h
        cases hs : rs.slot x with
        | some i => rw [hs] at h; exact some_in h (s_loc hs)
        | none =>
          rw [hs] at h
          refine opt_elim h fun g hg h => ?_
          cases g with
          | val v => exact some_in h (s_glob hd hs hg)
          | _ => exact no_some h
      | BinOp l op r pos =>
        refine opt_elim h fun l' h1 h => ?_
        refine opt_elim h fun r' h2 h => ?_
        refine some_in h ?_
        exact s_bin (ihE _ _ _ _ S h1) (ihE _ _ _ _ S h2)
      | UnaryOp op x pos =>
        refine opt_elim h fun x' h1 h => ?_
        cases op with
        | Not => exact some_in h (s_not (ihE _ _ _ _ S h1))
        | _ => exact no_some h
      | BoolOp op xs pos =>
        refine opt_elim h fun x' h1 h => ?_
        cases op with
        | And => exact some_in h (s_and (ihL _ _ _ _ S h1))
        | Or => exact some_in h (s_or (ihL _ _ _ _ S h1))
      | Compare l ops rs' pos =>
        obtain ⟨hl, h⟩ := ite_some h
        refine opt_elim h fun l' h1 h => ?_
        refine opt_elim h fun r' h2 h => ?_
        refine some_in h ?_
        exact s_cmp (ihE _ _ _ _ S h1) (ihL _ _ _ _ S h2) hl
      | Call f args kw pos =>
        obtain ⟨hk, h'⟩ := ite_someB h
        clear h
        have hk : kw = [] := List.isEmpty_iff.mp hk
        subst hk
        have h := h'
        clear h'
        cases f with
        | Name g pg =>
          obtain ⟨hd, h⟩ := ite_some' h
          obtain ⟨hs, h⟩ := ite_some' h
          have hs : rs.slot g = none := by simpa using hs
          refine opt_elim h fun gv hg h => ?_
          cases gv with
          | fn a =>
            refine opt_elim h fun as h1 h => ?_
            refine some_in h ?_
            exact s_call (fun X ι st s us as G R hu => O.call a X ι st s us as G R hu) hd hs hg (ihL _ _ _ _ S h1)
          | cls c a =>
            refine opt_elim h fun as h1 h => ?_
            refine some_in h ?_
            exact s_make O hd hs hg (ihL _ _ _ _ S h1)
          | bi b =>
            refine opt_elim h fun as h1 h => ?_
            refine some_in h ?_
            exact s_bi hd hs hg (ihL _ _ _ _ S h1)
          | isinst =>
            match args, h with
            | [x, t], h =>
              refine opt_elim h fun T h1 g => ?_
              clear h
              obtain ⟨y, py, g', rfl, hd', hs', hg', hty⟩ := tyOf_some h1
              obtain ⟨hns, g⟩ := ite_someB g
              refine opt_elim g fun x' h2 g => ?_
              refine some_in g ?_
              exact s_isi hd hs hg hd' hs' hg' (tyG_ok hty) hns (ihE _ _ _ _ S h2)
            | [], h => exact no_some h
            | [_], h => exact no_some h
            | _ :: _ :: _ :: _, h => exact no_some h
          | _ => exact no_some h
        | Attribute o name apos =>
          obtain ⟨hp, h⟩ := ite_someB h
          refine opt_elim h fun o' h1 h => ?_
          refine opt_elim h fun as h2 h => ?_
          obtain ⟨⟨hp1, hp2⟩, hp3⟩ : (plainBase o = true ∧ apos.endLine = pos.line) ∧ args.length < 25 := by simpa using hp
          refine opt_elim h fun mv hm h => ?_
          cases mv with
          | me m =>
            refine some_in h ?_
            have := S.me name m hm
            subst this
            exact s_meth hp1 hp2 hp3 (ihE _ _ _ _ S h1) (ihL _ _ _ _ S h2)
          | own c a =>
            refine some_in h ?_
            exact s_own O hp1 hp2 hp3 (ihE _ _ _ _ S h1) (ihL _ _ _ _ S h2) (S.own name c a hm)
        | _ => exact no_some h
      | Attribute o name pos =>
        obtain ⟨hp, h⟩ := ite_someB h
        refine opt_elim h fun o' h1 h => ?_
        refine opt_elim h fun c h2 h => ?_
        refine some_in h ?_
        exact s_attr hp (ihE _ _ _ _ S h1) (S.attr name c h2)
      | Subscript o i pos =>
        unfold cEF at h
        dsimp only at h
        cases hsl : partsOf i with
        | some p =>
          rw [hsl] at h
          obtain ⟨ps, rfl⟩ := partsOf_some hsl
          refine opt_elim h fun o' h1 h => ?_
          refine opt_elim h fun a' h2 h => ?_
          refine opt_elim h fun b' h3 h => ?_
          refine some_in h ?_
          have opt : ∀ (q : Option Expr) (ae : AE), optE (cE n rs k) q = some ae → OptS prog w K hb A P C rs k q ae := fun q ae e => by
            cases q with
            | none => exact (Option.some.inj e).symm
            | some x => exact ihE _ _ _ _ S e
          exact s_slc (ihE _ _ _ _ S h1) (opt _ _ h2) (opt _ _ h3)
        | none =>
          rw [hsl] at h
          refine opt_elim h fun o' h1 h => ?_
          refine opt_elim h fun i' h2 h => ?_
          refine some_in h ?_
          exact s_sub (ihE _ _ _ _ S h1) (ihE _ _ _ _ S h2)
      | List xs pos =>
        refine opt_elim h fun xs' h1 h => ?_
        obtain ⟨hl, h⟩ := ite_some h
        refine some_in h ?_
        exact s_list (ihL _ _ _ _ S h1) hl
      | Tuple xs kd pos =>
        refine opt_elim h fun xs' h1 h => ?_
        obtain ⟨hl, h⟩ := ite_some h
        refine some_in h ?_
        exact s_tuple (ihL _ _ _ _ S h1) hl
      | Dict ks vs pos =>
        obtain ⟨hp, g⟩ := ite_someB h
        clear h
        obtain ⟨h1, h2⟩ : ks = [] ∧ vs = [] := by simpa using hp
        subst h1; subst h2
        refine some_in g ?_
        exact s_dict0
      | ListComp elt gens sc pos =>
        obtain ⟨⟨x, iter, ifs⟩, hgen, g⟩ := opt_some h
        clear h
        obtain ⟨px, rfl⟩ := genOf_some hgen
        dsimp only at g ⊢
        obtain ⟨hc, h⟩ := ite_someB g
        refine opt_elim h fun iter' h1 h => ?_
        refine opt_elim h fun elt' h2 h => ?_
        refine opt_elim h fun ifs' h3 h => ?_
        refine some_in h ?_
        obtain ⟨⟨⟨h5, h6⟩, h7⟩, h8⟩ : ((sc.kind = .function ∧ compNames rs sc.names x = true) ∧ k < rs.N) ∧ notStar iter = true := by simpa using hc
        exact s_comp (ihE _ _ _ _ S h1) (ihE _ _ _ _ (S.comp _ _ _) h2) (ihL _ _ _ _ (S.comp _ _ _) h3) h5 h6 h7 h8
      | _ => exact no_some h
    · have h : cLF (cE n) (cEs n) rs k es = some aes := h
      cases es with
      | nil => exact some_in h (.nil)
      | cons e r =>
        obtain ⟨hn, h⟩ := ite_someB h
        refine opt_elim h fun e' h1 h => ?_
        refine opt_elim h fun r' h2 h => ?_
        refine some_in h ?_
        exact .cons hn (ihE _ _ _ _ S h1) (ihL _ _ _ _ S h2)

theorem compileS (O : Oracle prog w K hb A C) : ∀ n,
    (∀ rs k t at', StatOk K rs → cS n rs k t = some at' → SS prog w K hb A P C rs k t at') ∧
    (∀ rs k ts ats, StatOk K rs → cSs n rs k ts = some ats → SSs prog w K hb A P C rs k ts ats) := by
  intro n
  have ihE := (compile (P := P) O n).1
  induction n with
  | zero =>
    refine ⟨fun _ _ _ _ _ h => ?_, fun _ _ _ _ _ h => ?_⟩
    · exact no_some h
    · exact no_some h
  | succ n ih =>
    have ihE := (compile (P := P) O n).1
    obtain ⟨ihS, ihSs⟩ := ih ihE
    refine ⟨fun rs k t at' S h => ?_, fun rs k ts ats S h => ?_⟩
    · have h : cSF n (cSs n) rs k t = some at' := h
      cases t with
      | Expr e pos =>
        obtain ⟨hc, h⟩ := ite_some' h
        refine opt_elim h fun e' h1 h => ?_
        refine some_in h ?_
        have hc : isComp e = false := by simpa using hc
        exact ⟨ss_expr hc (ihE _ _ _ _ S h1), sq_expr hc (ihE _ _ _ _ S h1)⟩
      | Pass pos => exact some_in h ⟨ss_pass, sq_pass⟩
      | Return v pos =>
        cases v with
        | none => exact some_in h ⟨ss_ret0, sq_ret0⟩
        | some e =>
          refine opt_elim h fun e' h1 h => ?_
          refine some_in h ?_
          exact ⟨ss_ret (ihE _ _ _ _ S h1), sq_ret (ihE _ _ _ _ S h1)⟩
      | Assign ts v pos =>
        match ts, h with
        | [t], h =>
          refine opt_elim h fun v' h1 h => ?_
          refine opt_elim h fun t' h2 h => ?_
          refine some_in h ?_
          cases t with
          | Name x p =>
            refine opt_elim h2 fun i h3 h2 => ?_
            obtain rfl := Option.some.inj h2
            cases hc : isComp v with
            | false => exact ⟨ss_assign_name h3 hc (ihE _ _ _ _ S h1), sq_assign_name hc (ihE _ _ _ _ S h1)⟩
            | true =>
              cases n with
              | zero => exact no_some h1
              | succ n =>
                have h1 : cEF (cE n) (cEs n) rs k v = some v' := h1
                cases v with
                | ListComp elt gens sc pos =>
                  obtain ⟨jE, jL⟩ := compile (P := P) O n
                  obtain ⟨⟨x, iter, ifs⟩, hgen, g⟩ := opt_some h1
                  clear h1
                  obtain ⟨px, rfl⟩ := genOf_some hgen
                  dsimp only at g ⊢
                  obtain ⟨hc, g⟩ := ite_someB g
                  refine opt_elim g fun iter' q1 g => ?_
                  refine opt_elim g fun elt' q2 g => ?_
                  refine opt_elim g fun ifs' q4 g => ?_
                  obtain rfl := Option.some.inj g
                  obtain ⟨⟨⟨h5, h6⟩, h7⟩, h8⟩ : ((sc.kind = .function ∧ compNames rs sc.names x = true) ∧ k < rs.N) ∧ notStar iter = true := by simpa using hc
                  exact ⟨ss_assign_comp h3 (jE _ _ _ _ S q1) (jE _ _ _ _ (S.comp _ _ _) q2) (jL _ _ _ _ (S.comp _ _ _) q4) h5 h6 h7 h8, sq_assign_calm rfl⟩
                | SetComp _ _ _ _ => exact no_some h1
                | DictComp _ _ _ _ _ => exact no_some h1
                | _ => first | exact no_some hc | cases hc
          | Attribute o name p =>
            refine opt_elim h2 fun o' h3 h2 => ?_
            refine opt_elim h2 fun c h4 h2 => ?_
            obtain rfl := Option.some.inj h2
            exact ⟨ss_assign_attr (ihE _ _ _ _ S h3) (S.attr name c h4) (ihE _ _ _ _ S h1), sq_assign_attr (ihE _ _ _ _ S h1)⟩
          | Subscript o i p =>
            obtain ⟨h0, h2⟩ := ite_some' h2
            refine opt_elim h2 fun o' h3 h2 => ?_
            refine opt_elim h2 fun i' h4 h2 => ?_
            obtain rfl := Option.some.inj h2
            exact ⟨ss_assign_sub (ihE _ _ _ _ S h3) (ihE _ _ _ _ S h4) (ihE _ _ _ _ S h1), sq_assign_sub (ihE _ _ _ _ S h1)⟩
          | _ => exact no_some h2
        | [], h => exact no_some h
        | _ :: _ :: _, h => exact no_some h
      | If t b o pos =>
        refine opt_elim h fun t' h1 h => ?_
        refine opt_elim h fun b' h2 h => ?_
        refine opt_elim h fun o' h3 h => ?_
        refine some_in h ?_
        exact ⟨ss_if (ihE _ _ _ _ S h1) (ihSs _ _ _ _ S h2).o (ihSs _ _ _ _ S h3).o, sq_if (ihE _ _ _ _ S h1) (ihSs _ _ _ _ S h2).x (ihSs _ _ _ _ S h3).x⟩
      | While t b o pos =>
        obtain ⟨hn, h'⟩ := ite_someB h
        clear h
        have hn : o = [] := List.isEmpty_iff.mp hn
        subst hn
        have h := h'
        refine opt_elim h fun t' h1 h => ?_
        refine opt_elim h fun b' h2 h => ?_
        refine some_in h ?_
        exact ⟨ss_while (ihE _ _ _ _ S h1) (ihSs _ _ _ _ S h2).o, .calm rfl⟩
      | For t iter b o pos =>
        obtain ⟨hn, h'⟩ := ite_someB h
        clear h
        obtain ⟨hn, hst⟩ : o = [] ∧ notStar iter = true := by simpa using hn
        subst hn
        have h := h'
        clear h'
        refine opt_elim h fun x h0 h => ?_
        refine opt_elim h fun i h1 h => ?_
        refine opt_elim h fun iter' h2 h => ?_
        refine opt_elim h fun b' h3 h => ?_
        refine some_in h ?_
        cases t with
        | Name y p => cases h0; exact ⟨ss_for h1 hst (ihE _ _ _ _ S h2) (ihSs _ _ _ _ S h3).o, .calm rfl⟩
        | _ => first | exact no_some h0 | cases h0
      | _ => exact no_some h
    · have h : cTF (cS n) (cSs n) rs k ts = some ats := h
      cases ts with
      | nil => exact some_in h ⟨ss_nil, sq_nil⟩
      | cons t r =>
        refine opt_elim h fun t' h1 h => ?_
        refine opt_elim h fun r' h2 h => ?_
        refine some_in h ?_
        exact ⟨ss_cons (ihS _ _ _ _ S h1).o (ihSs _ _ _ _ S h2).o, sq_cons (ihS _ _ _ _ S h1) (ihSs _ _ _ _ S h2).x⟩
end
end Mine
namespace Mine
open PySem PySem.W PyProof.Rows

noncomputable def slotOf : List (Str × Bool) → Str → Option Nat
  | [], _ => none
  | (y, _) :: r, x => if y = x then some 0 else (slotOf r x).map (· + 1)
noncomputable def rsOf (vars : List (Str × Bool)) (N : Nat) (names : List (Str × NameKind)) (globs : List (Str × GV)) (meths : List (Str × MV)) (attrs : List (Str × Addr)) : Rsv where
  N := N
  slot := slotOf vars
  glob := fun x => if names.lookup x = some .globalImplicit then globs.lookup x else none
  meth := fun x => meths.lookup x
  attr := fun x => attrs.lookup x
  cel := fun x => decide (vars.lookup x = some true)
  gtab := fun x => globs.lookup x

theorem slotOf_some : ∀ {vars : List (Str × Bool)} {x : Str} {i : Nat}, slotOf vars x = some i → ∃ b, vars[i]? = some (x, b)
  | [], _, _, h => by cases h
  | (y, b) :: r, x, i, h => by
    unfold slotOf at h
    split at h
    · rename_i e; cases h; subst e; exact ⟨b, rfl⟩
    · obtain ⟨j, hj, rfl⟩ := Option.map_eq_some_iff.mp h
      obtain ⟨c, hc⟩ := slotOf_some hj
      exact ⟨c, by simpa using hc⟩
theorem slotOf_lookup : ∀ {vars : List (Str × Bool)} {x : Str} {b : Bool}, vars.lookup x = some b → ∃ i, slotOf vars x = some i ∧ vars[i]? = some (x, b)
  | [], _, _, h => by cases h
  | (y, c) :: r, x, b, h => by
    rw [List.lookup_cons] at h
    unfold slotOf
    split at h
    · rename_i e
      have e := beq_iff_eq.mp e
      cases h
      subst e
      exact ⟨0, by simp, rfl⟩
    · rename_i e
      have e := beq_eq_false_iff_ne.mp e
      obtain ⟨i, h1, h2⟩ := slotOf_lookup h
      exact ⟨i + 1, by rw [if_neg (Ne.symm e), h1]; rfl, by simpa using h2⟩

/-- what one def is -/
inductive FnEx (K : Frag) (f : Addr) (np N : Nat) (abody : List AS) (vars : List (Str × Bool)) (globs : List (Str × GV)) (meths : List (Str × MV)) (attrs : List (Str × Addr)) : Prop
  | mk (o : Obj) (fd : FuncData) (body : List Stmt) (n : Nat) (e1 : K.lookup f = some o) (e2 : o.data = .func fd) (e3 : fd.closure = []) (e4 : fd.globals = mainGlobals) (e5 : fd.builtins = builtinsNs) (e6 : fd.body = .stmts body) (e7 : fd.scope.isCoroutine = false) (e8 : fd.scope.isGenerator = false) (e9 : fd.scope.kind = .function) (e10 : codeIn K fd.code fd.qualname = true) (e11 : ∀ us : List Value, us.length = np → bindArgs fd ⟨us, []⟩ = pure (((vars.take np).map (·.1)).zip us)) (e12 : cSs n (rsOf vars N fd.scope.names globs meths attrs) vars.length body = some abody) (e13 : ∀ p ∈ vars, p.1 ≠ dbg ∧ p.1 ≠ cld ∧ fd.scope.names.lookup p.1 = some (if p.2 then .cell else .local)) (e14 : ∀ p ∈ fd.scope.names, p.2 ≠ .free) : FnEx K f np N abody vars globs meths attrs
structure FnOk (K : Frag) (f : Addr) (np N : Nat) (abody : List AS) (vars : List (Str × Bool)) (globs : List (Str × GV)) (meths : List (Str × MV)) (attrs : List (Str × Addr)) : Prop where
  ex : FnEx K f np N abody vars globs meths attrs
  len : vars.length ≤ N
  np : np ≤ vars.length
  nodup : (vars.map (·.1)).Nodup

noncomputable def StatOk' (K : Frag) (globs : List (Str × GV)) (meths : List (Str × MV)) (attrs : List (Str × Addr)) : Prop :=
  (∀ name c f, meths.lookup name = some (.own c f) → findIn K (.ref c) "__getattribute__" = some (some (.builtin "object.__getattribute__")) ∧ findIn K (.ref c) "__getattr__" = some none ∧
    findIn K (.ref c) name = some (some (.ref f)) ∧ typeIn K (.ref f) = some (.type "function") ∧ keepIn K (.ref f) = true) ∧
  (∀ name m, meths.lookup name = some (.me m) → name = Str.ofString (meName m)) ∧
  (∀ name c, attrs.lookup name = some c → AttrOk K c name) ∧
  (∀ x g, globs.lookup x = some g → ∃ v, GOk K g v ∧ (nsIn K mainGlobals x = some (some v) ∨ (nsIn K mainGlobals x = some none ∧ bootBuiltins x = some v ∧ x ≠ nm)))

section
variable {prog : Program} {w : World} {A : Around} {X : Cx} {ι : List Addr} {st : ASt} {s : Shared} {v u : Value} {a b : AV} {K : Frag} {hb : Heap} {env : Env} {rs : Rsv} {k : Nat}
  {P : AProg} {C : Calls}

theorem bindL_skip {kind : Str → Option NameKind} {x : Str} : ∀ {l : List (Str × Value)} {m : Str → Option Value}, x ∉ l.map (·.1) → bindL kind l m x = m x
  | [], _, _ => rfl
  | (n, v) :: r, m, h => by
    simp only [List.map_cons, List.mem_cons, not_or] at h
    unfold bindL
    rw [bindL_skip h.2]
    split
    · simp [h.1]
    · rfl
theorem bindL_get {kind : Str → Option NameKind} {x : Str} {v : Value} (hk : kind x = some .local) : ∀ {l : List (Str × Value)} {m : Str → Option Value}, (l.map (·.1)).Nodup → (x, v) ∈ l → bindL kind l m x = some v
  | [], _, _, h => by cases h
  | (n, u) :: r, m, hn, h => by
    simp only [List.map_cons, List.nodup_cons] at hn
    unfold bindL
    rcases List.mem_cons.mp h with h | h
    · first | exact no_some h | cases h
      rw [bindL_skip hn.1, if_pos hk]; simp
    · exact bindL_get hk hn.2 h
theorem bindC_skip {kind : Str → Option NameKind} {x : Str} : ∀ {l : List (Str × Value)} {m : Str → Option Value}, x ∉ l.map (·.1) → bindC kind l m x = m x
  | [], _, _ => rfl
  | (n, v) :: r, m, h => by
    simp only [List.map_cons, List.mem_cons, not_or] at h
    unfold bindC
    rw [bindC_skip h.2]
    split
    · rfl
    · simp [h.1]
theorem bindC_get {kind : Str → Option NameKind} {x : Str} {v : Value} (hk : kind x ≠ some .local) : ∀ {l : List (Str × Value)} {m : Str → Option Value}, (l.map (·.1)).Nodup → (x, v) ∈ l → bindC kind l m x = some v
  | [], _, _, h => by cases h
  | (n, u) :: r, m, hn, h => by
    simp only [List.map_cons, List.nodup_cons] at hn
    unfold bindC
    rcases List.mem_cons.mp h with h | h
    · first | exact no_some h | cases h
      rw [bindC_skip hn.1, if_neg hk]; simp
    · exact bindC_get hk hn.2 h

theorem cellsFrom_acc : ∀ (names : List (Str × NameKind)) (n : Nat) (acc : List (Str × Addr)) (x : Str), (acc.lookup x).isSome = true → ((cellsFrom n names acc).lookup x).isSome = true
  | [], _, _, _, h => h
  | (y, kd) :: r, n, acc, x, h => by
    unfold cellsFrom
    split
    · apply cellsFrom_acc
      rw [List.lookup_cons]
      split
      · rfl
      · exact h
    · exact cellsFrom_acc r n acc x h
theorem cellsFrom_has : ∀ (names : List (Str × NameKind)) (n : Nat) (acc : List (Str × Addr)) (x : Str), (x, NameKind.cell) ∈ names → ((cellsFrom n names acc).lookup x).isSome = true
  | [], _, _, _, h => by cases h
  | (y, kd) :: r, n, acc, x, h => by
    unfold cellsFrom
    rcases List.mem_cons.mp h with h | h
    · first | exact no_some h | cases h
      rw [if_pos (by decide)]
      apply cellsFrom_acc
      simp
    · split <;> exact cellsFrom_has r _ _ x h

/-- the callee's ground -/
noncomputable def locsOf (cells : List (Str × Addr)) (vars : List (Str × Bool)) (N : Nat) : List Loc :=
  vars.map (fun p => if p.2 then (match cells.lookup p.1 with | some c => Loc.cell c | none => Loc.gone) else Loc.loc p.1) ++ List.replicate (N - vars.length) Loc.gone
noncomputable def Cx.enter (X : Cx) (ι : List Addr) (h : Heap) (L : Addr) (locs : List Loc) (fr : List Addr) : Cx := { Kp := fun b => if b ∈ ι then X.Kp b else h.get? b, L := L, locs := locs, s₀ := X.s₀, ros := X.ros, fr := fr }

theorem locsOf_get {cells : List (Str × Addr)} {vars : List (Str × Bool)} {N i : Nat} {l : Loc} (h : (locsOf cells vars N)[i]? = some l) (hg : l ≠ Loc.gone) :
    ∃ x b, vars[i]? = some (x, b) ∧ ((b = false ∧ l = Loc.loc x) ∨ (b = true ∧ ∃ c, cells.lookup x = some c ∧ l = Loc.cell c)) := by
  unfold locsOf at h
  by_cases hi : i < vars.length
  · rw [List.getElem?_append_left (by simpa using hi), List.getElem?_map] at h
    obtain ⟨p, hp, rfl⟩ := Option.map_eq_some_iff.mp h
    obtain ⟨x, b⟩ := p
    refine ⟨x, b, hp, ?_⟩
    cases b with
    | false => exact .inl ⟨rfl, rfl⟩
    | true =>
      simp only [if_true] at hg ⊢
      cases q : cells.lookup x with
      | none => simp [q] at hg
      | some c => exact .inr ⟨trivial, c, rfl, rfl⟩
  · rw [List.getElem?_append_right (by simpa using hi)] at h
    exact absurd (List.eq_of_mem_replicate (List.mem_of_getElem? h)) hg
theorem locsOf_at {cells : List (Str × Addr)} {vars : List (Str × Bool)} {N i : Nat} {x : Str} {b : Bool} (h : vars[i]? = some (x, b)) :
    (locsOf cells vars N)[i]? = some (if b then (match cells.lookup x with | some c => Loc.cell c | none => Loc.gone) else Loc.loc x) := by
  unfold locsOf
  have hi := (List.getElem?_eq_some_iff.mp h).1
  rw [List.getElem?_append_left (by simpa using hi), List.getElem?_map, h]
  rfl

theorem nodup_fst {α β : Type} {l : List (α × β)} (hn : (l.map (·.1)).Nodup) {i j : Nat} {x : α} {b c : β} (h1 : l[i]? = some (x, b)) (h2 : l[j]? = some (x, c)) : i = j := by
  have e1 : (l.map (·.1))[i]? = some x := by rw [List.getElem?_map, h1]; rfl
  have e2 : (l.map (·.1))[j]? = some x := by rw [List.getElem?_map, h2]; rfl
  obtain ⟨hi, f1⟩ := List.getElem?_eq_some_iff.mp e1
  obtain ⟨hj, f2⟩ := List.getElem?_eq_some_iff.mp e2
  exact (List.getElem_inj hn).mp (f1.trans f2.symm)

theorem pair_apart {cs : List (Str × Addr)} (h : cs.Pairwise fun x y => x.2 ≠ y.2) {x y : Str} {c : Addr} (h1 : cs.lookup x = some c) (h2 : cs.lookup y = some c) : x = y := by
  induction cs with
  | nil => first | exact no_some h1 | cases h1
  | cons p r ih =>
    rw [List.pairwise_cons] at h
    rw [List.lookup_cons] at h1 h2
    have mem : ∀ {z : Str}, r.lookup z = some c → (z, c) ∈ r := by
      intro z hz
      clear ih h h1 h2
      induction r with
      | nil => first | exact no_some hz | cases hz
      | cons q r' ih' =>
        rw [List.lookup_cons] at hz
        split at hz
        · rename_i e; cases hz; rw [beq_iff_eq.mp e]; exact .head _
        · exact .tail _ (ih' hz)
    split at h1
    · rename_i e1
      cases h1
      split at h2
      · rename_i e2; rw [beq_iff_eq.mp e1, beq_iff_eq.mp e2]
      · exact (h.1 (y, _) (mem h2) rfl).elim
    · split at h2
      · cases h2; exact (h.1 (x, _) (mem h1) rfl).elim
      · exact ih h.2 h1 h2

theorem Rel.nofr (R : Rel prog w X ι st s) (ok : CxOk X) {b : Addr} (hm : b ∈ ι) : b ∉ X.fr ∧ b ≠ X.L := by
  obtain ⟨i, ao, ob, hi, hs, _⟩ := R.mem_get hm
  obtain ⟨f1, f2, f3⟩ := R.free i b ao hi hs
  refine ⟨fun q => ?_, f2⟩
  cases hr : isRo ao with
  | false => obtain ⟨o, h, _⟩ := ok.frk b q; rw [f1 hr] at h; cases h
  | true => exact ok.rof b (f3 hr) q
theorem Rel.kpOut (R : Rel prog w X ι st s) {L : Addr} {locs : List Loc} {fr : List Addr} {b : Addr} {o : Obj} (e : X.Kp b = some o) : ∃ o', (X.enter ι s.heap L locs fr).Kp b = some o' := by
  show ∃ o', (if b ∈ ι then X.Kp b else s.heap.get? b) = some o'
  split
  · exact ⟨o, e⟩
  · obtain ⟨o', h, _⟩ := R.frozen b o e; exact ⟨o', h⟩
theorem Rel.kpNone (R : Rel prog w X ι st s) {L : Addr} {locs : List Loc} {fr : List Addr} {b : Addr} (e : (X.enter ι s.heap L locs fr).Kp b = none) : X.Kp b = none := by
  cases q : X.Kp b with
  | none => rfl
  | some o => obtain ⟨o', h⟩ := R.kpOut (L := L) (locs := locs) (fr := fr) q; rw [h] at e; cases e
theorem enter_out {L : Addr} {locs : List Loc} {fr : List Addr} {h : Heap} {b : Addr} {o : Obj} (hn : b ∉ ι) (e : h.get? b = some o) : (X.enter ι h L locs fr).Kp b = some o := by
  show (if b ∈ ι then X.Kp b else h.get? b) = some o
  rw [if_neg hn]; exact e
/-- back from a call -/
theorem Rel.back (R : Rel prog w X ι st s) (ok : CxOk X) {L : Addr} {locs : List Loc} {fr : List Addr} (hfr : ∀ b ∈ fr, b = X.L ∨ b ∈ X.fr) {ι' : List Addr} {st' : ASt} {s' : Shared} (p : Pre ι ι') (R' : Rel prog w (X.enter ι s.heap L locs fr) ι' st' s') : Rel prog w X ι' ⟨st'.σ, st.ρ⟩ s' := by
  have Lnot : X.L ∉ ι := fun hm => (R.nofr ok hm).2 rfl
  have notin : ∀ {b : Addr} {o : Obj}, b ∉ ι → s.heap.get? b = some o → X.Kp b = none → b ∉ ι' := by
    intro b o h1 h2 h3 hm
    obtain ⟨i, ao, ob, hi, hs, _⟩ := R'.mem_get hm
    obtain ⟨f1, _, f3⟩ := R'.free i b ao hi hs
    cases q : isRo ao with
    | false => rw [enter_out h1 h2] at f1; exact absurd (f1 q) (by simp)
    | true => obtain ⟨o', h'⟩ := ok.ro b (f3 q); rw [h3] at h'; cases h'
  obtain ⟨m, ⟨oL, es, ep, hL, hd, hr⟩, hmv⟩ := R.ns
  refine ⟨fun b o e => ?_, ⟨m, ?_, fun i x b h1 h2 => ?_⟩, R'.len, R'.nodup, ?_, R'.objs, ?_, ?_, R.rlen, R'.shape⟩
  · by_cases hι : b ∈ ι
    · have e' : (X.enter ι s.heap L locs fr).Kp b = some o := by show (if b ∈ ι then X.Kp b else s.heap.get? b) = some o; rw [if_pos hι]; exact e
      exact ⟨o, (R'.frozen b o e').get fun q => (hfr b q).elim (R.nofr ok hι).2 (R.nofr ok hι).1, .inl rfl⟩
    · obtain ⟨o₁, h1, q⟩ := R.frozen b o e
      obtain ⟨o₂, h2, rfl | ⟨hf, sl, rfl⟩⟩ := R'.frozen b o₁ (enter_out hι h1)
      · exact ⟨_, h2, q⟩
      · rcases hfr b hf with rfl | hf
        · rw [ok.kL] at e; cases e
        · refine ⟨_, h2, .inr ⟨hf, sl, ?_⟩⟩
          rcases q with rfl | ⟨_, sl', rfl⟩
          · rfl
          · rfl
  · obtain ⟨o', e1, e2⟩ := (R'.frozen _ _ (enter_out Lnot hL)).data
    exact ⟨o', es, ep, e1, e2.trans hd, hr⟩
  · obtain ⟨v, e1, e2⟩ := hmv i x b h1 h2; exact ⟨v, e1, e2.mono p⟩
  · intro i c ao hi hs
    obtain ⟨f1, _, f3⟩ := R'.free i c ao hi hs
    exact ⟨fun q => R.kpNone (f1 q), fun q => notin Lnot hL ok.kL (q ▸ Rel.mem hi), f3⟩
  · intro i c hc
    obtain ⟨h1, ob, v, h2, h3, h4⟩ := R.cells i c hc
    obtain ⟨o', e1, e2⟩ := (R'.frozen _ _ (enter_out h1 h2)).data
    exact ⟨notin h1 h2 (ok.kc i c hc).1, o', v, e1, e2.trans h3, fun b hb => by obtain ⟨u, e1, e2⟩ := h4 b hb; exact ⟨u, e1, e2.mono p⟩⟩
  · intro i D x hc b hb
    obtain ⟨ob, es, ep, v, h1, h2, h3, h4, h5⟩ := R.comps i D x hc b hb
    exact ⟨ob, es, ep, v, h1, h2, h3, h4, h5.mono p⟩
theorem Tr.back (R : Rel prog w X ι st s) (ok : CxOk X) {L : Addr} {locs : List Loc} {fr : List Addr} {ι' : List Addr} {σ : List AO} {e : Nat} {fl v : Value} {h : Heap} (p : Pre ι ι') (T : Tr (X.enter ι s.heap L locs fr) ι' σ e fl h v) : Tr X ι' σ e fl h v := by
  cases T with
  | @mk x c oe vs a0 T oT ts hx hs ho hd h0 h1 hT ap hoT hdT h3 =>
  have Tn : T ∉ ι := fun q => by obtain ⟨r, rfl⟩ := p; exact ap.nin (List.mem_append.mpr (.inl q))
  have Tk : ∀ o, s.heap.get? T ≠ some o := fun o q => by have := ap.kp; rw [enter_out Tn q] at this; cases this
  refine .mk hx hs ho hd h0 h1 hT ⟨R.kpNone ap.kp, ap.nin, fun q => ?_, fun i c hc q => ?_⟩ hoT hdT h3
  · obtain ⟨m, ⟨oL, es, ep, hL, _⟩, _⟩ := R.ns
    exact Tk _ (q ▸ hL)
  · obtain ⟨_, ob, v, h2, _⟩ := R.cells i c hc
    exact Tk _ (q ▸ h2)
end
end Mine
namespace Mine
open PySem PySem.W PyProof.Rows

section
variable {prog : Program} {w : World} {A : Around} {X : Cx} {ι : List Addr} {st : ASt} {s : Shared} {v u : Value} {a b : AV} {K : Frag} {hb : Heap} {env : Env} {rs : Rsv} {k : Nat}
  {P : AProg} {C : Calls} {globs : List (Str × GV)} {meths : List (Str × MV)} {attrs : List (Str × Addr)}

theorem StatOk'.stat (S : StatOk' K globs meths attrs) (vars : List (Str × Bool)) (N : Nat) (names : List (Str × NameKind)) : StatOk K (rsOf vars N names globs meths attrs) :=
  ⟨fun name c f h => S.1 name c f h, fun name m h => S.2.1 name m h, fun name c h => S.2.2.1 name c h⟩

theorem envOk_of (S : StatOk' K globs meths attrs) {fd : FuncData} {vars : List (Str × Bool)} {N np : Nat} {f L : Addr} {cells : List (Str × Addr)}
    (hc : env.cells = cells) (hl : env.locals = L) (hsc : env.scope = fd.scope) (hg : env.globals = mainGlobals) (hb' : env.builtins = builtinsNs) (hk : fd.scope.kind = .function)
    (hv : ∀ p ∈ vars, p.1 ≠ dbg ∧ p.1 ≠ cld ∧ fd.scope.names.lookup p.1 = some (if p.2 then .cell else .local)) (hcells : ∀ x, (x, true) ∈ vars → ∃ c, cells.lookup x = some c) (hlen : vars.length ≤ N) {h : Heap} {fr : List Addr} :
    EnvOk K (X.enter ι h L (locsOf cells vars N) fr) env (rsOf vars N fd.scope.names globs meths attrs) vars.length := by
  have kind : ∀ x, env.kindOf x = fd.scope.names.lookup x := fun x => by unfold Env.kindOf; rw [hsc]
  refine ⟨?_, ?_, by rw [hsc]; exact hk, hg, hb', ?_, ?_, ?_, fun x g hx => S.2.2.2 x g hx⟩
  · show (locsOf cells vars N).length = N
    unfold locsOf; simp; omega
  · intro j h1 h2
    have h2 : j < N := h2
    show (locsOf cells vars N)[j]? = some Loc.gone
    unfold locsOf
    rw [List.getElem?_append_right (by simpa using h1), List.getElem?_replicate]
    simp; omega
  · intro x i hx
    obtain ⟨b, hb⟩ := slotOf_some hx
    obtain ⟨h1, h2, h3⟩ := hv _ (List.mem_of_getElem? hb)
    refine ⟨h1, h2, ?_⟩
    have h4 := locsOf_at (cells := cells) (N := N) hb
    cases b with
    | false => exact .inl ⟨by rw [kind]; exact h3, .inl ⟨h4, hl⟩⟩
    | true =>
      obtain ⟨c, hcc⟩ := hcells x (List.mem_of_getElem? hb)
      simp only [if_true, hcc] at h4
      exact .inr ⟨.inl (by rw [kind]; exact h3), c, by rw [hc]; exact hcc, h4⟩
  · intro x hx
    have hx : decide (vars.lookup x = some true) = true := hx
    obtain ⟨i, h1, h2⟩ := slotOf_lookup (of_decide_eq_true hx)
    obtain ⟨h3, h4, h5⟩ := hv _ (List.mem_of_getElem? h2)
    obtain ⟨c, hcc⟩ := hcells x (List.mem_of_getElem? h2)
    have h6 := locsOf_at (cells := cells) (N := N) h2
    simp only [if_true, hcc] at h6
    exact ⟨.inl (by rw [kind]; exact h5), h3, h4, i, c, h1, by rw [hc]; exact hcc, h6⟩
  · intro x g _ hx
    have hx : (if fd.scope.names.lookup x = some .globalImplicit then globs.lookup x else none) = some g := hx
    split at hx
    · rename_i hgl
      exact ⟨by rw [kind]; exact hgl, S.2.2.2 x g hx⟩
    · first | exact no_some hx | cases hx

set_option maxHeartbeats 1000000 in
theorem codes (S : StatOk' K globs meths attrs) (HT : TabsK w K) (T : ∀ f fn, P.fn f = some fn → ∃ vars, FnOk K f fn.nparams fn.nslots fn.body vars globs meths attrs) :
    ∀ n A, A.handled = none → A.depth + 3 * n < recursionLimit → A.units + 10 * n + 10 < cLine → CodeOk prog w K hb A (acall P n) := by
  intro n
  induction n with
  | zero =>
    intro A _ _ _ f X ι st s us as G R hu r st' e
    obtain ⟨e, _⟩ := callFn_some e
    cases e
  | succ n ih =>
    intro A hh hd hU f X ι st s us as G R hu r st' e RR hR
    obtain ⟨e, hρ⟩ := callFn_some e
    rw [acall.eq_def] at e
    dsimp only at e
    cases hfn : P.fn f with
    | none => rw [hfn] at e; cases e
    | some fn =>
      rw [hfn] at e
      dsimp only at e
      split at e
      case isFalse => first | exact no_some e | cases e
      case isTrue hnp =>
      obtain ⟨vars, F⟩ := T f fn hfn
      obtain ⟨o, fd, body, fuel, ho, hdata, hcl, hglb, hbns, hbody, hco, hgen, hk, hcd, hbind, hcomp, hvars, hfree⟩ := F.ex
      obtain ⟨p, loose, mg, mb, TR⟩ := G.T
      obtain ⟨l, hl, hfs⟩ := G.frs
      have hfr : ∀ b ∈ l.filterMap (·.frame), b = X.L ∨ b ∈ X.fr := fun b hb => by
        obtain ⟨f, hf, hq⟩ := List.mem_filterMap.mp hb
        obtain ⟨_, L, hL, h⟩ := hfs f hf
        rw [hq] at hL; cases hL; exact h
      have hK := G.inK R
      have hus : us.length = fn.nparams := by rw [← hnp]; exact F2.length hu
      have hlim : s.heap.NoLimit := TR.nolimit.keeps (G.keep R)
      refine codeAny_call_function (by omega) (hK _ _ ho) hdata hco hgen hbody (codeRec_of hK hcd) (BindsTo.of_eq (hbind us hus) _ _ _ _ ?_)
      rw [hcl, hglb, hbns]
      have hvn : ∀ x ∈ ((vars.take fn.nparams).map (·.1)).zip us, ∃ b, (x.1, b) ∈ vars := by
        intro x hx
        have hx1 := (List.of_mem_zip hx).1
        obtain ⟨q, hq, hqe⟩ := List.mem_map.mp hx1
        exact ⟨q.2, by rw [← hqe]; exact List.mem_of_mem_take hq⟩
      refine wpAny_newFunctionEnv_cells hk (fun x hx => ?_) (fun env he s₁ IC => ⟨hlim.keeps IC.toInCall.keep, codeAny_func ?_⟩)
      · obtain ⟨b, hb⟩ := hvn x hx
        obtain ⟨_, _, h3⟩ := hvars _ hb
        cases b with
        | false => exact .inl h3
        | true => exact .inr ⟨h3, cellsFrom_has _ _ _ _ (mem_of_lookup h3)⟩
      · have hL : env.locals = s.heap.objs.size := by rw [he]; rfl
        have hcells : env.cells = cellsFrom (s.heap.objs.size + 1) fd.scope.names [] := by rw [he]; rfl
        have hsc : env.scope = fd.scope := by rw [he]; rfl
        have kind : ∀ x, env.kindOf x = fd.scope.names.lookup x := fun x => by unfold Env.kindOf; rw [hsc]
        have hcellv : ∀ x, (x, true) ∈ vars → ∃ c, env.cells.lookup x = some c := by
          intro x hx
          obtain ⟨_, _, h3⟩ := hvars _ hx
          rw [hcells]
          exact Option.isSome_iff_exists.mp (cellsFrom_has _ _ _ _ (mem_of_lookup h3))
        have EO : EnvOk K (X.enter ι s.heap env.locals (locsOf env.cells vars fn.nslots) (l.filterMap (·.frame))) env (rsOf vars fn.nslots fd.scope.names globs meths attrs) vars.length :=
          envOk_of (np := fn.nparams) (f := f) S rfl rfl hsc (by rw [he]; rfl) (by rw [he]; rfl) hk hvars hcellv F.len
        have SV : SEnv (A.deeper env) (X.enter ι s.heap env.locals (locsOf env.cells vars fn.nslots) (l.filterMap (·.frame))) env := ⟨rfl, fun x hx => (by
          rw [kind] at hx
          exact hfree _ (mem_of_lookup hx) rfl), by rw [he]; rfl, l, Around.frames_deeper hl⟩
        have fresh : ∀ {b : Addr}, s.heap.objs.size ≤ b → b ∉ ι ∧ s.heap.get? b = none := by
          intro b hb
          have h0 : s.heap.get? b = none := by
            cases q : s.heap.get? b with
            | none => rfl
            | some o => exact absurd (Heap.lt_size q) (Nat.not_lt.mpr hb)
          exact ⟨(R.apart h0).nin, h0⟩
        have kp : ∀ {b : Addr} {o : Obj}, X.Kp b = some o → ∃ o', (X.enter ι s.heap env.locals (locsOf env.cells vars fn.nslots) (l.filterMap (·.frame))).Kp b = some o' := by
          intro b o e
          show ∃ o', (if b ∈ ι then X.Kp b else s.heap.get? b) = some o'
          split
          · exact ⟨o, e⟩
          · obtain ⟨o', h, _⟩ := R.frozen b o e; exact ⟨o', h⟩
        have kpn : ∀ {b : Addr}, s.heap.objs.size ≤ b → (X.enter ι s.heap env.locals (locsOf env.cells vars fn.nslots) (l.filterMap (·.frame))).Kp b = none := by
          intro b hb
          show (if b ∈ ι then X.Kp b else s.heap.get? b) = none
          rw [if_neg (fresh hb).1]; exact (fresh hb).2
        have cellmem : ∀ {x : Str} {c : Addr}, env.cells.lookup x = some c → env.locals < c := by
          intro x c h
          refine IC.above x c ?_
          have : ∀ {l : List (Str × Addr)}, l.lookup x = some c → (x, c) ∈ l := by
            intro l
            induction l with
            | nil => intro h; cases h
            | cons q r ih' =>
              intro h
              rw [List.lookup_cons] at h
              split at h
              · rename_i e; cases h; rw [beq_iff_eq.mp e]; exact .head _
              · exact .tail _ (ih' h)
          exact this h
        have locget : ∀ {i : Nat} {lc : Loc}, (X.enter ι s.heap env.locals (locsOf env.cells vars fn.nslots) (l.filterMap (·.frame))).locs[i]? = some lc → lc ≠ Loc.gone →
            ∃ x b, vars[i]? = some (x, b) ∧ ((b = false ∧ lc = Loc.loc x) ∨ (b = true ∧ ∃ c, env.cells.lookup x = some c ∧ lc = Loc.cell c)) := fun h hg => locsOf_get h hg
        have ok : CxOk (X.enter ι s.heap env.locals (locsOf env.cells vars fn.nslots) (l.filterMap (·.frame))) := by
          refine ⟨?_, ?_, ?_, ?_, ?_, ?_, ?_, ?_⟩
          · intro i j x h1 h2
            obtain ⟨x1, b1, e1, ⟨_, q1⟩ | ⟨_, c, _, q1⟩⟩ := locget h1 (by simp)
            · obtain ⟨x2, b2, e2, ⟨_, q2⟩ | ⟨_, c, _, q2⟩⟩ := locget h2 (by simp)
              · cases q1; cases q2; exact nodup_fst F.nodup e1 e2
              · first | exact no_some q2 | cases q2
            · first | exact no_some q1 | cases q1
          · intro i j c h1 h2
            obtain ⟨x1, b1, e1, ⟨_, q1⟩ | ⟨_, c1, hc1, q1⟩⟩ := locget h1 (by simp)
            · first | exact no_some q1 | cases q1
            · obtain ⟨x2, b2, e2, ⟨_, q2⟩ | ⟨_, c2, hc2, q2⟩⟩ := locget h2 (by simp)
              · first | exact no_some q2 | cases q2
              · cases q1; cases q2
                have := pair_apart IC.apart hc1 hc2
                subst this
                exact nodup_fst F.nodup e1 e2
          · exact kpn (by rw [← hL]; exact Nat.le_refl _)
          · intro i c h1
            obtain ⟨x1, b1, e1, ⟨_, q1⟩ | ⟨_, c1, hc1, q1⟩⟩ := locget h1 (by simp)
            · first | exact no_some q1 | cases q1
            · first | exact no_some q1 | cases q1
              have := cellmem hc1
              exact ⟨kpn (by rw [← hL]; exact Nat.le_of_lt this), Ne.symm (Nat.ne_of_lt this)⟩
          · intro i D x h1
            obtain ⟨x1, b1, e1, ⟨_, q1⟩ | ⟨_, c1, hc1, q1⟩⟩ := locget h1 (by simp)
            · first | exact no_some q1 | cases q1
            · first | exact no_some q1 | cases q1
          · intro b hb
            obtain ⟨o, h⟩ := G.ok.ro b hb
            exact kp h
          · intro b hb q
            rcases hfr b q with rfl | q
            · obtain ⟨o, h⟩ := G.ok.ro _ hb; rw [G.ok.kL] at h; cases h
            · exact G.ok.rof b hb q
          · intro b q
            have hn : b ∉ ι := fun hm => (hfr b q).elim (R.nofr G.ok hm).2 (R.nofr G.ok hm).1
            obtain ⟨f, hf, hq⟩ := List.mem_filterMap.mp q
            obtain ⟨_, L, o, hL, _, ho, hd⟩ := R.stk G.ok hfs f hf
            rw [hq] at hL; cases hL
            exact ⟨o, enter_out hn ho, hd⟩
        have G' : Gr K hb (A.deeper env) (X.enter ι s.heap env.locals (locsOf env.cells vars fn.nslots) (l.filterMap (·.frame))) := by
          refine ⟨fun b o e => ?_, G.KX, G.T, G.mods, hh, by show A.units + 3 + 1 < cLine; omega, ok, ⟨env :: l, Around.frames_deeper hl, fun f hf => ?_⟩, fun b q => ?_⟩
          · by_cases hm : b ∈ ι
            · show (if b ∈ ι then X.Kp b else s.heap.get? b) = some o
              rw [if_pos hm]; exact G.kp b o e
            · exact enter_out hm (G.keep R b o e)
          · rcases List.mem_cons.mp hf with rfl | hf
            · exact ⟨by rw [hsc, hk]; decide, _, SV.frame, .inl rfl⟩
            · obtain ⟨h1, L, h2, h3⟩ := hfs f hf
              exact ⟨h1, L, h2, .inr (List.mem_filterMap.mpr ⟨f, hf, h2⟩)⟩
          · rcases hfr b q with rfl | q
            · cases z : hb.get? X.L with
              | none => rfl
              | some o => have := G.kp _ o z; rw [G.ok.kL] at this; cases this
            · exact G.hfr b q
        have O : Oracle prog w K hb (A.deeper env) (acall P n) := by
          refine ⟨ih _ hh (by show A.depth + 1 + 3 * n < _; omega) (by show A.units + 3 + 10 * n + 10 < _; omega), fun c rest => ih _ hh ?_ ?_, by show A.units + 3 + 2 < _; omega, HT⟩
          · rw [under_type.2.2.1]; show A.depth + 1 + 1 + 3 * n < _; omega
          · rw [under_type.2.1]; show A.units + 3 + 1 + 10 * n + 10 < _; omega
        have hext := IC.toInCall.keep
        obtain ⟨h₁, tk, hs₁⟩ := IC.toInCall.same
        have zipget : ∀ {i : Nat} {x : Str} {b : Bool} {y : AV}, vars[i]? = some (x, b) → (as.map some ++ List.replicate (fn.nslots - fn.nparams) Option.none)[i]? = some (some y) → ∃ v, (x, v) ∈ ((vars.take fn.nparams).map (·.1)).zip us ∧ VRel ι v y := by
          intro i x b y h1 h2
          by_cases hi : i < as.length
          · rw [List.getElem?_append_left (by simpa using hi), List.getElem?_map] at h2
            obtain ⟨y', hy', e⟩ := Option.map_eq_some_iff.mp h2
            cases e
            obtain ⟨v, hv, hvr⟩ := F2.get hu hy'
            refine ⟨v, ?_, hvr⟩
            have e1 : ((vars.take fn.nparams).map (·.1))[i]? = some x := by
              rw [List.getElem?_map, List.getElem?_take_of_lt (by omega), h1]; rfl
            have : (((vars.take fn.nparams).map (·.1)).zip us)[i]? = some (x, v) := by
              rw [List.getElem?_zip_eq_some]; exact ⟨e1, hv⟩
            exact List.mem_of_getElem? this
          · rw [List.getElem?_append_right (by simpa using hi)] at h2
            have := List.eq_of_mem_replicate (List.mem_of_getElem? h2)
            cases this
        have znodup : ((((vars.take fn.nparams).map (·.1)).zip us).map (·.1)).Nodup := by
          rw [List.map_fst_zip (by simp; omega)]
          rw [List.map_take]
          exact F.nodup.sublist (List.take_sublist _ _)
        have R' : Rel prog w (X.enter ι s.heap env.locals (locsOf env.cells vars fn.nslots) (l.filterMap (·.frame))) ι ⟨st.σ, as.map some ++ List.replicate (fn.nslots - fn.nparams) Option.none⟩ s₁ := by
          refine ⟨fun b o e => ?_, ⟨_, IC.toInCall.ns, fun i x y h1 h2 => ?_⟩, R.len, R.nodup, ?_, ?_, ?_, ?_, ?_, ?_⟩
          · have e : (if b ∈ ι then X.Kp b else s.heap.get? b) = some o := e
            split at e
            · rename_i hm
              exact ⟨o, hext b o ((R.frozen b o e).get (R.nofr G.ok hm).1), .inl rfl⟩
            · exact ⟨o, hext b o e, .inl rfl⟩
          · obtain ⟨x1, b1, e1, ⟨hb1, q1⟩ | ⟨_, c, _, q1⟩⟩ := locget h1 (by simp)
            · first | exact no_some q1 | cases q1
              subst hb1
              obtain ⟨v, hv1, hv2⟩ := zipget e1 h2
              exact ⟨v, bindL_get (by rw [kind]; exact (hvars _ (List.mem_of_getElem? e1)).2.2) znodup hv1, hv2⟩
            · first | exact no_some q1 | cases q1
          · intro i c ao hi hs
            obtain ⟨f1, f2, f3⟩ := R.free i c ao hi hs
            refine ⟨fun q => ?_, fun q => ?_, f3⟩
            · show (if c ∈ ι then X.Kp c else s.heap.get? c) = none
              rw [if_pos (Rel.mem hi)]; exact f1 q
            · exact (fresh (b := c) (by rw [q]; show s.heap.objs.size ≤ env.locals; rw [hL]; exact Nat.le_refl _)).1 (Rel.mem hi)
          · intro i ao h
            obtain ⟨a', ob, h1, h2, h3⟩ := R.objs i ao h
            exact ⟨a', ob, h1, hext _ _ h2, h3⟩
          · intro i c h1
            obtain ⟨x1, b1, e1, ⟨_, q1⟩ | ⟨hb1, c1, hc1, q1⟩⟩ := locget h1 (by simp)
            · first | exact no_some q1 | cases q1
            · first | exact no_some q1 | cases q1
              subst hb1
              have hlt := cellmem hc1
              refine ⟨(fresh (by rw [← hL]; exact Nat.le_of_lt hlt)).1, ?_⟩
              obtain ⟨oc, h2, h3⟩ := IC.cell x1 _ hc1
              refine ⟨oc, _, h2, h3, fun y hy => ?_⟩
              obtain ⟨v, hv1, hv2⟩ := zipget e1 hy
              exact ⟨v, bindC_get (by rw [kind, (hvars _ (List.mem_of_getElem? e1)).2.2]; simp) znodup hv1, hv2⟩
          · intro i D x h1
            obtain ⟨x1, b1, e1, ⟨_, q1⟩ | ⟨_, c1, hc1, q1⟩⟩ := locget h1 (by simp)
            · first | exact no_some q1 | cases q1
            · first | exact no_some q1 | cases q1
          · show (as.map some ++ List.replicate (fn.nslots - fn.nparams) Option.none).length = (locsOf env.cells vars fn.nslots).length
            unfold locsOf
            have := F.len
            have := F.np
            simp; omega
          · rw [hs₁, R.shape]; rfl
        have kept : ∀ {ι' : List Addr} {st'' : ASt} {s' : Shared}, Rel prog w (X.enter ι s.heap env.locals (locsOf env.cells vars fn.nslots) (l.filterMap (·.frame))) ι' st'' s' → ∀ b o, b ∉ ι → b ∉ (A.frames.getD []).filterMap (·.frame) → s.heap.get? b = some o → s'.heap.get? b = some o := fun R'' b o hb hnf e => (R''.frozen b o (enter_out hb e)).get (by rw [hl] at hnf; exact hnf)
        cases hx : aexecs P (acall P n) fn.body ⟨st.σ, as.map some ++ List.replicate (fn.nslots - fn.nparams) Option.none⟩ with
        | none => rw [hx] at e; cases e
        | some res =>
          rw [hx] at e
          obtain ⟨res, stf⟩ := res
          obtain ⟨σ', ρ'⟩ := st'
          have hρ : ρ' = st.ρ := hρ
          subst hρ
          have CS := (compileS (P := P) O fuel).2 _ _ _ _ (S.stat vars fn.nslots fd.scope.names) hcomp
          cases res with
          | error n' =>
            cases e
            refine CS.x _ env ι _ s₁ G' EO SV R' n' stf hx _ _ fun ι' s' v p' R'' F => ?_
            have hfr' := Around.frames_deeper (env := env) hl
            obtain ⟨l', hl', hfs'⟩ := G'.frs
            rw [hfr'] at hl'; cases hl'
            refine leave_ R'' ok hfr' (R''.stk ok hfs') SV.frame F fun s₂ R₂ T₂ => ?_
            exact hR ι' s₂ v p' (R.back G.ok hfr p' R₂) (.on (T₂.back R G.ok p')) (kept R₂)
          | ok af =>
            refine CS.o _ env ι _ s₁ G' EO SV R' af stf hx _ _ fun ι' s' fl p' R'' hf => ?_
            have Rb := R.back G.ok hfr p' R''
            cases af with
            | next =>
              have hf : fl = .next := hf
              subst hf
              cases e
              exact hR ι' s' _ p' Rb .none (kept R'')
            | ret y =>
              obtain ⟨v, rfl, hv⟩ := hf
              cases e
              exact hR ι' s' _ p' Rb hv (kept R'')
end
end Mine
namespace Mine
open PySem PySem.W PyProof.Rows
noncomputable def globs : List (Str × GV) := [(Str.ofString "reach", GV.fn 19), (Str.ofString "_law_cell_at", GV.fn 26), (Str.ofString "_law_whole", GV.fn 33), (Str.ofString "_law_numbers", GV.fn 40), (Str.ofString "_law_rows", GV.fn 45), (Str.ofString "_law_came", GV.fn 50), (Str.ofString "law", GV.fn 55), (Str.ofString "len", GV.bi .len), (Str.ofString "min", GV.bi .min), (Str.ofString "sorted", GV.bi .sorted), (Str.ofString "range", GV.bi .range), (Str.ofString "list", GV.bi .list), (Str.ofString "isinstance", GV.isinst), (Str.ofString "int", GV.bi .int), (Str.ofString "bool", GV.ty .bool)]
noncomputable def meths : List (Str × MV) := [(Str.ofString "append", MV.me .append), (Str.ofString "pop", MV.me .pop), (Str.ofString "keys", MV.me .keys), (Str.ofString "extend", MV.me .extend)]
noncomputable def attrs : List (Str × Addr) := []
end Mine
namespace Mine
open PySem
noncomputable def bd19 : List AS := [(.assign (.loc 2) .dict0), (.assign (.loc 3) (.bi .list [(.loc 1)])), (.loop (.loc 3) [(.assign (.loc 4) (.meth (.loc 3) .pop [])), (.ite (.cmp (.loc 4) [.NotIn] [(.loc 2)]) [(.assign (.sub (.loc 2) (.loc 4)) (.cst (.bool true))), (.expr (.meth (.loc 3) .extend [(.comp 5 (.loc 5) (.sub (.loc 0) (.loc 4)) [(.cmp (.loc 5) [.IsNot] [(.cst .none)])])]))] [])]), (.ret (.bi .sorted [(.meth (.loc 2) .keys [])]))]
noncomputable def bd26 : List AS := [(.ite (.cmp (.loc 1) [.Lt] [(.bi .len [(.loc 0)])]) [(.ret (.sub (.loc 0) (.loc 1)))] []), (.ret (.cst (.int (0))))]
noncomputable def bd33 : List AS := [(.ret (.and [(.isi (.loc 0) .int), (.not (.isi (.loc 0) .bool))]))]
noncomputable def bd40 : List AS := [(.ite (.or [(.not (.isi (.loc 0) .list)), (.cmp (.bi .len [(.loc 0)]) [.NotEq] [(.bi .len [(.loc 1)])])]) [(.ret (.cst (.bool false)))] []), (.for 2 (.bi .range [(.bi .len [(.loc 1)])]) [(.ite (.and [(.cmp (.sub (.loc 1) (.loc 2)) [.Is] [(.cst .none)]), (.cmp (.sub (.loc 0) (.loc 2)) [.IsNot] [(.cst .none)])]) [(.ret (.cst (.bool false)))] []), (.ite (.and [(.cmp (.sub (.loc 1) (.loc 2)) [.IsNot] [(.cst .none)]), (.or [(.not (.call 33 [(.sub (.loc 0) (.loc 2))])), (.cmp (.sub (.loc 0) (.loc 2)) [.NotEq] [(.sub (.loc 1) (.loc 2))])])]) [(.ret (.cst (.bool false)))] [])]), (.ret (.cst (.bool true)))]
noncomputable def bd45 : List AS := [(.ite (.cmp (.bin .Mod (.call 26 [(.loc 0), (.cst (.int (1)))]) (.cst (.int (9)))) [.Eq] [(.cst (.int (4)))]) [(.ret (.comp 7 (.list [(.bi .min [(.bin .Add (.bin .Add (.loc 7) (.cst (.int (1)))) (.bin .Mod (.bin .FloorDiv (.call 26 [(.loc 0), (.cst (.int (1)))]) (.cst (.int (9)))) (.cst (.int (2))))), (.bin .Sub (.loc 1) (.cst (.int (1))))])]) (.bi .range [(.loc 1)]) []))] []), (.ite (.cmp (.bin .Mod (.call 26 [(.loc 0), (.cst (.int (1)))]) (.cst (.int (3)))) [.Eq] [(.cst (.int (1)))]) [(.ret (.comp 7 (.list [(.bin .Mod (.bin .Add (.bin .Add (.loc 7) (.cst (.int (1)))) (.bin .Mod (.bin .FloorDiv (.call 26 [(.loc 0), (.cst (.int (1)))]) (.cst (.int (9)))) (.cst (.int (7))))) (.loc 1))]) (.bi .range [(.loc 1)]) []))] []), (.assign (.loc 3) (.list [])), (.for 2 (.bi .range [(.loc 1)]) [(.assign (.loc 4) (.call 26 [(.loc 0), (.bin .Add (.cst (.int (3))) (.loc 2))])), (.assign (.loc 5) (.list [])), (.for 6 (.bi .range [(.bin .Mod (.loc 4) (.cst (.int (5))))]) [(.assign (.loc 4) (.bin .FloorDiv (.loc 4) (.bin .Add (.loc 1) (.cst (.int (1)))))), (.ite (.cmp (.bin .Mod (.loc 4) (.bin .Add (.loc 1) (.cst (.int (1))))) [.Eq] [(.loc 1)]) [(.expr (.meth (.loc 5) .append [(.cst .none)]))] [(.expr (.meth (.loc 5) .append [(.bin .Mod (.loc 4) (.bin .Add (.loc 1) (.cst (.int (1)))))]))])]), (.expr (.meth (.loc 3) .append [(.loc 5)]))]), (.ret (.loc 3))]
noncomputable def bd50 : List AS := [(.assign (.loc 2) (.comp 6 (.cst (.bool false)) (.loc 0) [])), (.for 3 (.loc 1) [(.assign (.sub (.loc 2) (.loc 3)) (.cst (.bool true)))]), (.assign (.loc 4) (.cst (.bool true))), (.loop (.loc 4) [(.assign (.loc 4) (.cst (.bool false))), (.for 5 (.bi .range [(.bi .len [(.loc 0)])]) [(.for 3 (.sub (.loc 0) (.loc 5)) [(.ite (.and [(.sub (.loc 2) (.loc 5)), (.cmp (.loc 3) [.IsNot] [(.cst .none)]), (.not (.sub (.loc 2) (.loc 3)))]) [(.assign (.sub (.loc 2) (.loc 3)) (.cst (.bool true))), (.assign (.loc 4) (.cst (.bool true)))] [])])])]), (.ret (.comp 6 (.loc 6) (.bi .range [(.bi .len [(.loc 0)])]) [(.sub (.loc 2) (.loc 6))]))]
noncomputable def bd55 : List AS := [(.assign (.loc 1) (.bin .Mod (.call 26 [(.loc 0), (.cst (.int (0)))]) (.cst (.int (41))))), (.ite (.cmp (.bin .Mod (.call 26 [(.loc 0), (.cst (.int (1)))]) (.cst (.int (9)))) [.Eq] [(.cst (.int (4)))]) [(.assign (.loc 1) (.bin .Add (.cst (.int (1))) (.bin .Mod (.bin .FloorDiv (.call 26 [(.loc 0), (.cst (.int (0)))]) (.cst (.int (41)))) (.cst (.int (300))))))] []), (.assign (.loc 2) (.call 45 [(.loc 0), (.loc 1)])), (.assign (.loc 3) (.call 26 [(.loc 0), (.cst (.int (2)))])), (.assign (.loc 4) (.list [])), (.ite (.cmp (.loc 1) [.Gt] [(.cst (.int (0)))]) [(.assign (.loc 4) (.slc (.list [(.bin .Mod (.bin .FloorDiv (.loc 3) (.cst (.int (4)))) (.loc 1)), (.bin .Mod (.bin .FloorDiv (.bin .FloorDiv (.loc 3) (.cst (.int (4)))) (.loc 1)) (.loc 1)), (.bin .Mod (.bin .FloorDiv (.loc 3) (.cst (.int (4)))) (.loc 1))]) (.cst .none) (.bin .Mod (.loc 3) (.cst (.int (4))))))] []), (.assign (.loc 5) (.comp 9 (.bi .list [(.loc 9)]) (.loc 2) [])), (.assign (.loc 6) (.bi .list [(.loc 4)])), (.assign (.loc 7) (.call 19 [(.loc 5), (.loc 6)])), (.ite (.not (.call 40 [(.loc 7), (.call 50 [(.loc 2), (.loc 4)])])) [(.ret (.cst (.bool false)))] []), (.ite (.or [(.cmp (.bi .len [(.loc 5)]) [.NotEq] [(.bi .len [(.loc 2)])]), (.not (.call 40 [(.loc 6), (.loc 4)]))]) [(.ret (.cst (.bool false)))] []), (.for 8 (.bi .range [(.bi .len [(.loc 2)])]) [(.ite (.not (.call 40 [(.sub (.loc 5) (.loc 8)), (.sub (.loc 2) (.loc 8))])) [(.ret (.cst (.bool false)))] [])]), (.ret (.cst (.bool true)))]
noncomputable def fnTab : List (Nat × AFn) := [(19, ⟨2, 7, bd19⟩), (26, ⟨2, 4, bd26⟩), (33, ⟨1, 3, bd33⟩), (40, ⟨2, 5, bd40⟩), (45, ⟨2, 9, bd45⟩), (50, ⟨2, 8, bd50⟩), (55, ⟨1, 11, bd55⟩)]
noncomputable def PR : AProg := { fn := fun f => fnTab.lookup f, isa := fun _ _ => false, tab := fun _ => none }
end Mine
namespace Mine
open PySem PySem.W PyProof.Rows
theorem len1 {us : List Value} (h : us.length = 1) : ∃ a, us = [a] := List.length_eq_one_iff.mp h
theorem len2 {us : List Value} (h : us.length = 2) : ∃ a b, us = [a, b] := by
  cases us with
  | nil => cases h
  | cons a r => obtain ⟨b, rfl⟩ := len1 (us := r) (by simpa using h); exact ⟨a, b, rfl⟩
theorem lookup_in {α : Type} {l : List (Nat × α)} {f : Nat} {x : α} (h : l.lookup f = some x) : (f, x) ∈ l := by
  induction l with
  | nil => cases h
  | cons p r ih =>
    rw [List.lookup_cons] at h
    split at h
    · rename_i e; cases h; rw [beq_iff_eq.mp e]; exact .head _
    · exact .tail _ (ih h)
theorem fnOk_mk {K : Frag} {f : Addr} {np N : Nat} {abody : List AS} {vars : List (Str × Bool)} {globs : List (Str × GV)} {meths : List (Str × MV)} {attrs : List (Str × Addr)} {o : Obj} {fd : FuncData} {body : List Stmt} {n : Nat}
    (h1 : K.lookup f = some o) (h2 : o.data = .func fd) (h3 : fd.closure = []) (h4 : fd.globals = mainGlobals) (h5 : fd.builtins = builtinsNs) (h6 : fd.body = .stmts body)
    (h7 : (!fd.scope.isCoroutine && !fd.scope.isGenerator && decide (fd.scope.kind = .function)) = true) (h8 : codeIn K fd.code fd.qualname = true)
    (h9 : ∀ us : List Value, us.length = np → bindArgs fd ⟨us, []⟩ = pure (((vars.take np).map (·.1)).zip us))
    (h10 : cSs n (rsOf vars N fd.scope.names globs meths attrs) vars.length body = some abody)
    (h11 : (vars.all fun p => decide (p.1 ≠ dbg) && decide (p.1 ≠ cld) && decide (fd.scope.names.lookup p.1 = some (if p.2 then .cell else .local))) = true)
    (h12 : (fd.scope.names.all fun p => decide (p.2 ≠ .free)) = true) (h13 : (decide (vars.length ≤ N) && decide (np ≤ vars.length) && decide ((vars.map (·.1)).Nodup)) = true) : FnOk K f np N abody vars globs meths attrs := by
  obtain ⟨⟨a1, a2⟩, a3⟩ : (fd.scope.isCoroutine = false ∧ fd.scope.isGenerator = false) ∧ fd.scope.kind = .function := by simpa using h7
  obtain ⟨⟨b1, b2⟩, b3⟩ : (vars.length ≤ N ∧ np ≤ vars.length) ∧ (vars.map (·.1)).Nodup := by simpa using h13
  refine ⟨⟨o, fd, body, n, h1, h2, h3, h4, h5, h6, a1, a2, a3, h8, h9, h10, fun p hp => ?_, fun p hp => ?_⟩, b1, b2, b3⟩
  · have := List.all_eq_true.mp h11 p hp
    rw [Bool.and_eq_true, Bool.and_eq_true] at this
    exact ⟨of_decide_eq_true this.1.1, of_decide_eq_true this.1.2, of_decide_eq_true this.2⟩
  · exact of_decide_eq_true (List.all_eq_true.mp h12 p hp)
noncomputable def vs19 : List (Str × Bool) := [((Str.ofString "rows"), false), ((Str.ofString "starts"), false), ((Str.ofString "seen"), false), ((Str.ofString "left"), false), ((Str.ofString "place"), false)]
noncomputable def vs26 : List (Str × Bool) := [((Str.ofString "_law_script"), false), ((Str.ofString "_law_k"), false)]
noncomputable def vs33 : List (Str × Bool) := [((Str.ofString "_law_found"), false)]
noncomputable def vs40 : List (Str × Bool) := [((Str.ofString "_law_found"), false), ((Str.ofString "_law_due"), false), ((Str.ofString "_law_k"), false)]
noncomputable def vs45 : List (Str × Bool) := [((Str.ofString "_law_script"), true), ((Str.ofString "_law_size"), true), ((Str.ofString "_law_k"), false), ((Str.ofString "_law_rows_here"), false), ((Str.ofString "_law_cell"), false), ((Str.ofString "_law_row"), false), ((Str.ofString "_law_turn"), false)]
noncomputable def vs50 : List (Str × Bool) := [((Str.ofString "_law_rows_here"), false), ((Str.ofString "_law_starts"), false), ((Str.ofString "_law_came_here"), true), ((Str.ofString "_law_one"), false), ((Str.ofString "_law_fresh"), false), ((Str.ofString "_law_k"), false)]
noncomputable def vs55 : List (Str × Bool) := [((Str.ofString "_law_script"), false), ((Str.ofString "_law_size"), false), ((Str.ofString "_law_rows_here"), false), ((Str.ofString "_law_cell"), false), ((Str.ofString "_law_starts"), false), ((Str.ofString "_law_handed"), false), ((Str.ofString "_law_begun"), false), ((Str.ofString "_law_found"), false), ((Str.ofString "_law_k"), false)]
theorem fn19 (P : Params) : FnOk (frag P) 19 2 7 bd19 vs19 globs meths attrs :=
  fnOk_mk (o := ob19 P) (n := 60) (by kernel_rfl) rfl rfl rfl rfl rfl (by kernel_rfl) (by kernel_rfl) (fun us h => by obtain ⟨a0, a1, rfl⟩ := len2 h; kernel_rfl) (by kernel_rfl) (by kernel_rfl) (by kernel_rfl) (by decide +kernel)
theorem fn26 (P : Params) : FnOk (frag P) 26 2 4 bd26 vs26 globs meths attrs :=
  fnOk_mk (o := ob26 P) (n := 60) (by kernel_rfl) rfl rfl rfl rfl rfl (by kernel_rfl) (by kernel_rfl) (fun us h => by obtain ⟨a0, a1, rfl⟩ := len2 h; kernel_rfl) (by kernel_rfl) (by kernel_rfl) (by kernel_rfl) (by decide +kernel)
theorem fn33 (P : Params) : FnOk (frag P) 33 1 3 bd33 vs33 globs meths attrs :=
  fnOk_mk (o := ob33 P) (n := 60) (by kernel_rfl) rfl rfl rfl rfl rfl (by kernel_rfl) (by kernel_rfl) (fun us h => by obtain ⟨a0, rfl⟩ := len1 h; kernel_rfl) (by kernel_rfl) (by kernel_rfl) (by kernel_rfl) (by decide +kernel)
theorem fn40 (P : Params) : FnOk (frag P) 40 2 5 bd40 vs40 globs meths attrs :=
  fnOk_mk (o := ob40 P) (n := 60) (by kernel_rfl) rfl rfl rfl rfl rfl (by kernel_rfl) (by kernel_rfl) (fun us h => by obtain ⟨a0, a1, rfl⟩ := len2 h; kernel_rfl) (by kernel_rfl) (by kernel_rfl) (by kernel_rfl) (by decide +kernel)
theorem fn45 (P : Params) : FnOk (frag P) 45 2 9 bd45 vs45 globs meths attrs :=
  fnOk_mk (o := ob45 P) (n := 60) (by kernel_rfl) rfl rfl rfl rfl rfl (by kernel_rfl) (by kernel_rfl) (fun us h => by obtain ⟨a0, a1, rfl⟩ := len2 h; kernel_rfl) (by kernel_rfl) (by kernel_rfl) (by kernel_rfl) (by decide +kernel)
theorem fn50 (P : Params) : FnOk (frag P) 50 2 8 bd50 vs50 globs meths attrs :=
  fnOk_mk (o := ob50 P) (n := 60) (by kernel_rfl) rfl rfl rfl rfl rfl (by kernel_rfl) (by kernel_rfl) (fun us h => by obtain ⟨a0, a1, rfl⟩ := len2 h; kernel_rfl) (by kernel_rfl) (by kernel_rfl) (by kernel_rfl) (by decide +kernel)
theorem fn55 (P : Params) : FnOk (frag P) 55 1 11 bd55 vs55 globs meths attrs :=
  fnOk_mk (o := ob55 P) (n := 60) (by kernel_rfl) rfl rfl rfl rfl rfl (by kernel_rfl) (by kernel_rfl) (fun us h => by obtain ⟨a0, rfl⟩ := len1 h; kernel_rfl) (by kernel_rfl) (by kernel_rfl) (by kernel_rfl) (by decide +kernel)
theorem fn_list (P : Params) : ∀ p ∈ fnTab, ∃ vars, FnOk (frag P) p.1 p.2.nparams p.2.nslots p.2.body vars globs meths attrs :=
  (List.forall_mem_cons.mpr ⟨⟨vs19, fn19 P⟩, (List.forall_mem_cons.mpr ⟨⟨vs26, fn26 P⟩, (List.forall_mem_cons.mpr ⟨⟨vs33, fn33 P⟩, (List.forall_mem_cons.mpr ⟨⟨vs40, fn40 P⟩, (List.forall_mem_cons.mpr ⟨⟨vs45, fn45 P⟩, (List.forall_mem_cons.mpr ⟨⟨vs50, fn50 P⟩, (List.forall_mem_cons.mpr ⟨⟨vs55, fn55 P⟩, fun _ h => nomatch h⟩)⟩)⟩)⟩)⟩)⟩)⟩)
theorem fn_all (P : Params) : ∀ f fn, fnTab.lookup f = some fn → ∃ vars, FnOk (frag P) f fn.nparams fn.nslots fn.body vars globs meths attrs := fun f fn h => fn_list P (f, fn) (lookup_in h)
end Mine
namespace Mine
open PySem PySem.W PyProof.Rows
theorem lookup_inS {α : Type} {l : List (Str × α)} {f : Str} {x : α} (h : l.lookup f = some x) : (f, x) ∈ l := by
  induction l with
  | nil => cases h
  | cons p r ih =>
    rw [List.lookup_cons] at h
    split at h
    · rename_i e; cases h; rw [beq_iff_eq.mp e]; exact .head _
    · exact .tail _ (ih h)
noncomputable def ownOk (K : Frag) (name : Str) (c f : Addr) : Prop := findIn K (.ref c) "__getattribute__" = some (some (.builtin "object.__getattribute__")) ∧ findIn K (.ref c) "__getattr__" = some none ∧
    findIn K (.ref c) name = some (some (.ref f)) ∧ typeIn K (.ref f) = some (.type "function") ∧ keepIn K (.ref f) = true
theorem stat_own (P : Params) : ∀ q ∈ meths, ∀ c f, q.2 = .own c f → ownOk (frag P) q.1 c f :=
  (List.forall_mem_cons.mpr ⟨fun _ _ e => MV.noConfusion e, (List.forall_mem_cons.mpr ⟨fun _ _ e => MV.noConfusion e, (List.forall_mem_cons.mpr ⟨fun _ _ e => MV.noConfusion e, (List.forall_mem_cons.mpr ⟨fun _ _ e => MV.noConfusion e, fun _ h => nomatch h⟩)⟩)⟩)⟩)
theorem stat_me : ∀ q ∈ meths, ∀ m, q.2 = .me m → q.1 = Str.ofString (meName m) :=
  (List.forall_mem_cons.mpr ⟨fun _ e => by cases e; rfl, (List.forall_mem_cons.mpr ⟨fun _ e => by cases e; rfl, (List.forall_mem_cons.mpr ⟨fun _ e => by cases e; rfl, (List.forall_mem_cons.mpr ⟨fun _ e => by cases e; rfl, fun _ h => nomatch h⟩)⟩)⟩)⟩)
theorem stat_attr (P : Params) : ∀ q ∈ attrs, AttrOk (frag P) q.2 q.1 :=
  fun _ h => nomatch h
noncomputable def gAt (K : Frag) (x : Str) (g : GV) : Prop := ∃ v, GOk K g v ∧ (nsIn K mainGlobals x = some (some v) ∨ (nsIn K mainGlobals x = some none ∧ bootBuiltins x = some v ∧ x ≠ nm))
theorem tabs (w : World) : TabsK w (frag w.params) := fun a o h ht prog es ep hd => by
  have hm : (a, o) ∈ (frag w.params).filter (fun p => isTab p.2) := List.mem_filter.mpr ⟨lookup_mem h, ht⟩
  have hf : (frag w.params).filter (fun p => isTab p.2) = [] := by kernel_rfl
  rw [hf] at hm
  exact nomatch hm
theorem stat_glob (P : Params) : ∀ q ∈ globs, gAt (frag P) q.1 q.2 :=
  (List.forall_mem_cons.mpr ⟨⟨_, ⟨rfl, by kernel_rfl⟩, .inl (by kernel_rfl)⟩, (List.forall_mem_cons.mpr ⟨⟨_, ⟨rfl, by kernel_rfl⟩, .inl (by kernel_rfl)⟩, (List.forall_mem_cons.mpr ⟨⟨_, ⟨rfl, by kernel_rfl⟩, .inl (by kernel_rfl)⟩, (List.forall_mem_cons.mpr ⟨⟨_, ⟨rfl, by kernel_rfl⟩, .inl (by kernel_rfl)⟩, (List.forall_mem_cons.mpr ⟨⟨_, ⟨rfl, by kernel_rfl⟩, .inl (by kernel_rfl)⟩, (List.forall_mem_cons.mpr ⟨⟨_, ⟨rfl, by kernel_rfl⟩, .inl (by kernel_rfl)⟩, (List.forall_mem_cons.mpr ⟨⟨_, ⟨rfl, by kernel_rfl⟩, .inl (by kernel_rfl)⟩, (List.forall_mem_cons.mpr ⟨⟨_, rfl, .inr ⟨by kernel_rfl, by kernel_rfl, by decide⟩⟩, (List.forall_mem_cons.mpr ⟨⟨_, rfl, .inr ⟨by kernel_rfl, by kernel_rfl, by decide⟩⟩, (List.forall_mem_cons.mpr ⟨⟨_, rfl, .inr ⟨by kernel_rfl, by kernel_rfl, by decide⟩⟩, (List.forall_mem_cons.mpr ⟨⟨_, rfl, .inr ⟨by kernel_rfl, by kernel_rfl, by decide⟩⟩, (List.forall_mem_cons.mpr ⟨⟨_, rfl, .inr ⟨by kernel_rfl, by kernel_rfl, by decide⟩⟩, (List.forall_mem_cons.mpr ⟨⟨_, rfl, .inr ⟨by kernel_rfl, by kernel_rfl, by decide⟩⟩, (List.forall_mem_cons.mpr ⟨⟨_, rfl, .inr ⟨by kernel_rfl, by kernel_rfl, by decide⟩⟩, (List.forall_mem_cons.mpr ⟨⟨_, ⟨rfl, fun _ e => TY.noConfusion e⟩, .inr ⟨by kernel_rfl, by kernel_rfl, by decide⟩⟩, fun _ h => nomatch h⟩)⟩)⟩)⟩)⟩)⟩)⟩)⟩)⟩)⟩)⟩)⟩)⟩)⟩)⟩)
theorem stat (P : Params) : StatOk' (frag P) globs meths attrs :=
  ⟨fun name c f h => stat_own P _ (lookup_inS h) c f rfl, fun name m h => stat_me _ (lookup_inS h) m rfl, fun name c h => stat_attr P _ (lookup_inS h), fun x g h => stat_glob P _ (lookup_inS h)⟩
end Mine
namespace Mine
open PySem PySem.W PyProof.Rows


theorem f2_ints {ι : List Addr} : ∀ {vs : List Value} {xs : List Int}, IntsAre vs xs → F2 (VRel ι) vs (xs.map AV.int)
  | _, _, .nil => trivial
  | _, _, .cons k t h => ⟨.int k t, f2_ints h⟩

noncomputable def es6 (P : Params) : Array DictEntry := match (ob6 P).data with | .dict es _ => es | _ => #[]
noncomputable def ep6 (P : Params) : Nat := match (ob6 P).data with | .dict _ n => n | _ => 0
theorem strKeys_of {es : Array DictEntry} (h : (es.toList.all fun e => match e.key with | .str _ _ => true | _ => false) = true) : StrKeys es := by
  intro e he
  have := List.all_eq_true.mp h e (by simpa using he)
  split at this
  · rename_i n t q; exact ⟨n, t, q⟩
  · cases this
theorem keys6 (P : Params) : StrKeys (es6 P) := strKeys_of (by kernel_rfl)

theorem enter {prog : Program} {w : World} {s : Shared} {p : Program} {loose : List Str} {mg mb : Str → Option Value} (KX : (fragAll w.params).In s.heap) (T : TopRead p loose mg mb s.heap) (hmods : ∃ o, s.heap.get? sysModules = some o)
    {a : Addr} {vs : Array Value} {xs : List Int} (hl : s.heap.IsList a vs) (hi : IntsAre vs.toList xs) (hn : xs.length ≤ line) {n : Nat} (hnn : n ≤ 100) {r : AV} {σ' : List AO}
    (run : acall PR n 55 [.obj 0] [.ro (xs.map .int)] = some (.ok r, σ')) {Q : Value → Shared → Prop} {E : Value → Shared → Prop}
    (hQ : ∀ ι' s' v, VRel ι' v r → (∀ b o, s.heap.get? b = some o → s'.heap.get? b = some o) → s' = { s with heap := s'.heap, toks := s'.toks } → Q v s') :
    wpAny (model prog w) callerA (call (.ref 55) [.ref a]) Q E s := by
  have h30 : s.heap.get? 6 = some (ob6 w.params) := KX 6 _ rfl
  obtain ⟨oa, hoa, hca, na, hda⟩ := id hl
  have ha30 : a ≠ 6 := fun e => by
    rw [e, h30] at hoa; cases hoa
    have : (ob6 w.params).cls = .type "dict" := rfl
    rw [this] at hca
    exact absurd hca (by decide)
  let hb := hideAll s.heap [6]
  have hbk : ∀ b o, hb.get? b = some o → s.heap.get? b = some o := fun b o e => of_hideAll [6] e
  have hbg : ∀ b o, b ≠ 6 → s.heap.get? b = some o → hb.get? b = some o := fun b o h e => hideAll_get [6] e (fun q => h (List.mem_singleton.mp q))
  let X : Cx := { Kp := hb.get?, L := 6, locs := [], s₀ := s, ros := [a], fr := [] }
  have R : Rel prog w X [a] ⟨[.ro (xs.map .int)], []⟩ s := by
    refine ⟨fun b o e => ⟨o, hbk b o e, .inl rfl⟩, ⟨nsFind (es6 w.params), ⟨ob6 w.params, es6 w.params, ep6 w.params, h30, rfl, keys6 _, fun _ => rfl⟩, fun i x y h => (by cases h)⟩, rfl, by simp, ?_, ?_, fun i c h => (by cases h), fun i C x h => (by cases h), rfl, rfl⟩
    · intro i b ao h1 h2
      match i, h1, h2 with
      | 0, h1, h2 => cases h1; cases h2; exact ⟨fun q => (by cases q), ha30, fun _ => List.mem_singleton.mpr rfl⟩
      | i + 1, h1, h2 => cases h1
    · intro i ao h
      match i, h with
      | 0, h => cases h; exact ⟨a, oa, rfl, hoa, ⟨vs, na, hca, hda, f2_ints hi⟩, by simpa using hn⟩
      | i + 1, h => cases h
  have ok : CxOk X := by
    refine ⟨fun i j x h => (by cases h), fun i j x h => (by cases h), hideAll_none (h := s.heap) (b := 6) [6] (List.mem_singleton.mpr rfl), fun i c h => (by cases h), fun i C x h => (by cases h), fun b hb' => ?_, fun _ _ q => (nomatch q), fun _ q => (nomatch q)⟩
    have : b = a := List.mem_singleton.mp hb'
    subst this
    exact ⟨oa, hbg _ _ ha30 hoa⟩
  have KI : (frag w.params).In hb := by
    intro b o e
    have hb30 : b ≠ 6 := by
      rintro rfl
      have : (frag w.params).lookup 6 = none := by kernel_rfl
      rw [this] at e; cases e
    refine hbg b o hb30 (KX b o ?_)
    show List.lookup b ((6, ob6 w.params) :: frag w.params) = some o
    rw [List.lookup_cons, beq_eq_false_iff_ne.mpr hb30]; exact e
  have TR : TopRead p loose mg mb hb := by
    have keepNs : ∀ {b : Addr} {m : Str → Option Value}, b ≠ 6 → s.heap.Ns b m → hb.Ns b m := fun h hN => hN.at' fun o e => hbg _ o h e
    obtain ⟨mc, hc, hc'⟩ := T.nolimit
    exact ⟨keepNs (by decide) T.g, keepNs (by decide) T.b, ⟨mc, keepNs (by decide) hc, hc'⟩, T.builtins, T.free⟩
  have G : Gr (frag w.params) hb callerA X := by
    obtain ⟨om, hom⟩ := hmods
    exact ⟨fun b o e => e, KI, ⟨p, loose, mg, mb, TR⟩, ⟨om, hbg _ _ (by decide) hom⟩, rfl, by decide +kernel, ok, ⟨[], rfl, fun _ q => (nomatch q)⟩, fun _ q => (nomatch q)⟩
  have hd : callerA.depth + 3 * n < recursionLimit := by
    have h1 : callerA.depth = 301 := by decide +kernel
    have h2 : recursionLimit = 1000 := by decide +kernel
    omega
  have hu : callerA.units + 10 * n + 10 < cLine := by
    have h1 : callerA.units = 4 := rfl
    have h2 : cLine = 9900 := rfl
    omega
  have C := codes (prog := prog) (w := w) (hb := hb) (P := PR) (stat w.params) (tabs w) (fun f fn h => fn_all w.params f fn h) n callerA rfl hd hu
  have hf : callFn (acall PR n) 55 [.obj 0] ⟨[.ro (xs.map .int)], []⟩ = some (.ok r, ⟨σ', []⟩) := by unfold callFn; rw [run]
  refine wpAny_call (C 55 X [a] _ s [.ref a] [.obj 0] G R ⟨.obj rfl, trivial⟩ (.ok r) _ hf _ fun ι' s' v p' R' hv kept => hQ ι' s' v hv (fun b o e => ?_) R'.shape)
  by_cases q : b = a
  · subst q
    exact (R'.frozen _ o (hbg _ _ ha30 e)).get fun q => (nomatch q)
  · exact kept b o (by simpa using q) (fun q => (nomatch q)) e
end Mine
namespace Mine
open PySem
noncomputable def Ok {α : Type} (m : M α) (st : ASt) (Q : α → ASt → Prop) : Prop := ∃ a st', m st = some (.ok a, st') ∧ Q a st'
section
variable {α β : Type}
theorem k_ret {a : α} {st : ASt} {Q : α → ASt → Prop} : Ok (ret a) st Q = Q a st := propext ⟨fun ⟨_, _, h, q⟩ => by cases h; exact q, fun q => ⟨_, _, rfl, q⟩⟩
theorem k_bnd {m : M α} {f : α → M β} {st : ASt} {Q : β → ASt → Prop} : Ok (bnd m f) st Q = Ok m st fun a s => Ok (f a) s Q := by
  refine propext ⟨fun ⟨b, s, h, q⟩ => ?_, fun ⟨a, s, h, b, s', h', q⟩ => ⟨b, s', ?_, q⟩⟩
  · unfold bnd at h
    match e : m st, h with
    | some (.ok a, s'), h => exact ⟨a, s', e, b, s, h, q⟩
  · unfold bnd; rw [h]; exact h'
theorem k_getLoc {i : Nat} {σ : List AO} {ρ : List (Option AV)} {Q : AV → ASt → Prop} {v : AV} (h : ρ[i]? = some (some v)) : Ok (getLoc i) ⟨σ, ρ⟩ Q = Q v ⟨σ, ρ⟩ := by
  have : getLoc i ⟨σ, ρ⟩ = some (.ok v, ⟨σ, ρ⟩) := by unfold getLoc; rw [h]
  exact propext ⟨fun ⟨_, _, e, q⟩ => by rw [this] at e; cases e; exact q, fun q => ⟨_, _, this, q⟩⟩
theorem k_setLoc {i : Nat} {v : AV} {σ : List AO} {ρ : List (Option AV)} {Q : Unit → ASt → Prop} : Ok (setLoc i v) ⟨σ, ρ⟩ Q = Q () ⟨σ, ρ.set i (some v)⟩ := propext ⟨fun ⟨_, _, h, q⟩ => by cases h; exact q, fun q => ⟨_, _, rfl, q⟩⟩
theorem k_alloc {o : AO} {σ : List AO} {ρ : List (Option AV)} {Q : AV → ASt → Prop} : Ok (alloc o) ⟨σ, ρ⟩ Q = Q (.obj σ.length) ⟨σ ++ [o], ρ⟩ := propext ⟨fun ⟨_, _, h, q⟩ => by cases h; exact q, fun q => ⟨_, _, rfl, q⟩⟩
theorem k_upd {i : Nat} {o : AO} {σ : List AO} {ρ : List (Option AV)} {Q : Unit → ASt → Prop} : Ok (upd i o) ⟨σ, ρ⟩ Q = Q () ⟨σ.set i o, ρ⟩ := propext ⟨fun ⟨_, _, h, q⟩ => by cases h; exact q, fun q => ⟨_, _, rfl, q⟩⟩
theorem k_deref {i : Nat} {o : AO} {σ : List AO} {ρ : List (Option AV)} {Q : AO → ASt → Prop} (h : σ[i]? = some o) : Ok (deref i) ⟨σ, ρ⟩ Q = Q o ⟨σ, ρ⟩ := by
  have : deref i ⟨σ, ρ⟩ = some (.ok o, ⟨σ, ρ⟩) := by unfold deref; rw [h]
  exact propext ⟨fun ⟨_, _, e, q⟩ => by rw [this] at e; cases e; exact q, fun q => ⟨_, _, this, q⟩⟩
theorem k_guard {b : Bool} {st : ASt} {Q : Unit → ASt → Prop} (h : b = true) : Ok (guard b) st Q = Q () st := by
  subst h; exact propext ⟨fun ⟨_, _, e, q⟩ => by cases e; exact q, fun q => ⟨_, _, rfl, q⟩⟩
theorem k_ofOpt {o : Option α} {a : α} {st : ASt} {Q : α → ASt → Prop} (h : o = some a) : Ok (ofOpt o) st Q = Q a st := by
  subst h; exact propext ⟨fun ⟨_, _, e, q⟩ => by cases e; exact q, fun q => ⟨_, _, rfl, q⟩⟩
theorem k_ite {c : Prop} [Decidable c] {a b : M α} {st : ASt} {Q : α → ASt → Prop} : Ok (if c then a else b) st Q = if c then Ok a st Q else Ok b st Q := by split <;> rfl
theorem Ok.mono {m : M α} {st : ASt} {Q Q' : α → ASt → Prop} (h : Ok m st Q) (g : ∀ a s, Q a s → Q' a s) : Ok m st Q' := by
  obtain ⟨a, s, e, q⟩ := h; exact ⟨a, s, e, g a s q⟩
theorem k_test {t : Bool} {A B : Prop} (h : t = true) (a : A) : if t = true then A else B := by rw [if_pos h]; exact a
theorem k_ntest {t : Bool} {A B : Prop} (h : t = false) (b : B) : if t = true then A else B := by rw [if_neg (by rw [h]; exact Bool.false_ne_true)]; exact b
end
section
variable {P : AProg} {C : Calls} {st : ASt} {σ : List AO} {ρ : List (Option AV)} {Q : AV → ASt → Prop} {QB : Bool → ASt → Prop} {QF : AF → ASt → Prop} {QU : Unit → ASt → Prop} {QL : List AV → ASt → Prop}
theorem e_cst {v : AV} (q : Q v st) : Ok (aeval P C (.cst v)) st Q := by show Ok (ret _) _ _; rw [k_ret]; exact q
theorem e_loc {i : Nat} {v : AV} (h : ρ[i]? = some (some v)) (q : Q v ⟨σ, ρ⟩) : Ok (aeval P C (.loc i)) ⟨σ, ρ⟩ Q := by show Ok (getLoc _) _ _; rw [k_getLoc h]; exact q
theorem e_bin {op : Operator} {l r : AE} (q : Ok (aeval P C l) st fun a s => Ok (aeval P C r) s fun b s => Ok (binop op a b) s Q) : Ok (aeval P C (.bin op l r)) st Q := by show Ok (bnd _ _) _ _; simp only [k_bnd]; exact q
theorem e_not {x : AE} (q : Ok (aeval P C x) st fun a s => Ok (truthy a) s fun b s => Q (.bool !b) s) : Ok (aeval P C (.not x)) st Q := by show Ok (bnd _ _) _ _; simp only [k_bnd, k_ret]; exact q
theorem e_and {xs : List AE} (q : Ok (aand P C xs) st Q) : Ok (aeval P C (.and xs)) st Q := q
theorem a_one {e : AE} (q : Ok (aeval P C e) st Q) : Ok (aand P C [e]) st Q := q
theorem a_more {e e' : AE} {r : List AE} (q : Ok (aeval P C e) st fun v s => Ok (truthy v) s fun b s => if b = true then Ok (aand P C (e' :: r)) s Q else Q v s) : Ok (aand P C (e :: e' :: r)) st Q := by
  show Ok (bnd _ _) _ _
  simp only [k_bnd, k_ite, k_ret]; exact q
theorem c_one {e : AE} {a : AV} {op : CmpOp} (q : Ok (aeval P C e) st fun b s => Ok (cmpop op a b) s QB) : Ok (achain P C [e] a [op]) st QB := by
  show Ok (bnd _ _) _ _
  simp only [k_bnd, List.isEmpty_nil, Bool.and_self, if_true, k_ret]; exact q
theorem e_call {f : Addr} {args : List AE} (q : Ok (aevals P C args) st fun vs s => Ok (callFn C f vs) s Q) : Ok (aeval P C (.call f args)) st Q := by show Ok (bnd _ _) _ _; simp only [k_bnd]; exact q
theorem e_bi {b : BI} {args : List AE} (q : Ok (aevals P C args) st fun vs s => Ok (callBi b vs) s Q) : Ok (aeval P C (.bi b args)) st Q := by show Ok (bnd _ _) _ _; simp only [k_bnd]; exact q
theorem e_isi {x : AE} {t : TY} (q : Ok (aeval P C x) st fun a s => Ok (isaT P a t) s fun b s => Q (.bool b) s) : Ok (aeval P C (.isi x t)) st Q := by show Ok (bnd _ _) _ _; simp only [k_bnd, k_ret]; exact q
theorem e_meth {o : AE} {m : ME} {args : List AE} (q : Ok (aeval P C o) st fun a s => Ok (kindOf a) s fun k s => Ok (aevals P C args) s fun vs s => Ok (callMeth k a m vs) s Q) : Ok (aeval P C (.meth o m args)) st Q := by show Ok (bnd _ _) _ _; simp only [k_bnd]; exact q
theorem e_sub {o i : AE} (q : Ok (aeval P C o) st fun a s => Ok (aeval P C i) s fun b s => Ok (getItem a b) s Q) : Ok (aeval P C (.sub o i)) st Q := by show Ok (bnd _ _) _ _; simp only [k_bnd]; exact q
theorem e_list {xs : List AE} (q : Ok (aevals P C xs) st fun vs s => Ok (alloc (.list vs)) s Q) : Ok (aeval P C (.list xs)) st Q := by show Ok (bnd _ _) _ _; simp only [k_bnd]; exact q
theorem e_dict0 (q : Ok (alloc (.dict [])) st Q) : Ok (aeval P C .dict0) st Q := q
theorem e_comp {k : Nat} {elt iter : AE} {ifs : List AE} (q : Ok (aeval P C iter) st fun v s => Ok (iterLen v) s fun qn s => decide (qn.2 ≤ line) = true ∧ Ok (compLoop qn.1 v qn.2 k (atests P C ifs) (aeval P C elt) qn.2 0 []) s fun xs s => Ok (alloc (.list xs)) s Q) : Ok (aeval P C (.comp k elt iter ifs)) st Q := by
  show Ok (bnd _ _) _ _
  simp only [k_bnd]
  exact q.mono fun v s q => q.mono fun qn s q => by rw [k_guard q.1]; exact q.2
theorem es_nil (q : QL [] st) : Ok (aevals P C []) st QL := by show Ok (ret _) _ _; rw [k_ret]; exact q
theorem es_cons {e : AE} {r : List AE} (q : Ok (aeval P C e) st fun v s => Ok (aevals P C r) s fun vs s => QL (v :: vs) s) : Ok (aevals P C (e :: r)) st QL := by show Ok (bnd _ _) _ _; simp only [k_bnd, k_ret]; exact q
theorem t_not {x : AE} (q : Ok (atest P C x) st fun b s => QB (!b) s) : Ok (atest P C (.not x)) st QB := by show Ok (bnd _ _) _ _; simp only [k_bnd, k_ret]; exact q
theorem t_and {xs : List AE} (q : Ok (aall P C xs) st QB) : Ok (atest P C (.and xs)) st QB := q
theorem t_or {xs : List AE} (q : Ok (aany P C xs) st QB) : Ok (atest P C (.or xs)) st QB := q
theorem t_cmp {l : AE} {ops : List CmpOp} {rs : List AE} (q : Ok (aeval P C l) st fun a s => Ok (achain P C rs a ops) s QB) : Ok (atest P C (.cmp l ops rs)) st QB := by show Ok (bnd _ _) _ _; simp only [k_bnd]; exact q
theorem t_loc {i : Nat} (q : Ok (aeval P C (.loc i)) st fun v s => Ok (truthy v) s QB) : Ok (atest P C (.loc i)) st QB := by show Ok (bnd _ _) _ _; simp only [k_bnd]; exact q
theorem t_call {f : Addr} {args : List AE} (q : Ok (aeval P C (.call f args)) st fun v s => Ok (truthy v) s QB) : Ok (atest P C (.call f args)) st QB := by show Ok (bnd (bnd _ _) _) _ _; rw [k_bnd]; exact q
theorem t_isi {x : AE} {t : TY} (q : Ok (aeval P C (.isi x t)) st fun v s => Ok (truthy v) s QB) : Ok (atest P C (.isi x t)) st QB := by show Ok (bnd (bnd _ _) _) _ _; rw [k_bnd]; exact q
theorem t_sub {o i : AE} (q : Ok (aeval P C (.sub o i)) st fun v s => Ok (truthy v) s QB) : Ok (atest P C (.sub o i)) st QB := by show Ok (bnd (bnd _ _) _) _ _; rw [k_bnd]; exact q
theorem al_nil (q : QB true st) : Ok (aall P C []) st QB := by show Ok (ret _) _ _; rw [k_ret]; exact q
theorem al_cons {e : AE} {r : List AE} (q : Ok (atest P C e) st fun b s => if b = true then Ok (aall P C r) s QB else QB false s) : Ok (aall P C (e :: r)) st QB := by show Ok (bnd _ _) _ _; simp only [k_bnd, k_ite, k_ret]; exact q
theorem an_nil (q : QB false st) : Ok (aany P C []) st QB := by show Ok (ret _) _ _; rw [k_ret]; exact q
theorem an_cons {e : AE} {r : List AE} (q : Ok (atest P C e) st fun b s => if b = true then QB true s else Ok (aany P C r) s QB) : Ok (aany P C (e :: r)) st QB := by show Ok (bnd _ _) _ _; simp only [k_bnd, k_ite, k_ret]; exact q
theorem ts_nil (q : QB true st) : Ok (atests P C []) st QB := by show Ok (ret _) _ _; rw [k_ret]; exact q
theorem ts_cons {e : AE} {r : List AE} (q : Ok (atest P C e) st fun b s => if b = true then Ok (atests P C r) s QB else QB false s) : Ok (atests P C (e :: r)) st QB := by show Ok (bnd _ _) _ _; simp only [k_bnd, k_ite, k_ret]; exact q
theorem k_noerr {α : Type} {m : M α} {Q : α → ASt → Prop} (q : Ok m st Q) : Ok (noerr m) st Q := by
  obtain ⟨a, s, h, q⟩ := q
  exact ⟨a, s, by show (match m st with | some (Except.ok a, st') => some (Except.ok a, st') | _ => Option.none) = some (Except.ok a, s); rw [h], q⟩
theorem ax_of {e : AE} (q : Ok (aeval P C e) st Q) : Ok (axval P C e) st Q := by
  cases e with
  | call f args =>
    have q : Ok (bnd _ _) _ _ := q
    show Ok (bnd _ _) _ _
    rw [k_bnd] at q ⊢
    exact k_noerr q
  | own o c f name args =>
    have q : Ok (bnd _ _) _ _ := q
    show Ok (bnd _ _) _ _
    simp only [k_bnd] at q ⊢
    exact k_noerr (q.mono fun _ _ q => k_noerr (q.mono fun _ _ q => k_noerr q))
  | _ => exact k_noerr q
theorem s_expr {e : AE} (q : Ok (aeval P C e) st fun _ s => QF .next s) : Ok (aexec P C (.expr e)) st QF := by show Ok (bnd _ _) _ _; simp only [k_bnd, k_ret]; exact ax_of q
theorem s_assign {t : AT} {e : AE} (q : Ok (aeval P C e) st fun v s => Ok (aassign P C t v) s fun _ s => QF .next s) : Ok (aexec P C (.assign t e)) st QF := by
  show Ok (bnd _ _) _ _
  rw [k_bnd]
  exact ax_of (q.mono fun _ _ q => k_noerr (by simp only [k_bnd, k_ret]; exact q))
theorem s_ret {e : AE} (q : Ok (aeval P C e) st fun v s => QF (.ret v) s) : Ok (aexec P C (.ret e)) st QF := by show Ok (bnd _ _) _ _; simp only [k_bnd, k_ret]; exact ax_of q
theorem s_ite {t : AE} {b o : List AS} (q : Ok (atest P C t) st fun x s => if x = true then Ok (aexecs P C b) s QF else Ok (aexecs P C o) s QF) : Ok (aexec P C (.ite t b o)) st QF := by show Ok (bnd _ _) _ _; simp only [k_bnd, k_ite]; exact k_noerr q
theorem s_for {k : Nat} {iter : AE} {b : List AS} (q : Ok (aeval P C iter) st fun v s => Ok (iterLen v) s fun qn s => decide (qn.2 ≤ line) = true ∧ Ok (forLoop qn.1 v qn.2 k (aexecs P C b) qn.2 0) s QF) : Ok (aexec P C (.for k iter b)) st QF := by
  refine k_noerr ?_
  simp only [k_bnd]
  exact q.mono fun v s q => q.mono fun qn s q => by rw [k_guard q.1]; exact q.2
theorem s_loop {t : AE} {b : List AS} (q : Ok (whileLoop (atest P C t) (aexecs P C b) 100000) st QF) : Ok (aexec P C (.loop t b)) st QF := k_noerr q
noncomputable def goOn (r : Prop) (QF : AF → ASt → Prop) (f : AF) (s : ASt) : Prop := match f with | .next => r | .ret v => QF (.ret v) s
theorem xs_nil (q : QF .next st) : Ok (aexecs P C []) st QF := by show Ok (ret _) _ _; rw [k_ret]; exact q
theorem xs_cons {x : AS} {r : List AS} (q : Ok (aexec P C x) st fun f s => goOn (Ok (aexecs P C r) s QF) QF f s) : Ok (aexecs P C (x :: r)) st QF := by
  show Ok (bnd _ _) _ _
  simp only [k_bnd]
  refine q.mono fun f s q => ?_
  match f, q with
  | .next, q => exact q
  | .ret v, q => dsimp only; rw [k_ret]; exact q
theorem g_next {r : Prop} {s : ASt} (q : r) : goOn r QF .next s := q
theorem g_ret {r : Prop} {s : ASt} {v : AV} (q : QF (.ret v) s) : goOn r QF (.ret v) s := q
theorem as_loc {i : Nat} {v : AV} {ρ' : List (Option AV)} (h : ρ.set i (some v) = ρ') (q : QU () ⟨σ, ρ'⟩) : Ok (aassign P C (.loc i) v) ⟨σ, ρ⟩ QU := by subst h; show Ok (setLoc _ _) _ _; rw [k_setLoc]; exact q
theorem as_sub {o i : AE} {v : AV} (q : Ok (aeval P C o) st fun a s => Ok (aeval P C i) s fun b s => Ok (setItem a b v) s QU) : Ok (aassign P C (.sub o i) v) st QU := by show Ok (bnd _ _) _ _; simp only [k_bnd]; exact q
/-! operators -/
theorem b_add {x y : Int} (q : Q (.int (x + y)) st) : Ok (binop .Add (.int x) (.int y)) st Q := ⟨_, _, rfl, q⟩
theorem b_sub {x y : Int} (q : Q (.int (x - y)) st) : Ok (binop .Sub (.int x) (.int y)) st Q := ⟨_, _, rfl, q⟩
theorem b_fdiv {x y : Int} (h : (y != 0 && decide (y.natAbs < 1073741824)) = true) (q : Q (.int (x.fdiv y)) st) : Ok (binop .FloorDiv (.int x) (.int y)) st Q := by
  show Ok (bnd (guard _) _) st Q; rw [k_bnd, k_guard h, k_ret]; exact q
theorem b_mod {x y : Int} (h : (y != 0) = true) (q : Q (.int (x.fmod y)) st) : Ok (binop .Mod (.int x) (.int y)) st Q := by
  show Ok (bnd (guard _) _) st Q; rw [k_bnd, k_guard h, k_ret]; exact q
theorem tr_bool {b : Bool} (q : QB b st) : Ok (truthy (.bool b)) st QB := ⟨_, _, rfl, q⟩
theorem cm_lt {x y : Int} (q : QB (decide (x < y)) st) : Ok (cmpop .Lt (.int x) (.int y)) st QB := ⟨_, _, rfl, q⟩
theorem cm_gt {x y : Int} (q : QB (decide (y < x)) st) : Ok (cmpop .Gt (.int x) (.int y)) st QB := ⟨_, _, rfl, q⟩
theorem cm_is {x : AV} (q : QB (isNone x) st) : Ok (cmpop .Is x .none) st QB := ⟨_, _, rfl, q⟩
theorem cm_isn {x : AV} (q : QB (!isNone x) st) : Ok (cmpop .IsNot x .none) st QB := ⟨_, _, rfl, q⟩
theorem cm_eqi {x y : Int} (q : QB (x == y) st) : Ok (cmpop .Eq (.int x) (.int y)) st QB := ⟨_, _, rfl, q⟩
theorem cm_nei {x y : Int} (q : QB (!(x == y)) st) : Ok (cmpop .NotEq (.int x) (.int y)) st QB := ⟨_, _, rfl, q⟩
theorem cm_ninD {i : Nat} {k : Int} {es : List (Int × AV)} (h : σ[i]? = some (.dict es)) (q : QB (!(look es k).isSome) ⟨σ, ρ⟩) : Ok (cmpop .NotIn (.int k) (.obj i)) ⟨σ, ρ⟩ QB := by
  show Ok (bnd (bnd (deref i) _) _) _ _; rw [k_bnd, k_bnd, k_deref h]; dsimp only; rw [k_ret, k_ret]; exact q
theorem l_list {i : Nat} {xs : List AV} (h : σ[i]? = some (.list xs)) (q : Q (.int xs.length) ⟨σ, ρ⟩) : Ok (callBi .len [.obj i]) ⟨σ, ρ⟩ Q := by
  show Ok (bnd (deref i) _) _ _; rw [k_bnd, k_deref h]; dsimp only; rw [k_ret]; exact q
theorem l_ro {i : Nat} {xs : List AV} (h : σ[i]? = some (.ro xs)) (q : Q (.int xs.length) ⟨σ, ρ⟩) : Ok (callBi .len [.obj i]) ⟨σ, ρ⟩ Q := by
  show Ok (bnd (deref i) _) _ _; rw [k_bnd, k_deref h]; dsimp only; rw [k_ret]; exact q
theorem idx_nat {k : Int} {n : Nat} (h0 : 0 ≤ k) (h1 : k < n) : idx? k n = some k.toNat := by unfold idx?; rw [if_pos h0, if_pos h1]
theorem i_list {i : Nat} {xs : List AV} {k : Int} {v : AV} (h : σ[i]? = some (.list xs)) (h0 : 0 ≤ k) (e : xs[k.toNat]? = some v) (q : Q v ⟨σ, ρ⟩) : Ok (getItem (.obj i) (.int k)) ⟨σ, ρ⟩ Q := by
  have h1 : k < xs.length := by have := (List.getElem?_eq_some_iff.mp e).1; omega
  show Ok (bnd (deref i) _) _ _; rw [k_bnd, k_deref h]; dsimp only; rw [k_bnd, k_ofOpt (idx_nat h0 h1), k_ofOpt e]; exact q
theorem i_ro {i : Nat} {xs : List AV} {k : Int} {v : AV} (h : σ[i]? = some (.ro xs)) (h0 : 0 ≤ k) (e : xs[k.toNat]? = some v) (q : Q v ⟨σ, ρ⟩) : Ok (getItem (.obj i) (.int k)) ⟨σ, ρ⟩ Q := by
  have h1 : k < xs.length := by have := (List.getElem?_eq_some_iff.mp e).1; omega
  show Ok (bnd (deref i) _) _ _; rw [k_bnd, k_deref h]; dsimp only; rw [k_bnd, k_ofOpt (idx_nat h0 h1), k_ofOpt e]; exact q
theorem u_list {i : Nat} {xs : List AV} {k : Int} {v : AV} (h : σ[i]? = some (.list xs)) (h0 : 0 ≤ k) (h1 : k < xs.length) (q : QU () ⟨σ.set i (.list (xs.set k.toNat v)), ρ⟩) : Ok (setItem (.obj i) (.int k) v) ⟨σ, ρ⟩ QU := by
  show Ok (bnd (deref i) _) _ _; rw [k_bnd, k_deref h]; dsimp only; rw [k_bnd, k_ofOpt (idx_nat h0 h1), k_bnd, k_guard (decide_eq_true h0), k_upd]; exact q
theorem u_dict {i : Nat} {es : List (Int × AV)} {k : Int} {v : AV} (h : σ[i]? = some (.dict es)) (h1 : es.length < line) (q : QU () ⟨σ.set i (.dict (put es k v)), ρ⟩) : Ok (setItem (.obj i) (.int k) v) ⟨σ, ρ⟩ QU := by
  show Ok (bnd (deref i) _) _ _; rw [k_bnd, k_deref h]; dsimp only; rw [k_bnd, k_guard (decide_eq_true h1), k_upd]; exact q
theorem bi_range1 {b : Int} (h : smallR 0 b = true) (q : Q (.obj σ.length) ⟨σ ++ [.range 0 b], ρ⟩) : Ok (callBi .range [.int b]) ⟨σ, ρ⟩ Q := by
  show Ok (bnd (guard _) _) _ _; rw [k_bnd, k_guard h, k_alloc]; exact q
theorem bi_min {a b : Int} (q : Q (.int (if b < a then b else a)) st) : Ok (callBi .min [.int a, .int b]) st Q := ⟨_, _, rfl, q⟩
theorem bi_list {i : Nat} {xs : List AV} (h : σ[i]? = some (.list xs)) (q : Q (.obj σ.length) ⟨σ ++ [.list xs], ρ⟩) : Ok (callBi .list [.obj i]) ⟨σ, ρ⟩ Q := by
  show Ok (bnd (deref i) _) _ _; rw [k_bnd, k_deref h]; dsimp only; rw [k_alloc]; exact q
theorem it_len_range {i : Nat} {a b : Int} {Q' : IK × Nat → ASt → Prop} (h : σ[i]? = some (.range a b)) (q : Q' (.range a, (b - a).toNat) ⟨σ, ρ⟩) : Ok (iterLen (.obj i)) ⟨σ, ρ⟩ Q' := by
  show Ok (bnd (deref i) _) _ _; rw [k_bnd, k_deref h]; dsimp only; rw [k_ret]; exact q
theorem it_len_list {i : Nat} {xs : List AV} {Q' : IK × Nat → ASt → Prop} (h : σ[i]? = some (.list xs)) (q : Q' (.list, xs.length) ⟨σ, ρ⟩) : Ok (iterLen (.obj i)) ⟨σ, ρ⟩ Q' := by
  show Ok (bnd (deref i) _) _ _; rw [k_bnd, k_deref h]; dsimp only; rw [k_ret]; exact q
theorem at_range {a : Int} {v : AV} {n j : Nat} (q : Q (.int (a + j)) st) : Ok (iterAt (.range a) v n j) st Q := ⟨_, _, rfl, q⟩
theorem at_list {i n j : Nat} {xs : List AV} {x : AV} (h : σ[i]? = some (.list xs)) (hn : xs.length = n) (e : xs[j]? = some x) (q : Q x ⟨σ, ρ⟩) : Ok (iterAt .list (.obj i) n j) ⟨σ, ρ⟩ Q := by
  show Ok (bnd (bnd (deref i) _) _) _ _; rw [k_bnd, k_bnd, k_deref h]; dsimp only; rw [k_bnd, k_guard (decide_eq_true hn), k_ret, k_ofOpt e]; exact q
theorem en_range {a : Int} {v : AV} {n : Nat} (q : QU () st) : Ok (iterEnd (.range a) v n) st QU := ⟨_, _, rfl, q⟩
theorem en_list {i n : Nat} {xs : List AV} (h : σ[i]? = some (.list xs)) (hn : xs.length = n) (q : QU () ⟨σ, ρ⟩) : Ok (iterEnd .list (.obj i) n) ⟨σ, ρ⟩ QU := by
  show Ok (bnd (bnd (deref i) _) _) _ _; rw [k_bnd, k_bnd, k_deref h]; dsimp only; rw [k_bnd, k_guard (decide_eq_true hn), k_ret, k_ret]; exact q
theorem k_for {q : IK} {v : AV} {n k : Nat} {body : M AF} (I : Nat → ASt → Prop) {r j : Nat} {st : ASt} (h0 : I j st)
    (hs : ∀ i s, j ≤ i → i < j + r → I i s → Ok (iterAt q v n i) s fun x s => Ok (setLoc k x) s fun _ s => Ok body s fun f s => f = .next ∧ I (i + 1) s)
    (he : ∀ s, I (j + r) s → Ok (iterEnd q v n) s fun _ s => QF .next s) : Ok (forLoop q v n k body r j) st QF := by
  induction r generalizing j st with
  | zero => show Ok (bnd _ _) _ _; rw [k_bnd]; exact (he st h0).mono fun _ s h => by rw [k_ret]; exact h
  | succ r ih =>
    show Ok (bnd _ _) _ _
    rw [k_bnd]
    refine (hs j st (Nat.le_refl _) (by omega) h0).mono fun x s h => ?_
    rw [k_bnd]
    refine h.mono fun _ s h => ?_
    rw [k_bnd]
    refine h.mono fun f s h => ?_
    obtain ⟨rfl, h⟩ := h
    dsimp only
    exact ih h (fun i s h1 h2 => hs i s (by omega) (by omega)) (fun s h => he s (by rw [← Nat.add_assoc, Nat.add_right_comm]; exact h))
theorem k_comp {q : IK} {v : AV} {n k : Nat} {tests : M Bool} {elt : M AV} (I : Nat → List AV → ASt → Prop) {r j : Nat} {acc : List AV} {st : ASt} (h0 : I j acc st)
    (hs : ∀ i acc s, j ≤ i → i < j + r → I i acc s → Ok (iterAt q v n i) s fun x s => Ok (setLoc k x) s fun _ s => Ok tests s fun t s => if t = true then Ok elt s fun y s => I (i + 1) (acc ++ [y]) s else I (i + 1) acc s)
    (he : ∀ acc s, I (j + r) acc s → Ok (iterEnd q v n) s fun _ s => QL acc s) : Ok (compLoop q v n k tests elt r j acc) st QL := by
  induction r generalizing j st acc with
  | zero => show Ok (bnd _ _) _ _; rw [k_bnd]; exact (he acc st h0).mono fun _ s h => by rw [k_ret]; exact h
  | succ r ih =>
    have go : ∀ acc' s', I (j + 1) acc' s' → Ok (compLoop q v n k tests elt r (j + 1) acc') s' QL := fun acc' s' h =>
      ih h (fun i a s h1 h2 => hs i a s (by omega) (by omega)) (fun a s h => he a s (by rw [← Nat.add_assoc, Nat.add_right_comm]; exact h))
    show Ok (bnd _ _) _ _
    rw [k_bnd]
    refine (hs j acc st (Nat.le_refl _) (by omega) h0).mono fun x s h => ?_
    rw [k_bnd]
    refine h.mono fun _ s h => ?_
    rw [k_bnd]
    refine h.mono fun t s h => ?_
    rw [k_ite]
    by_cases ht : t = true
    · rw [if_pos ht] at h ⊢
      rw [k_bnd]
      exact h.mono fun y s h => go _ _ h
    · rw [if_neg ht] at h ⊢
      exact go _ _ h
/-- a call that ends well -/
noncomputable def COk (P : AProg) (n : Nat) (f : Addr) (args : List AV) (σ : List AO) (R : AV → List AO → Prop) : Prop := ∃ v σ', acall P n f args σ = some (.ok v, σ') ∧ R v σ'
noncomputable def outOf (R : AV → List AO → Prop) (f : AF) (s : ASt) : Prop := match f with | .next => R .none s.σ | .ret v => R v s.σ
theorem co_in {n : Nat} {f : Addr} {args : List AV} {R : AV → List AO → Prop} {fn : AFn} {ρ : List (Option AV)} (h : P.fn f = some fn) (hl : args.length = fn.nparams) (hρ : args.map some ++ List.replicate (fn.nslots - fn.nparams) none = ρ) (q : Ok (aexecs P (acall P n) fn.body) ⟨σ, ρ⟩ (outOf R)) : COk P (n + 1) f args σ R := by
  subst hρ
  obtain ⟨a, s, e, q⟩ := q
  match a, e, q with
  | .next, e, q => exact ⟨.none, s.σ, by rw [acall, h]; dsimp only; rw [if_pos hl, e], q⟩
  | .ret v, e, q => exact ⟨v, s.σ, by rw [acall, h]; dsimp only; rw [if_pos hl, e], q⟩
theorem ou_ret {R : AV → List AO → Prop} {v : AV} (q : R v σ) : outOf R (.ret v) ⟨σ, ρ⟩ := q
theorem co_use {n : Nat} {f : Addr} {args : List AV} {R : AV → List AO → Prop} (h : COk P n f args σ R) (q : ∀ v σ', R v σ' → Q v ⟨σ', ρ⟩) : Ok (callFn (acall P n) f args) ⟨σ, ρ⟩ Q := by
  obtain ⟨v, σ', e, r⟩ := h
  exact ⟨v, ⟨σ', ρ⟩, by unfold callFn; rw [e], q v σ' r⟩
theorem co_use2 {n : Nat} {f : Addr} {args : List AV} {v : AV} {σ' : List AO} (h : COk P n f args σ fun v' s' => v' = v ∧ s' = σ') (q : Q v ⟨σ', ρ⟩) : Ok (callFn (acall P n) f args) ⟨σ, ρ⟩ Q := by
  obtain ⟨_, _, e, rfl, rfl⟩ := h
  exact ⟨_, ⟨_, ρ⟩, by unfold callFn; rw [e], q⟩
theorem sl_loc {i : Nat} {v : AV} {ρ' : List (Option AV)} (h : ρ.set i (some v) = ρ') (q : QU () ⟨σ, ρ'⟩) : Ok (setLoc i v) ⟨σ, ρ⟩ QU := by subst h; rw [k_setLoc]; exact q
theorem is_int {st : ASt} {i : Int} {t : TY} {b : Bool} (h : vkTy .int t = some b) (q : QB b st) : Ok (isaT P (.int i) t) st QB := by
  show Ok (ofOpt _) _ _; rw [k_ofOpt h]; exact q
theorem is_list {i : Nat} {l : List AV} {t : TY} {b : Bool} (e : σ[i]? = some (.list l)) (h : vkTy .list t = some b) (q : QB b ⟨σ, ρ⟩) : Ok (isaT P (.obj i) t) ⟨σ, ρ⟩ QB := by
  show Ok (bnd (deref i) _) _ _; rw [k_bnd, k_deref e]; dsimp only; rw [k_ofOpt h]; exact q
theorem kd_list {i : Nat} {l : List AV} {QK : KD → ASt → Prop} (e : σ[i]? = some (.list l)) (q : QK .list ⟨σ, ρ⟩) : Ok (kindOf (.obj i)) ⟨σ, ρ⟩ QK := by
  show Ok (bnd (deref i) _) _ _; rw [k_bnd, k_deref e]; dsimp only; rw [k_ret]; exact q
theorem kd_dict {i : Nat} {l : List (Int × AV)} {QK : KD → ASt → Prop} (e : σ[i]? = some (.dict l)) (q : QK .dict ⟨σ, ρ⟩) : Ok (kindOf (.obj i)) ⟨σ, ρ⟩ QK := by
  show Ok (bnd (deref i) _) _ _; rw [k_bnd, k_deref e]; dsimp only; rw [k_ret]; exact q
theorem me_append {i : Nat} {l : List AV} {v : AV} (e : σ[i]? = some (.list l)) (h : l.length < line) (q : Q .none ⟨σ.set i (.list (l ++ [v])), ρ⟩) : Ok (callMeth .list (.obj i) .append [v]) ⟨σ, ρ⟩ Q := by
  show Ok (bnd (deref i) _) _ _; rw [k_bnd, k_deref e]; dsimp only [meList]; rw [k_bnd, k_guard (decide_eq_true h), k_bnd, k_upd, k_ret]; exact q
section
variable {C : Calls} {st : ASt} {Q : Nat → ASt → Prop} {QF : AF → ASt → Prop}
end
end
end Mine
namespace Mine
open PySem
section
variable {P : AProg} {C : Calls} {st : ASt} {σ : List AO} {ρ : List (Option AV)} {Q : AV → ASt → Prop} {QB : Bool → ASt → Prop} {QF : AF → ASt → Prop} {QU : Unit → ASt → Prop}
theorem k_while {test : M Bool} {body : M AF} (I : Nat → ASt → Prop) {N n : Nat} {st : ASt} (h0 : I n st) (hN : n < N)
    (hs : ∀ n s, I n s → Ok test s fun b s => if b = true then ∃ m, n = m + 1 ∧ Ok body s fun f s => f = .next ∧ I m s else QF .next s) : Ok (whileLoop test body N) st QF := by
  induction N generalizing n st with
  | zero => omega
  | succ N ih =>
    show Ok (bnd _ _) _ _
    rw [k_bnd]
    refine (hs n st h0).mono fun b s h => ?_
    rw [k_ite]
    by_cases hb : b = true
    · rw [if_pos hb] at h ⊢
      obtain ⟨m, rfl, h⟩ := h
      rw [k_bnd]
      refine h.mono fun f s h => ?_
      obtain ⟨rfl, h⟩ := h
      exact ih h (by omega)
    · rw [if_neg hb] at h ⊢
      rw [k_ret]; exact h
theorem me_keys {i : Nat} {es : List (Int × AV)} (e : σ[i]? = some (.dict es)) (q : Q (.obj σ.length) ⟨σ ++ [.keys i], ρ⟩) : Ok (callMeth .dict (.obj i) .keys []) ⟨σ, ρ⟩ Q := by
  show Ok (bnd (deref i) _) _ _; rw [k_bnd, k_deref e]; dsimp only [meDict]; rw [k_alloc]; exact q
theorem sortOk_asc {l : List Int} (h : l.length ≤ 100000) : sortOk l = true := decide_eq_true h
theorem so_keysA {i d : Nat} {es : List (Int × AV)} (e : σ[i]? = some (.keys d)) (h : σ[d]? = some (.dict es)) (hl : sortOk (es.map (·.1)) = true) (q : Q (.obj σ.length) ⟨σ ++ [.list ((sortInts (es.map (·.1))).map .int)], ρ⟩) : Ok (callBi .sorted [.obj i]) ⟨σ, ρ⟩ Q := by
  show Ok (bnd (deref i) _) _ _; rw [k_bnd, k_deref e]; dsimp only; rw [k_bnd, k_deref h]; dsimp only; rw [k_bnd, k_guard hl, k_alloc]; exact q
end
end Mine
namespace Mine
open PySem
section
variable {P : AProg} {C : Calls} {st : ASt} {σ : List AO} {ρ : List (Option AV)} {Q : AV → ASt → Prop} {QB : Bool → ASt → Prop} {QF : AF → ASt → Prop} {QU : Unit → ASt → Prop} {QI : IK × Nat → ASt → Prop} {QK : KD → ASt → Prop}
theorem w_al {o : AO} (q : Q (.obj σ.length) ⟨σ ++ [o], ρ⟩) : Ok (alloc o) ⟨σ, ρ⟩ Q := by rw [k_alloc]; exact q
theorem k_either {t : Bool} {A B : Prop} (a : t = true → A) (b : t = false → B) : if t = true then A else B := by
  cases t
  · exact k_ntest rfl (b rfl)
  · exact k_test rfl (a rfl)
theorem fm {x : Int} {n : Nat} (h : 0 < n) : ∃ o : Nat, x.fmod n = o ∧ o < n := by
  have h1 := Int.fmod_nonneg_of_pos x (show (0 : Int) < n by omega)
  have h2 := Int.fmod_lt_of_pos x (show (0 : Int) < n by omega)
  exact ⟨(x.fmod n).toNat, by omega, by omega⟩
theorem small_of {a b : Int} (h1 : -1000000000 ≤ a) (h2 : a ≤ 1000000000) (h3 : -1000000000 ≤ b) (h4 : b ≤ 1000000000) : smallR a b = true := by
  unfold smallR; rw [decide_eq_true h1, decide_eq_true h2, decide_eq_true h3, decide_eq_true h4]; rfl
end
end Mine
namespace Mine
open PySem
/-! plain: what is reached over rows -/
abbrev Rw := List (List (Option Nat))
structure Fit (R : Rw) : Prop where
  lt : ∀ r ∈ R, ∀ j, some j ∈ r → j < R.length
  few : ∀ r ∈ R, r.length ≤ 4
  size : R.length ≤ 300
inductive Rc (R : Rw) (S : List Nat) : Nat → Prop
  | start {j : Nat} : j ∈ S → Rc R S j
  | step {k j : Nat} {r : List (Option Nat)} : Rc R S k → R[k]? = some r → some j ∈ r → Rc R S j
theorem Rc.lt {R : Rw} {S : List Nat} {j : Nat} (hF : Fit R) (hS : ∀ j ∈ S, j < R.length) (h : Rc R S j) : j < R.length := by
  cases h with
  | start h => exact hS _ h
  | step _ h1 h2 => exact hF.lt _ (List.mem_of_getElem? h1) _ h2
theorem Rc.of {R : Rw} {S : List Nat} {p : Nat → Prop} (h0 : ∀ j ∈ S, p j) (h1 : ∀ k r j, p k → R[k]? = some r → some j ∈ r → p j) {j : Nat} (h : Rc R S j) : p j := by
  induction h with
  | start h => exact h0 _ h
  | step _ a b ih => exact h1 _ _ _ ih a b
theorem nd_le : ∀ {l1 l2 : List Nat}, l1.Nodup → (∀ x ∈ l1, x ∈ l2) → l1.length ≤ l2.length
  | [], _, _, _ => Nat.zero_le _
  | a :: r, l2, nd, h => by
    have nd' := List.nodup_cons.mp nd
    have ha := h a (.head _)
    have h1 := nd_le (l1 := r) (l2 := l2.erase a) nd'.2 fun x hx => (List.mem_erase_of_ne (fun (e : x = a) => nd'.1 (e ▸ hx))).mpr (h x (.tail _ hx))
    rw [List.length_erase_of_mem ha] at h1
    have := List.length_pos_of_mem ha
    rw [List.length_cons]; omega
theorem nd_lt {K : List Nat} {N : Nat} (nd : K.Nodup) (h : ∀ k ∈ K, k < N) : K.length ≤ N := by
  have := nd_le nd (l2 := List.range N) fun x hx => List.mem_range.mpr (h x hx)
  rwa [List.length_range] at this
theorem sorted_eq {K : List Nat} {N : Nat} {c : Nat → Bool} (nd : K.Nodup) (h : ∀ j, j ∈ K ↔ j < N ∧ c j = true) : sortInts (K.map fun k : Nat => (k : Int)) = ((List.range N).filter c).map fun k : Nat => (k : Int) := by
  have hp : ((List.range N).filter c).Pairwise (· < ·) := List.pairwise_lt_range.filter c
  refine (sort_unique (List.Perm.map _ ((List.perm_ext_iff_of_nodup (hp.imp fun h e => by omega) nd).mpr fun a => ?_)) (List.pairwise_map.mpr (hp.imp fun h => by omega))).symm
  rw [h, List.mem_filter, List.mem_range]
/-- some of a row, the empty ones left out -/
noncomputable def inner (r : List (Option Nat)) : List Nat := r.filterMap id
theorem inner_mem {r : List (Option Nat)} {j : Nat} : j ∈ inner r ↔ some j ∈ r := by
  unfold inner; rw [List.mem_filterMap]
  exact ⟨fun ⟨a, h, e⟩ => by cases e; exact h, fun h => ⟨_, h, rfl⟩⟩
theorem inner_len {r : List (Option Nat)} : (inner r).length ≤ r.length := List.length_filterMap_le _ _
/-- where the walk over the rows stands -/
structure Wlk (R : Rw) (S K L : List Nat) : Prop where
  nd : K.Nodup
  kr : ∀ j ∈ K, Rc R S j
  lr : ∀ j ∈ L, Rc R S j
  st : ∀ j ∈ S, j ∈ K ∨ j ∈ L
  cl : ∀ k ∈ K, ∀ r j, R[k]? = some r → some j ∈ r → j ∈ K ∨ j ∈ L
theorem Wlk.init {R : Rw} {S : List Nat} : Wlk R S [] S := ⟨List.nodup_nil, fun _ h => (nomatch h), fun _ h => .start h, fun _ h => .inr h, fun _ h => (nomatch h)⟩
theorem Wlk.skip {R : Rw} {S K L : List Nat} {p : Nat} (h : Wlk R S K (L ++ [p])) (hp : p ∈ K) : Wlk R S K L := by
  have go : ∀ j, j ∈ K ∨ j ∈ L ++ [p] → j ∈ K ∨ j ∈ L := fun j q => by
    rcases q with q | q
    · exact .inl q
    · rcases List.mem_append.mp q with q | q
      · exact .inr q
      · rw [List.mem_singleton.mp q]; exact .inl hp
  exact ⟨h.nd, h.kr, fun j q => h.lr j (List.mem_append_left _ q), fun j q => go j (h.st j q), fun k hk r j e q => go j (h.cl k hk r j e q)⟩
theorem Wlk.take {R : Rw} {S K L : List Nat} {p : Nat} {r : List (Option Nat)} (h : Wlk R S K (L ++ [p])) (hp : p ∉ K) (hr : R[p]? = some r) : Wlk R S (K ++ [p]) (L ++ inner r) := by
  have rp : Rc R S p := h.lr p (List.mem_append_right _ (List.mem_singleton.mpr rfl))
  have go : ∀ j, j ∈ K ∨ j ∈ L ++ [p] → j ∈ K ++ [p] ∨ j ∈ L ++ inner r := fun j q => by
    rcases q with q | q
    · exact .inl (List.mem_append_left _ q)
    · rcases List.mem_append.mp q with q | q
      · exact .inr (List.mem_append_left _ q)
      · exact .inl (List.mem_append_right _ q)
  refine ⟨List.nodup_append.mpr ⟨h.nd, by simp, fun a ha b hb e => hp (by rw [← List.mem_singleton.mp hb, ← e]; exact ha)⟩, fun j q => ?_, fun j q => ?_, fun j q => go j (h.st j q), fun k hk r' j e q => ?_⟩
  · rcases List.mem_append.mp q with q | q
    · exact h.kr j q
    · rw [List.mem_singleton.mp q]; exact rp
  · rcases List.mem_append.mp q with q | q
    · exact h.lr j (List.mem_append_left _ q)
    · exact .step rp hr (inner_mem.mp q)
  · rcases List.mem_append.mp hk with hk | hk
    · exact go j (h.cl k hk r' j e q)
    · rw [List.mem_singleton.mp hk, hr] at e; cases e
      exact .inr (List.mem_append_right _ (inner_mem.mpr q))
theorem Wlk.done {R : Rw} {S K : List Nat} (h : Wlk R S K []) (j : Nat) : j ∈ K ↔ Rc R S j :=
  ⟨h.kr j, Rc.of (fun j q => (h.st j q).resolve_right (fun q => nomatch q)) fun k r j hk e q => (h.cl k hk r j e q).resolve_right (fun q => nomatch q)⟩
/-- flags -/
noncomputable def fl (c : List Bool) (j : Nat) : Bool := c[j]? == some true
theorem fl_set {c : List Bool} {i : Nat} (hi : i < c.length) {j : Nat} : fl (c.set i true) j = (decide (i = j) || fl c j) := by
  unfold fl
  by_cases h : i = j
  · subst h; rw [List.getElem?_set_self hi]; simp
  · rw [List.getElem?_set_ne h, decide_eq_false h, Bool.false_or]
theorem fl_get {c : List Bool} {i : Nat} (hi : i < c.length) : c[i]? = some (fl c i) := by
  unfold fl
  rw [List.getElem?_eq_getElem hi]
  cases c[i] <;> rfl
theorem cnt_set {c : List Bool} {i : Nat} (hi : i < c.length) (h : fl c i = false) : (c.set i true).count true = c.count true + 1 := by
  have e := fl_get hi
  rw [h, List.getElem?_eq_getElem hi] at e
  rw [List.count_set hi, Option.some.inj e]; rfl
/-- the flags stand closed at place k, so far as the first i of its row go -/
noncomputable def ClsTo (R : Rw) (c : List Bool) (k i : Nat) : Prop := fl c k = true → ∀ r, R[k]? = some r → ∀ j, some j ∈ r.take i → fl c j = true
noncomputable def Cls (R : Rw) (c : List Bool) (k : Nat) : Prop := fl c k = true → ∀ r, R[k]? = some r → ∀ j, some j ∈ r → fl c j = true
structure Flg (R : Rw) (S : List Nat) (c : List Bool) : Prop where
  len : c.length = R.length
  rc : ∀ j, fl c j = true → Rc R S j
  st : ∀ j ∈ S, fl c j = true
theorem Flg.done {R : Rw} {S : List Nat} {c : List Bool} (h : Flg R S c) (cl : ∀ k, Cls R c k) (j : Nat) : fl c j = true ↔ Rc R S j :=
  ⟨h.rc j, Rc.of h.st fun k r j hk e q => cl k hk r e j q⟩
theorem Flg.put {R : Rw} {S : List Nat} {c : List Bool} {k j : Nat} {r : List (Option Nat)} (h : Flg R S c) (hk : fl c k = true) (hr : R[k]? = some r) (hj : some j ∈ r) (hl : j < R.length) : Flg R S (c.set j true) := by
  have hl' : j < c.length := by rw [h.len]; exact hl
  refine ⟨by rw [List.length_set]; exact h.len, fun i q => ?_, fun i q => ?_⟩
  · rw [fl_set hl', Bool.or_eq_true, decide_eq_true_eq] at q
    rcases q with rfl | q
    · exact .step (h.rc k hk) hr hj
    · exact h.rc i q
  · rw [fl_set hl', h.st i q, Bool.or_true]
end Mine
namespace Mine
open PySem
abbrev iv (n : Nat) : AV := .int (n : Nat)
noncomputable def ov : Option Nat → AV
  | none => .none
  | some j => iv j
theorem le_line {n : Nat} (h : n ≤ 16000000) : n ≤ line := h
/-! what is kept -/
noncomputable def Kp (σ τ : List AO) : Prop := ∀ (i : Nat) (o : AO), σ[i]? = some o → τ[i]? = some o
theorem Kp.refl {σ : List AO} : Kp σ σ := fun _ _ h => h
theorem Kp.trans {σ τ υ : List AO} (h : Kp σ τ) (g : Kp τ υ) : Kp σ υ := fun i o e => g i o (h i o e)
theorem g_app {τ t : List AO} {i : Nat} {o : AO} (h : τ[i]? = some o) : (τ ++ t)[i]? = some o := by rw [List.getElem?_append_left (List.getElem?_eq_some_iff.mp h).1]; exact h
theorem g_new {τ : List AO} {o : AO} : (τ ++ [o])[τ.length]? = some o := by simp
theorem g_set {τ : List AO} {i : Nat} {o x : AO} (h : τ[i]? = some x) : (τ.set i o)[i]? = some o := List.getElem?_set_self (List.getElem?_eq_some_iff.mp h).1
theorem g_ne {τ : List AO} {i j : Nat} {o x : AO} (h : τ[j]? = some x) (hn : i ≠ j) : (τ.set i o)[j]? = some x := by rw [List.getElem?_set_ne hn]; exact h
theorem Kp.app {σ τ t : List AO} (h : Kp σ τ) : Kp σ (τ ++ t) := fun i o e => g_app (h i o e)
theorem Kp.set {σ τ : List AO} {i : Nat} {o : AO} (h : Kp σ τ) (hi : σ.length ≤ i) : Kp σ (τ.set i o) := fun j x e => g_ne (h j x e) (by have := (List.getElem?_eq_some_iff.mp e).1; omega)
theorem Kp.le {σ τ : List AO} (h : Kp σ τ) : σ.length ≤ τ.length := by
  cases hσ : σ.length with
  | zero => omega
  | succ m =>
    have : m < σ.length := by omega
    have := (List.getElem?_eq_some_iff.mp (h m _ (List.getElem?_eq_getElem this))).1
    omega
theorem g_lt {τ : List AO} {i : Nat} {o : AO} (h : τ[i]? = some o) : i < τ.length := (List.getElem?_eq_some_iff.mp h).1
/-- the rows lie at these places -/
noncomputable def RwP (τ : List AO) : List Nat → Rw → Prop
  | [], [] => True
  | b :: as, r :: R => τ[b]? = some (.list (r.map ov)) ∧ RwP τ as R
  | _, _ => False
theorem RwP.keep {σ τ : List AO} (h : Kp σ τ) : ∀ {as : List Nat} {R : Rw}, RwP σ as R → RwP τ as R
  | [], [], _ => trivial
  | _ :: _, _ :: _, q => ⟨h _ _ q.1, RwP.keep h q.2⟩
  | [], _ :: _, q => q.elim
  | _ :: _, [], q => q.elim
theorem RwP.snoc {τ : List AO} {b : Nat} {r : List (Option Nat)} (h : τ[b]? = some (.list (r.map ov))) : ∀ {as : List Nat} {R : Rw}, RwP τ as R → RwP τ (as ++ [b]) (R ++ [r])
  | [], [], _ => ⟨h, trivial⟩
  | _ :: _, _ :: _, q => ⟨q.1, RwP.snoc h q.2⟩
  | [], _ :: _, q => q.elim
  | _ :: _, [], q => q.elim
theorem RwP.len {τ : List AO} : ∀ {as : List Nat} {R : Rw}, RwP τ as R → as.length = R.length
  | [], [], _ => rfl
  | _ :: _, _ :: _, q => congrArg (· + 1) (RwP.len q.2)
  | [], _ :: _, q => q.elim
  | _ :: _, [], q => q.elim
theorem RwP.get {τ : List AO} : ∀ {as : List Nat} {R : Rw} {k : Nat}, RwP τ as R → k < R.length → ∃ b r, as[k]? = some b ∧ R[k]? = some r ∧ τ[b]? = some (.list (r.map ov))
  | [], [], _, _, h => absurd h (Nat.not_lt_zero _)
  | b :: _, r :: _, 0, q, _ => ⟨b, r, rfl, rfl, q.1⟩
  | _ :: _, _ :: _, k + 1, q, h => RwP.get (k := k) q.2 (Nat.lt_of_succ_lt_succ h)
  | [], _ :: _, _, q, _ => q.elim
  | _ :: _, [], _, q, _ => q.elim
structure RwAt (τ : List AO) (a : Nat) (R : Rw) : Prop where
  out : ∃ as : List Nat, τ[a]? = some (.list (as.map .obj)) ∧ RwP τ as R
theorem RwAt.keep {σ τ : List AO} {a : Nat} {R : Rw} (h : Kp σ τ) (q : RwAt σ a R) : RwAt τ a R := by
  obtain ⟨as, h1, h2⟩ := q.out
  exact ⟨as, h _ _ h1, h2.keep h⟩
theorem RwAt.get {τ : List AO} {a k : Nat} {R : Rw} (q : RwAt τ a R) (hk : k < R.length) : ∃ xs b r, τ[a]? = some (.list xs) ∧ xs.length = R.length ∧ xs[k]? = some (.obj b) ∧ R[k]? = some r ∧ τ[b]? = some (.list (r.map ov)) := by
  obtain ⟨as, h1, h2⟩ := q.out
  obtain ⟨b, r, e1, e2, e3⟩ := h2.get hk
  exact ⟨_, b, r, h1, by rw [List.length_map]; exact h2.len, by rw [List.getElem?_map, e1]; rfl, e2, e3⟩
theorem RwAt.len {τ : List AO} {a : Nat} {R : Rw} (q : RwAt τ a R) : ∃ xs, τ[a]? = some (.list xs) ∧ xs.length = R.length := by
  obtain ⟨as, h1, h2⟩ := q.out
  exact ⟨_, h1, by rw [List.length_map]; exact h2.len⟩
section
variable {P : AProg} {C : Calls} {st : ASt} {σ : List AO} {ρ : List (Option AV)} {Q : AV → ASt → Prop} {QB : Bool → ASt → Prop} {QU : Unit → ASt → Prop} {n : Nat}
theorem tr_list {i : Nat} {xs : List AV} (h : σ[i]? = some (.list xs)) (q : QB (xs.length != 0) ⟨σ, ρ⟩) : Ok (truthy (.obj i)) ⟨σ, ρ⟩ QB := by
  show Ok (bnd (deref i) _) _ _; rw [k_bnd, k_deref h]; dsimp only; rw [k_ret]; exact q
theorem me_last {i : Nat} {v : AV} {xs : List AV} (e : σ[i]? = some (.list (xs ++ [v]))) (q : Q v ⟨σ.set i (.list xs), ρ⟩) : Ok (callMeth .list (.obj i) .pop []) ⟨σ, ρ⟩ Q := by
  have e1 : (xs ++ [v]).getLast? = some v := by simp
  have e2 : (xs ++ [v]).dropLast = xs := by simp
  show Ok (bnd (deref i) _) _ _; rw [k_bnd, k_deref e]; dsimp only [meList]; rw [e1]; dsimp only; rw [k_bnd, k_upd, k_ret, e2]; exact q
theorem me_extend {i j : Nat} {xs ys : List AV} (e : σ[i]? = some (.list xs)) (f : σ[j]? = some (.list ys)) (hn : i ≠ j) (hl : xs.length + ys.length ≤ line) (q : Q .none ⟨σ.set i (.list (xs ++ ys)), ρ⟩) : Ok (callMeth .list (.obj i) .extend [.obj j]) ⟨σ, ρ⟩ Q := by
  show Ok (bnd (deref i) _) _ _; rw [k_bnd, k_deref e]; dsimp only [meList]; rw [k_bnd, k_deref f]; dsimp only; rw [k_bnd, k_guard (by rw [decide_eq_true hn, decide_eq_true hl]; rfl), k_bnd, k_upd, k_ret]; exact q
theorem e_slc {o l u : AE} (q : Ok (aeval P C o) st fun a s => Ok (aeval P C l) s fun b s => Ok (aeval P C u) s fun c s => Ok (sliceOf a b c) s Q) : Ok (aeval P C (.slc o l u)) st Q := by show Ok (bnd _ _) _ _; simp only [k_bnd]; exact q
theorem sl_to {i k : Nat} {xs : List AV} (e : σ[i]? = some (.list xs)) (q : Q (.obj (σ.length + 1)) ⟨σ ++ [.slice .none (iv k)] ++ [.list (xs.take k)], ρ⟩) : Ok (sliceOf (.obj i) .none (iv k)) ⟨σ, ρ⟩ Q := by
  have e0 : partOf (iv k) = some (some (k : Int)) := by show (if (0 : Int) ≤ k then some (some (k : Int)) else none) = _; rw [if_pos (Int.natCast_nonneg k)]
  show Ok (bnd (ofOpt _) _) _ _; rw [k_bnd, k_ofOpt (show partOf .none = some none from rfl), k_bnd, k_ofOpt e0]; dsimp only; rw [k_bnd, k_deref e]; dsimp only; rw [k_bnd, k_alloc, k_alloc]
  have e1 : (σ ++ [AO.slice .none (iv k)]).length = σ.length + 1 := by simp
  rw [e1]; exact q
theorem p_whole {i : Int} : COk PR (n + 1) 33 [.int i] σ fun v σ' => v = .bool true ∧ σ' = σ := by
  refine co_in (fn := ⟨1, 3, bd33⟩) (ρ := [some (.int i), none, none]) rfl rfl rfl ?_; unfold bd33; dsimp only
  repeat (first | ((with_reducible apply e_loc); (· (first | rfl | assumption))) | (with_reducible first | apply e_not | apply e_and | apply a_one | apply a_more | apply e_isi | apply s_ret | apply xs_cons | apply g_ret | apply tr_bool | apply ou_ret) | ((with_reducible apply is_int); (· rfl)) | ((with_reducible apply k_test); (· (first | rfl | assumption | (simp only [*, Option.isSome_some, Option.isSome_none, Bool.not_true, Bool.not_false]; done) | (simp only [Bool.not_eq_true', Bool.not_eq_false', decide_eq_true_eq, decide_eq_false_iff_not, beq_iff_eq, beq_eq_false_iff_ne, ne_eq] <;> omega)))))
  exact ⟨rfl, rfl⟩
theorem p_cell {xs : List Int} {k : Int} (h : σ[0]? = some (.ro (xs.map .int))) (hk : 0 ≤ k) : COk PR (n + 1) 26 [.obj 0, .int k] σ fun v σ' => (∃ z : Int, v = .int z) ∧ σ' = σ := by
  refine co_in (fn := ⟨2, 4, bd26⟩) (ρ := [some (.obj 0), some (.int k), none, none]) rfl rfl rfl ?_; unfold bd26; dsimp only
  repeat (first | ((with_reducible apply e_loc); (· (first | rfl | assumption))) | (with_reducible first | apply c_one | apply e_bi | apply es_nil | apply es_cons | apply t_cmp | apply s_ite | apply xs_cons | apply cm_lt) | ((with_reducible apply l_ro); (· (first | rfl | assumption))))
  refine k_either (fun t => ?_) fun _ => ?_
  · have hlt : k.toNat < xs.length := by have := of_decide_eq_true t; simp at this; omega
    have : (xs.map AV.int)[k.toNat]? = some (.int xs[k.toNat]) := by rw [List.getElem?_map, List.getElem?_eq_getElem hlt]; rfl
    repeat (first | ((with_reducible apply e_loc); (· (first | rfl | assumption))) | (with_reducible first | apply e_sub | apply s_ret | apply xs_cons | apply g_ret | apply ou_ret) | ((with_reducible apply i_ro); (· (first | rfl | assumption)); (· (first | exact Int.natCast_nonneg _ | decide | omega)); (· (first | rfl | assumption))))
    exact ⟨⟨_, rfl⟩, rfl⟩
  · repeat (first | (with_reducible first | apply e_cst | apply s_ret | apply xs_nil | apply xs_cons | apply g_next | apply g_ret | apply ou_ret))
    exact ⟨⟨_, rfl⟩, rfl⟩
theorem co_cell {xs : List Int} {k : Int} (h : σ[0]? = some (.ro (xs.map .int))) (hk : 0 ≤ k) (q : ∀ z : Int, Q (.int z) ⟨σ, ρ⟩) : Ok (callFn (acall PR (n + 1)) 26 [.obj 0, .int k]) ⟨σ, ρ⟩ Q :=
  co_use (p_cell h hk) fun v s r => by obtain ⟨⟨z, rfl⟩, rfl⟩ := r; exact q z
theorem p_numbers {f d : Nat} {l : List (Option Nat)} (hf : σ[f]? = some (.list (l.map ov))) (hd : σ[d]? = some (.list (l.map ov))) (hl : l.length ≤ 1000) : COk PR (n + 2) 40 [.obj f, .obj d] σ fun v σ' => v = .bool true ∧ Kp σ σ' := by
  have hml : (l.map ov).length = l.length := List.length_map _
  have hf' : (σ ++ [AO.range 0 l.length])[f]? = some (.list (l.map ov)) := g_app hf
  have hd' : (σ ++ [AO.range 0 l.length])[d]? = some (.list (l.map ov)) := g_app hd
  have e0 : ((l.length : Int) - 0).toNat = l.length := by omega
  refine co_in (fn := ⟨2, 5, bd40⟩) (ρ := [some (.obj f), some (.obj d), none, none, none]) rfl rfl rfl ?_; unfold bd40; dsimp only
  repeat (first | ((with_reducible apply e_loc); (· (first | rfl | assumption))) | (with_reducible first | apply c_one | apply e_bi | apply e_isi | apply es_nil | apply es_cons | apply t_not | apply t_or | apply t_cmp | apply t_isi | apply an_nil | apply an_cons | apply s_ite | apply s_for | apply xs_nil | apply xs_cons | apply g_next | apply tr_bool | apply cm_nei) | ((with_reducible apply l_list); (· (first | rfl | assumption))) | ((with_reducible apply is_list); (· (first | rfl | assumption)); (· rfl)) | ((with_reducible apply k_ntest); (· (first | rfl | assumption | (simp only [*, Option.isSome_some, Option.isSome_none, Bool.not_true, Bool.not_false]; done) | (simp only [Bool.not_eq_true', Bool.not_eq_false', decide_eq_true_eq, decide_eq_false_iff_not, beq_iff_eq, beq_eq_false_iff_ne, ne_eq] <;> omega)))))
  rw [hml]
  refine bi_range1 (b := l.length) (small_of (by omega) (by omega) (by omega) (by omega)) ?_
  refine it_len_range (a := 0) (b := l.length) g_new ⟨?_, ?_⟩
  · exact decide_eq_true (le_line (by dsimp only; omega))
  dsimp only
  refine k_for (fun j s => ∃ y, s = ⟨σ ++ [.range 0 l.length], [some (.obj f), some (.obj d), y, none, none]⟩) ⟨_, rfl⟩ ?_ ?_
  · rintro j s - hj ⟨y, rfl⟩
    have hj' : j < l.length := by omega
    cases hx : l[j] with
    | none =>
      have hjv : (l.map ov)[j]? = some .none := by rw [List.getElem?_map, List.getElem?_eq_getElem hj', hx]; rfl
      refine at_range ?_
      rw [Int.zero_add]
      repeat (first | ((with_reducible apply e_loc); (· (first | rfl | assumption))) | (with_reducible first | apply e_cst | apply c_one | apply e_sub | apply t_and | apply t_cmp | apply al_cons | apply s_ite | apply xs_nil | apply xs_cons | apply g_next | apply cm_is | apply cm_isn) | ((with_reducible apply i_list); (· (first | rfl | assumption)); (· (first | exact Int.natCast_nonneg _ | decide | omega)); (· (first | rfl | assumption))) | ((with_reducible apply sl_loc); (· exact rfl)) | ((with_reducible apply k_test); (· (first | rfl | assumption | (simp only [*, Option.isSome_some, Option.isSome_none, Bool.not_true, Bool.not_false]; done) | (simp only [Bool.not_eq_true', Bool.not_eq_false', decide_eq_true_eq, decide_eq_false_iff_not, beq_iff_eq, beq_eq_false_iff_ne, ne_eq] <;> omega)))) | ((with_reducible apply k_ntest); (· (first | rfl | assumption | (simp only [*, Option.isSome_some, Option.isSome_none, Bool.not_true, Bool.not_false]; done) | (simp only [Bool.not_eq_true', Bool.not_eq_false', decide_eq_true_eq, decide_eq_false_iff_not, beq_iff_eq, beq_eq_false_iff_ne, ne_eq] <;> omega)))))
      exact ⟨rfl, _, rfl⟩
    | some z =>
      have hjv : (l.map ov)[j]? = some (.int (z : Nat)) := by rw [List.getElem?_map, List.getElem?_eq_getElem hj', hx]; rfl
      refine at_range ?_
      rw [Int.zero_add]
      repeat (first | ((with_reducible apply e_loc); (· (first | rfl | assumption))) | (with_reducible first | apply e_cst | apply c_one | apply e_call | apply e_sub | apply es_nil | apply es_cons | apply t_not | apply t_and | apply t_or | apply t_cmp | apply t_call | apply al_cons | apply an_cons | apply s_ite | apply xs_nil | apply xs_cons | apply g_next | apply cm_is | apply cm_isn) | ((with_reducible apply i_list); (· (first | rfl | assumption)); (· (first | exact Int.natCast_nonneg _ | decide | omega)); (· (first | rfl | assumption))) | ((with_reducible apply sl_loc); (· exact rfl)) | ((with_reducible apply k_test); (· (first | rfl | assumption | (simp only [*, Option.isSome_some, Option.isSome_none, Bool.not_true, Bool.not_false]; done) | (simp only [Bool.not_eq_true', Bool.not_eq_false', decide_eq_true_eq, decide_eq_false_iff_not, beq_iff_eq, beq_eq_false_iff_ne, ne_eq] <;> omega)))) | ((with_reducible apply k_ntest); (· (first | rfl | assumption | (simp only [*, Option.isSome_some, Option.isSome_none, Bool.not_true, Bool.not_false]; done) | (simp only [Bool.not_eq_true', Bool.not_eq_false', decide_eq_true_eq, decide_eq_false_iff_not, beq_iff_eq, beq_eq_false_iff_ne, ne_eq] <;> omega)))))
      refine co_use2 p_whole ?_
      repeat (first | ((with_reducible apply e_loc); (· (first | rfl | assumption))) | (with_reducible first | apply c_one | apply e_sub | apply t_cmp | apply an_nil | apply an_cons | apply xs_nil | apply g_next | apply tr_bool | apply cm_nei) | ((with_reducible apply i_list); (· (first | rfl | assumption)); (· (first | exact Int.natCast_nonneg _ | decide | omega)); (· (first | rfl | assumption))) | ((with_reducible apply k_ntest); (· (first | rfl | assumption | (simp only [*, Option.isSome_some, Option.isSome_none, Bool.not_true, Bool.not_false]; done) | (simp only [Bool.not_eq_true', Bool.not_eq_false', decide_eq_true_eq, decide_eq_false_iff_not, beq_iff_eq, beq_eq_false_iff_ne, ne_eq] <;> omega)))))
      exact ⟨rfl, _, rfl⟩
  · rintro s ⟨y, rfl⟩
    repeat (first | (with_reducible first | apply e_cst | apply s_ret | apply xs_cons | apply g_next | apply g_ret | apply en_range | apply ou_ret))
    exact ⟨rfl, Kp.refl.app⟩
end
end Mine
namespace Mine
open PySem
noncomputable def RowOk (N : Nat) (r : List (Option Nat)) : Prop := r.length ≤ 4 ∧ ∀ j, some j ∈ r → j < N
/-- the rows made so far -/
structure Mk (σ : List AO) (N i : Nat) (acc : List AV) (τ : List AO) : Prop where
  out : ∃ (as : List Nat) (R : Rw), acc = as.map .obj ∧ RwP τ as R ∧ R.length = i ∧ (∀ r ∈ R, RowOk N r) ∧ ∀ b ∈ as, σ.length < b
  kp : Kp σ τ
  lt : σ.length < τ.length
section
variable {ρ : List (Option AV)} {Q : AV → ASt → Prop} {n : Nat} {σ τ υ : List AO} {N i : Nat} {acc : List AV}
theorem Mk.init (h : Kp σ τ) (hl : σ.length < τ.length) : Mk σ N 0 [] τ := ⟨⟨[], [], rfl, trivial, rfl, fun _ h => (nomatch h), fun _ h => (nomatch h)⟩, h, hl⟩
theorem Mk.keep (h : Mk σ N i acc τ) (k : Kp τ υ) : Mk σ N i acc υ := by
  obtain ⟨as, R, e, h1, h2, h3, h4⟩ := h.out
  exact ⟨⟨as, R, e, h1.keep k, h2, h3, h4⟩, h.kp.trans k, Nat.lt_of_lt_of_le h.lt k.le⟩
theorem RwP.set {τ : List AO} {i : Nat} {o : AO} : ∀ {as : List Nat} {R : Rw}, RwP τ as R → (∀ b ∈ as, i < b) → RwP (τ.set i o) as R
  | [], [], _, _ => trivial
  | _ :: _, _ :: _, q, h => ⟨g_ne q.1 (Nat.ne_of_lt (h _ (.head _))), RwP.set q.2 fun b hb => h b (.tail _ hb)⟩
  | [], _ :: _, q, _ => q.elim
  | _ :: _, [], q, _ => q.elim
theorem Mk.set {o : AO} (h : Mk σ N i acc τ) : Mk σ N i acc (τ.set σ.length o) := by
  obtain ⟨as, R, e, h1, h2, h3, h4⟩ := h.out
  exact ⟨⟨as, R, e, h1.set h4, h2, h3, h4⟩, h.kp.set (Nat.le_refl _), by rw [List.length_set]; exact h.lt⟩
theorem Mk.snoc {b : Nat} {r : List (Option Nat)} (h : Mk σ N i acc τ) (hr : RowOk N r) (hb : τ[b]? = some (.list (r.map ov))) (hl : σ.length < b) : Mk σ N (i + 1) (acc ++ [.obj b]) τ := by
  obtain ⟨as, R, rfl, h1, h2, h3, h4⟩ := h.out
  refine ⟨⟨as ++ [b], R ++ [r], by rw [List.map_append]; rfl, h1.snoc hb, by rw [List.length_append, h2]; rfl, fun r' q => ?_, fun b' q => ?_⟩, h.kp, h.lt⟩
  · rcases List.mem_append.mp q with q | q
    · exact h3 _ q
    · rw [List.mem_singleton.mp q]; exact hr
  · rcases List.mem_append.mp q with q | q
    · exact h4 _ q
    · rw [List.mem_singleton.mp q]; exact hl
theorem Mk.new {r : List (Option Nat)} (h : Mk σ N i acc τ) (hr : RowOk N r) : Mk σ N (i + 1) (acc ++ [.obj τ.length]) (τ ++ [.list (r.map ov)]) :=
  (h.keep Kp.refl.app).snoc hr g_new h.lt
theorem Mk.fin {a : Nat} (h : Mk σ N N acc τ) (hN : N ≤ 300) (k : Kp τ υ) (ha : υ[a]? = some (.list acc)) : ∃ R, Kp σ υ ∧ RwAt υ a R ∧ R.length = N ∧ Fit R := by
  obtain ⟨as, R, rfl, h1, h2, h3, h4⟩ := h.out
  exact ⟨R, h.kp.trans k, ⟨as, ha, h1.keep k⟩, h2, ⟨fun r q j e => by rw [h2]; exact (h3 r q).2 j e, fun r q => (h3 r q).1, by rw [h2]; exact hN⟩⟩
theorem Mk.len (h : Mk σ N i acc τ) : acc.length = i := by
  obtain ⟨as, R, rfl, h1, h2, _⟩ := h.out
  rw [List.length_map, h1.len, h2]
theorem row1 {z : Int} {N : Nat} (h0 : 0 ≤ z) (h1 : z < N) : RowOk N [some z.toNat] := ⟨(by decide : 1 ≤ 4), fun j q => by cases q with | head => omega | tail _ q => nomatch q⟩
theorem ov1 {z : Int} (h0 : 0 ≤ z) : ([some z.toNat] : List (Option Nat)).map ov = [.int z] := by
  show [AV.int ((z.toNat : Nat) : Int)] = _
  rw [Int.toNat_of_nonneg h0]
/-- a comprehension of rows of one -/
theorem p_comp {xs : List Int} {elt : AE} (h0 : σ[0]? = some (.ro (xs.map .int))) (hN : N ≤ 300) {QF : AF → ASt → Prop}
    (he : ∀ i τ y, i < N → Kp σ τ → Ok (aeval PR (acall PR (n + 1)) elt) ⟨τ, [some (.obj 0), some (iv N), none, none, none, none, none, some (iv i), y]⟩ fun v s => ∃ z : Int, v = .obj τ.length ∧ s = ⟨τ ++ [.list [.int z]], [some (.obj 0), some (iv N), none, none, none, none, none, some (iv i), y]⟩ ∧ 0 ≤ z ∧ z < N)
    (q : ∀ τ a R ρ', Kp σ τ → RwAt τ a R → R.length = N → Fit R → QF (.ret (.obj a)) ⟨τ, ρ'⟩) :
    Ok (aexec PR (acall PR (n + 1)) (.ret (.comp 7 elt (.bi .range [(.loc 1)]) []))) ⟨σ, [some (.obj 0), some (iv N), none, none, none, none, none, none, none]⟩ QF := by
  have e0 : ((N : Int) - 0).toNat = N := by omega
  refine s_ret (e_comp ?_)
  repeat (first | ((with_reducible apply e_loc); (· (first | rfl | assumption))) | (with_reducible first | apply e_bi | apply es_nil | apply es_cons))
  refine bi_range1 (small_of (by omega) (by omega) (by omega) (by omega)) ?_
  refine it_len_range g_new ⟨decide_eq_true (le_line (by dsimp only; omega)), ?_⟩
  dsimp only
  refine k_comp (fun i acc s => ∃ τ y, s = ⟨τ, [some (.obj 0), some (iv N), none, none, none, none, none, y, none]⟩ ∧ Mk σ N i acc τ) ⟨_, _, rfl, Mk.init Kp.refl.app (by simp)⟩ ?_ ?_
  · rintro i acc s - hi ⟨τ, y, rfl, m⟩
    have hi : i < N := by omega
    refine at_range ?_
    rw [Int.zero_add]
    repeat (first | (with_reducible first | apply ts_nil) | ((with_reducible apply sl_loc); (· exact rfl)) | ((with_reducible apply k_test); (· (first | rfl | assumption | (simp only [*, Option.isSome_some, Option.isSome_none, Bool.not_true, Bool.not_false]; done) | (simp only [Bool.not_eq_true', Bool.not_eq_false', decide_eq_true_eq, decide_eq_false_iff_not, beq_iff_eq, beq_eq_false_iff_ne, ne_eq] <;> omega)))))
    refine (he i τ none hi m.kp).mono fun v s r => ?_
    obtain ⟨z, rfl, rfl, hz0, hz1⟩ := r
    refine ⟨_, _, rfl, ?_⟩
    have := m.new (row1 hz0 hz1)
    rwa [ov1 hz0] at this
  · rintro acc s ⟨τ, y, rfl, m⟩
    rw [Nat.zero_add, e0] at m
    repeat (first | (with_reducible first | apply en_range | apply w_al))
    obtain ⟨R, h1, h2, h3, h4⟩ := m.fin (υ := τ ++ [.list acc]) (a := τ.length) hN Kp.refl.app g_new
    exact q _ _ R _ h1 h2 h3 h4
theorem p_rows {xs : List Int} (h0 : σ[0]? = some (.ro (xs.map .int))) (hN : N ≤ 300) : COk PR (n + 2) 45 [.obj 0, iv N] σ fun v s => ∃ a R, v = .obj a ∧ Kp σ s ∧ RwAt s a R ∧ R.length = N ∧ Fit R := by
  refine co_in (fn := ⟨2, 9, bd45⟩) (ρ := [some (.obj 0), some (iv N), none, none, none, none, none, none, none]) rfl rfl rfl ?_; unfold bd45; dsimp only
  refine xs_cons (s_ite ?_)
  repeat (first | ((with_reducible apply e_loc); (· (first | rfl | assumption))) | (with_reducible first | apply e_cst | apply e_bin | apply e_call | apply es_nil | apply es_cons | apply t_cmp))
  refine co_cell h0 (by decide) fun z1 => ?_
  repeat (first | (with_reducible first | apply e_cst | apply c_one | apply cm_eqi) | ((with_reducible apply b_mod); (· (first | rfl | assumption))))
  refine k_either (fun _ => xs_cons ?_) fun _ => ?_
  · refine p_comp h0 hN (fun i τ y hi k => ?_) fun τ a R ρ' h1 h2 h3 h4 => ⟨a, R, rfl, h1, h2, h3, h4⟩
    repeat (first | ((with_reducible apply e_loc); (· (first | rfl | assumption))) | (with_reducible first | apply e_cst | apply e_bin | apply e_call | apply e_bi | apply e_list | apply es_nil | apply es_cons | apply b_add))
    refine co_cell (k _ _ h0) (by decide) fun z2 => ?_
    repeat (first | ((with_reducible apply e_loc); (· (first | rfl | assumption))) | (with_reducible first | apply e_cst | apply e_bin | apply es_nil | apply es_cons | apply b_add | apply b_sub | apply bi_min | apply w_al) | ((with_reducible apply b_fdiv); (· (first | rfl | assumption))) | ((with_reducible apply b_mod); (· (first | rfl | assumption))))
    obtain ⟨o, ho, hlt⟩ := fm (x := z2.fdiv 9) (n := 2) (by decide)
    have ho : (z2.fdiv 9).fmod 2 = o := ho
    refine ⟨_, rfl, rfl, ?_, ?_⟩
    · split <;> omega
    · split <;> omega
  repeat (first | ((with_reducible apply e_loc); (· (first | rfl | assumption))) | (with_reducible first | apply e_cst | apply e_bin | apply e_call | apply es_nil | apply es_cons | apply t_cmp | apply s_ite | apply xs_nil | apply xs_cons | apply g_next))
  refine co_cell h0 (by decide) fun z3 => ?_
  repeat (first | (with_reducible first | apply e_cst | apply c_one | apply cm_eqi) | ((with_reducible apply b_mod); (· (first | rfl | assumption))))
  refine k_either (fun _ => xs_cons ?_) fun _ => ?_
  · refine p_comp h0 hN (fun i τ y hi k => ?_) fun τ a R ρ' h1 h2 h3 h4 => ⟨a, R, rfl, h1, h2, h3, h4⟩
    have hn0 : ((N : Int) != 0) = true := by simp; omega
    repeat (first | ((with_reducible apply e_loc); (· (first | rfl | assumption))) | (with_reducible first | apply e_cst | apply e_bin | apply e_call | apply e_list | apply es_nil | apply es_cons | apply b_add))
    refine co_cell (k _ _ h0) (by decide) fun z2 => ?_
    repeat (first | ((with_reducible apply e_loc); (· (first | rfl | assumption))) | (with_reducible first | apply e_cst | apply es_nil | apply b_add | apply w_al) | ((with_reducible apply b_fdiv); (· (first | rfl | assumption))) | ((with_reducible apply b_mod); (· (first | rfl | assumption))))
    obtain ⟨o, ho, hlt⟩ := fm (x := (i : Int) + 1 + (z2.fdiv 9).fmod 7) (n := N) (by omega)
    refine ⟨_, rfl, rfl, ?_, ?_⟩
    · rw [ho]; omega
    · rw [ho]; omega
  have hn1 : ((N : Int) + 1 != 0 && decide (((N : Int) + 1).natAbs < 1073741824)) = true := by
    rw [Bool.and_eq_true, decide_eq_true_eq, bne_iff_ne]; omega
  have hn2 : ((N : Int) + 1 != 0) = true := by rw [bne_iff_ne]; omega
  have e0 : ((N : Int) - 0).toNat = N := by omega
  repeat (first | ((with_reducible apply e_loc); (· (first | rfl | assumption))) | ((with_reducible apply as_loc); (· exact rfl)) | (with_reducible first | apply e_bi | apply e_list | apply es_nil | apply es_cons | apply s_assign | apply s_for | apply xs_nil | apply xs_cons | apply g_next | apply w_al))
  refine bi_range1 (small_of (by omega) (by omega) (by omega) (by omega)) ?_
  refine it_len_range g_new ⟨decide_eq_true (le_line (by dsimp only; omega)), ?_⟩
  dsimp only
  refine k_for (fun i s => ∃ τ acc y1 y2 y3 y4, s = ⟨τ, [some (.obj 0), some (iv N), y1, some (.obj σ.length), y2, y3, y4, none, none]⟩ ∧ τ[σ.length]? = some (.list acc) ∧ Mk σ N i acc τ) ⟨_, _, _, _, _, _, rfl, by simp, Mk.init (Kp.refl.app.app) (by simp)⟩ ?_ ?_
  · rintro i s - hi ⟨τ, acc, y1, y2, y3, y4, rfl, h2, m⟩
    have hi : i < N := by omega
    refine at_range ?_
    rw [Int.zero_add]
    repeat (first | ((with_reducible apply e_loc); (· (first | rfl | assumption))) | (with_reducible first | apply e_cst | apply e_bin | apply e_call | apply es_nil | apply es_cons | apply s_assign | apply xs_cons | apply b_add) | ((with_reducible apply sl_loc); (· exact rfl)))
    refine co_cell (m.kp _ _ h0) (by omega) fun z => ?_
    repeat (first | ((with_reducible apply e_loc); (· (first | rfl | assumption))) | ((with_reducible apply as_loc); (· exact rfl)) | (with_reducible first | apply e_cst | apply e_bin | apply e_bi | apply e_list | apply es_nil | apply es_cons | apply s_assign | apply s_for | apply xs_cons | apply g_next | apply w_al) | ((with_reducible apply b_mod); (· (first | rfl | assumption))))
    obtain ⟨o, ho, hlt⟩ := fm (x := z) (n := 5) (by decide)
    have ho : z.fmod 5 = o := ho
    rw [ho]
    have eo : ((o : Int) - 0).toNat = o := by omega
    refine bi_range1 (small_of (by omega) (by omega) (by omega) (by omega)) ?_
    refine it_len_range g_new ⟨decide_eq_true (le_line (by dsimp only; omega)), ?_⟩
    dsimp only
    refine k_for (fun j s => ∃ (τ' : List AO) (z : Int) (r : List (Option Nat)) (y : Option AV), s = ⟨τ', [some (.obj 0), some (iv N), some (iv i), some (.obj σ.length), some (.int z), some (.obj τ.length), y, none, none]⟩ ∧ Kp τ τ' ∧ τ'[τ.length]? = some (.list (r.map ov)) ∧ r.length = j ∧ ∀ j, some j ∈ r → j < N) ⟨_, _, [], _, rfl, Kp.refl.app.app, g_app g_new, rfl, fun _ h => (nomatch h)⟩ ?_ ?_
    · rintro j s - hj ⟨τ', z', r, y, rfl, k1, g1, hr1, hr2⟩
      have add : ∀ x : Option Nat, (∀ j, x = some j → j < N) → ∀ c, ∃ (τ'' : List AO) (z'' : Int) (r' : List (Option Nat)) (y' : Option AV), (⟨τ'.set τ.length (.list (r.map ov ++ [ov x])), [some (.obj 0), some (iv N), some (iv i), some (.obj σ.length), some (.int c), some (.obj τ.length), some (iv j), none, none]⟩ : ASt) = ⟨τ'', [some (.obj 0), some (iv N), some (iv i), some (.obj σ.length), some (.int z''), some (.obj τ.length), y', none, none]⟩ ∧ Kp τ τ'' ∧ τ''[τ.length]? = some (.list (r'.map ov)) ∧ r'.length = j + 1 ∧ ∀ j, some j ∈ r' → j < N := fun x hx c => by
        refine ⟨_, _, r ++ [x], _, rfl, k1.set (Nat.le_refl _), by rw [List.map_append]; exact g_set g1, by rw [List.length_append, hr1]; rfl, fun j q => ?_⟩
        rcases List.mem_append.mp q with q | q
        · exact hr2 j q
        · exact hx j (List.mem_singleton.mp q).symm
      refine at_range ?_
      rw [Int.zero_add]
      repeat (first | ((with_reducible apply e_loc); (· (first | rfl | assumption))) | ((with_reducible apply as_loc); (· exact rfl)) | (with_reducible first | apply e_cst | apply e_bin | apply c_one | apply t_cmp | apply s_assign | apply s_ite | apply xs_cons | apply g_next | apply b_add | apply cm_eqi) | ((with_reducible apply b_fdiv); (· (first | rfl | assumption))) | ((with_reducible apply b_mod); (· (first | rfl | assumption))) | ((with_reducible apply sl_loc); (· exact rfl)))
      obtain ⟨p, hp, hpl⟩ := fm (x := z'.fdiv ((N : Int) + 1)) (n := N + 1) (by omega)
      have hp : (z'.fdiv ((N : Int) + 1)).fmod ((N : Int) + 1) = p := hp
      rw [hp]
      refine k_either (fun t => ?_) fun t => ?_
      · repeat (first | ((with_reducible apply e_loc); (· (first | rfl | assumption))) | (with_reducible first | apply e_cst | apply e_meth | apply es_nil | apply es_cons | apply s_expr | apply xs_cons) | ((with_reducible apply kd_list); (· (first | rfl | assumption))))
        refine me_append g1 (Nat.lt_of_lt_of_le (by rw [List.length_map, hr1]; omega) (le_line (n := 10) (by decide))) ?_
        repeat (first | (with_reducible first | apply xs_nil | apply g_next))
        exact ⟨rfl, add none (fun _ e => nomatch e) _⟩
      · repeat (first | ((with_reducible apply e_loc); (· (first | rfl | assumption))) | (with_reducible first | apply e_cst | apply e_bin | apply e_meth | apply es_nil | apply es_cons | apply s_expr | apply xs_cons | apply b_add) | ((with_reducible apply b_mod); (· (first | rfl | assumption))) | ((with_reducible apply kd_list); (· (first | rfl | assumption))))
        rw [hp]
        refine me_append g1 (Nat.lt_of_lt_of_le (by rw [List.length_map, hr1]; omega) (le_line (n := 10) (by decide))) ?_
        repeat (first | (with_reducible first | apply xs_nil | apply g_next))
        have t : (p : Int) ≠ N := by simpa using t
        exact ⟨rfl, add (some p) (fun _ e => by cases e; omega) _⟩
    · rintro s ⟨τ', z', r, y, rfl, k1, g1, hr1, hr2⟩
      rw [Nat.zero_add, eo] at hr1
      repeat (first | ((with_reducible apply e_loc); (· (first | rfl | assumption))) | (with_reducible first | apply e_meth | apply s_expr | apply xs_cons | apply g_next | apply en_range))
      refine kd_list (k1 _ _ h2) ?_
      repeat (first | ((with_reducible apply e_loc); (· (first | rfl | assumption))) | (with_reducible first | apply es_nil | apply es_cons))
      refine me_append (k1 _ _ h2) (Nat.lt_of_lt_of_le (by rw [m.len]; exact hi) (le_line (by omega))) ?_
      repeat (first | (with_reducible first | apply xs_nil | apply g_next))
      refine ⟨rfl, _, _, _, _, _, _, rfl, g_set (k1 _ _ h2), ?_⟩
      exact (m.keep k1).set.snoc ⟨by omega, hr2⟩ (g_ne g1 (Nat.ne_of_lt m.lt)) m.lt
  · rintro s ⟨τ, acc, y1, y2, y3, y4, rfl, h2, m⟩
    rw [Nat.zero_add, e0] at m
    repeat (first | ((with_reducible apply e_loc); (· (first | rfl | assumption))) | (with_reducible first | apply s_ret | apply xs_cons | apply g_next | apply g_ret | apply en_range | apply ou_ret))
    obtain ⟨R, h1, h2, h3, h4⟩ := m.fin (υ := τ) (a := σ.length) hN Kp.refl h2
    exact ⟨_, R, rfl, h1, h2, h3, h4⟩
end
end Mine
namespace Mine
open PySem
noncomputable def es (K : List Nat) : List (Int × AV) := K.map fun k : Nat => ((k : Int), AV.bool true)
theorem es_look {k : Nat} : ∀ {K : List Nat}, (look (es K) (k : Int)).isSome = decide (k ∈ K)
  | [] => rfl
  | a :: K => by
    show (if (a : Int) = (k : Int) then some (AV.bool true) else look (es K) k).isSome = _
    by_cases h : a = k
    · subst h; rw [if_pos rfl]; simp
    · rw [if_neg (show ¬ (a : Int) = (k : Int) from fun e => h (by omega)), es_look (K := K)]
      have : ¬ k = a := fun e => h e.symm
      simp [this]
theorem es_put {k : Nat} : ∀ {K : List Nat}, k ∉ K → put (es K) (k : Int) (.bool true) = es (K ++ [k])
  | [], _ => rfl
  | a :: K, h => by
    show (if (a : Int) = (k : Int) then _ else ((a : Int), AV.bool true) :: put (es K) k (.bool true)) = _
    rw [if_neg (show ¬ (a : Int) = (k : Int) from fun e => h (by rw [show k = a by omega]; exact .head _)), es_put (K := K) fun q => h (.tail _ q)]
    rfl
theorem es_keys {K : List Nat} : (es K).map (·.1) = K.map fun k : Nat => (k : Int) := by unfold es; rw [List.map_map]; rfl
theorem es_len {K : List Nat} : (es K).length = K.length := List.length_map _
theorem inner_none {r : List (Option Nat)} {i : Nat} (hi : i < r.length) (h : r[i] = none) : inner (r.take (i + 1)) = inner (r.take i) := by
  rw [List.take_succ_eq_append_getElem hi, h]; unfold inner; rw [List.filterMap_append]; simp
theorem inner_some {r : List (Option Nat)} {i j : Nat} (hi : i < r.length) (h : r[i] = some j) : inner (r.take (i + 1)) = inner (r.take i) ++ [j] := by
  rw [List.take_succ_eq_append_getElem hi, h]; unfold inner; rw [List.filterMap_append]; rfl
/-- where the walk of reach stands -/
structure WkS (σ : List AO) (R : Rw) (S : List Nat) (a b m : Nat) (s : ASt) : Prop where
  out : ∃ (τ : List AO) (K L : List Nat) (y4 y5 : Option AV), s = ⟨τ, [some (.obj a), some (.obj b), some (.obj σ.length), some (.obj (σ.length + 1)), y4, y5, none]⟩ ∧ Kp σ τ ∧ τ[σ.length]? = some (.dict (es K)) ∧ τ[σ.length + 1]? = some (.list (L.map iv)) ∧ Wlk R S K L ∧ L.length + 5 * (R.length - K.length) ≤ m ∧ m ≤ 1600
section
variable {ρ : List (Option AV)} {Q : AV → ASt → Prop} {n : Nat} {σ τ υ : List AO}
theorem p_inner {r : List (Option Nat)} {rb : Nat} {iter : AE} {x0 x1 x2 x3 x4 y5 : Option AV} (hr : r.length ≤ 4) (hg : τ[rb]? = some (.list (r.map ov)))
    (hi : ∀ Q : AV → ASt → Prop, Q (.obj rb) ⟨τ, [x0, x1, x2, x3, x4, y5, none]⟩ → Ok (aeval PR (acall PR n) iter) ⟨τ, [x0, x1, x2, x3, x4, y5, none]⟩ Q)
    (q : ∀ y, Q (.obj τ.length) ⟨τ ++ [.list ((inner r).map iv)], [x0, x1, x2, x3, x4, y, none]⟩) :
    Ok (aeval PR (acall PR n) (.comp 5 (.loc 5) iter [(.cmp (.loc 5) [.IsNot] [(.cst .none)])])) ⟨τ, [x0, x1, x2, x3, x4, y5, none]⟩ Q := by
  have hml : (r.map ov).length = r.length := List.length_map _
  refine e_comp (hi _ ?_)
  refine it_len_list hg ⟨decide_eq_true (le_line (by dsimp only; omega)), ?_⟩
  dsimp only
  refine k_comp (fun i acc s => ∃ y, s = ⟨τ, [x0, x1, x2, x3, x4, y, none]⟩ ∧ acc = (inner (r.take i)).map iv) ⟨_, rfl, rfl⟩ ?_ ?_
  · rintro i acc s - hi ⟨y, rfl, rfl⟩
    have hi : i < r.length := by omega
    refine at_list (x := ov r[i]) hg rfl (by rw [List.getElem?_map, List.getElem?_eq_getElem hi]; rfl) ?_
    cases hx : r[i] with
    | none =>
      repeat (first | ((with_reducible apply e_loc); (· (first | rfl | assumption))) | (with_reducible first | apply e_cst | apply c_one | apply t_cmp | apply ts_cons | apply cm_isn) | ((with_reducible apply sl_loc); (· exact rfl)) | ((with_reducible apply k_ntest); (· (first | rfl | assumption | (simp only [*, Option.isSome_some, Option.isSome_none, Bool.not_true, Bool.not_false]; done) | (simp only [Bool.not_eq_true', Bool.not_eq_false', decide_eq_true_eq, decide_eq_false_iff_not, beq_iff_eq, beq_eq_false_iff_ne, ne_eq] <;> omega)))))
      exact ⟨_, rfl, by rw [inner_none hi hx]⟩
    | some j =>
      repeat (first | ((with_reducible apply e_loc); (· (first | rfl | assumption))) | (with_reducible first | apply e_cst | apply c_one | apply t_cmp | apply ts_nil | apply ts_cons | apply cm_isn) | ((with_reducible apply sl_loc); (· exact rfl)) | ((with_reducible apply k_test); (· (first | rfl | assumption | (simp only [*, Option.isSome_some, Option.isSome_none, Bool.not_true, Bool.not_false]; done) | (simp only [Bool.not_eq_true', Bool.not_eq_false', decide_eq_true_eq, decide_eq_false_iff_not, beq_iff_eq, beq_eq_false_iff_ne, ne_eq] <;> omega)))))
      exact ⟨_, rfl, by rw [inner_some hi hx, List.map_append]; rfl⟩
  · rintro acc s ⟨y, rfl, rfl⟩
    refine en_list hg rfl ?_
    repeat (first | (with_reducible first | apply w_al))
    rw [Nat.zero_add, hml, List.take_length]
    exact q y
theorem p_reach {a b : Nat} {R : Rw} {S : List Nat} (hR : RwAt σ a R) (hF : Fit R) (hS : σ[b]? = some (.list (S.map iv))) (hSl : S.length ≤ 3) (hSt : ∀ j ∈ S, j < R.length) : COk PR (n + 1) 19 [.obj a, .obj b] σ fun v s => Kp σ s ∧ ∃ (K : List Nat) (e : Nat), v = .obj e ∧ s[e]? = some (.list ((sortInts (K.map fun k : Nat => (k : Int))).map .int)) ∧ K.Nodup ∧ ∀ j, j ∈ K ↔ Rc R S j := by
  have hsz := hF.size
  refine co_in (fn := ⟨2, 7, bd19⟩) (ρ := [some (.obj a), some (.obj b), none, none, none, none, none]) rfl rfl rfl ?_; unfold bd19; dsimp only
  repeat (first | ((with_reducible apply e_loc); (· (first | rfl | assumption))) | ((with_reducible apply as_loc); (· exact rfl)) | (with_reducible first | apply e_bi | apply e_dict0 | apply es_nil | apply es_cons | apply s_assign | apply xs_cons | apply g_next | apply w_al))
  refine bi_list (g_app hS) ?_
  repeat (first | ((with_reducible apply as_loc); (· exact rfl)) | (with_reducible first | apply xs_cons | apply g_next))
  rw [show (σ ++ [AO.dict []]).length = σ.length + 1 by simp]
  refine s_loop (k_while (WkS σ R S a b) (n := 1600) ⟨_, [], S, _, _, rfl, Kp.refl.app.app, g_app g_new, by rw [← show (σ ++ [AO.dict []]).length = σ.length + 1 by simp]; exact g_new, Wlk.init, by rw [List.length_nil]; omega, Nat.le_refl _⟩ (by decide) ?_)
  rintro m s ⟨τ, K, L, y4, y5, rfl, k1, g1, g2, w, hm, hm6⟩
  repeat (first | ((with_reducible apply e_loc); (· (first | rfl | assumption))) | (with_reducible first | apply t_loc))
  refine tr_list g2 ?_
  refine k_either (fun t => ?_) fun t => ?_
  · have hLn : L ≠ [] := by rintro rfl; exact absurd t (by decide)
    obtain ⟨L', p, rfl⟩ : ∃ L' p, L = L' ++ [p] := ⟨_, _, (List.dropLast_concat_getLast hLn).symm⟩
    rw [List.length_append, List.length_singleton] at hm
    have hp : p < R.length := (w.lr p (by simp)).lt hF hSt
    have hKn := nd_lt w.nd fun k hk => (w.kr k hk).lt hF hSt
    obtain ⟨m', rfl⟩ : ∃ m', m = m' + 1 := ⟨m - 1, by omega⟩
    refine ⟨m', rfl, ?_⟩
    repeat (first | ((with_reducible apply e_loc); (· (first | rfl | assumption))) | (with_reducible first | apply e_meth | apply es_nil | apply s_assign | apply xs_cons) | ((with_reducible apply kd_list); (· (first | rfl | assumption))))
    refine me_last (xs := L'.map iv) (v := iv p) (by rw [g2, List.map_append]; rfl) ?_
    repeat (first | ((with_reducible apply e_loc); (· (first | rfl | assumption))) | ((with_reducible apply as_loc); (· exact rfl)) | (with_reducible first | apply c_one | apply t_cmp | apply s_ite | apply xs_cons | apply g_next))
    have k2 : Kp σ (τ.set (σ.length + 1) (.list (L'.map iv))) := k1.set (Nat.le_succ _)
    have g3 : (τ.set (σ.length + 1) (.list (L'.map iv)))[σ.length]? = some (.dict (es K)) := g_ne g1 (by omega)
    have g4 : (τ.set (σ.length + 1) (.list (L'.map iv)))[σ.length + 1]? = some (.list (L'.map iv)) := g_set g2
    generalize (τ.set (σ.length + 1) (.list (L'.map iv))) = τ₁ at *
    refine cm_ninD g3 ?_
    rw [es_look]
    refine k_either (fun t => ?_) fun t => ?_
    · have hpK : p ∉ K := by simpa using t
      repeat (first | ((with_reducible apply e_loc); (· (first | rfl | assumption))) | (with_reducible first | apply e_cst | apply s_assign | apply xs_cons | apply as_sub))
      refine u_dict g3 (Nat.lt_of_lt_of_le (by rw [es_len]; omega) (le_line (n := 1000) (by decide))) ?_
      rw [es_put hpK]
      repeat (first | ((with_reducible apply e_loc); (· (first | rfl | assumption))) | (with_reducible first | apply e_meth | apply s_expr | apply xs_cons | apply g_next))
      have k5 : Kp σ (τ₁.set σ.length (.dict (es (K ++ [p])))) := k2.set (Nat.le_refl _)
      have g5 : (τ₁.set σ.length (.dict (es (K ++ [p]))))[σ.length]? = some (.dict (es (K ++ [p]))) := g_set g3
      have g6 : (τ₁.set σ.length (.dict (es (K ++ [p]))))[σ.length + 1]? = some (.list (L'.map iv)) := g_ne g4 (by omega)
      generalize (τ₁.set σ.length (.dict (es (K ++ [p])))) = τ₂ at *
      obtain ⟨xs, rb, r, e1, e2, e3, e4, e5⟩ := (hR.keep k5).get hp
      have w' := w.take hpK e4
      have hKn' := nd_lt w'.nd fun k hk => (w'.kr k hk).lt hF hSt
      rw [List.length_append, List.length_singleton] at hKn'
      have hr4 := hF.few r (List.mem_of_getElem? e4)
      have hin := inner_len (r := r)
      refine kd_list g6 ?_
      repeat (first | (with_reducible first | apply es_cons))
      refine p_inner hr4 e5 (fun Q q => ?_) fun y => ?_
      · repeat (first | ((with_reducible apply e_loc); (· (first | rfl | assumption))) | (with_reducible first | apply e_sub) | ((with_reducible apply i_list); (· (first | rfl | assumption)); (· (first | exact Int.natCast_nonneg _ | decide | omega)); (· (first | rfl | assumption))))
        exact q
      repeat (first | (with_reducible first | apply es_nil))
      have hll := List.length_append (as := L') (bs := inner r)
      refine me_extend (g_app g6) g_new (by have := g_lt g6; omega) (le_line (by rw [List.length_map, List.length_map]; omega)) ?_
      repeat (first | (with_reducible first | apply xs_nil | apply g_next))
      refine ⟨rfl, _, _, _, _, _, rfl, (k5.app).set (Nat.le_succ _), g_ne (g_app g5) (by omega), by rw [← List.map_append]; exact g_set (g_app g6), w', ?_, by omega⟩
      rw [List.length_append, List.length_append, List.length_singleton]
      omega
    · have hpK : p ∈ K := by simpa using t
      repeat (first | (with_reducible first | apply xs_nil | apply g_next))
      exact ⟨rfl, _, _, _, _, _, rfl, k2, g3, g4, w.skip hpK, by omega, by omega⟩
  · have hLn : L = [] := by
      cases L with
      | nil => rfl
      | cons _ _ => exact absurd t (by simp)
    subst hLn
    have hKn := nd_lt w.nd fun k hk => (w.kr k hk).lt hF hSt
    repeat (first | ((with_reducible apply e_loc); (· (first | rfl | assumption))) | (with_reducible first | apply e_bi | apply e_meth | apply es_nil | apply es_cons | apply s_ret | apply xs_cons | apply g_next) | ((with_reducible apply kd_dict); (· (first | rfl | assumption))))
    refine me_keys g1 ?_
    repeat (first | (with_reducible first | apply es_nil))
    refine so_keysA g_new (g_app g1) (sortOk_asc (by rw [List.length_map, es_len]; omega)) ?_
    repeat (first | (with_reducible first | apply g_ret | apply ou_ret))
    rw [es_keys]
    exact ⟨k1.app.app, K, _, rfl, g_new, w.nd, w.done⟩
end
end Mine
namespace Mine
open PySem
abbrev bl (c : List Bool) : List AV := c.map .bool
theorem bl_get {c : List Bool} {i : Nat} (hi : i < c.length) : (bl c)[i]? = some (.bool (fl c i)) := by rw [List.getElem?_map, fl_get hi]; rfl
theorem bl_set {c : List Bool} {i : Nat} : (bl c).set i (.bool true) = bl (c.set i true) := List.map_set.symm
/-- a round of came: the flags c, fresh f; P holds so long as nothing was fresh -/
structure Rnd (σ : List AO) (R : Rw) (S : List Nat) (a b c0 : Nat) (P : List Bool → Prop) (y5 : Option AV) (s : ASt) : Prop where
  out : ∃ (τ : List AO) (c : List Bool) (f : Bool) (y3 y6 : Option AV), s = ⟨τ, [some (.obj a), some (.obj b), some (.obj σ.length), y3, some (.bool f), y5, y6, none]⟩ ∧ Kp σ τ ∧ τ[σ.length]? = some (.list (bl c)) ∧ Flg R S c ∧ (f = false → P c) ∧ c0 ≤ c.count true ∧ (f = true → c0 < c.count true)
section
variable {ρ : List (Option AV)} {Q : AV → ASt → Prop} {n : Nat} {σ τ υ : List AO} {R : Rw} {S : List Nat} {a b : Nat}
theorem p_row {r : List (Option Nat)} {k rb c0 : Nat} {P : List Bool → Prop} (hF : Fit R) (hr : R[k]? = some r) (hb : σ[rb]? = some (.list (r.map ov))) (i : Nat) (hi : i < r.length) {s : ASt} (h : Rnd σ R S a b c0 (fun c => P c ∧ ClsTo R c k i) (some (iv k)) s) :
    Ok (iterAt .list (.obj rb) (r.map ov).length i) s fun x s => Ok (setLoc 3 x) s fun _ s => Ok (aexecs PR (acall PR n) [(.ite (.and [(.sub (.loc 2) (.loc 5)), (.cmp (.loc 3) [.IsNot] [(.cst .none)]), (.not (.sub (.loc 2) (.loc 3)))]) [(.assign (.sub (.loc 2) (.loc 3)) (.cst (.bool true))), (.assign (.loc 4) (.cst (.bool true)))] [])]) s fun f s => f = .next ∧ Rnd σ R S a b c0 (fun c => P c ∧ ClsTo R c k (i + 1)) (some (iv k)) s := by
  obtain ⟨τ, c, f, y3, y6, rfl, k1, g1, F, hf, hc0, hc1⟩ := h.out
  have hkR : k < R.length := (List.getElem?_eq_some_iff.mp hr).1
  have hk : k < c.length := by rw [F.len]; exact hkR
  have hgk := bl_get hk
  have hbl : (bl c).length = c.length := List.length_map _
  -- nothing is fresh at this one
  have same : ∀ y, (fl c k = true → ∀ j, r[i] = some j → fl c j = true) → Rnd σ R S a b c0 (fun c => P c ∧ ClsTo R c k (i + 1)) (some (iv k)) ⟨τ, [some (.obj a), some (.obj b), some (.obj σ.length), y, some (.bool f), some (iv k), y6, none]⟩ := fun y q =>
    ⟨τ, c, f, _, _, rfl, k1, g1, F, fun e => ⟨(hf e).1, fun hk r' hr' j hj => by
      rw [hr] at hr'; cases hr'
      rw [List.take_succ_eq_append_getElem hi] at hj
      rcases List.mem_append.mp hj with hj | hj
      · exact (hf e).2 hk r hr j hj
      · exact q hk j (List.mem_singleton.mp hj).symm⟩, hc0, hc1⟩
  cases hx : r[i] with
  | none =>
    refine at_list (x := .none) (k1 _ _ hb) rfl (by rw [List.getElem?_map, List.getElem?_eq_getElem hi, hx]; rfl) ?_
    have fin := same (some .none) (fun _ j e => by rw [hx] at e; cases e)
    repeat (first | ((with_reducible apply e_loc); (· (first | rfl | assumption))) | (with_reducible first | apply e_sub | apply t_and | apply t_sub | apply al_cons | apply s_ite | apply xs_cons | apply tr_bool) | ((with_reducible apply i_list); (· (first | rfl | assumption)); (· (first | exact Int.natCast_nonneg _ | decide | omega)); (· (first | rfl | assumption))) | ((with_reducible apply sl_loc); (· exact rfl)))
    refine k_either (fun t => ?_) fun t => ?_
    · repeat (first | ((with_reducible apply e_loc); (· (first | rfl | assumption))) | (with_reducible first | apply e_cst | apply c_one | apply t_cmp | apply al_cons | apply xs_nil | apply g_next | apply cm_isn) | ((with_reducible apply k_ntest); (· (first | rfl | assumption | (simp only [*, Option.isSome_some, Option.isSome_none, Bool.not_true, Bool.not_false]; done) | (simp only [Bool.not_eq_true', Bool.not_eq_false', decide_eq_true_eq, decide_eq_false_iff_not, beq_iff_eq, beq_eq_false_iff_ne, ne_eq] <;> omega)))))
      exact ⟨rfl, fin⟩
    · repeat (first | (with_reducible first | apply xs_nil | apply g_next) | ((with_reducible apply k_ntest); (· (first | rfl | assumption | (simp only [*, Option.isSome_some, Option.isSome_none, Bool.not_true, Bool.not_false]; done) | (simp only [Bool.not_eq_true', Bool.not_eq_false', decide_eq_true_eq, decide_eq_false_iff_not, beq_iff_eq, beq_eq_false_iff_ne, ne_eq] <;> omega)))))
      exact ⟨rfl, fin⟩
  | some j =>
    have hj : j < R.length := hF.lt r (List.mem_of_getElem? hr) j (by rw [← hx]; exact List.getElem_mem hi)
    have hjc : j < c.length := by rw [F.len]; exact hj
    have hgj := bl_get hjc
    refine at_list (x := iv j) (k1 _ _ hb) rfl (by rw [List.getElem?_map, List.getElem?_eq_getElem hi, hx]; rfl) ?_
    repeat (first | ((with_reducible apply e_loc); (· (first | rfl | assumption))) | (with_reducible first | apply e_sub | apply t_and | apply t_sub | apply al_cons | apply s_ite | apply xs_cons | apply tr_bool) | ((with_reducible apply i_list); (· (first | rfl | assumption)); (· (first | exact Int.natCast_nonneg _ | decide | omega)); (· (first | rfl | assumption))) | ((with_reducible apply sl_loc); (· exact rfl)))
    refine k_either (fun t => ?_) fun t => ?_
    · repeat (first | ((with_reducible apply e_loc); (· (first | rfl | assumption))) | (with_reducible first | apply e_cst | apply c_one | apply e_sub | apply t_not | apply t_cmp | apply t_sub | apply al_cons | apply tr_bool | apply cm_isn) | ((with_reducible apply i_list); (· (first | rfl | assumption)); (· (first | exact Int.natCast_nonneg _ | decide | omega)); (· (first | rfl | assumption))) | ((with_reducible apply k_test); (· (first | rfl | assumption | (simp only [*, Option.isSome_some, Option.isSome_none, Bool.not_true, Bool.not_false]; done) | (simp only [Bool.not_eq_true', Bool.not_eq_false', decide_eq_true_eq, decide_eq_false_iff_not, beq_iff_eq, beq_eq_false_iff_ne, ne_eq] <;> omega)))))
      refine k_either (fun t2 => ?_) fun t2 => ?_
      · have t2 : fl c j = false := by simpa using t2
        have hju : ((j : Nat) : Int) < ((bl c).length : Nat) := by rw [hbl]; omega
        repeat (first | ((with_reducible apply e_loc); (· (first | rfl | assumption))) | ((with_reducible apply as_loc); (· exact rfl)) | (with_reducible first | apply e_cst | apply al_nil | apply s_assign | apply xs_nil | apply xs_cons | apply g_next | apply as_sub) | ((with_reducible apply u_list); (· (first | rfl | assumption)); (· (first | exact Int.natCast_nonneg _ | decide | omega)); (· (first | assumption | omega))) | ((with_reducible apply k_test); (· (first | rfl | assumption | (simp only [*, Option.isSome_some, Option.isSome_none, Bool.not_true, Bool.not_false]; done) | (simp only [Bool.not_eq_true', Bool.not_eq_false', decide_eq_true_eq, decide_eq_false_iff_not, beq_iff_eq, beq_eq_false_iff_ne, ne_eq] <;> omega)))))
        rw [Int.toNat_natCast, bl_set]
        refine ⟨rfl, _, c.set j true, true, _, _, rfl, k1.set (Nat.le_refl _), g_set g1, F.put t hr (by rw [← hx]; exact List.getElem_mem hi) hj, fun e => (nomatch e), ?_, fun _ => ?_⟩
        · rw [cnt_set hjc t2]; omega
        · rw [cnt_set hjc t2]; omega
      · have t2 : fl c j = true := by simpa using t2
        repeat (first | (with_reducible first | apply xs_nil | apply g_next) | ((with_reducible apply k_ntest); (· (first | rfl | assumption | (simp only [*, Option.isSome_some, Option.isSome_none, Bool.not_true, Bool.not_false]; done) | (simp only [Bool.not_eq_true', Bool.not_eq_false', decide_eq_true_eq, decide_eq_false_iff_not, beq_iff_eq, beq_eq_false_iff_ne, ne_eq] <;> omega)))))
        exact ⟨rfl, same _ fun _ j' e => by rw [hx] at e; cases e; exact t2⟩
    · repeat (first | (with_reducible first | apply xs_nil | apply g_next) | ((with_reducible apply k_ntest); (· (first | rfl | assumption | (simp only [*, Option.isSome_some, Option.isSome_none, Bool.not_true, Bool.not_false]; done) | (simp only [Bool.not_eq_true', Bool.not_eq_false', decide_eq_true_eq, decide_eq_false_iff_not, beq_iff_eq, beq_eq_false_iff_ne, ne_eq] <;> omega)))))
      exact ⟨rfl, same _ fun e => by rw [t] at e; cases e⟩
/-- one round: every row -/
theorem p_round {c0 k : Nat} (hR : RwAt σ a R) (hF : Fit R) (hk : k < R.length) {s : ASt} {y5 : Option AV} (h : Rnd σ R S a b c0 (fun c => ∀ k' < k, Cls R c k') y5 s) :
    Ok (setLoc 5 (iv k)) s fun _ s => Ok (aexecs PR (acall PR n) [(.for 3 (.sub (.loc 0) (.loc 5)) [(.ite (.and [(.sub (.loc 2) (.loc 5)), (.cmp (.loc 3) [.IsNot] [(.cst .none)]), (.not (.sub (.loc 2) (.loc 3)))]) [(.assign (.sub (.loc 2) (.loc 3)) (.cst (.bool true))), (.assign (.loc 4) (.cst (.bool true)))] [])])]) s fun f s => f = .next ∧ Rnd σ R S a b c0 (fun c => ∀ k' < k + 1, Cls R c k') (some (iv k)) s := by
  obtain ⟨xs, rb, r, e1, e2, e3, e4, e5⟩ := hR.get hk
  have hr4 := hF.few r (List.mem_of_getElem? e4)
  have hml : (r.map ov).length = r.length := List.length_map _
  obtain ⟨τ, c, f, y3, y6, rfl, k1, g1, F, hf, hc0, hc1⟩ := h.out
  have e1' := k1 _ _ e1
  repeat (first | ((with_reducible apply e_loc); (· (first | rfl | assumption))) | (with_reducible first | apply e_sub | apply s_for | apply xs_cons) | ((with_reducible apply i_list); (· (first | rfl | assumption)); (· (first | exact Int.natCast_nonneg _ | decide | omega)); (· (first | rfl | assumption))) | ((with_reducible apply sl_loc); (· exact rfl)))
  refine it_len_list (k1 _ _ e5) ⟨decide_eq_true (le_line (by dsimp only; omega)), ?_⟩
  dsimp only
  refine k_for (fun i s => Rnd σ R S a b c0 (fun c => (∀ k' < k, Cls R c k') ∧ ClsTo R c k i) (some (iv k)) s) ⟨τ, c, f, _, _, rfl, k1, g1, F, fun e => ⟨hf e, fun _ r' _ j hj => by rw [List.take_zero] at hj; exact nomatch hj⟩, hc0, hc1⟩ ?_ ?_
  · intro i s _ hi h
    exact p_row hF e4 e5 i (by omega) h
  · intro s h
    obtain ⟨τ, c, f, y3, y6, rfl, k1, g1, F, hf, hc0, hc1⟩ := h.out
    refine en_list (k1 _ _ e5) rfl ?_
    repeat (first | (with_reducible first | apply xs_nil | apply g_next))
    refine ⟨rfl, τ, c, f, _, _, rfl, k1, g1, F, fun e k' hk' => ?_, hc0, hc1⟩
    rcases Nat.lt_succ_iff_lt_or_eq.mp hk' with q | q
    · exact (hf e).1 k' q
    · subst q
      intro hc r' hr' j hj
      rw [e4] at hr'; cases hr'
      refine (hf e).2 hc r e4 j ?_
      rw [Nat.zero_add, hml, List.take_length]; exact hj
theorem p_came (hR : RwAt σ a R) (hF : Fit R) (hS : σ[b]? = some (.list (S.map iv))) (hSl : S.length ≤ 3) (hSt : ∀ j ∈ S, j < R.length) : COk PR (n + 1) 50 [.obj a, .obj b] σ fun v s => Kp σ s ∧ ∃ (c : Nat → Bool) (e : Nat), v = .obj e ∧ s[e]? = some (.list (((List.range R.length).filter c).map iv)) ∧ ∀ j, (j < R.length ∧ c j = true) ↔ Rc R S j := by
  have hsz := hF.size
  obtain ⟨xs, e1, e2⟩ := hR.len
  have hml : (S.map iv).length = S.length := List.length_map _
  refine co_in (fn := ⟨2, 8, bd50⟩) (ρ := [some (.obj a), some (.obj b), none, none, none, none, none, none]) rfl rfl rfl ?_; unfold bd50; dsimp only
  refine xs_cons (s_assign (e_comp ?_))
  repeat (first | ((with_reducible apply e_loc); (· (first | rfl | assumption))))
  refine it_len_list e1 ⟨decide_eq_true (le_line (by dsimp only; omega)), ?_⟩
  dsimp only
  refine k_comp (fun i acc s => ∃ y, s = ⟨σ, [some (.obj a), some (.obj b), none, none, none, none, y, none]⟩ ∧ acc = bl (List.replicate i false)) ⟨_, rfl, rfl⟩ ?_ ?_
  · rintro i acc s - hi ⟨y, rfl, rfl⟩
    refine at_list (x := xs[i]'(by omega)) e1 rfl (List.getElem?_eq_getElem _) ?_
    repeat (first | (with_reducible first | apply e_cst | apply ts_nil) | ((with_reducible apply sl_loc); (· exact rfl)) | ((with_reducible apply k_test); (· (first | rfl | assumption | (simp only [*, Option.isSome_some, Option.isSome_none, Bool.not_true, Bool.not_false]; done) | (simp only [Bool.not_eq_true', Bool.not_eq_false', decide_eq_true_eq, decide_eq_false_iff_not, beq_iff_eq, beq_eq_false_iff_ne, ne_eq] <;> omega)))))
    exact ⟨_, rfl, by rw [List.replicate_succ']; exact (List.map_append (f := AV.bool) (l₁ := List.replicate i false) (l₂ := [false])).symm⟩
  rintro acc s ⟨y6, rfl, rfl⟩
  refine en_list e1 rfl ?_
  repeat (first | ((with_reducible apply e_loc); (· (first | rfl | assumption))) | ((with_reducible apply as_loc); (· exact rfl)) | (with_reducible first | apply s_for | apply xs_cons | apply g_next | apply w_al))
  rw [Nat.zero_add]
  refine it_len_list (g_app hS) ⟨decide_eq_true (le_line (by dsimp only; omega)), ?_⟩
  dsimp only
  refine k_for (fun i s => ∃ (τ : List AO) (c : List Bool) (y3 : Option AV), s = ⟨τ, [some (.obj a), some (.obj b), some (.obj σ.length), y3, none, none, y6, none]⟩ ∧ Kp σ τ ∧ τ[σ.length]? = some (.list (bl c)) ∧ c.length = R.length ∧ (∀ j, fl c j = true → j ∈ S) ∧ ∀ j ∈ S.take i, fl c j = true) ⟨_, List.replicate xs.length false, _, rfl, Kp.refl.app, g_new, by rw [List.length_replicate]; exact e2, fun j h => ?_, fun _ h => (by rw [List.take_zero] at h; exact nomatch h)⟩ ?_ ?_
  · unfold fl at h
    rw [List.getElem?_replicate] at h
    split at h <;> exact absurd h (by decide)
  · rintro i s - hi ⟨τ, c, y3, rfl, k1, g1, hc1, hc2, hc3⟩
    have hi : i < S.length := by omega
    refine at_list (x := iv S[i]) (k1 _ _ hS) rfl (by rw [List.getElem?_map, List.getElem?_eq_getElem hi]; rfl) ?_
    have hj : S[i] < c.length := by rw [hc1]; exact hSt _ (List.getElem_mem hi)
    have hju : ((S[i] : Nat) : Int) < ((bl c).length : Nat) := by rw [List.length_map]; omega
    repeat (first | ((with_reducible apply e_loc); (· (first | rfl | assumption))) | (with_reducible first | apply e_cst | apply s_assign | apply xs_nil | apply xs_cons | apply g_next | apply as_sub) | ((with_reducible apply sl_loc); (· exact rfl)) | ((with_reducible apply u_list); (· (first | rfl | assumption)); (· (first | exact Int.natCast_nonneg _ | decide | omega)); (· (first | assumption | omega))))
    rw [Int.toNat_natCast, bl_set]
    refine ⟨rfl, _, _, _, rfl, k1.set (Nat.le_refl _), g_set g1, by rw [List.length_set]; exact hc1, fun j h => ?_, fun j h => ?_⟩
    · rw [fl_set hj, Bool.or_eq_true, decide_eq_true_eq] at h
      rcases h with rfl | h
      · exact List.getElem_mem hi
      · exact hc2 j h
    · rw [fl_set hj, Bool.or_eq_true, decide_eq_true_eq]
      rw [List.take_succ_eq_append_getElem hi] at h
      rcases List.mem_append.mp h with h | h
      · exact .inr (hc3 j h)
      · exact .inl (List.mem_singleton.mp h).symm
  rintro s ⟨τ, c, y3, rfl, k1, g1, hc1, hc2, hc3⟩
  rw [Nat.zero_add, hml, List.take_length] at hc3
  refine en_list (k1 _ _ hS) rfl ?_
  repeat (first | ((with_reducible apply as_loc); (· exact rfl)) | (with_reducible first | apply e_cst | apply s_assign | apply xs_cons | apply g_next))
  refine s_loop (k_while (fun m s => ∃ (τ : List AO) (c : List Bool) (f : Bool) (y3 y5 y6 : Option AV), s = ⟨τ, [some (.obj a), some (.obj b), some (.obj σ.length), y3, some (.bool f), y5, y6, none]⟩ ∧ Kp σ τ ∧ τ[σ.length]? = some (.list (bl c)) ∧ Flg R S c ∧ (f = false → ∀ k < R.length, Cls R c k) ∧ (f = true → R.length + 2 ≤ m + c.count true)) (n := R.length + 2) ⟨_, c, true, _, _, _, rfl, k1, g1, ⟨hc1, fun j h => .start (hc2 j h), hc3⟩, fun e => (nomatch e), fun _ => Nat.le_add_right _ _⟩ (by omega) ?_)
  rintro m s ⟨τ, c, f, y3, y5, y6, rfl, k1, g1, F, h1, h2⟩
  repeat (first | ((with_reducible apply e_loc); (· (first | rfl | assumption))) | (with_reducible first | apply t_loc | apply tr_bool))
  refine k_either (fun t => ?_) fun t => ?_
  · have h2 := h2 t
    have hcl : c.count true ≤ c.length := List.count_le_length
    rw [F.len] at hcl
    obtain ⟨m', rfl⟩ : ∃ m', m = m' + 1 := ⟨m - 1, by omega⟩
    refine ⟨m', rfl, ?_⟩
    have e1' := k1 _ _ e1
    have e0 : ((xs.length : Int) - 0).toNat = R.length := by omega
    repeat (first | ((with_reducible apply e_loc); (· (first | rfl | assumption))) | ((with_reducible apply as_loc); (· exact rfl)) | (with_reducible first | apply e_cst | apply e_bi | apply es_nil | apply es_cons | apply s_assign | apply s_for | apply xs_cons | apply g_next) | ((with_reducible apply l_list); (· (first | rfl | assumption))))
    refine bi_range1 (small_of (by omega) (by omega) (by omega) (by omega)) ?_
    refine it_len_range g_new ⟨decide_eq_true (le_line (by dsimp only; omega)), ?_⟩
    dsimp only
    refine k_for (fun k s => ∃ y5, Rnd σ R S a b (c.count true) (fun c => ∀ k' < k, Cls R c k') y5 s) ⟨_, _, c, false, _, _, rfl, k1.app, g_app g1, F, fun _ k' h => absurd h (Nat.not_lt_zero _), Nat.le_refl _, fun e => (nomatch e)⟩ ?_ ?_
    · rintro k s - hk ⟨y5, h⟩
      refine at_range ?_
      rw [Int.zero_add]
      refine (p_round hR hF (by omega) h).mono fun _ s q => q.mono fun f s q => ⟨q.1, _, q.2⟩
    · rintro s ⟨y5, h⟩
      obtain ⟨τ', c', f', y3', y6', rfl, k1', g1', F', hf', hc0', hc1'⟩ := h.out
      repeat (first | (with_reducible first | apply xs_nil | apply g_next | apply en_range))
      refine ⟨rfl, _, c', f', _, _, _, rfl, k1', g1', F', fun e k hk => hf' e k (by omega), fun e => ?_⟩
      have := hc1' e
      omega
  · have t : f = false := t
    have h1 := h1 t
    have cl : ∀ k, Cls R c k := fun k hk r hr => h1 k (List.getElem?_eq_some_iff.mp hr).1 hk r hr
    have e1' := k1 _ _ e1
    have e0 : ((xs.length : Int) - 0).toNat = R.length := by omega
    refine g_next (xs_cons (s_ret (e_comp ?_)))
    repeat (first | ((with_reducible apply e_loc); (· (first | rfl | assumption))) | (with_reducible first | apply e_bi | apply es_nil | apply es_cons) | ((with_reducible apply l_list); (· (first | rfl | assumption))))
    refine bi_range1 (small_of (by omega) (by omega) (by omega) (by omega)) ?_
    refine it_len_range g_new ⟨decide_eq_true (le_line (by dsimp only; omega)), ?_⟩
    dsimp only
    refine k_comp (fun i acc s => ∃ y, s = ⟨τ ++ [.range 0 xs.length], [some (.obj a), some (.obj b), some (.obj σ.length), y3, some (.bool f), y5, y, none]⟩ ∧ acc = ((List.range i).filter (fl c)).map iv) ⟨_, rfl, rfl⟩ ?_ ?_
    · rintro i acc s - hi ⟨y, rfl, rfl⟩
      have hi : i < c.length := by rw [F.len]; omega
      have hgi := bl_get hi
      have g1' : (τ ++ [AO.range 0 xs.length])[σ.length]? = some (.list (bl c)) := g_app g1
      refine at_range ?_
      rw [Int.zero_add]
      repeat (first | ((with_reducible apply e_loc); (· (first | rfl | assumption))) | (with_reducible first | apply e_sub | apply t_sub | apply ts_cons | apply tr_bool) | ((with_reducible apply i_list); (· (first | rfl | assumption)); (· (first | exact Int.natCast_nonneg _ | decide | omega)); (· (first | rfl | assumption))) | ((with_reducible apply sl_loc); (· exact rfl)))
      have hrs : (List.range (i + 1)).filter (fl c) = (List.range i).filter (fl c) ++ (if fl c i = true then [i] else []) := by
        rw [List.range_succ, List.filter_append, List.filter_cons, List.filter_nil]
      refine k_either (fun t => ?_) fun t => ?_
      · repeat (first | ((with_reducible apply e_loc); (· (first | rfl | assumption))) | (with_reducible first | apply ts_nil) | ((with_reducible apply k_test); (· (first | rfl | assumption | (simp only [*, Option.isSome_some, Option.isSome_none, Bool.not_true, Bool.not_false]; done) | (simp only [Bool.not_eq_true', Bool.not_eq_false', decide_eq_true_eq, decide_eq_false_iff_not, beq_iff_eq, beq_eq_false_iff_ne, ne_eq] <;> omega)))))
        exact ⟨_, rfl, by rw [hrs, if_pos t, List.map_append]; rfl⟩
      · repeat (first | ((with_reducible apply k_ntest); (· (first | rfl | assumption | (simp only [*, Option.isSome_some, Option.isSome_none, Bool.not_true, Bool.not_false]; done) | (simp only [Bool.not_eq_true', Bool.not_eq_false', decide_eq_true_eq, decide_eq_false_iff_not, beq_iff_eq, beq_eq_false_iff_ne, ne_eq] <;> omega)))))
        exact ⟨_, rfl, by rw [hrs, if_neg (by rw [t]; decide), List.append_nil]⟩
    · rintro acc s ⟨y, rfl, rfl⟩
      repeat (first | (with_reducible first | apply g_ret | apply en_range | apply w_al | apply ou_ret))
      rw [Nat.zero_add, e0]
      refine ⟨k1.app.app, fl c, _, rfl, g_new, fun j => ⟨fun h => (F.done cl j).mp h.2, fun h => ⟨h.lt hF hSt, (F.done cl j).mpr h⟩⟩⟩
end
end Mine
namespace Mine
open PySem
theorem ov_some {L : List Nat} : (L.map some).map ov = L.map iv := by rw [List.map_map]; rfl
theorem iv_int {L : List Nat} : (L.map fun k : Nat => (k : Int)).map AV.int = L.map iv := by rw [List.map_map]; rfl
section
variable {ρ : List (Option AV)} {Q : AV → ASt → Prop} {n : Nat} {σ τ υ : List AO} {R : Rw} {S : List Nat} {a b N : Nat}
/-- every row copied -/
theorem p_copy {x0 x1 x2 x3 x4 x5 x6 x7 x8 x9 x10 : Option AV} (hx : x2 = some (.obj a)) (hR : RwAt σ a R) (hF : Fit R) (q : ∀ τ h y, Kp σ τ → RwAt τ h R → Q (.obj h) ⟨τ, [x0, x1, x2, x3, x4, x5, x6, x7, x8, y, x10]⟩) :
    Ok (aeval PR (acall PR n) (.comp 9 (.bi .list [(.loc 9)]) (.loc 2) [])) ⟨σ, [x0, x1, x2, x3, x4, x5, x6, x7, x8, x9, x10]⟩ Q := by
  subst hx
  have hsz := hF.size
  obtain ⟨xs, e1, e2⟩ := hR.len
  refine e_comp ?_
  repeat (first | ((with_reducible apply e_loc); (· (first | rfl | assumption))))
  refine it_len_list e1 ⟨decide_eq_true (le_line (by dsimp only; omega)), ?_⟩
  dsimp only
  refine k_comp (fun i acc s => ∃ (τ : List AO) (as : List Nat) (y : Option AV), s = ⟨τ, [x0, x1, some (.obj a), x3, x4, x5, x6, x7, x8, y, x10]⟩ ∧ acc = as.map .obj ∧ RwP τ as (R.take i) ∧ Kp σ τ) ⟨_, [], _, rfl, rfl, trivial, Kp.refl⟩ ?_ ?_
  · rintro i acc s - hi ⟨τ, as, y, rfl, rfl, h1, k1⟩
    have hi : i < R.length := by omega
    obtain ⟨xs', rb, r, f1, f2, f3, f4, f5⟩ := hR.get hi
    rw [e1] at f1; cases f1
    refine at_list (x := .obj rb) (k1 _ _ e1) rfl f3 ?_
    have f5' := k1 _ _ f5
    repeat (first | ((with_reducible apply e_loc); (· (first | rfl | assumption))) | (with_reducible first | apply e_bi | apply es_nil | apply es_cons | apply ts_nil) | ((with_reducible apply bi_list); (· (first | rfl | assumption))) | ((with_reducible apply sl_loc); (· exact rfl)) | ((with_reducible apply k_test); (· (first | rfl | assumption | (simp only [*, Option.isSome_some, Option.isSome_none, Bool.not_true, Bool.not_false]; done) | (simp only [Bool.not_eq_true', Bool.not_eq_false', decide_eq_true_eq, decide_eq_false_iff_not, beq_iff_eq, beq_eq_false_iff_ne, ne_eq] <;> omega)))))
    refine ⟨_, as ++ [τ.length], _, rfl, by rw [List.map_append]; rfl, ?_, k1.app⟩
    obtain ⟨hi', f4⟩ := List.getElem?_eq_some_iff.mp f4
    rw [List.take_succ_eq_append_getElem hi', f4]
    exact (h1.keep Kp.refl.app).snoc g_new
  · rintro acc s ⟨τ, as, y, rfl, rfl, h1, k1⟩
    refine en_list (k1 _ _ e1) rfl ?_
    repeat (first | (with_reducible first | apply w_al))
    rw [Nat.zero_add, e2, List.take_length] at h1
    exact q _ _ _ k1.app ⟨as, g_new, h1.keep Kp.refl.app⟩
theorem p_end {y3 : Option AV} (hR : RwAt σ a R) (hF : Fit R) (hS : σ[b]? = some (.list (S.map iv))) (hSl : S.length ≤ 3) (hSt : ∀ j ∈ S, j < R.length) :
    Ok (aexecs PR (acall PR (n + 2)) (bd55.drop 6)) ⟨σ, [some (.obj 0), some (iv N), some (.obj a), y3, some (.obj b), none, none, none, none, none, none]⟩ (outOf fun v _ => v = .bool true) := by
  unfold bd55
  dsimp only [List.drop]
  have hsz := hF.size
  refine xs_cons (s_assign (p_copy rfl hR hF fun τ₁ h y k1 hH => ?_))
  have hS1 := k1 _ _ hS
  repeat (first | ((with_reducible apply e_loc); (· (first | rfl | assumption))) | ((with_reducible apply as_loc); (· exact rfl)) | (with_reducible first | apply e_call | apply e_bi | apply es_nil | apply es_cons | apply s_assign | apply xs_cons | apply g_next) | ((with_reducible apply bi_list); (· (first | rfl | assumption))))
  have hH2 : RwAt (τ₁ ++ [.list (S.map iv)]) h R := hH.keep Kp.refl.app
  have k2 : Kp σ (τ₁ ++ [.list (S.map iv)]) := k1.app
  have hg2 : (τ₁ ++ [.list (S.map iv)])[τ₁.length]? = some (.list (S.map iv)) := g_new
  generalize (τ₁ ++ [.list (S.map iv)]) = τ₂ at *
  refine co_use (p_reach hH2 hF hg2 hSl hSt) fun v τ₃ r => ?_
  obtain ⟨k3, K, e, rfl, he, nd, hK⟩ := r
  repeat (first | ((with_reducible apply e_loc); (· (first | rfl | assumption))) | ((with_reducible apply as_loc); (· exact rfl)) | (with_reducible first | apply e_call | apply es_nil | apply es_cons | apply t_not | apply t_call | apply s_ite | apply xs_cons | apply g_next))
  have k3' := k2.trans k3
  refine co_use (p_came (hR.keep k3') hF (k3' _ _ hS) hSl hSt) fun v τ₄ r => ?_
  obtain ⟨k4, c, d, rfl, hd, hc⟩ := r
  have he := k4 _ _ he
  rw [sorted_eq nd (fun j => (hK j).trans (hc j).symm), iv_int, ← ov_some] at he
  rw [← ov_some] at hd
  repeat (first | (with_reducible first | apply es_nil))
  refine co_use (p_numbers he hd (by rw [List.length_map]; exact Nat.le_trans (List.length_filter_le _ _) (by rw [List.length_range]; omega))) fun v τ₅ r => ?_
  obtain ⟨rfl, k5⟩ := r
  repeat (first | ((with_reducible apply e_loc); (· (first | rfl | assumption))) | (with_reducible first | apply e_bi | apply es_nil | apply es_cons | apply t_or | apply t_cmp | apply an_cons | apply s_ite | apply xs_nil | apply xs_cons | apply g_next | apply tr_bool) | ((with_reducible apply k_ntest); (· (first | rfl | assumption | (simp only [*, Option.isSome_some, Option.isSome_none, Bool.not_true, Bool.not_false]; done) | (simp only [Bool.not_eq_true', Bool.not_eq_false', decide_eq_true_eq, decide_eq_false_iff_not, beq_iff_eq, beq_eq_false_iff_ne, ne_eq] <;> omega)))))
  have k5' := (k3'.trans k4).trans k5
  have hH5 := ((hH2.keep k3).keep k4).keep k5
  have hR5 := hR.keep k5'
  obtain ⟨xsH, eH1, eH2⟩ := hH5.len
  obtain ⟨xsR, eR1, eR2⟩ := hR5.len
  have eHR : xsH.length = xsR.length := by omega
  repeat (first | ((with_reducible apply e_loc); (· (first | rfl | assumption))) | (with_reducible first | apply c_one | apply e_call | apply e_bi | apply es_nil | apply es_cons | apply t_not | apply t_call | apply an_cons | apply cm_nei) | ((with_reducible apply l_list); (· (first | rfl | assumption))) | ((with_reducible apply k_ntest); (· (first | rfl | assumption | (simp only [*, Option.isSome_some, Option.isSome_none, Bool.not_true, Bool.not_false]; done) | (simp only [Bool.not_eq_true', Bool.not_eq_false', decide_eq_true_eq, decide_eq_false_iff_not, beq_iff_eq, beq_eq_false_iff_ne, ne_eq] <;> omega)))))
  have hbeg : τ₅[τ₁.length]? = some (.list ((S.map some).map ov)) := by rw [ov_some]; exact k5 _ _ (k4 _ _ (k3 _ _ hg2))
  have hstt : τ₅[b]? = some (.list ((S.map some).map ov)) := by rw [ov_some]; exact k5' _ _ hS
  refine co_use (p_numbers hbeg hstt (by rw [List.length_map]; omega)) fun v τ₆ r => ?_
  obtain ⟨rfl, k6⟩ := r
  have hH6 := hH5.keep k6
  have hR6 := hR5.keep k6
  have eR6 := k6 _ _ eR1
  have e0 : ((xsR.length : Int) - 0).toNat = R.length := by omega
  repeat (first | ((with_reducible apply e_loc); (· (first | rfl | assumption))) | (with_reducible first | apply e_bi | apply es_nil | apply es_cons | apply an_nil | apply s_for | apply xs_nil | apply xs_cons | apply g_next | apply tr_bool) | ((with_reducible apply l_list); (· (first | rfl | assumption))) | ((with_reducible apply k_ntest); (· (first | rfl | assumption | (simp only [*, Option.isSome_some, Option.isSome_none, Bool.not_true, Bool.not_false]; done) | (simp only [Bool.not_eq_true', Bool.not_eq_false', decide_eq_true_eq, decide_eq_false_iff_not, beq_iff_eq, beq_eq_false_iff_ne, ne_eq] <;> omega)))))
  refine bi_range1 (small_of (by omega) (by omega) (by omega) (by omega)) ?_
  refine it_len_range g_new ⟨decide_eq_true (le_line (by dsimp only; omega)), ?_⟩
  dsimp only
  refine k_for (fun i s => ∃ (τ : List AO) (y8 : Option AV), s = ⟨τ, [some (.obj 0), some (iv N), some (.obj a), y3, some (.obj b), some (.obj h), some (.obj τ₁.length), some (.obj e), y8, y, none]⟩ ∧ Kp τ₆ τ) ⟨_, _, rfl, Kp.refl.app⟩ ?_ ?_
  · rintro i s - hi ⟨τ, y8, rfl, k7⟩
    have hi : i < R.length := by omega
    obtain ⟨_, rb, r, f1, f2, f3, f4, f5⟩ := (hH6.keep k7).get hi
    obtain ⟨_, rb', r', g1, g2, g3, g4, g5⟩ := (hR6.keep k7).get hi
    rw [f4] at g4; cases g4
    refine at_range ?_
    rw [Int.zero_add]
    repeat (first | ((with_reducible apply e_loc); (· (first | rfl | assumption))) | (with_reducible first | apply e_call | apply e_sub | apply es_nil | apply es_cons | apply t_not | apply t_call | apply s_ite | apply xs_cons) | ((with_reducible apply i_list); (· (first | rfl | assumption)); (· (first | exact Int.natCast_nonneg _ | decide | omega)); (· (first | rfl | assumption))) | ((with_reducible apply sl_loc); (· exact rfl)))
    refine co_use (p_numbers f5 g5 (by have := hF.few r (List.mem_of_getElem? f4); omega)) fun v τ₈ q => ?_
    obtain ⟨rfl, k8⟩ := q
    repeat (first | (with_reducible first | apply xs_nil | apply g_next | apply tr_bool) | ((with_reducible apply k_ntest); (· (first | rfl | assumption | (simp only [*, Option.isSome_some, Option.isSome_none, Bool.not_true, Bool.not_false]; done) | (simp only [Bool.not_eq_true', Bool.not_eq_false', decide_eq_true_eq, decide_eq_false_iff_not, beq_iff_eq, beq_eq_false_iff_ne, ne_eq] <;> omega)))))
    exact ⟨rfl, _, _, rfl, k7.trans k8⟩
  · rintro s ⟨τ, y8, rfl, k7⟩
    repeat (first | (with_reducible first | apply e_cst | apply s_ret | apply xs_cons | apply g_next | apply g_ret | apply en_range | apply ou_ret))
    rfl
theorem p_tail {xs : List Int} (h0 : σ[0]? = some (.ro (xs.map .int))) (hN : N ≤ 300) :
    Ok (aexecs PR (acall PR (n + 2)) (bd55.drop 2)) ⟨σ, [some (.obj 0), some (iv N), none, none, none, none, none, none, none, none, none]⟩ (outOf fun v _ => v = .bool true) := by
  unfold bd55
  dsimp only [List.drop]
  repeat (first | ((with_reducible apply e_loc); (· (first | rfl | assumption))) | (with_reducible first | apply e_call | apply es_nil | apply es_cons | apply s_assign | apply xs_cons))
  refine co_use (p_rows h0 hN) fun v τ r => ?_
  obtain ⟨a, R, rfl, k1, hR, hRl, hF⟩ := r
  repeat (first | ((with_reducible apply e_loc); (· (first | rfl | assumption))) | ((with_reducible apply as_loc); (· exact rfl)) | (with_reducible first | apply e_cst | apply e_call | apply es_nil | apply es_cons | apply s_assign | apply xs_cons | apply g_next))
  refine co_cell (k1 _ _ h0) (by decide) fun z => ?_
  repeat (first | ((with_reducible apply e_loc); (· (first | rfl | assumption))) | ((with_reducible apply as_loc); (· exact rfl)) | (with_reducible first | apply e_cst | apply c_one | apply e_list | apply es_nil | apply t_cmp | apply s_assign | apply s_ite | apply xs_cons | apply g_next | apply cm_gt | apply w_al))
  refine k_either (fun t => ?_) fun t => ?_
  · have t : 0 < N := by have := of_decide_eq_true t; omega
    have hn1 : ((N : Int) != 0 && decide ((N : Int).natAbs < 1073741824)) = true := by
      rw [Bool.and_eq_true, decide_eq_true_eq, bne_iff_ne]; omega
    have hn2 : ((N : Int) != 0) = true := by rw [bne_iff_ne]; omega
    refine xs_cons (s_assign (e_slc ?_))
    repeat (first | ((with_reducible apply e_loc); (· (first | rfl | assumption))) | (with_reducible first | apply e_cst | apply e_bin | apply e_list | apply es_nil | apply es_cons | apply w_al) | ((with_reducible apply b_fdiv); (· (first | rfl | assumption))) | ((with_reducible apply b_mod); (· (first | rfl | assumption))))
    obtain ⟨o1, ho1, hl1⟩ := fm (x := z.fdiv 4) (n := N) t
    obtain ⟨o2, ho2, hl2⟩ := fm (x := (z.fdiv 4).fdiv N) (n := N) t
    obtain ⟨k, hk, hkl⟩ := fm (x := z) (n := 4) (by decide)
    have hk : z.fmod 4 = k := hk
    rw [hk, ho1, ho2]
    refine sl_to g_new (as_loc rfl (g_next (xs_nil (g_next (p_end (N := N) (S := [o1, o2, o1].take k) (hR.keep (Kp.refl.app.app.app.app)) hF ?_ ?_ fun j hj => ?_)))))
    · rw [List.map_take, show (τ ++ [AO.list []] ++ [AO.list [AV.int ↑o1, AV.int ↑o2, AV.int ↑o1]]).length + 1 = (τ ++ [AO.list []] ++ [AO.list [AV.int ↑o1, AV.int ↑o2, AV.int ↑o1]] ++ [AO.slice AV.none (iv k)]).length by rw [List.length_append (bs := [AO.slice AV.none (iv k)])]; rfl]
      exact g_new
    · exact Nat.le_trans (List.length_take_le' _ _) (Nat.le_refl 3)
    · rw [hRl]
      have := List.mem_of_mem_take hj
      simp only [List.mem_cons, List.not_mem_nil, or_false] at this
      omega
  · exact xs_nil (g_next (p_end (N := N) (S := []) (hR.keep Kp.refl.app) hF g_new (by decide) fun _ h => (nomatch h)))
theorem p_law {xs : List Int} : COk PR (n + 3) 55 [.obj 0] [.ro (xs.map .int)] fun v _ => v = .bool true := by
  refine co_in (fn := ⟨1, 11, bd55⟩) (ρ := [some (.obj 0), none, none, none, none, none, none, none, none, none, none]) rfl rfl rfl ?_; unfold bd55; dsimp only
  repeat (first | ((with_reducible apply e_loc); (· (first | rfl | assumption))) | (with_reducible first | apply e_cst | apply e_bin | apply e_call | apply es_nil | apply es_cons | apply s_assign | apply xs_cons))
  refine co_cell (xs := xs) rfl (by decide) fun z0 => ?_
  repeat (first | ((with_reducible apply e_loc); (· (first | rfl | assumption))) | ((with_reducible apply as_loc); (· exact rfl)) | (with_reducible first | apply e_cst | apply e_bin | apply e_call | apply es_nil | apply es_cons | apply t_cmp | apply s_ite | apply xs_cons | apply g_next) | ((with_reducible apply b_mod); (· (first | rfl | assumption))))
  obtain ⟨o, ho, hlt⟩ := fm (x := z0) (n := 41) (by decide)
  have ho : z0.fmod 41 = o := ho
  rw [ho]
  refine co_cell (xs := xs) rfl (by decide) fun z1 => ?_
  repeat (first | (with_reducible first | apply e_cst | apply c_one | apply cm_eqi) | ((with_reducible apply b_mod); (· (first | rfl | assumption))))
  refine k_either (fun t => ?_) fun t => ?_
  · repeat (first | ((with_reducible apply e_loc); (· (first | rfl | assumption))) | (with_reducible first | apply e_cst | apply e_bin | apply e_call | apply es_nil | apply es_cons | apply s_assign | apply xs_cons))
    refine co_cell (xs := xs) rfl (by decide) fun z2 => e_cst (b_fdiv rfl (e_cst (b_mod rfl (b_add (as_loc rfl (g_next (xs_nil (g_next ?_))))))))
    obtain ⟨o, ho, hlt⟩ := fm (x := z2.fdiv 41) (n := 300) (by decide)
    have ho : (z2.fdiv 41).fmod 300 = o := ho
    rw [ho]
    have := p_tail (n := n) (σ := [.ro (xs.map .int)]) (N := 1 + o) (xs := xs) rfl (by omega)
    rw [show iv (1 + o) = .int (1 + (o : Int)) by show AV.int _ = _; rw [Int.natCast_add]; rfl] at this
    exact this
  · exact xs_nil (g_next <| p_tail (n := n) (σ := [.ro (xs.map .int)]) (N := o) (xs := xs) rfl (by omega))
theorem run01 (xs : List Int) : ∃ σ', acall PR 12 55 [.obj 0] [.ro (xs.map .int)] = some (.ok (.bool true), σ') := by
  obtain ⟨v, σ', h, rfl⟩ := p_law (n := 9) (xs := xs)
  exact ⟨σ', h⟩
end
end Mine
open PySem PySem.W PyProof.Rows
namespace Mine
theorem law_at {K : Frag} {h : Heap} {mg : Str → Option Value} (X : K.In h) (G : h.Ns mainGlobals mg) (e : nsIn K mainGlobals (Str.ofString "law") = some (some (.ref 55))) {fa : Addr} (q : mg (Str.ofString "law") = some (.ref fa)) : fa = 55 := by
  have := mg_of X G e
  rw [this] at q; cases q; rfl
theorem vrel_true {ι : List Addr} {v : Value} (h : VRel ι v (.bool true)) : v = .bool true := by
  cases h; rfl
theorem raises01 {args : List WData} (cls : ExcName) : PySem.Challenge.rw_uf050002_01.row.claim.raises args cls = false := by kernel_rfl
theorem post01 {args : List WData} : PySem.Challenge.rw_uf050002_01.row.claim.post args (.bool true) args = true := by kernel_rfl
theorem close01 {prog : Program} {w : World} {s₁ : Shared} {c : ClaimW} {cl : Str → Option Addr} {mean : ExcName → Option Value} {args : List WData} {p : Program} {loose : List Str} {mg mb : Str → Option Value} (KX : (fragAll w.params).In s₁.heap) (T : Top p loose mean mg mb s₁.heap) (hi : importsNone p = true) (hg : s₁.gens = #[])
    {a : Addr} {vs : Array Value} {xs : List Int} (hl : s₁.heap.IsList a vs) (hI : IntsAre vs.toList xs) (hn : xs.length ≤ 63) (hr : ∀ cls, c.raises args cls = false) (hp : c.post args (.bool true) args = true) {E : Value → Shared → Prop} :
    wpAny (model prog w) callerA (call (.ref 55) [.ref a]) (fun v s' => GoodWG c cl mean args s₁ (.ok (.ret v)) s') E s₁ := by
  obtain ⟨σ', run⟩ := run01 xs
  obtain ⟨mm, ⟨om, _, _, hom, _⟩, _⟩ := (T.seer hi).mods
  refine enter KX (topRead_of T) ⟨om, hom⟩ hl hI (by unfold line; omega) (n := 12) (by decide) run fun ι' s' v hv kept shape => ?_
  rw [vrel_true hv]
  refine GoodW.toG ⟨.inl ⟨_, _, [], rfl, hr, .bool true, hp, unshared_nil⟩, kept, ?_, ?_⟩
  · rw [shape]
  · rw [shape]; exact hg
end Mine
open PySem PySem.W PyProof.Rows
set_option maxRecDepth 100000 in
set_option maxHeartbeats 0 in
theorem PySem.Challenge.cw_uf050002_01_holds : PySem.Challenge.rw_uf050002_01.Holds := by
  w_on
  refine Mine.headL (by w_witness2) fun d kwd hdn => ?_
  intro w s₀ s₁ mg mb G Y fa o pm cd doc dV kV ho hd hcd hD hmg hg args vals as hpre hlay hrd hwl hlo
  have KX : (Mine.fragAll w.params).In s₁.heap := kIn_of Y
  refine Ground.open G ?_
  intro T B D TE TW
  rw [hdn] at hmg
  have hfa : fa = 55 := Mine.law_at KX T.g (by kernel_rfl) hmg
  clear ho hd hcd hD hmg B D TE TW
  subst hfa
  wrow_args hpre hlay hrd hwl hlo
  rename_i hL ra w1 r0 hI hW hc hT
  exact Mine.close01 KX T (by decide +kernel) hg hL hI (by omega) Mine.raises01 Mine.post01
