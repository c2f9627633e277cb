import PyProof.Rows.All
import Wide.All
import OpenK.AllK
import Wide.FinOn
import HandS.ForMost
import HandS.Codes
import HandS.Defaults
import PyProof.AutoSeq1
import HandS.HeadHook1
import HandS.Strs
import HandS.Deep
import HandS.TupAny
import HandS.IsInst
import KE.SortKeyHeap
import HandS.SortKw
import HandS.ExcValue
import HandS.SetKeys
import HandS.Walk
import HandS.More
import HandS.WordsDict
import KE.KStateDown
import HandS.Ends
import HandS.Head0
import HandS.Head1
import HandS.Head2
import HandS.HeadEnd
import HandS.HeadHook2
import HandS.HeadHook3
import HandS.HeadHook4
import PySem.Challenge.RW_turnshelves_k09_whole_rows_lie_in_their
set_option Elab.async false
set_option linter.all false
set_option maxRecDepth 100000
set_option maxHeartbeats 4000000
/-! The text by places, printed by gen_text.py. -/
namespace K9
open PySem L2
def top (i : Nat) : Stmt := PySem.Challenge.pw_turnshelves_k09_whole_rows_lie_in_their.main.body.getD i (.Pass ⟨0, 0, 0, 0⟩)
abbrev sValueKey : Stmt := top 5
abbrev NValueKey : List Str := ["value"]
abbrev PValueKey : List Str := ["value"]
theorem scValueKey : FnScope NValueKey PValueKey (defScope sValueKey) := ⟨rfl, rfl, rfl, by decide +kernel, rfl, by decide +kernel, by decide +kernel⟩
abbrev sRowKey : Stmt := top 6
abbrev NRowKey : List Str := ["row", "parts", "value"]
abbrev PRowKey : List Str := ["row"]
theorem scRowKey : FnScope NRowKey PRowKey (defScope sRowKey) := ⟨rfl, rfl, rfl, by decide +kernel, rfl, by decide +kernel, by decide +kernel⟩
abbrev sStateInit : Stmt := inClass (top 8) 0
abbrev NStateInit : List Str := ["self", "items", "item"]
abbrev PStateInit : List Str := ["self", "items"]
theorem scStateInit : FnScope NStateInit PStateInit (defScope sStateInit) := ⟨rfl, rfl, rfl, by decide +kernel, rfl, by decide +kernel, by decide +kernel⟩
abbrev sStatePut : Stmt := inClass (top 8) 1
abbrev NStatePut : List Str := ["self", "item", "sort", "name"]
abbrev PStatePut : List Str := ["self", "item"]
theorem scStatePut : FnScope NStatePut PStatePut (defScope sStatePut) := ⟨rfl, rfl, rfl, by decide +kernel, rfl, by decide +kernel, by decide +kernel⟩
abbrev sStateOrderFacts : Stmt := inClass (top 8) 3
abbrev NStateOrderFacts : List Str := ["self", "kept", "name"]
abbrev PStateOrderFacts : List Str := ["self"]
theorem scStateOrderFacts : FnScope NStateOrderFacts PStateOrderFacts (defScope sStateOrderFacts) := ⟨rfl, rfl, rfl, by decide +kernel, rfl, by decide +kernel, by decide +kernel⟩
abbrev sStateHas : Stmt := inClass (top 8) 5
abbrev NStateHas : List Str := ["self", "relation", "row"]
abbrev PStateHas : List Str := ["self", "relation", "row"]
theorem scStateHas : FnScope NStateHas PStateHas (defScope sStateHas) := ⟨rfl, rfl, rfl, by decide +kernel, rfl, by decide +kernel, by decide +kernel⟩
abbrev sWriteNumber : Stmt := top 13
abbrev NWriteNumber : List Str := ["number", "data"]
abbrev PWriteNumber : List Str := ["number"]
theorem scWriteNumber : FnScope NWriteNumber PWriteNumber (defScope sWriteNumber) := ⟨rfl, rfl, rfl, by decide +kernel, rfl, by decide +kernel, by decide +kernel⟩
abbrev sWriteInteger : Stmt := top 14
abbrev NWriteInteger : List Str := ["number"]
abbrev PWriteInteger : List Str := ["number"]
theorem scWriteInteger : FnScope NWriteInteger PWriteInteger (defScope sWriteInteger) := ⟨rfl, rfl, rfl, by decide +kernel, rfl, by decide +kernel, by decide +kernel⟩
abbrev sWriteList : Stmt := top 15
abbrev NWriteList : List Str := ["items", "data", "item"]
abbrev PWriteList : List Str := ["items"]
theorem scWriteList : FnScope NWriteList PWriteList (defScope sWriteList) := ⟨rfl, rfl, rfl, by decide +kernel, rfl, by decide +kernel, by decide +kernel⟩
abbrev sWriteString : Stmt := top 16
abbrev NWriteString : List Str := ["text", "character"]
abbrev PWriteString : List Str := ["text"]
theorem scWriteString : FnScope NWriteString PWriteString (defScope sWriteString) := ⟨rfl, rfl, rfl, by decide +kernel, rfl, by decide +kernel, by decide +kernel⟩
abbrev sWriteValue : Stmt := top 17
abbrev NWriteValue : List Str := ["value"]
abbrev PWriteValue : List Str := ["value"]
theorem scWriteValue : FnScope NWriteValue PWriteValue (defScope sWriteValue) := ⟨rfl, rfl, rfl, by decide +kernel, rfl, by decide +kernel, by decide +kernel⟩
abbrev sWriteRow : Stmt := top 18
abbrev NWriteRow : List Str := ["row", "value"]
abbrev PWriteRow : List Str := ["row"]
theorem scWriteRow : FnScope NWriteRow PWriteRow (defScope sWriteRow) := ⟨rfl, rfl, rfl, by decide +kernel, rfl, by decide +kernel, by decide +kernel⟩
abbrev sReaderInit : Stmt := inClass (top 19) 0
abbrev NReaderInit : List Str := ["self", "data"]
abbrev PReaderInit : List Str := ["self", "data"]
theorem scReaderInit : FnScope NReaderInit PReaderInit (defScope sReaderInit) := ⟨rfl, rfl, rfl, by decide +kernel, rfl, by decide +kernel, by decide +kernel⟩
abbrev sReaderReadByte : Stmt := inClass (top 19) 1
abbrev NReaderReadByte : List Str := ["self"]
abbrev PReaderReadByte : List Str := ["self"]
theorem scReaderReadByte : FnScope NReaderReadByte PReaderReadByte (defScope sReaderReadByte) := ⟨rfl, rfl, rfl, by decide +kernel, rfl, by decide +kernel, by decide +kernel⟩
abbrev sReaderReadChoice : Stmt := inClass (top 19) 2
abbrev NReaderReadChoice : List Str := ["self", "count", "byte"]
abbrev PReaderReadChoice : List Str := ["self", "count"]
theorem scReaderReadChoice : FnScope NReaderReadChoice PReaderReadChoice (defScope sReaderReadChoice) := ⟨rfl, rfl, rfl, by decide +kernel, rfl, by decide +kernel, by decide +kernel⟩
abbrev sReaderEnd : Stmt := inClass (top 19) 3
abbrev NReaderEnd : List Str := ["self"]
abbrev PReaderEnd : List Str := ["self"]
theorem scReaderEnd : FnScope NReaderEnd PReaderEnd (defScope sReaderEnd) := ⟨rfl, rfl, rfl, by decide +kernel, rfl, by decide +kernel, by decide +kernel⟩
abbrev sReaderReadNumber : Stmt := inClass (top 19) 4
abbrev NReaderReadNumber : List Str := ["self", "total", "factor", "index", "byte"]
abbrev PReaderReadNumber : List Str := ["self"]
theorem scReaderReadNumber : FnScope NReaderReadNumber PReaderReadNumber (defScope sReaderReadNumber) := ⟨rfl, rfl, rfl, by decide +kernel, rfl, by decide +kernel, by decide +kernel⟩
abbrev sReaderReadInteger : Stmt := inClass (top 19) 5
abbrev NReaderReadInteger : List Str := ["self", "is_negative", "number"]
abbrev PReaderReadInteger : List Str := ["self"]
theorem scReaderReadInteger : FnScope NReaderReadInteger PReaderReadInteger (defScope sReaderReadInteger) := ⟨rfl, rfl, rfl, by decide +kernel, rfl, by decide +kernel, by decide +kernel⟩
abbrev sReaderReadCount : Stmt := inClass (top 19) 6
abbrev NReaderReadCount : List Str := ["self", "count"]
abbrev PReaderReadCount : List Str := ["self"]
theorem scReaderReadCount : FnScope NReaderReadCount PReaderReadCount (defScope sReaderReadCount) := ⟨rfl, rfl, rfl, by decide +kernel, rfl, by decide +kernel, by decide +kernel⟩
abbrev sReaderReadCharacter : Stmt := inClass (top 19) 7
abbrev NReaderReadCharacter : List Str := ["self", "code"]
abbrev PReaderReadCharacter : List Str := ["self"]
theorem scReaderReadCharacter : FnScope NReaderReadCharacter PReaderReadCharacter (defScope sReaderReadCharacter) := ⟨rfl, rfl, rfl, by decide +kernel, rfl, by decide +kernel, by decide +kernel⟩
abbrev sReaderReadString : Stmt := inClass (top 19) 8
abbrev NReaderReadString : List Str := ["self", "_"]
abbrev PReaderReadString : List Str := ["self"]
theorem scReaderReadString : FnScope NReaderReadString PReaderReadString (defScope sReaderReadString) := ⟨rfl, rfl, rfl, by decide +kernel, rfl, by decide +kernel, by decide +kernel⟩
abbrev sReaderReadValue : Stmt := inClass (top 19) 10
abbrev NReaderReadValue : List Str := ["self"]
abbrev PReaderReadValue : List Str := ["self"]
theorem scReaderReadValue : FnScope NReaderReadValue PReaderReadValue (defScope sReaderReadValue) := ⟨rfl, rfl, rfl, by decide +kernel, rfl, by decide +kernel, by decide +kernel⟩
abbrev sReaderReadRow : Stmt := inClass (top 19) 11
abbrev NReaderReadRow : List Str := ["self", "_"]
abbrev PReaderReadRow : List Str := ["self"]
theorem scReaderReadRow : FnScope NReaderReadRow PReaderReadRow (defScope sReaderReadRow) := ⟨rfl, rfl, rfl, by decide +kernel, rfl, by decide +kernel, by decide +kernel⟩
abbrev sSector : Stmt := top 23
abbrev NSector : List Str := ["count", "data"]
abbrev PSector : List Str := ["count", "data"]
theorem scSector : FnScope NSector PSector (defScope sSector) := ⟨rfl, rfl, rfl, by decide +kernel, rfl, by decide +kernel, by decide +kernel⟩
abbrev sPack : Stmt := top 24
abbrev NPack : List Str := ["rows", "sectors", "count", "data", "row", "code"]
abbrev PPack : List Str := ["rows"]
theorem scPack : FnScope NPack PPack (defScope sPack) := ⟨rfl, rfl, rfl, by decide +kernel, rfl, by decide +kernel, by decide +kernel⟩
abbrev sBucketOfValues : Stmt := top 25
abbrev NBucketOfValues : List Str := ["values", "buckets", "total", "byte"]
abbrev PBucketOfValues : List Str := ["values", "buckets"]
theorem scBucketOfValues : FnScope NBucketOfValues PBucketOfValues (defScope sBucketOfValues) := ⟨rfl, rfl, rfl, by decide +kernel, rfl, by decide +kernel, by decide +kernel⟩
abbrev sValuesOf : Stmt := top 26
abbrev NValuesOf : List Str := ["state", "structure", "row", "relation", "columns", "_", "names", "column"]
abbrev PValuesOf : List Str := ["state", "structure", "row"]
theorem scValuesOf : FnScope NValuesOf PValuesOf (defScope sValuesOf) := ⟨rfl, rfl, rfl, by decide +kernel, rfl, by decide +kernel, by decide +kernel⟩
abbrev sBucket : Stmt := top 27
abbrev NBucket : List Str := ["state", "structure", "row"]
abbrev PBucket : List Str := ["state", "structure", "row"]
theorem scBucket : FnScope NBucket PBucket (defScope sBucket) := ⟨rfl, rfl, rfl, by decide +kernel, rfl, by decide +kernel, by decide +kernel⟩
abbrev sFilled : Stmt := top 28
abbrev NFilled : List Str := ["rows", "room", "used", "_"]
abbrev PFilled : List Str := ["rows", "room"]
theorem scFilled : FnScope NFilled PFilled (defScope sFilled) := ⟨rfl, rfl, rfl, by decide +kernel, rfl, by decide +kernel, by decide +kernel⟩
abbrev sRelationShape : Stmt := top 29
abbrev NRelationShape : List Str := ["state", "name"]
abbrev PRelationShape : List Str := ["state", "name"]
theorem scRelationShape : FnScope NRelationShape PRelationShape (defScope sRelationShape) := ⟨rfl, rfl, rfl, by decide +kernel, rfl, by decide +kernel, by decide +kernel⟩
abbrev sRowsOfBuckets : Stmt := top 30
abbrev NRowsOfBuckets : List Str := ["state", "name", "relation", "_", "buckets", "rows", "row"]
abbrev PRowsOfBuckets : List Str := ["state", "name"]
theorem scRowsOfBuckets : FnScope NRowsOfBuckets PRowsOfBuckets (defScope sRowsOfBuckets) := ⟨rfl, rfl, rfl, by decide +kernel, rfl, by decide +kernel, by decide +kernel⟩
abbrev sStructureShape : Stmt := top 31
abbrev NStructureShape : List Str := ["state", "name", "sectors", "rows", "found"]
abbrev PStructureShape : List Str := ["state", "name"]
theorem scStructureShape : FnScope NStructureShape PStructureShape (defScope sStructureShape) := ⟨rfl, rfl, rfl, by decide +kernel, rfl, by decide +kernel, by decide +kernel⟩
abbrev sLawMix : Stmt := top 33
abbrev NLawMix : List Str := ["_law_cell", "_law_k", "_law_value_here"]
abbrev PLawMix : List Str := ["_law_cell", "_law_k"]
theorem scLawMix : FnScope NLawMix PLawMix (defScope sLawMix) := ⟨rfl, rfl, rfl, by decide +kernel, rfl, by decide +kernel, by decide +kernel⟩
abbrev sLawDraws : Stmt := top 34
abbrev NLawDraws : List Str := ["_law_script", "_law_draws_here", "_law_k", "_law_cell", "_law_place"]
abbrev PLawDraws : List Str := ["_law_script"]
theorem scLawDraws : FnScope NLawDraws PLawDraws (defScope sLawDraws) := ⟨rfl, rfl, rfl, by decide +kernel, rfl, by decide +kernel, by decide +kernel⟩
abbrev sLawAt : Stmt := top 35
abbrev NLawAt : List Str := ["_law_draws_here", "_law_index"]
abbrev PLawAt : List Str := ["_law_draws_here", "_law_index"]
theorem scLawAt : FnScope NLawAt PLawAt (defScope sLawAt) := ⟨rfl, rfl, rfl, by decide +kernel, rfl, by decide +kernel, by decide +kernel⟩
abbrev sLawIsInteger : Stmt := top 36
abbrev NLawIsInteger : List Str := ["_law_actual"]
abbrev PLawIsInteger : List Str := ["_law_actual"]
theorem scLawIsInteger : FnScope NLawIsInteger PLawIsInteger (defScope sLawIsInteger) := ⟨rfl, rfl, rfl, by decide +kernel, rfl, by decide +kernel, by decide +kernel⟩
abbrev sLawSame : Stmt := top 37
abbrev NLawSame : List Str := ["_law_actual", "_law_expected", "_law_k"]
abbrev PLawSame : List Str := ["_law_actual", "_law_expected"]
theorem scLawSame : FnScope NLawSame PLawSame (defScope sLawSame) := ⟨rfl, rfl, rfl, by decide +kernel, rfl, by decide +kernel, by decide +kernel⟩
abbrev sLawNext : Stmt := top 38
abbrev NLawNext : List Str := ["_law_state", "_law_limit"]
abbrev PLawNext : List Str := ["_law_state", "_law_limit"]
theorem scLawNext : FnScope NLawNext PLawNext (defScope sLawNext) := ⟨rfl, rfl, rfl, by decide +kernel, rfl, by decide +kernel, by decide +kernel⟩
abbrev sLawText : Stmt := top 39
abbrev NLawText : List Str := ["_law_state", "_law_most", "_law_chars", "_law_start", "_law_step", "_law_k"]
abbrev PLawText : List Str := ["_law_state", "_law_most"]
theorem scLawText : FnScope NLawText PLawText (defScope sLawText) := ⟨rfl, rfl, rfl, by decide +kernel, rfl, by decide +kernel, by decide +kernel⟩
abbrev sLawValue : Stmt := top 40
abbrev NLawValue : List Str := ["_law_state", "_law_pick", "_law_number", "_law_k"]
abbrev PLawValue : List Str := ["_law_state"]
theorem scLawValue : FnScope NLawValue PLawValue (defScope sLawValue) := ⟨rfl, rfl, rfl, by decide +kernel, rfl, by decide +kernel, by decide +kernel⟩
abbrev sLawFirst : Stmt := top 41
abbrev NLawFirst : List Str := ["_law_one", "_law_other"]
abbrev PLawFirst : List Str := ["_law_one", "_law_other"]
theorem scLawFirst : FnScope NLawFirst PLawFirst (defScope sLawFirst) := ⟨rfl, rfl, rfl, by decide +kernel, rfl, by decide +kernel, by decide +kernel⟩
abbrev sLawOrder : Stmt := top 42
abbrev NLawOrder : List Str := ["_law_first_here", "_law_second", "_law_k"]
abbrev PLawOrder : List Str := ["_law_first_here", "_law_second"]
theorem scLawOrder : FnScope NLawOrder PLawOrder (defScope sLawOrder) := ⟨rfl, rfl, rfl, by decide +kernel, rfl, by decide +kernel, by decide +kernel⟩
abbrev sLawSorted : Stmt := top 43
abbrev NLawSorted : List Str := ["_law_rows", "_law_ordered", "_law_row", "_law_at_here", "_law_other"]
abbrev PLawSorted : List Str := ["_law_rows"]
theorem scLawSorted : FnScope NLawSorted PLawSorted (defScope sLawSorted) := ⟨rfl, rfl, rfl, by decide +kernel, rfl, by decide +kernel, by decide +kernel⟩
abbrev sLawSmall : Stmt := top 44
abbrev NLawSmall : List Str := ["_law_state", "_law_pick"]
abbrev PLawSmall : List Str := ["_law_state"]
theorem scLawSmall : FnScope NLawSmall PLawSmall (defScope sLawSmall) := ⟨rfl, rfl, rfl, by decide +kernel, rfl, by decide +kernel, by decide +kernel⟩
abbrev sLawShelf : Stmt := top 45
abbrev NLawShelf : List Str := ["_law_state", "_law_most", "_law_relations", "_law_facts", "_law_structures", "_law_name", "_law_width", "_law_count", "_law_relation", "_law_columns", "_law_column", "_law_j", "_law_k"]
abbrev PLawShelf : List Str := ["_law_state", "_law_most"]
theorem scLawShelf : FnScope NLawShelf PLawShelf (defScope sLawShelf) := ⟨rfl, rfl, rfl, by decide +kernel, rfl, by decide +kernel, by decide +kernel⟩
abbrev sLawShelfItems : Stmt := top 46
abbrev NLawShelfItems : List Str := ["_law_shelf_here", "_law_items", "_law_name", "_law_row"]
abbrev PLawShelfItems : List Str := ["_law_shelf_here"]
theorem scLawShelfItems : FnScope NLawShelfItems PLawShelfItems (defScope sLawShelfItems) := ⟨rfl, rfl, rfl, by decide +kernel, rfl, by decide +kernel, by decide +kernel⟩
abbrev sLawValuesOf : Stmt := top 47
abbrev NLawValuesOf : List Str := ["_law_shelf_here", "_law_name", "_law_row", "_law_relation", "_law_columns", "_law_buckets", "_law_sectors", "_law_names", "_law_column"]
abbrev PLawValuesOf : List Str := ["_law_shelf_here", "_law_name", "_law_row"]
theorem scLawValuesOf : FnScope NLawValuesOf PLawValuesOf (defScope sLawValuesOf) := ⟨rfl, rfl, rfl, by decide +kernel, rfl, by decide +kernel, by decide +kernel⟩
abbrev sLawReadRows : Stmt := top 48
abbrev NLawReadRows : List Str := ["_law_sectors", "_law_rows", "_law_empty", "_law_sector", "_law_reader", "_law_k"]
abbrev PLawReadRows : List Str := ["_law_sectors"]
theorem scLawReadRows : FnScope NLawReadRows PLawReadRows (defScope sLawReadRows) := ⟨rfl, rfl, rfl, by decide +kernel, rfl, by decide +kernel, by decide +kernel⟩
abbrev sLaw : Stmt := top 49
abbrev NLaw : List Str := ["_law_script", "_law_state", "_law_shelf_here", "_law_actual", "_law_name", "_law_shape", "_law_relation", "_law_columns", "_law_buckets", "_law_sectors", "_law_total", "_law_k", "_law_rows", "_law_row"]
abbrev PLaw : List Str := ["_law_script"]
theorem scLaw : FnScope NLaw PLaw (defScope sLaw) := ⟨rfl, rfl, rfl, by decide +kernel, rfl, by decide +kernel, by decide +kernel⟩
end K9

set_option Elab.async false
set_option linter.all false
set_option maxRecDepth 100000
set_option maxHeartbeats 4000000
/-! Own rules of the layer, heaps, data. -/
namespace K9
open PySem PySem.Spec PyProof.Rows L2

/-! ### built-in names that stay free -/
structure Free (mg : Str → Option Value) : Prop where
  isinstance : mg "isinstance" = none
  int : mg "int" = none
  bool : mg "bool" = none
  str : mg "str" = none
  list : mg "list" = none
  tuple : mg "tuple" = none
  len : mg "len" = none
  range : mg "range" = none
  sorted : mg "sorted" = none
  min : mg "min" = none
  abs : mg "abs" = none
  ord : mg "ord" = none

def befS : Str := " !\"#$"
def aftS : Str := "&'()*+,-./0123456789:;<=>?@ABCDEFGHIJKLMNOPQRSTUVWXYZ[\\]^_`abcdefghijklmnopqrstuvwxyz{|}~"
/-- the module's constants -/
structure Glob (K : PySem.W.Frag) (mg : Str → Option Value) : Prop extends Free mg where
  cSECTOR : ∃ u, mg "SECTOR" = some u ∧ RelV (.int 64) u
  cNUMBER_BYTES : ∃ u, mg "NUMBER_BYTES" = some u ∧ RelV (.int 60) u
  cBEFORE_PERCENT : ∃ u, mg "BEFORE_PERCENT" = some u ∧ RelV (.str befS) u
  cAFTER_PERCENT : ∃ u, mg "AFTER_PERCENT" = some u ∧ RelV (.str aftS) u
  cEMPTY : ∃ u, mg "EMPTY" = some u ∧ RelV (.ref (He.ga K "EMPTY")) u
  sEMPTY : ∀ H, SqT K H (He.ga K "EMPTY") (List.replicate 64 (.int 0))

/-! ### defs of the text -/
abbrev FD (K : PySem.W.Frag) (x qual : Str) (st : Stmt) (f : Addr) (fd : FuncData) : Prop := FunD K x qual (defArgs st) (defBody st) (defScope st) [] [] f fd
section
variable {P : Program} {w : World} {K : PySem.W.Frag} {mg : Str → Option Value} {base : Heap}
/-- a def by its body -/
theorem cal_mk {x : Str} {st : Stmt} {f : Addr} {fd : FuncData} {N ps : List Str} {k : Nat} {sp : Sp} (F : FD K x x st f fd) (hm : mg x = some (.ref f)) (b : Binds K fd ps []) (S : FnScope N ps (defScope st)) (len : ∀ vs H Q E, sp vs H Q E → vs.length = ps.length)
    (hbody : ∀ (cdv : Value) (A : Around) (outer : List Env) (s : Shared) (H : Hp) (vs : List V) (Q : VK) (E : XK), Room k (A.deeper (envOfC x (defScope st) s.heap.objs.size f cdv)) → sp vs H Q E →
      ∃ t, PSs (cxOf C8.CX0 P w K mg base N x (defScope st) f cdv A outer s H E).nox (defBody st) t ∧ t { nx := fun _ H' => Q .non H', rt := Q } (start N vs) H) : C8.Cal P w K mg base (k + 1) x sp [] :=
  ⟨f, fd, ps, [], F.ok S len fun cdv A outer s H vs Q E hr h => by
    obtain ⟨t, p, q⟩ := hbody cdv A outer s H vs Q E hr h
    exact ⟨t, p.nox, q⟩, hm, F.kp, b, .nil⟩
/-- a method by its body -/
theorem met_mk {m qual : Str} {C : Addr} {st : Stmt} {f : Addr} {fd : FuncData} {N ps : List Str} {k : Nat} {sp : Sp} (c : Cls K C) (me : Meth K C m f) (F : FD K m qual st f fd) (b : Binds K fd ps []) (S : FnScope N ps (defScope st)) (len : ∀ vs H Q E, sp vs H Q E → vs.length = ps.length)
    (hbody : ∀ (cdv : Value) (A : Around) (outer : List Env) (s : Shared) (H : Hp) (vs : List V) (Q : VK) (E : XK), Room k (A.deeper (envOfC qual (defScope st) s.heap.objs.size f cdv)) → sp vs H Q E →
      ∃ t, PSs (cxOf C8.CX0 P w K mg base N qual (defScope st) f cdv A outer s H E).nox (defBody st) t ∧ t { nx := fun _ H' => Q .non H', rt := Q } (start N vs) H) : C8.Met P w K mg base (k + 1) C m sp [] :=
  ⟨f, fd, ps, [], c, me, F.ok S len fun cdv A outer s H vs Q E hr h => by
    obtain ⟨t, p, q⟩ := hbody cdv A outer s H vs Q E hr h
    exact ⟨t, p.nox, q⟩, b, .nil⟩
/-- a class that is made by its name, its __init__ by its body (the defaults, if any, are all given) -/
theorem mak_mk {x qual : Str} {C : Addr} {params : Arguments} {body : List Stmt} {scope : Scope} {dvs : List V} {f : Addr} {fd : FuncData} {N ps : List Str} {k : Nat} {sp : Sp} (M : Mk K C f) (hm : mg x = some (.ref C)) (F : FunD K "__init__" qual params body scope dvs [] f fd) (b : Binds K fd ps [])
    (S : FnScope N ps scope) (len : ∀ vs H Q E, sp vs H Q E → vs.length = ps.length)
    (hbody : ∀ (cdv : Value) (A : Around) (outer : List Env) (s : Shared) (H : Hp) (vs : List V) (Q : VK) (E : XK), Room k (A.deeper (envOfC qual scope s.heap.objs.size f cdv)) → sp vs H Q E →
      ∃ t, PSs (cxOf C8.CX0 P w K mg base N qual scope f cdv A outer s H E).nox body t ∧ t { nx := fun _ H' => Q .non H', rt := Q } (start N vs) H) : C8.Mak P w K mg base (k + 1) x C sp [] :=
  ⟨f, fd, ps, [], M, F.ok S len fun cdv A outer s H vs Q E hr h => by
    obtain ⟨t, p, q⟩ := hbody cdv A outer s H vs Q E hr h
    exact ⟨t, p.nox, q⟩, hm, b, .nil⟩
end

/-! ### rules that the layer lacks -/
section
variable {X : Cx}
/-- xs[i] as a step of xs[i] op= e -/
theorem get_list : PGet X (fun o i H Q => ∃ p xs k v, o = .ref p ∧ i = .int k ∧ 0 ≤ k ∧ SqL X.K H p xs ∧ xs[k.toNat]? = some v ∧ Q v H) := by
  intro pins s σ H o i ov iv Q I ro ri h
  obtain ⟨p, xs, k, v, rfl, rfl, h0, hq, he, q⟩ := h
  cases ro
  obtain ⟨t, rfl⟩ := ri
  obtain ⟨its, r, pl, hz⟩ := I.list hq
  obtain ⟨u, ew, rw'⟩ := r.get he
  have hl := r.length
  have hn := line63
  have hk : k.toNat < xs.length := (List.getElem?_eq_some_iff.mp he).1
  exact wpAny_getItem_list pl.isList h0 (by omega) (by simpa using ew) ⟨v, H, I, rw', q⟩
theorem list_extend_tup (l : Addr) (items : Array Value) (n : Nat) (b : Addr) (items2 : Array Value) (n2 : Nat) (dd : Option Addr) (sl : Array (Option Value)) (hs0 : ¬(!items.isEmpty && Builtin.List.listTooLong (items.size + items2.size)) = true) (hs1 : items.size ≤ sizeLine) (hs2 : items.size + items2.size ≤ sizeLine + 1) :
    Meets (Builtin.«list.extend» ⟨[.ref l, .ref b], []⟩) (fun _ R s => s.heap.get? l = some { cls := .type "list", dict := none, data := .seq items n, slots := #[] } ∧ s.heap.get? b = some { cls := .type "tuple", dict := dd, data := .seq items2 n2, slots := sl } ∧ R (.ok (.ret Value.none)) { s with heap := s.heap.update l (Obj.mapSeq fun x => x ++ items2) }) :=
  .of_wp fun prog w A R s h => by
    obtain ⟨hp, g, d, tk, os⟩ := s; obtain ⟨hl, hb, h⟩ := h; have f1 := AutoSeq1.idx_int; have f2 := AutoSeq1.sub_tuple_tuple; have f3 := AutoSeq1.sub_list_list; have f4 := AutoSeq1.sub_tuple_list; have f5 := AutoSeq1.sub_list_tuple;
    have hz' : (items ++ items2).size ≤ sizeLine + 1 := by rw [Array.size_append]; exact hs2
    wp_walk using (wpAny_updateSeq hl rfl (hz := hs1) (_hz' := hz')), AutoSeq1.wpAny_loadPart' hl, AutoSeq1.wpAny_loadPart' hb; exact ⟨_, rfl, h⟩
/-- xs.extend(t), t a tuple -/
theorem mt_extendT : MtR X "list.extend" (fun x vs H Q => ∃ l b xs zs, x = .ref l ∧ vs = [.ref b] ∧ H l = some (.lst xs) ∧ SqT X.K H b zs ∧ xs.length + zs.length ≤ sizeLine ∧ Q .non (upd H l (.lst (xs ++ zs)))) := by
  intro pins s σ H x vs v us Q I rx rv h
  obtain ⟨l, b, xs, zs, rfl, rfl, hH, hB, hz, q⟩ := h
  cases rx
  obtain ⟨u, rfl, ru⟩ := vals1 rv
  cases ru
  obtain ⟨z, its, n, r, hl, e⟩ := I.lstM hH
  obtain ⟨its2, r2, ⟨⟨cls, dd, data, sl⟩, ho, hc, n2, hd⟩, hl2⟩ := I.tuple hB
  simp only at hc hd
  subst hc hd
  have l1 := r.length
  have l2 := r2.length
  have hsz : its.toArray.size + its2.toArray.size ≤ sizeLine := by rw [List.size_toArray, List.size_toArray]; omega
  have hlong : ¬ (!its.toArray.isEmpty && Builtin.List.listTooLong (its.toArray.size + its2.toArray.size)) = true := by
    rw [notLongL hsz, Bool.and_false]
    exact Bool.false_ne_true
  refine call_meets PySem.F.slot_list_extend ⟨_, e, rfl⟩ PySem.F.entry_list_extend (PySem.F.args_list_extend_2 _ _)
    (list_extend_tup l its.toArray n b its2.toArray n2 dd sl hlong (by rw [List.size_toArray]; omega) (by omega)) ⟨e, ho, ?_⟩
  refine ⟨.non, _, I.lset (its' := its ++ its2) hH e (by simp) (r.append r2) ?_, rfl, q⟩
  rw [List.length_append]
  omega
end

/-! ### tuples whose object is known (.index asks that they have no dict) -/
/-- a known tuple -/
def PlainT (H : Hp) (a : Addr) : Prop := ∃ o u, H a = some (.frz o u) ∧ o.cls = .type "tuple" ∧ o.dict = none
def tTupF (t : TA) : TE := fun σ H Q => t σ H fun xs H1 => xs.length ≤ sizeLine ∧ ∀ (p : Addr) (o : Obj), H1 p = none → o.cls = .type "tuple" → o.dict = none → Q (.ref p) (upd H1 p (.frz o (.tup xs)))
section
variable {X : Cx} {e : Expr} {es : List Expr} {te to : TE} {t : TA} {pos apos cpos : Pos} {name : Str} {id : String} {r : V → List V → Hp → VK → Prop} {o : Expr}
theorem pe_tupF {x1} (h : PA X es t) : PE X (.Tuple es x1 pos) (tTupF t) := by
  refine ⟨fun pins s σ H Q I hq => ?_⟩
  refine wpAny_Tuple_spliced (thn (h.run pos pins s σ H _ I hq) fun us s1 ⟨xs, H1, I1, r, z, q⟩ => ⟨by rw [← r.length]; exact z, ?_⟩)
  have hf : H1 s1.heap.objs.size = none := I1.hok.fresh (Nat.le_refl _)
  refine ⟨.ref s1.heap.objs.size, _, I1.laid (t' := s1.toks) (o := .frz { cls := .type "tuple", data := .seq us.toArray } (.tup xs)) (fun b u e => Heap.get?_push_of_some _ e) (Nat.le_refl _) ?_, rfl, q _ _ hf rfl rfl⟩
  exact ⟨Heap.get?_push_size _ rfl, z, us, r, ⟨_, Heap.get?_push_size _ rfl, rfl, _, rfl⟩⟩
/-- t[lo:hi] of a tuple, a new one known -/
def rSlF (K : PySem.W.Frag) : V → Option Int → Option Int → Hp → VK → Prop := fun x lo hi H Q => ∃ a xs, x = .ref a ∧ SqT K H a xs ∧
  (HT.sIx xs.length 0 lo = 0 ∧ HT.sIx xs.length xs.length hi = xs.length → Q (.ref a) H) ∧ (¬ (HT.sIx xs.length 0 lo = 0 ∧ HT.sIx xs.length xs.length hi = xs.length) → ∀ (p : Addr) (o : Obj), H p = none → o.cls = .type "tuple" → o.dict = none → Q (.ref p) (upd H p (.frz o (.tup (cutV xs lo hi)))))
theorem sl_tupF : SlR X (rSlF X.K) := by
  intro pins s σ H x v vl vu lo hi sl Q I rx hs pl pu h
  obtain ⟨a, xs, rfl, hx, q1, q2⟩ := h
  cases rx
  obtain ⟨its, r, ht, hz⟩ := I.tuple hx
  have hlen : its.toArray.size = xs.length := by rw [List.size_toArray]; exact r.length.symm
  refine ⟨"tuple", _, PyProof.Rows.slot_tuple_getitem.lookup, ht.typeIs, ?_⟩
  by_cases hw : HT.sIx xs.length 0 lo = 0 ∧ HT.sIx xs.length xs.length hi = xs.length
  · exact getItem_tuple_whole ht hs pl pu (by rw [hlen]; exact hw) ⟨.ref a, H, I, rfl, q1 hw⟩
  · refine HT.getItem_tuple_cut ht hs pl pu (by rw [hlen]; exact hw) ?_ (by rw [hlen]; exact hz)
    rw [hlen]
    refine ⟨.ref s.heap.objs.size, _, I.laid (t' := s.toks) (o := .frz { cls := .type "tuple", data := .seq ((its.drop (HT.sIx xs.length 0 lo)).take (HT.sIx xs.length xs.length hi - HT.sIx xs.length 0 lo)).toArray } (.tup (cutV xs lo hi))) (fun b ob q => Heap.get?_push_of_some _ q) (Nat.le_refl _) ?_, rfl, q2 hw _ _ (I.hok.fresh (Nat.le_refl _)) rfl rfl⟩
    exact ⟨Heap.get?_push_size _ rfl, Nat.le_trans (cutV_length xs lo hi) hz, _, (r.drop (HT.sIx xs.length 0 lo)).take (HT.sIx xs.length xs.length hi - HT.sIx xs.length 0 lo), IsTup.new _ _⟩
/-- a method of a known tuple -/
def tBMT (r : V → List V → Hp → VK → Prop) (to : TE) (t : TA) : TE := fun σ H Q => to σ H fun x H1 => (∃ a, x = .ref a ∧ PlainT H1 a) ∧ t σ H1 fun xs H2 => r x xs H2 Q
theorem peBmT (pa : PlainAttrs "tuple") (slot : Slot "tuple" name id) (hty : typeOf (.builtin id) = pure (.type "method_descriptor")) (hm : MtR X id r) (ho : PE X o to) (ha : PA X (e :: es) t)
    (hbase : attributeBase o name X.env (eval o X.env) = eval o X.env := by rfl)
    (hfew : ((backTo cpos (starEach (e :: es) X.env)).all (fun x => !x.1) && (backToKw cpos (keywordEach [] X.env)).all (fun x => x.1.isSome)
      && decide ((e :: es).length + ([] : List Keyword).length + (if ([] : List Keyword).isEmpty then 0 else 1) < 30)) = true := by rfl)
    (hline : (apos.endLine == cpos.line) = true := by rfl) (hs : starEach (e :: es) X.env = (false, eval e X.env) :: starEach es X.env := by rfl) (hplain : (backTo cpos (starEach es X.env)).any (·.1) = false := by rfl) :
    PE X (.Call (.Attribute o name apos) (e :: es) [] cpos) (tBMT r to t) := by
  refine ⟨fun pins s σ H Q I h => ?_⟩
  refine wpAny_Call_method_late hbase hfew hline rfl (thn (ho.run pins s σ H _ I h) fun v s1 ⟨x, H1, I1, r1, ty, q1⟩ => ?_)
  obtain ⟨h1, h2⟩ : s1.TypeIs v "tuple" ∧ ∀ a, v = .ref a → ∃ ob, s1.heap.get? a = some ob ∧ ob.dict = none := by
    obtain ⟨a, rfl, ob, u, hH, hc, hd⟩ := ty
    cases r1
    obtain ⟨hg, _⟩ := I1.hok a _ hH
    refine ⟨⟨ob, hg, hc⟩, fun b e => ?_⟩
    cases e
    exact ⟨ob, hg, hd⟩
  refine ⟨"tuple", id, pa, slot, hty, h1, h2, ?_⟩
  have hA := ha.run cpos pins s1 σ H1 _ I1 q1
  rw [hs] at hA ⊢
  refine Calls.callWith_builtin (by show (false || (backTo cpos (starEach es X.env)).any (·.1)) = false; rw [hplain] <;> rfl) (Calls.evalArgs_plain ?_)
  exact thn hA fun us s2 ⟨vs, H2, I2, r2, q2⟩ => hm pins s2 σ H2 x vs v us Q I2 r1 r2 q2
end

/-! ### rules with the written part said (within a comprehension) -/
section
variable (K : PySem.W.Frag) {X : Cx}
theorem callListK (h : X.K = K := by rfl) : CallR X (.type "list") (fun xs H Q => ∃ p ys, xs = [.ref p] ∧ (SqL K H p ys ∨ SqT K H p ys) ∧ ∀ l, H l = none → Q (.ref l) (upd H l (.lst ys))) := by
  subst h
  exact call_list_of
theorem callTupleK (h : X.K = K := by rfl) : CallR X (.type "tuple") (fun xs H Q => ∃ p ys, xs = [.ref p] ∧ ((SqL K H p ys ∧ ∀ l, H l = none → Q (.ref l) (upd H l (.tup ys))) ∨ (SqT K H p ys ∧ Q (.ref p) H))) := by
  subst h
  exact call_tuple_of
theorem ixListK (h : X.K = K := by rfl) : IxR X (rIxL K) := by
  subst h
  exact ix_list
theorem ixTupK (h : X.K = K := by rfl) : IxR X (rIxT K) := by
  subst h
  exact ix_tup
theorem mtIndexK (h : X.K = K := by rfl) : MtR X "list.index" (rIndex K) := by
  subst h
  exact mt_index
theorem mtTupIndexK (h : X.K = K := by rfl) : MtR X "tuple.index" (fun x xs H Q => ∃ p, ∃ ys : List Str, ∃ z j, x = .ref p ∧ xs = [.str z] ∧ SqT K H p (ys.map V.str) ∧ ys[j]? = some z ∧ (∀ m, m < j → ys[m]? ≠ some z) ∧ Q (.int (j : Nat)) H) := by
  subst h
  exact mt_tup_index
theorem opCatTK (h : X.K = K := by rfl) : OpR X (binaryOp .Add) (rCatT K) := by
  subst h
  exact op_catT
theorem opInDK (hu : X.A.units + 65 < cLine) (h : X.K = K := by rfl) : OpR X (compareOp .In) (rInD K) := by
  subst h
  exact op_inD hu
variable {o e : Expr} {es : List Expr} {to : TE} {t : TA} {name : Str} {apos cpos : Pos} {T id : String} {r : V → List V → Hp → VK → Prop}
theorem peBmK (pa : PlainAttrs T) (slot : Slot T name id) (hty : typeOf (.builtin id) = pure (.type "method_descriptor")) (hm : MtR X id r) (ho : PE X o to) (ha : PA X (e :: es) t) (h : X.K = K := by rfl)
    (hbase : attributeBase o name X.env (eval o X.env) = eval o X.env := by rfl)
    (hfew : ((backTo cpos (starEach (e :: es) X.env)).all (fun x => !x.1) && (backToKw cpos (keywordEach [] X.env)).all (fun x => x.1.isSome)
      && decide ((e :: es).length + ([] : List Keyword).length + (if ([] : List Keyword).isEmpty then 0 else 1) < 30)) = true := by rfl)
    (hline : (apos.endLine == cpos.line) = true := by rfl) (hs : starEach (e :: es) X.env = (false, eval e X.env) :: starEach es X.env := by rfl) (hplain : (backTo cpos (starEach es X.env)).any (·.1) = false := by rfl) :
    PE X (.Call (.Attribute o name apos) (e :: es) [] cpos) (tBM K T r to t) := by
  subst h
  exact pe_bm pa slot hty hm ho ha hbase hfew hline hs hplain
end

/-! ### heaps -/
theorem same_new {H : Hp} {p : Addr} {o : HO} (h : H p = none) : Same H (upd H p o) := fun b x e => by
  rw [upd_ne (ne_of_none e h)]
  exact e
/-- what was not there is changed -/
theorem same_mut {H H' : Hp} {p : Addr} {o : HO} (e : Same H H') (h : H p = none) : Same H (upd H' p o) := fun b x eb => by
  rw [upd_ne (ne_of_none eb h)]
  exact e b x eb
theorem Same.rd {H H' : Hp} {a : Addr} {u : HO} (e : Same H H') (h : Rd H a u) : Rd H' a u := by
  rcases h with h | ⟨o, h⟩
  · exact .inl (e _ _ h)
  · exact .inr ⟨o, e _ _ h⟩
theorem Same.tup {K : PySem.W.Frag} {H H' : Hp} {a : Addr} {xs : List V} (e : Same H H') (h : SqT K H a xs) : SqT K H' a xs := by
  rcases h with h | h
  · exact .inl (Same.rd e h)
  · exact .inr h
/-- all but what stands at st is as it was -/
def But (st : Addr) (H H' : Hp) : Prop := ∀ b o, b ≠ st → H b = some o → H' b = some o
theorem But.refl (st : Addr) (H : Hp) : But st H H := fun _ _ _ h => h
theorem But.trans {st : Addr} {H H1 H2 : Hp} (a : But st H H1) (b : But st H1 H2) : But st H H2 := fun c o n h => b c o n (a c o n h)
theorem Same.but {st : Addr} {H H' : Hp} (e : Same H H') : But st H H' := fun b o _ h => e b o h
theorem But.upd {st : Addr} {H H' : Hp} {o : HO} (e : But st H H') : But st H (upd H' st o) := fun b x n h => by
  rw [upd_ne n]
  exact e b x n h
theorem But.free {st : Addr} {H H' : Hp} {o : HO} (e : But st H H') (h0 : H' st = some o) {l : Addr} (h : H' l = none) : H l = none := by
  cases q : H l with
  | none => rfl
  | some u =>
    have n : l ≠ st := fun z => by
      rw [z, h0] at h
      cases h
    rw [e l u n q] at h
    cases h
theorem But.list {K : PySem.W.Frag} {st : Addr} {H H' : Hp} {a : Addr} {xs : List V} (e : But st H H') (n : a ≠ st) (h : SqL K H a xs) : SqL K H' a xs := by
  rcases h with (h | ⟨o, h⟩) | h
  · exact .inl (.inl (e _ _ n h))
  · exact .inl (.inr ⟨o, e _ _ n h⟩)
  · exact .inr h
theorem But.tup {K : PySem.W.Frag} {st : Addr} {H H' : Hp} {a : Addr} {xs ys : List V} (e : But st H H') (n : H st = some (.lst ys)) (h : SqT K H a xs) : SqT K H' a xs := by
  rcases h with (h | ⟨o, h⟩) | h
  · exact .inl (.inl (e _ _ (fun z => by rw [z, n] at h; cases h) h))
  · exact .inl (.inr ⟨o, e _ _ (fun z => by rw [z, n] at h; cases h) h⟩)
  · exact .inr h
/-- from a heap in which st did not stand -/
theorem But.same {st : Addr} {H0 H H' : Hp} (s : Same H0 H) (h : H0 st = none) (e : But st H H') : Same H0 H' := fun b o q => e b o (ne_of_none q h) (s b o q)
theorem ne_new {H : Hp} {p q : Addr} {o : HO} (h : (upd H p o) q = none) : q ≠ p := fun z => by
  rw [z, upd_same] at h
  cases h
theorem none_new {H : Hp} {p q : Addr} {o : HO} (h : (upd H p o) q = none) : H q = none := by
  have n := ne_new h
  rwa [upd_ne n] at h

/-- a heap without what stands at D -/
def del (H : Hp) (D : Addr) : Hp := fun b => if b = D then none else H b
theorem del_same {H : Hp} {D : Addr} : del H D D = none := by unfold del; rw [if_pos rfl]
theorem del_ne {H : Hp} {D b : Addr} (h : b ≠ D) : del H D b = H b := by unfold del; rw [if_neg h]
theorem del_upd {H : Hp} {D : Addr} {o : HO} : del (upd H D o) D = del H D := by
  funext b
  unfold del upd
  split <;> rfl
theorem del_le (H : Hp) (D : Addr) : Same (del H D) H := fun b o e => by
  by_cases h : b = D
  · rw [h, del_same] at e
    cases e
  · rwa [del_ne h] at e
theorem Same.del {H H' : Hp} (e : Same H H') (D : Addr) : Same (del H D) (K9.del H' D) := fun b o h => by
  by_cases q : b = D
  · rw [q, del_same] at h
    cases h
  · rw [del_ne q] at h
    rw [del_ne q]
    exact e b o h
theorem But.del {st : Addr} {H H' : Hp} (e : But st H H') : Same (K9.del H st) (K9.del H' st) := fun b o h => by
  by_cases q : b = st
  · rw [q, del_same] at h
    cases h
  · rw [del_ne q] at h
    rw [del_ne q]
    exact e b o q h
/-- what stood before D was made -/
theorem same_del {H0 H : Hp} {D : Addr} (e : Same H0 H) (h : H0 D = none) : Same H0 (del H D) := fun b o q => by
  rw [del_ne (ne_of_none q h)]
  exact e b o q
theorem same_del_new {H : Hp} {D : Addr} {o : HO} (h : H D = none) : Same H (del (upd H D o) D) := same_del (same_new h) h
theorem upd_del {H : Hp} {D : Addr} {o : HO} : Same (del H D) (upd H D o) := fun b x e => by
  by_cases q : b = D
  · rw [q, del_same] at e
    cases e
  · rw [del_ne q] at e
    rw [upd_ne q]
    exact e
/-- a text, sign by sign, in a comprehension -/
theorem lc_str {x : Str} {g : TG} {tt : TT} {te : TE} {vs : List Nat} {σ : L2.St} {H1 : Hp} {D : Addr} {Qd : Hp → Prop} (Pv : Nat → Hp → Prop) (h0 : Pv 0 (upd H1 D (.lst [])))
    (hs : ∀ i c H, x.cps[i]? = some c → Pv i H → g (.str ⟨#[c]⟩) (wipe σ vs) H fun σ2 H2 => wipe σ2 vs = wipe σ vs ∧ tt σ2 H2 fun b H3 =>
      if b = true then te σ2 H3 fun y H4 => ∃ acc, H4 D = some (.lst acc) ∧ acc.length < sizeLine ∧ Pv (i + 1) (upd H4 D (.lst (acc ++ [y]))) else Pv (i + 1) H3) (hd : ∀ H, Pv x.cps.size H → Qd H) :
    ∃ W : Nat → Nat → Hp → Prop, (∃ m, W 0 m (upd H1 D (.lst []))) ∧ ∀ i m H, W i m H →
      ((Its x).stop i H ∧ Qd H) ∨ ((Its x).go i H ∧ ∃ Nx : Hp → Prop, (∀ H', Nx H' → ∃ m', m' < m ∧ W (i + 1) m' H') ∧ ∀ x' H', (Its x).yld i H x' H' → g x' (wipe σ vs) H' fun σ2 H2 => wipe σ2 vs = wipe σ vs ∧ tt σ2 H2 fun b H3 =>
        if b = true then te σ2 H3 fun y H4 => ∃ acc, H4 D = some (.lst acc) ∧ acc.length < sizeLine ∧ Nx (upd H4 D (.lst (acc ++ [y]))) else Nx H3) := by
  refine ⟨fun i m H => m = x.cps.size - i ∧ i ≤ x.cps.size ∧ Pv i H, ⟨x.cps.size, by simp, Nat.zero_le _, h0⟩, ?_⟩
  rintro i m H ⟨rfl, hi, p⟩
  by_cases hlt : i < x.cps.size
  · refine .inr ⟨hlt, Pv (i + 1), fun H' p' => ⟨x.cps.size - (i + 1), by omega, rfl, hlt, p'⟩, fun x' H' y => ?_⟩
    obtain ⟨e, c, hc, hy⟩ := y
    subst e hy
    exact hs i c _ hc p
  · have e : i = x.cps.size := by omega
    subst e
    exact .inl ⟨Nat.le_refl _, hd H p⟩

/-! ### data -/
/-- a value of the document: an integer, a string -/
inductive Cell where
  | n (i : Int)
  | t (x : Str)
  deriving DecidableEq
abbrev Row := List Cell
def Cell.v : Cell → V
  | .n i => .int i
  | .t x => .str x
def Cell.d : Cell → PyData
  | .n i => .int i
  | .t x => .str x
def rowV (r : Row) : List V := r.map Cell.v
/-- bytes as values -/
def bv (bs : List Nat) : List V := bs.map fun b : Nat => V.int (b : Int)
theorem bv_len (bs : List Nat) : (bv bs).length = bs.length := List.length_map _
theorem bv_app (a b : List Nat) : bv (a ++ b) = bv a ++ bv b := List.map_append
/-- v is a row -/
def RowA (K : PySem.W.Frag) (H : Hp) (v : V) (r : Row) : Prop := ∃ a, v = .ref a ∧ SqT K H a (rowV r)
/-- a list of rows -/
def RowsA (K : PySem.W.Frag) (H : Hp) (a : Addr) (rs : List Row) : Prop := ∃ vs, SqL K H a vs ∧ Paired (RowA K H) vs rs
theorem RowA.same {K : PySem.W.Frag} {H H' : Hp} {v : V} {r : Row} (e : Same H H') (h : RowA K H v r) : RowA K H' v r := by
  obtain ⟨a, rfl, q⟩ := h
  exact ⟨a, rfl, Same.tup e q⟩
theorem RowA.but {K : PySem.W.Frag} {H H' : Hp} {st : Addr} {ys : List V} {v : V} {r : Row} (e : But st H H') (n : H st = some (.lst ys)) (h : RowA K H v r) : RowA K H' v r := by
  obtain ⟨a, rfl, q⟩ := h
  exact ⟨a, rfl, But.tup e n q⟩
theorem rowsA_same {K : PySem.W.Frag} {H H' : Hp} {vs : List V} {rs : List Row} (e : Same H H') (h : Paired (RowA K H) vs rs) : Paired (RowA K H') vs rs := Paired.mapP h fun _ _ q => q.same e
theorem RowsA.same {K : PySem.W.Frag} {H H' : Hp} {a : Addr} {rs : List Row} (e : Same H H') (h : RowsA K H a rs) : RowsA K H' a rs := by
  obtain ⟨vs, h1, h2⟩ := h
  exact ⟨vs, Same.seq e h1, rowsA_same e h2⟩
theorem paired_get {α β : Type} {R : α → β → Prop} : ∀ {as : List α} {bs : List β}, Paired R as bs → ∀ {i : Nat} {b : β}, bs[i]? = some b → ∃ a, as[i]? = some a ∧ R a b
  | _, _, .nil, _, _, h => by simp at h
  | _, _, .cons r t, 0, _, h => by simp at h; subst h; exact ⟨_, rfl, r⟩
  | _, _, .cons r t, i + 1, _, h => by
    obtain ⟨a, h1, h2⟩ := paired_get t (i := i) (by simpa using h)
    exact ⟨a, by simpa using h1, h2⟩
theorem paired_getL {α β : Type} {R : α → β → Prop} : ∀ {as : List α} {bs : List β}, Paired R as bs → ∀ {i : Nat} {a : α}, as[i]? = some a → ∃ b, bs[i]? = some b ∧ R a b
  | _, _, .nil, _, _, h => by simp at h
  | _, _, .cons r t, 0, _, h => by simp at h; subst h; exact ⟨_, rfl, r⟩
  | _, _, .cons r t, i + 1, _, h => by
    obtain ⟨a, h1, h2⟩ := paired_getL t (i := i) (by simpa using h)
    exact ⟨a, by simpa using h1, h2⟩
theorem paired_app {α β : Type} {R : α → β → Prop} : ∀ {as as' : List α} {bs bs' : List β}, Paired R as bs → Paired R as' bs' → Paired R (as ++ as') (bs ++ bs')
  | _, _, _, _, .nil, h => h
  | _, _, _, _, .cons r t, h => .cons r (paired_app t h)
theorem paired_len {α β : Type} {R : α → β → Prop} : ∀ {as : List α} {bs : List β}, Paired R as bs → as.length = bs.length
  | _, _, .nil => rfl
  | _, _, .cons _ t => congrArg (· + 1) (paired_len t)
theorem sz1 : 1 ≤ sizeLine := by decide
theorem sz2 : 2 ≤ sizeLine := by decide
theorem sz_of {n : Nat} (h : n ≤ 100000) : n ≤ sizeLine := Nat.le_trans h (by decide)
theorem sz_lt {n : Nat} (h : n < 100000) : n < sizeLine := Nat.lt_of_lt_of_le h (by decide)
end K9

set_option Elab.async false
set_option linter.all false
set_option maxRecDepth 100000
set_option maxHeartbeats 4000000
/-! The codes, in plain Lean. -/
namespace K9
open PySem PySem.Spec PyProof.Rows L2
/-- groups of seven bits -/
def numC (n : Nat) : List Nat := if h : n < 128 then [n] else (n % 128 + 128) :: numC (n / 128)
termination_by n
decreasing_by omega
theorem numC_small {n : Nat} (h : n < 128) : numC n = [n] := by
  rw [numC, dif_pos h]
theorem numC_big {n : Nat} (h : ¬ n < 128) : numC n = (n % 128 + 128) :: numC (n / 128) := by
  rw [numC, dif_neg h]
theorem numC_len : ∀ (k n : Nat), n < 128 ^ (k + 1) → (numC n).length ≤ k + 1
  | 0, n, h => by
    rw [numC_small (by simpa using h)]
    exact Nat.le_refl _
  | k + 1, n, h => by
    by_cases q : n < 128
    · rw [numC_small q]
      simp
    · rw [numC_big q, List.length_cons]
      have := numC_len k (n / 128) (by
        rw [Nat.div_lt_iff_lt_mul (by decide)]
        rw [Nat.pow_succ] at h
        exact h)
      omega
theorem numC_ne (n : Nat) : 0 < (numC n).length := by
  by_cases q : n < 128
  · rw [numC_small q]; simp
  · rw [numC_big q]; simp
def signC (i : Int) : Nat := if i < 0 then 1 else 0
def intC (i : Int) : List Nat := signC i :: numC i.natAbs
def listC (items : List (List Nat)) : List Nat := numC items.length ++ items.flatten
def strC (x : Str) : List Nat := listC (x.cps.toList.map numC)
def cellC : Cell → List Nat
  | .n i => 0 :: intC i
  | .t x => 1 :: strC x
def rowC (r : Row) : List Nat := listC (r.map cellC)
/-- the signs of the document: from the space to ~, but the percent sign -/
def signOk (c : Nat) : Prop := 32 ≤ c ∧ c < 127 ∧ c ≠ 37
/-- a value of the document -/
def CellOk : Cell → Prop
  | .n i => i.natAbs < 10 ^ 30
  | .t x => x.cps.size ≤ 30 ∧ ∀ c ∈ x.cps.toList, signOk c
def RowOk (r : Row) : Prop := r.length ≤ 4 ∧ ∀ c ∈ r, CellOk c
theorem flat_len {α : Type} {b : Nat} : ∀ {l : List (List α)}, (∀ x ∈ l, x.length ≤ b) → l.flatten.length ≤ b * l.length
  | [], _ => by simp
  | x :: r, h => by
    rw [List.flatten_cons, List.length_append, List.length_cons, Nat.mul_succ]
    have h1 := h x List.mem_cons_self
    have h2 := flat_len (l := r) fun y hy => h y (List.mem_cons_of_mem _ hy)
    omega
theorem numLe {n : Nat} (h : n < 10 ^ 30) : (numC n).length ≤ 15 := numC_len 14 n (Nat.lt_trans h (by decide))
theorem signLe {c : Nat} (h : signOk c) : numC c = [c] := numC_small (by have := h.2.1; omega)
theorem strC_eq {x : Str} (h : ∀ c ∈ x.cps.toList, signOk c) (hl : x.cps.size ≤ 30) : strC x = x.cps.size :: x.cps.toList := by
  have e : ∀ l : List Nat, (∀ c ∈ l, signOk c) → (l.map numC).flatten = l := fun l => by
    induction l with
    | nil => intro _; rfl
    | cons c r ih =>
      intro q
      rw [List.map_cons, List.flatten_cons, signLe (q c List.mem_cons_self), ih fun d hd => q d (List.mem_cons_of_mem _ hd)]
      rfl
  unfold strC listC
  rw [e _ h, List.length_map, numC_small (by rw [Array.length_toList]; omega), Array.length_toList]
  rfl
theorem cellC_len {c : Cell} (h : CellOk c) : (cellC c).length ≤ 33 := by
  cases c with
  | n i =>
    show (0 :: signC i :: numC i.natAbs).length ≤ 33
    have := numLe h
    simp only [List.length_cons]
    omega
  | t x =>
    show (1 :: strC x).length ≤ 33
    rw [strC_eq h.2 h.1, List.length_cons, List.length_cons, Array.length_toList]
    have := h.1
    omega
theorem rowC_len {r : Row} (h : RowOk r) : (rowC r).length ≤ 200 := by
  unfold rowC listC
  have e1 : (numC (r.map cellC).length).length ≤ 1 := by
    rw [numC_small (by rw [List.length_map]; have := h.1; omega)]
    exact Nat.le_refl _
  have e2 : (r.map cellC).flatten.length ≤ 33 * (r.map cellC).length := flat_len fun x hx => by
    obtain ⟨c, hc, rfl⟩ := List.mem_map.mp hx
    exact cellC_len (h.2 c hc)
  rw [List.length_map] at e2
  have := h.1
  rw [List.length_append]
  omega
theorem rowC_ne (r : Row) : 0 < (rowC r).length := by
  unfold rowC listC
  rw [List.length_append]
  have := numC_ne (r.map cellC).length
  omega
end K9

set_option Elab.async false
set_option linter.all false
set_option maxRecDepth 100000
set_option maxHeartbeats 4000000
/-! write_number .. write_row, bucket_of_values. -/
namespace K9
open PySem PySem.Spec PyProof.Rows L2
/-- a new list of bytes is handed back -/
def Gives (H : Hp) (bs : List Nat) (Q : VK) : Prop := ∀ H' p, Same H H' → H p = none → H' p = some (.lst (bv bs)) → Q (.ref p) H'
def spWriteNumber : Sp := fun vs H Q _ => ∃ n : Nat, vs = [.int (n : Int)] ∧ (numC n).length ≤ 60 ∧ Gives H (numC n) Q
def spWriteInteger : Sp := fun vs H Q _ => ∃ i : Int, vs = [.int i] ∧ (numC i.natAbs).length ≤ 60 ∧ Gives H (intC i) Q
/-- v is a list of bytes -/
def BytesA (H : Hp) (v : V) (bs : List Nat) : Prop := ∃ b, v = .ref b ∧ H b = some (.lst (bv bs))
theorem BytesA.same {H H' : Hp} {v : V} {bs : List Nat} (e : Same H H') (h : BytesA H v bs) : BytesA H' v bs := by
  obtain ⟨b, rfl, q⟩ := h
  exact ⟨b, rfl, e _ _ q⟩
def spWriteList (K : PySem.W.Frag) : Sp := fun vs H Q _ => ∃ (a : Addr) (ys : List V) (items : List (List Nat)), vs = [.ref a] ∧ SqL K H a ys ∧ Paired (BytesA H) ys items ∧ (numC items.length).length ≤ 60 ∧ (listC items).length ≤ 100000 ∧ Gives H (listC items) Q
def spWriteString : Sp := fun vs H Q _ => ∃ x : Str, vs = [.str x] ∧ x.cps.size ≤ 30 ∧ (∀ c ∈ x.cps.toList, signOk c) ∧ Gives H (strC x) Q
def spWriteValue : Sp := fun vs H Q _ => ∃ c : Cell, vs = [c.v] ∧ CellOk c ∧ Gives H (cellC c) Q
def spWriteRow (K : PySem.W.Frag) : Sp := fun vs H Q _ => ∃ (a : Addr) (r : Row), vs = [.ref a] ∧ SqT K H a (rowV r) ∧ RowOk r ∧ Gives H (rowC r) Q
/-- one byte more -/
def bstep (n t b : Nat) : Nat := (31 * t + b + 1) % n
/-- the bucket of values -/
def bktF (r : Row) (n : Nat) : Nat := (rowC r).foldl (bstep n) 0
def spBucketOfValues (K : PySem.W.Frag) : Sp := fun vs H Q _ => ∃ (a : Addr) (r : Row) (n : Nat), vs = [.ref a, .int (n : Int)] ∧ SqT K H a (rowV r) ∧ RowOk r ∧ 0 < n ∧ ∀ H', Same H H' → Q (.int ((bktF r n : Nat) : Int)) H'
section
variable {P : Program} {w : World} {K : PySem.W.Frag} {mg : Str → Option Value} {base : Heap}
theorem ok_WriteNumber {f : Addr} {fd : FuncData} (F : FD K "write_number" "write_number" sWriteNumber f fd) (hm : mg "write_number" = some (.ref f)) (T : Free mg) : C8.Cal P w K mg base 1 "write_number" spWriteNumber [] := by
  refine cal_mk F hm (FunD.bindsN (ps := PWriteNumber) F fun _ _ _ _ _ _ us hl => match us, hl with | [_], _ => rfl) scWriteNumber (fun vs H Q E h => ?_) (fun cdv A outer s H vs Q E hr h => ?_)
  · obtain ⟨n, rfl, _⟩ := h
    rfl
  · obtain ⟨n, rfl, hl, q⟩ := h
    refine ⟨_, (pss_cons (ps_set (i := 1) scWriteNumber.nd rfl (Or.inl rfl) (pe_lst pa_nil))
    (pss_cons (ps_while PassesOwn.never (pt_cmpR op_ge (pv 0) pe_int (nomark _))
    (pss_cons (ps_expr (pe_bm PySem.F.plainAttrs_list PySem.F.slot_list_append PySem.F.type_list_append mt_append (pv 1) (pa_cons (pe_op op_add (pe_op op_mod (pv 0) pe_int) pe_int) pa_nil)))
      (pss_one (ps_set (i := 0) scWriteNumber.nd rfl (Or.inl rfl) (pe_op op_fdiv (pv 0) pe_int)))))
    (pss_one (ps_ret (pe_op op_cat (pv 1) (pe_lst (pa_cons (pv 0) pa_nil))))))), ?_⟩
    refine ⟨Nat.zero_le _, fun d nd => ?_⟩
    refine ⟨fun m σ H1 => ∃ (k : Nat) (acc : List Nat), m = k ∧ σ = [some (.int (k : Int)), some (.ref d)] ∧ Same H H1 ∧ H1 d = some (.lst (bv acc)) ∧ acc ++ numC k = numC n, ⟨n, n, [], rfl, rfl, same_new nd, upd_same, rfl⟩, ?_⟩
    rintro m σ H1 ⟨k, acc, rfl, rfl, sm, hd, ha⟩
    have hlen : acc.length + (numC m).length = (numC n).length := by rw [← ha, List.length_append]
    refine ⟨_, rfl, _, _, rfl, rfl, _, rfl, ite2 (fun e => ?_) (fun e => ?_)⟩
    · have hk : ¬ m < 128 := by have := of_decide_eq_true e; omega
      refine ⟨_, fun _ _ n => n, ?_⟩
      refine ⟨_, rfl, .inl ⟨rfl, _, SqL.of hd⟩, _, rfl, _, _, rfl, rfl, (show (0 : Int) < 128 by decide), _, _, rfl, rfl, d, _, _, rfl, rfl, hd, ?_, ?_⟩
      · rw [bv_len]
        exact sz_lt (by omega)
      · refine ⟨_, rfl, _, _, rfl, rfl, ⟨by decide, by decide⟩, ?_⟩
        refine ⟨m / 128, by omega, m / 128, acc ++ [m % 128 + 128], rfl, rfl, same_mut sm nd, ?_, ?_⟩
        · rw [upd_same, bv_app]
          rfl
        · rw [← ha, numC_big hk, List.append_assoc]
          rfl
    · have hk : m < 128 := by have := of_decide_eq_false (Bool.eq_false_iff.mpr e); omega
      refine ⟨_, rfl, _, rfl, sz1, fun z nz => ?_⟩
      have nzd : d ≠ z := ne_of_none hd nz
      refine ⟨d, z, _, _, rfl, rfl, (by rw [upd_ne nzd]; exact hd), upd_same, ?_, fun p np => ?_⟩
      · rw [bv_len]
        exact sz_of (by simp; omega)
      · have np1 := none_new np
        refine q _ p (Same.trans sm (Same.trans (same_new nz) (same_new np))) (sm.free np1) ?_
        rw [upd_same, ← ha, numC_small hk, bv_app]
        rfl
theorem ok_WriteInteger {f : Addr} {fd : FuncData} (F : FD K "write_integer" "write_integer" sWriteInteger f fd) (hm : mg "write_integer" = some (.ref f)) (T : Free mg) (cWriteNumber : C8.Cal P w K mg base 1 "write_number" spWriteNumber []) : C8.Cal P w K mg base 2 "write_integer" spWriteInteger [] := by
  refine cal_mk F hm (FunD.bindsN (ps := PWriteInteger) F fun _ _ _ _ _ _ us hl => match us, hl with | [_], _ => rfl) scWriteInteger (fun vs H Q E h => ?_) (fun cdv A outer s H vs Q E hr h => ?_)
  · obtain ⟨n, rfl, _⟩ := h
    rfl
  · obtain ⟨i, rfl, hl, q⟩ := h
    refine ⟨_, (pss_one (ps_ret (pe_op op_cat (pe_lst (pa_cons (pe_callTy call_int1 (by rfl) T.int (by decide +kernel) (pa_cons (pe_cmpR op_lt (pv 0) pe_int (nomark _)) pa_nil)) pa_nil)) (C8.pe_c cWriteNumber hr (by decide) (by rfl) (pa_cons (pe_callB call_abs (by rfl) T.abs (by decide +kernel) (pa_cons (pv 0) pa_nil)) pa_nil))))), ?_⟩
    refine ⟨_, rfl, _, _, rfl, rfl, .inr ⟨_, rfl, sz1, fun a na => ?_⟩⟩
    refine ⟨_, rfl, _, rfl, i.natAbs, ?_, hl, fun H1 b sm nb hb => ?_⟩
    · show [V.int (if i < 0 then -i else i)] ++ [] = [V.int (i.natAbs : Int)]
      rw [show (if i < 0 then -i else i) = (i.natAbs : Int) by split <;> omega]
      rfl
    · have hab : a ≠ b := fun z => ne_new nb z.symm
      refine ⟨a, b, _, _, rfl, rfl, sm _ _ upd_same, hb, ?_, fun p np => ?_⟩
      · rw [bv_len]
        exact sz_of (by simp; omega)
      · refine q _ p (Same.trans (same_new na) (Same.trans sm (same_new np))) (Same.free (Same.trans (same_new na) sm) np) ?_
        rw [upd_same]
        show some (HO.lst (V.int (if decide (i < 0) = true then 1 else 0) :: bv (numC i.natAbs))) = some (HO.lst (V.int ((signC i : Nat) : Int) :: bv (numC i.natAbs)))
        have e : (if decide (i < 0) = true then (1 : Int) else 0) = ((signC i : Nat) : Int) := by
          unfold signC
          by_cases z : i < 0
          · rw [if_pos (decide_eq_true z), if_pos z]; rfl
          · rw [if_neg (by simp [z]), if_neg z]; rfl
        rw [e]
theorem ok_WriteList {f : Addr} {fd : FuncData} (F : FD K "write_list" "write_list" sWriteList f fd) (hm : mg "write_list" = some (.ref f)) (T : Free mg) (cWriteNumber : C8.Cal P w K mg base 1 "write_number" spWriteNumber []) : C8.Cal P w K mg base 2 "write_list" (spWriteList K) [] := by
  refine cal_mk F hm (FunD.bindsN (ps := PWriteList) F fun _ _ _ _ _ _ us hl => match us, hl with | [_], _ => rfl) scWriteList (fun vs H Q E h => ?_) (fun cdv A outer s H vs Q E hr h => ?_)
  · obtain ⟨a, ys, items, rfl, _⟩ := h
    rfl
  · obtain ⟨a, ys, items, rfl, hS, hP, hn, hl, q⟩ := h
    have hy := paired_len hP
    refine ⟨_, (pss_cons (ps_set (i := 1) scWriteList.nd rfl (Or.inl rfl) (C8.pe_c cWriteNumber hr (by decide) (by rfl) (pa_cons (pe_callB call_len_seq (by rfl) T.len PySem.boot_len (pa_cons (pv 0) pa_nil)) pa_nil)))
    (pss_cons (ps_for PassesOwn.never rfl (pi_list (pv 0)) (pg_name (i := 2) scWriteList.nd rfl (Or.inl rfl))
    (pss_one (ps_expr (pe_bm PySem.F.plainAttrs_list PySem.F.slot_list_extend PySem.F.type_list_extend mt_extend (pv 1) (pa_cons (pv 2) pa_nil)))))
    (pss_one (ps_ret (pv 1))))), ?_⟩
    refine ⟨.ref a, rfl, a, _, rfl, .inl hS, items.length, by rw [hy]; rfl, hn, fun H1 d sm nd hd => ?_⟩
    refine ⟨.ref a, rfl, a, rfl, ⟨_, sm.seq hS⟩, for_list (K := K) (a := a) (xs := ys) (fun i σ H' => ∃ y, σ = [some (.ref a), some (.ref d), y] ∧ Same H H' ∧ H' d = some (.lst (bv (numC items.length ++ (items.take i).flatten))))
      ⟨none, rfl, sm, by rw [List.take_zero, List.flatten_nil, List.append_nil]; exact hd⟩ (fun i σ H' _ ⟨_, _, e, _⟩ => e.seq hS) ?_ ?_⟩
    · rintro i x σ H' hx ⟨y, rfl, e, hd'⟩
      obtain ⟨bs, hb, b, rfl, hB⟩ := paired_getL hP hx
      have hbd : b ≠ d := ne_of_none hB nd
      refine ⟨_, rfl, .inl ⟨rfl, _, SqL.of hd'⟩, _, rfl, d, b, _, _, rfl, rfl, hd', e _ _ hB, ?_, ?_⟩
      · rw [← List.length_append, ← bv_app, bv_len]
        refine sz_of (Nat.le_trans ?_ hl)
        unfold listC
        have h1 : (items.take i).flatten ++ bs = (items.take (i + 1)).flatten := by rw [List.take_add_one, hb, List.flatten_append]; simp
        rw [List.append_assoc, h1, List.length_append, List.length_append]
        have h2 : items.flatten = (items.take (i + 1)).flatten ++ (items.drop (i + 1)).flatten := by rw [← List.flatten_append, List.take_append_drop]
        rw [h2, List.length_append]
        omega
      · refine ⟨_, rfl, same_mut e nd, ?_⟩
        rw [upd_same, ← bv_app, List.append_assoc]
        have h1 : (items.take i).flatten ++ bs = (items.take (i + 1)).flatten := by rw [List.take_add_one, hb, List.flatten_append]; simp
        rw [h1]
    · rintro σ H' ⟨y, rfl, e, hd'⟩
      rw [hy, List.take_length] at hd'
      exact ⟨_, rfl, q H' d e nd hd'⟩
theorem ok_WriteString {f : Addr} {fd : FuncData} (F : FD K "write_string" "write_string" sWriteString f fd) (hm : mg "write_string" = some (.ref f)) (T : Free mg) (cWriteNumber : C8.Cal P w K mg base 1 "write_number" spWriteNumber []) (cWriteList : C8.Cal P w K mg base 2 "write_list" (spWriteList K) []) : C8.Cal P w K mg base 3 "write_string" spWriteString [] := by
  refine cal_mk F hm (FunD.bindsN (ps := PWriteString) F fun _ _ _ _ _ _ us hl => match us, hl with | [_], _ => rfl) scWriteString (fun vs H Q E h => ?_) (fun cdv A outer s H vs Q E hr h => ?_)
  · obtain ⟨x, rfl, _⟩ := h
    rfl
  · obtain ⟨x, rfl, hl, hc, q⟩ := h
    refine ⟨_, (pss_one (ps_ret (C8.pe_c cWriteList hr (by decide) (by rfl) (pa_cons (pe_lc (own := [("character", 1)]) (g := gName 1) (tt := tYes) rfl scWriteString.nd (pi_str (pv 0)) (blkOk_by (own := [("character", 1)]) (N := NWriteString) (sc := defScope sWriteString) (by decide +kernel)) (fun _ _ _ _ _ => pg_name (i := 1) scWriteString.nd rfl (Or.inl rfl)) (fun _ _ _ _ _ => pts_nil) (fun _ _ _ _ _ => (C8.pe_c cWriteNumber hr (by decide) (by rfl) (pa_cons (pe_callB call_ord (by rfl) T.ord (by decide +kernel) (pa_cons (pv 1) pa_nil)) pa_nil)))) pa_nil)))), ?_⟩
    refine ⟨_, rfl, x, rfl, fun D nD => lc_str (fun i H' => Same H H' ∧ ∃ acc, H' D = some (.lst acc) ∧ Paired (BytesA (del H' D)) acc ((x.cps.toList.take i).map numC)) ⟨same_new nD, [], upd_same, .nil⟩ ?_ ?_⟩
    · rintro i c H' hi ⟨sm, acc, hD, hP⟩
      have hci : x.cps.toList[i]? = some c := by rw [Array.getElem?_toList]; exact hi
      have hok := hc c (List.mem_of_getElem? hci)
      have hlen : acc.length ≤ 30 := by
        rw [paired_len hP, List.length_map, List.length_take, Array.length_toList]
        omega
      refine ⟨rfl, ?_⟩
      refine ⟨_, rfl, _, rfl, rfl, c, rfl, by rw [signLe hok]; exact (by decide : 1 ≤ 60), fun H1 p s1 np hp => ?_⟩
      have npD : p ≠ D := fun z => by rw [z, hD] at np; cases np
      have hD1 : H1 D = some (.lst acc) := s1 _ _ hD
      refine ⟨acc, hD1, sz_lt (by omega), same_mut (Same.trans sm s1) nD, _, upd_same, ?_⟩
      rw [del_upd, List.take_add_one, hci, List.map_append]
      refine paired_app (Paired.mapP hP fun _ _ z => z.same (Same.del s1 D)) ?_
      exact .cons ⟨p, rfl, by rw [del_ne npD]; exact hp⟩ .nil
    · rintro H' ⟨sm, acc, hD, hP⟩
      have e : x.cps.toList.take x.cps.size = x.cps.toList := List.take_of_length_le (by rw [Array.length_toList]; exact Nat.le_refl _)
      rw [e] at hP
      refine ⟨D, acc, _, rfl, SqL.of hD, Paired.mapP hP fun _ _ z => z.same (del_le _ _), ?_, ?_, fun H1 p s1 np hp => ?_⟩
      · rw [List.length_map, numC_small (by have : x.cps.toList.length = x.cps.size := Array.length_toList; omega)]
        exact (by decide : 1 ≤ 60)
      · show (strC x).length ≤ 100000
        rw [strC_eq hc hl, List.length_cons, Array.length_toList]
        omega
      · exact q H1 p (Same.trans sm s1) (sm.free np) hp
theorem ok_WriteValue {f : Addr} {fd : FuncData} (F : FD K "write_value" "write_value" sWriteValue f fd) (hm : mg "write_value" = some (.ref f)) (T : Free mg) (cWriteInteger : C8.Cal P w K mg base 2 "write_integer" spWriteInteger []) (cWriteString : C8.Cal P w K mg base 3 "write_string" spWriteString []) : C8.Cal P w K mg base 4 "write_value" spWriteValue [] := by
  refine cal_mk F hm (FunD.bindsN (ps := PWriteValue) F fun _ _ _ _ _ _ us hl => match us, hl with | [_], _ => rfl) scWriteValue (fun vs H Q E h => ?_) (fun cdv A outer s H vs Q E hr h => ?_)
  · obtain ⟨x, rfl, _⟩ := h
    rfl
  · obtain ⟨c, rfl, hc, q⟩ := h
    refine ⟨_, (pss_cons (ps_if (pt_val (pe_callB call_isi (by rfl) T.isinstance (by decide +kernel) (pa_cons (pv 0) (pa_cons (pe_bltn (v := .ty "int") (by rfl) T.int (by decide +kernel) rfl) pa_nil))))
    (pss_one (ps_ret (pe_op op_cat (pe_lst (pa_cons pe_int pa_nil)) (C8.pe_c cWriteInteger hr (by decide) (by rfl) (pa_cons (pv 0) pa_nil)))))
    pss_nil)
    (pss_one (ps_ret (pe_op op_cat (pe_lst (pa_cons pe_int pa_nil)) (C8.pe_c cWriteString hr (by decide) (by rfl) (pa_cons (pv 0) pa_nil)))))), ?_⟩
    cases c with
    | n i =>
      refine ⟨_, rfl, _, _, _, _, true, rfl, .ty _, .base (.int i), kit_ty (by decide +kernel), _, rfl, ?_⟩
      refine ⟨sz1, fun a na => ?_⟩
      refine ⟨_, rfl, i, rfl, Nat.le_trans (numLe hc) (by decide), fun H1 b sm nb hb => ?_⟩
      have hab : a ≠ b := fun z => ne_new nb z.symm
      refine ⟨a, b, _, _, rfl, rfl, sm _ _ upd_same, hb, ?_, fun p np => ?_⟩
      · rw [bv_len]
        have := cellC_len hc
        have e : (cellC (.n i)).length = (intC i).length + 1 := rfl
        exact sz_of (by rw [List.length_singleton]; omega)
      · exact q _ p (Same.trans (same_new na) (Same.trans sm (same_new np))) (Same.free (Same.trans (same_new na) sm) np) upd_same
    | t x =>
      refine ⟨_, rfl, _, _, _, _, false, rfl, .ty _, .base (.str x), kit_ty (by decide +kernel), _, rfl, ?_⟩
      refine ⟨sz1, fun a na => ?_⟩
      refine ⟨_, rfl, x, rfl, hc.1, hc.2, fun H1 b sm nb hb => ?_⟩
      have hab : a ≠ b := fun z => ne_new nb z.symm
      refine ⟨a, b, _, _, rfl, rfl, sm _ _ upd_same, hb, ?_, fun p np => ?_⟩
      · rw [bv_len]
        have := cellC_len hc
        have e : (cellC (.t x)).length = (strC x).length + 1 := rfl
        exact sz_of (by rw [List.length_singleton]; omega)
      · exact q _ p (Same.trans (same_new na) (Same.trans sm (same_new np))) (Same.free (Same.trans (same_new na) sm) np) upd_same
theorem ok_WriteRow {f : Addr} {fd : FuncData} (F : FD K "write_row" "write_row" sWriteRow f fd) (hm : mg "write_row" = some (.ref f)) (T : Free mg) (cWriteList : C8.Cal P w K mg base 2 "write_list" (spWriteList K) []) (cWriteValue : C8.Cal P w K mg base 4 "write_value" spWriteValue []) : C8.Cal P w K mg base 5 "write_row" (spWriteRow K) [] := by
  refine cal_mk F hm (FunD.bindsN (ps := PWriteRow) F fun _ _ _ _ _ _ us hl => match us, hl with | [_], _ => rfl) scWriteRow (fun vs H Q E h => ?_) (fun cdv A outer s H vs Q E hr h => ?_)
  · obtain ⟨a, r, rfl, _⟩ := h
    rfl
  · obtain ⟨a, r, rfl, hS, hok, q⟩ := h
    refine ⟨_, (pss_one (ps_ret (C8.pe_c cWriteList hr (by decide) (by rfl) (pa_cons (pe_lc (own := [("value", 1)]) (g := gName 1) (tt := tYes) rfl scWriteRow.nd (pi_tup (pv 0)) (blkOk_by (own := [("value", 1)]) (N := NWriteRow) (sc := defScope sWriteRow) (by decide +kernel)) (fun _ _ _ _ _ => pg_name (i := 1) scWriteRow.nd rfl (Or.inl rfl)) (fun _ _ _ _ _ => pts_nil) (fun _ _ _ _ _ => (C8.pe_c cWriteValue hr (by decide) (by rfl) (pa_cons (pv 1) pa_nil)))) pa_nil)))), ?_⟩
    refine ⟨_, rfl, a, rfl, ⟨_, hS⟩, fun D nD => lc_tup (K := K) (a := a) (xs := rowV r) (fun i H' => Same H H' ∧ ∃ acc, H' D = some (.lst acc) ∧ Paired (BytesA (del H' D)) acc ((r.take i).map cellC)) ⟨same_new nD, [], upd_same, .nil⟩ (fun i H' _ z => Same.tup z.1 hS) ?_ ?_⟩
    · rintro i v H' hi ⟨sm, acc, hD, hP⟩
      obtain ⟨c, hci, rfl⟩ : ∃ c, r[i]? = some c ∧ v = c.v := by
        unfold rowV at hi
        rw [List.getElem?_map] at hi
        cases e : r[i]? with
        | none => rw [e] at hi; cases hi
        | some c => rw [e] at hi; exact ⟨c, rfl, (Option.some.inj hi).symm⟩
      have hlen : acc.length ≤ 4 := by
        rw [paired_len hP, List.length_map, List.length_take]
        have := hok.1
        omega
      refine ⟨rfl, ?_⟩
      refine ⟨_, rfl, c, rfl, hok.2 c (List.mem_of_getElem? hci), fun H1 p s1 np hp => ?_⟩
      have npD : p ≠ D := fun z => by rw [z, hD] at np; cases np
      refine ⟨acc, s1 _ _ hD, sz_lt (by omega), same_mut (Same.trans sm s1) nD, _, upd_same, ?_⟩
      rw [del_upd, List.take_add_one, hci, List.map_append]
      refine paired_app (Paired.mapP hP fun _ _ z => z.same (Same.del s1 D)) ?_
      exact .cons ⟨p, rfl, by rw [del_ne npD]; exact hp⟩ .nil
    · rintro H' ⟨sm, acc, hD, hP⟩
      have e : r.take (rowV r).length = r := List.take_of_length_le (by unfold rowV; rw [List.length_map]; exact Nat.le_refl _)
      rw [e] at hP
      refine ⟨D, acc, _, rfl, SqL.of hD, Paired.mapP hP fun _ _ z => z.same (del_le _ _), ?_, ?_, fun H1 p s1 np hp => ?_⟩
      · have := hok.1
        rw [List.length_map, numC_small (by omega)]
        exact (by decide : 1 ≤ 60)
      · exact Nat.le_trans (rowC_len hok) (by decide)
      · exact q H1 p (Same.trans sm s1) (sm.free np) hp
theorem ok_BucketOfValues {f : Addr} {fd : FuncData} (F : FD K "bucket_of_values" "bucket_of_values" sBucketOfValues f fd) (hm : mg "bucket_of_values" = some (.ref f)) (T : Free mg) (cWriteRow : C8.Cal P w K mg base 5 "write_row" (spWriteRow K) []) : C8.Cal P w K mg base 6 "bucket_of_values" (spBucketOfValues K) [] := by
  refine cal_mk F hm (FunD.bindsN (ps := PBucketOfValues) F fun _ _ _ _ _ _ us hl => match us, hl with | [_, _], _ => rfl) scBucketOfValues (fun vs H Q E h => ?_) (fun cdv A outer s H vs Q E hr h => ?_)
  · obtain ⟨a, r, n, rfl, _⟩ := h
    rfl
  · obtain ⟨a, r, n, rfl, hS, hok, hn, q⟩ := h
    refine ⟨_, (pss_cons (ps_set (i := 2) scBucketOfValues.nd rfl (Or.inl rfl) pe_int)
    (pss_cons (ps_for PassesOwn.never rfl (pi_list (C8.pe_c cWriteRow hr (by decide) (by rfl) (pa_cons (pv 0) pa_nil))) (pg_name (i := 3) scBucketOfValues.nd rfl (Or.inl rfl))
    (pss_one (ps_set (i := 2) scBucketOfValues.nd rfl (Or.inl rfl) (pe_op op_mod (pe_op op_add (pe_op op_add (pe_op op_mul pe_int (pv 2)) (pv 3)) pe_int) (pv 1)))))
    (pss_one (ps_ret (pv 2))))), ?_⟩
    refine ⟨_, rfl, a, r, rfl, hS, hok, fun H1 d sm nd hd => ?_⟩
    refine ⟨d, rfl, ⟨_, SqL.of hd⟩, for_list (K := K) (a := d) (xs := bv (rowC r)) (fun i σ H' => ∃ y, σ = [some (.ref a), some (.int (n : Int)), some (.int ((((rowC r).take i).foldl (bstep n) 0 : Nat) : Int)), y] ∧ H' = H1)
      ⟨none, rfl, rfl⟩ (fun i σ H' _ ⟨_, _, e⟩ => by rw [e]; exact SqL.of hd) ?_ ?_⟩
    · rintro i x σ H' hx ⟨y, rfl, rfl⟩
      obtain ⟨b, hb, rfl⟩ : ∃ b : Nat, (rowC r)[i]? = some b ∧ x = .int (b : Int) := by
        unfold bv at hx
        rw [List.getElem?_map] at hx
        cases e : (rowC r)[i]? with
        | none => rw [e] at hx; cases hx
        | some c => rw [e] at hx; exact ⟨c, rfl, (Option.some.inj hx).symm⟩
      refine ⟨_, rfl, _, _, rfl, rfl, .inl ⟨by decide, by decide⟩, _, rfl, _, _, rfl, rfl, _, _, rfl, rfl, _, rfl, _, _, rfl, rfl, (by show (0 : Int) < (n : Int); omega), ?_⟩
      refine ⟨some (.int (b : Int)), ?_, rfl⟩
      rw [List.take_add_one, hb]
      show _ = [some (V.ref a), some (V.int (n : Int)), some (V.int ((((rowC r).take i ++ [b]).foldl (bstep n) 0 : Nat) : Int)), some (V.int (b : Int))]
      rw [List.foldl_append]
      rfl
    · rintro σ H' ⟨y, rfl, rfl⟩
      rw [bv_len, List.take_length]
      exact ⟨_, rfl, q _ sm⟩
end
end K9

set_option Elab.async false
set_option linter.all false
set_option maxRecDepth 100000
set_option maxHeartbeats 4000000
/-! _sector, pack, _filled. -/
namespace K9
open PySem PySem.Spec PyProof.Rows L2
/-- a sector of rows -/
def secB (c : Nat) (data : List Nat) : List Nat := c :: (data ++ List.replicate (63 - data.length) 0)
def chunkC (c : List Row) : List Nat := c.flatMap rowC
def secOf (c : List Row) : List Nat := secB c.length (chunkC c)
def ChunkOk (c : List Row) : Prop := c ≠ [] ∧ (chunkC c).length ≤ 63
def emptySec : List Nat := List.replicate 64 0
/-- all sectors of a room -/
def secsOf (chunks : List (List Row)) (room : Nat) : List (List Nat) := chunks.map secOf ++ List.replicate (room - chunks.length) emptySec
theorem secB_len {c : Nat} {data : List Nat} (h : data.length ≤ 63) : (secB c data).length = 64 := by
  unfold secB
  rw [List.length_cons, List.length_append, List.length_replicate]
  omega
theorem chunkC_app (a : List Row) (r : Row) : chunkC (a ++ [r]) = chunkC a ++ rowC r := by
  unfold chunkC
  rw [List.flatMap_append]
  simp
/-- the number of rows is at most that of their bytes -/
theorem chunk_len : ∀ c : List Row, c.length ≤ (chunkC c).length
  | [] => Nat.le_refl _
  | r :: c => by
    have h1 := chunk_len c
    have h2 := rowC_ne r
    have e : chunkC (r :: c) = rowC r ++ chunkC c := List.flatMap_cons
    rw [e, List.length_append, List.length_cons]
    omega
def spSector : Sp := fun vs H Q _ => ∃ (c : Nat) (d : Addr) (data : List Nat), vs = [.int (c : Int), .ref d] ∧ H d = some (.lst (bv data)) ∧ data.length ≤ 63 ∧ Gives H (secB c data) Q
def spPack (K : PySem.W.Frag) : Sp := fun vs H Q _ => ∃ (a : Addr) (rs : List Row), vs = [.ref a] ∧ RowsA K H a rs ∧ rs.length ≤ 100 ∧ (∀ r ∈ rs, RowOk r) ∧ (∀ H', Same H H' → Q .non H') ∧
  ∀ (H' : Hp) (p : Addr) (chunks : List (List Row)) (ss : List V), Same H H' → H p = none → H' p = some (.lst ss) → Paired (BytesA H') ss (chunks.map secOf) → rs = chunks.flatten → (∀ c ∈ chunks, ChunkOk c) → Q (.ref p) H'
def spFilled (K : PySem.W.Frag) : Sp := fun vs H Q _ => ∃ (a : Addr) (rs : List Row) (room : Nat), vs = [.ref a, .int (room : Int)] ∧ RowsA K H a rs ∧ rs.length ≤ 100 ∧ (∀ r ∈ rs, RowOk r) ∧ room ≤ 100 ∧ (∀ H', Same H H' → Q .non H') ∧
  ∀ (H' : Hp) (p : Addr) (chunks : List (List Row)) (ss : List V), Same H H' → H p = none → H' p = some (.lst ss) → Paired (BytesA H') ss (secsOf chunks room) → rs = chunks.flatten → (∀ c ∈ chunks, ChunkOk c) → chunks.length ≤ room → Q (.ref p) H'
theorem repl_bv (n : Nat) : (List.replicate n [V.int 0]).flatten = bv (List.replicate n 0) := by
  unfold bv
  induction n with
  | zero => rfl
  | succ n ih =>
    rw [List.replicate_succ, List.flatten_cons, ih, List.replicate_succ, List.map_cons]
    rfl
theorem empty_bv : List.replicate 64 (V.int 0) = bv emptySec := by
  unfold bv emptySec
  rw [List.map_replicate]
  rfl
section
variable {P : Program} {w : World} {K : PySem.W.Frag} {mg : Str → Option Value} {base : Heap}
theorem ok_Sector {f : Addr} {fd : FuncData} (F : FD K "_sector" "_sector" sSector f fd) (hm : mg "_sector" = some (.ref f)) (T : Glob K mg) : C8.Cal P w K mg base 1 "_sector" spSector [] := by
  refine cal_mk F hm (FunD.bindsN (ps := PSector) F fun _ _ _ _ _ _ us hl => match us, hl with | [_, _], _ => rfl) scSector (fun vs H Q E h => ?_) (fun cdv A outer s H vs Q E hr h => ?_)
  · obtain ⟨c, d, data, rfl, _⟩ := h
    rfl
  · obtain ⟨c, d, data, rfl, hd, hl, q⟩ := h
    refine ⟨_, (pss_one (ps_ret (pe_op op_cat (pe_op op_cat (pe_lst (pa_cons (pv 0) pa_nil)) (pv 1)) (pe_op op_rep (pe_lst (pa_cons pe_int pa_nil)) (pe_op op_sub (pe_op op_sub (C8.pe_gc (by rfl) T.cSECTOR) pe_int) (pe_callB call_len_seq (by rfl) T.len PySem.boot_len (pa_cons (pv 1) pa_nil))))))), ?_⟩
    refine ⟨_, rfl, sz1, fun a na => ⟨_, rfl, ?_⟩⟩
    have hda : d ≠ a := ne_of_none hd na
    have hd1 : (upd H a (.lst [.int (c : Int)])) d = some (.lst (bv data)) := by rw [upd_ne hda]; exact hd
    refine ⟨a, d, _, _, rfl, rfl, upd_same, hd1, sz_of (by rw [bv_len, List.length_singleton]; omega), fun b nb => ?_⟩
    have s2 := same_new (o := .lst ([.int (c : Int)] ++ bv data)) nb
    refine ⟨sz1, fun z nz => ?_⟩
    have hdz := s2 _ _ hd1
    have hdz2 := same_new (o := .lst [.int 0]) nz _ _ hdz
    refine ⟨_, _, rfl, rfl, _, rfl, d, _, rfl, .inl (SqL.of hdz2), _, _, rfl, rfl, z, _, _, rfl, rfl, upd_same, ?_, ?_, ?_, fun y ny => ?_⟩
    · rw [bv_len]; omega
    · rw [bv_len]; omega
    · rw [bv_len]
      exact sz_of (by rw [List.length_singleton]; omega)
    · have hby : b ≠ y := ne_of_none (same_new nz _ _ (upd_same (H := upd H a (.lst [.int (c : Int)])))) ny
      refine ⟨b, y, [.int (c : Int)] ++ bv data, _, rfl, rfl, ?_, upd_same, ?_, fun p np => ?_⟩
      · rw [upd_ne hby]
        exact same_new nz _ _ upd_same
      · rw [repl_bv, bv_len, bv_len, List.length_replicate, List.length_append, List.length_singleton, bv_len]
        exact sz_of (by omega)
      · refine q _ p (Same.trans (Same.trans (same_new na) (Same.trans s2 (Same.trans (same_new nz) (same_new ny)))) (same_new np)) (Same.free (Same.trans (same_new na) (Same.trans s2 (Same.trans (same_new nz) (same_new ny)))) np) ?_
        rw [upd_same, repl_bv, bv_len]
        have e : ((64 : Int) - 1 - (data.length : Int)).toNat = 63 - data.length := by omega
        rw [e, List.append_assoc, ← bv_app]
        rfl
theorem ok_Pack {f : Addr} {fd : FuncData} (F : FD K "pack" "pack" sPack f fd) (hm : mg "pack" = some (.ref f)) (T : Glob K mg) (cSector : C8.Cal P w K mg base 1 "_sector" spSector []) (cWriteRow : C8.Cal P w K mg base 5 "write_row" (spWriteRow K) []) : C8.Cal P w K mg base 6 "pack" (spPack K) [] := by
  refine cal_mk F hm (FunD.bindsN (ps := PPack) F fun _ _ _ _ _ _ us hl => match us, hl with | [_], _ => rfl) scPack (fun vs H Q E h => ?_) (fun cdv A outer s H vs Q E hr h => ?_)
  · obtain ⟨a, rs, rfl, _⟩ := h
    rfl
  · obtain ⟨a, rs, rfl, ⟨vs, hS, hP⟩, hlen, hok, qn, q⟩ := h
    have hvl := paired_len hP
    refine ⟨_, (pss_cons (ps_set (i := 1) scPack.nd rfl (Or.inl rfl) (pe_lst pa_nil))
    (pss_cons (ps_set (i := 2) scPack.nd rfl (Or.inl rfl) pe_int)
    (pss_cons (ps_set (i := 3) scPack.nd rfl (Or.inl rfl) (pe_lst pa_nil))
    (pss_cons (ps_for PassesOwn.never rfl (pi_list (pv 0)) (pg_name (i := 4) scPack.nd rfl (Or.inl rfl))
    (pss_cons (ps_set (i := 5) scPack.nd rfl (Or.inl rfl) (C8.pe_c cWriteRow hr (by decide) (by rfl) (pa_cons (pv 4) pa_nil)))
      (pss_cons (ps_if (pt_cmpR op_gt (pe_callB call_len_seq (by rfl) T.len PySem.boot_len (pa_cons (pv 5) pa_nil)) (pe_op op_sub (C8.pe_gc (by rfl) T.cSECTOR) pe_int) (nomark _))
      (pss_one (ps_ret pe_non))
      pss_nil)
      (C8.pss_cut (ps_if (pt_cmpR op_gt (pe_op op_add (pe_callB call_len_seq (by rfl) T.len PySem.boot_len (pa_cons (pv 3) pa_nil)) (pe_callB call_len_seq (by rfl) T.len PySem.boot_len (pa_cons (pv 5) pa_nil))) (pe_op op_sub (C8.pe_gc (by rfl) T.cSECTOR) pe_int) (nomark _))
      (pss_cons (ps_expr (pe_bm PySem.F.plainAttrs_list PySem.F.slot_list_append PySem.F.type_list_append mt_append (pv 1) (pa_cons (C8.pe_c cSector hr (by decide) (by rfl) (pa_cons (pv 2) (pa_cons (pv 3) pa_nil))) pa_nil)))
        (pss_cons (ps_set (i := 2) scPack.nd rfl (Or.inl rfl) pe_int)
        (pss_one (ps_set (i := 3) scPack.nd rfl (Or.inl rfl) (pe_lst pa_nil)))))
      pss_nil)
      (pss_cons (ps_aug (i := 2) scPack.nd rfl (Or.inl rfl) pe_int ip_add)
      (pss_one (ps_set (i := 3) scPack.nd rfl (Or.inl rfl) (pe_op op_cat (pv 3) (pv 5)))))))))
    (C8.pss_cut (ps_if (pt_cmpR op_gt (pv 2) pe_int (nomark _))
    (pss_one (ps_expr (pe_bm PySem.F.plainAttrs_list PySem.F.slot_list_append PySem.F.type_list_append mt_append (pv 1) (pa_cons (C8.pe_c cSector hr (by decide) (by rfl) (pa_cons (pv 2) (pa_cons (pv 3) pa_nil))) pa_nil))))
    pss_nil)
    (pss_one (ps_ret (pv 1)))))))), ?_⟩
    refine ⟨Nat.zero_le _, fun S nS => ?_⟩
    refine ⟨Nat.zero_le _, fun D nD => ?_⟩
    have hSD : S ≠ D := fun z => ne_new nD z.symm
    have s0 : Same H (upd (upd H S (.lst [])) D (.lst [])) := Same.trans (same_new nS) (same_new nD)
    refine ⟨.ref a, rfl, a, rfl, ⟨_, s0.seq hS⟩, for_list (K := K) (a := a) (xs := vs) (fun i σ H' => ∃ (cur : List Row) (chunks : List (List Row)) (ss : List V) (D : Addr) (y z : Option V), σ = [some (.ref a), some (.ref S), some (.int (cur.length : Int)), some (.ref D), y, z] ∧
        Same H H' ∧ H' S = some (.lst ss) ∧ Paired (BytesA (del H' S)) ss (chunks.map secOf) ∧ H' D = some (.lst (bv (chunkC cur))) ∧ D ≠ S ∧ rs.take i = chunks.flatten ++ cur ∧ (∀ c ∈ chunks, ChunkOk c) ∧ (chunkC cur).length ≤ 63 ∧ chunks.length ≤ i)
      ⟨[], [], [], D, none, none, rfl, s0, by rw [upd_ne hSD, upd_same], .nil, upd_same, hSD.symm, rfl, (fun c h => by cases h), Nat.zero_le _, Nat.le_refl _⟩ (fun i σ H' _ ⟨_, _, _, _, _, _, _, e, _⟩ => e.seq hS) ?_ ?_⟩
    · rintro i x σ H' hx ⟨cur, chunks, ss, D, y, z, rfl, e, hs, hp, hd, hne, ht, hc, hcl, hil⟩
      obtain ⟨r, hri, b, rfl, hb⟩ := paired_getL hP hx
      have hi : i < rs.length := (List.getElem?_eq_some_iff.mp hri).1
      have hrok := hok r (List.mem_of_getElem? hri)
      have htake : rs.take (i + 1) = rs.take i ++ [r] := by rw [List.take_add_one, hri]; rfl
      refine ⟨_, rfl, b, r, rfl, Same.tup e hb, hrok, fun H1 cd s1 ncd hcd => ?_⟩
      have e1 := Same.trans e s1
      have hs1 := s1 _ _ hs
      have hd1 := s1 _ _ hd
      have hcS : cd ≠ S := fun z => by rw [z, hs] at ncd; cases ncd
      have hp1 : Paired (BytesA (del H1 S)) ss (chunks.map secOf) := Paired.mapP hp fun _ _ w => w.same (Same.del s1 S)
      refine ⟨_, rfl, cd, _, rfl, .inl (SqL.of hcd), _, _, rfl, rfl, _, _, rfl, rfl, _, rfl, ite2 (fun t => ?_) (fun t => ?_)⟩
      · exact qn H1 e1
      have hrl : (rowC r).length ≤ 63 := by
        have t1 : ¬ (64 - 1 : Int) < ((bv (rowC r)).length : Int) := of_decide_eq_false (Bool.eq_false_iff.mpr t)
        rw [bv_len] at t1
        omega
      refine ⟨fun σ' H2 => ∃ (cur : List Row) (chunks : List (List Row)) (ss : List V) (D : Addr), σ' = [some (.ref a), some (.ref S), some (.int (cur.length : Int)), some (.ref D), some (.ref b), some (.ref cd)] ∧
        Same H H2 ∧ H2 S = some (.lst ss) ∧ Paired (BytesA (del H2 S)) ss (chunks.map secOf) ∧ H2 D = some (.lst (bv (chunkC cur))) ∧ D ≠ S ∧ rs.take i = chunks.flatten ++ cur ∧ (∀ c ∈ chunks, ChunkOk c) ∧ H2 cd = some (.lst (bv (rowC r))) ∧ (chunkC cur).length + (rowC r).length ≤ 63 ∧ chunks.length ≤ i + 1, ?_, ?_⟩
      · refine ⟨_, rfl, D, _, rfl, .inl (SqL.of hd1), _, rfl, cd, _, rfl, .inl (SqL.of hcd), _, _, rfl, rfl, _, _, rfl, rfl, _, _, rfl, rfl, _, rfl, ite2 (fun t => ?_) (fun t => ?_)⟩
        · have hcne : cur ≠ [] := fun z => by
            rw [z] at t
            have t1 : (64 - 1 : Int) < (((bv (chunkC [])).length : Int) + ((bv (rowC r)).length : Int)) := of_decide_eq_true t
            rw [bv_len, bv_len] at t1
            have : (chunkC []).length = 0 := rfl
            omega
          refine ⟨_, rfl, .inl ⟨rfl, _, SqL.of hs1⟩, _, rfl, _, rfl, cur.length, D, chunkC cur, rfl, hd1, hcl, fun H2 sc s2 nsc hsc => ?_⟩
          have hs2 := s2 _ _ hs1
          have hscS : sc ≠ S := fun z => by rw [z, hs1] at nsc; cases nsc
          have hcdS : cd ≠ S := hcS
          refine ⟨S, ss, _, rfl, rfl, hs2, ?_, ?_⟩
          · rw [paired_len hp1, List.length_map]
            exact sz_lt (by omega)
          · refine ⟨Nat.zero_le _, fun D2 nD2 => ?_⟩
            have hSD2 : S ≠ D2 := ne_of_none upd_same nD2
            have hcdD2 : cd ≠ D2 := ne_of_none (H := upd H2 S (.lst (ss ++ [.ref sc]))) (by rw [upd_ne hcdS]; exact s2 _ _ hcd) nD2
            refine ⟨[], chunks ++ [cur], ss ++ [.ref sc], D2, rfl, Same.trans (same_mut (Same.trans e1 s2) nS) (same_new nD2), by rw [upd_ne hSD2, upd_same], ?_, upd_same, hSD2.symm, ?_, ?_, ?_, ?_, ?_⟩
            · rw [List.map_append]
              have sd : Same (del H1 S) (del (upd (upd H2 S (.lst (ss ++ [.ref sc]))) D2 (.lst [])) S) := by
                have w1 : Same (del H1 S) (del H2 S) := Same.del s2 S
                have w2 : Same (del H2 S) (del (upd (upd H2 S (.lst (ss ++ [.ref sc]))) D2 (.lst [])) S) := by
                  have w3 := Same.del (same_new (o := .lst []) nD2) S
                  rwa [del_upd] at w3
                exact Same.trans w1 w2
              refine paired_app (Paired.mapP hp1 fun _ _ w => w.same sd) (.cons ⟨sc, rfl, ?_⟩ .nil)
              have hsD2 : sc ≠ D2 := ne_of_none (H := upd H2 S (.lst (ss ++ [.ref sc]))) (by rw [upd_ne hscS]; exact hsc) nD2
              rw [del_ne hscS, upd_ne hsD2, upd_ne hscS]
              exact hsc
            · rw [ht, List.flatten_append]
              simp
            · intro c hm'
              rcases List.mem_append.mp hm' with h1 | h1
              · exact hc c h1
              · rw [List.mem_singleton.mp h1]
                exact ⟨hcne, hcl⟩
            · rw [upd_ne hcdD2, upd_ne hcdS]
              exact s2 _ _ hcd
            · show 0 + (rowC r).length ≤ 63
              omega
            · rw [List.length_append, List.length_singleton]
              omega
        · refine ⟨cur, chunks, ss, D, rfl, e1, hs1, hp1, hd1, hne, ht, hc, hcd, ?_, by omega⟩
          have t1 : ¬ (64 - 1 : Int) < (((bv (chunkC cur)).length : Int) + ((bv (rowC r)).length : Int)) := of_decide_eq_false (Bool.eq_false_iff.mpr t)
          rw [bv_len, bv_len] at t1
          omega
      · rintro σ' H2 ⟨cur, chunks, ss, D, rfl, e2, hs2, hp2, hd2, hne2, ht2, hc2, hcd2, hl2, hil2⟩
        refine ⟨_, rfl, _, _, rfl, rfl, _, rfl, _, rfl, D, cd, _, _, rfl, rfl, hd2, hcd2, ?_, fun D2 nD2 => ?_⟩
        · rw [bv_len, bv_len]
          exact sz_of (by omega)
        · have hSD2 : S ≠ D2 := ne_of_none hs2 nD2
          refine ⟨cur ++ [r], chunks, ss, D2, _, _, by rw [List.length_append, List.length_singleton]; rfl, Same.trans e2 (same_new nD2), by rw [upd_ne hSD2]; exact hs2, Paired.mapP hp2 fun _ _ w => w.same (Same.del (same_new nD2) S), ?_, hSD2.symm, ?_, hc2, ?_, hil2⟩
          · rw [upd_same, chunkC_app, bv_app]
          · rw [htake, ht2, List.append_assoc]
          · rw [chunkC_app, List.length_append]
            exact hl2
    · rintro σ H' ⟨cur, chunks, ss, D, y, z, rfl, e, hs, hp, hd, hne, ht, hc, hcl, hil⟩
      rw [hvl, List.take_length] at ht
      refine ⟨fun σ' H2 => σ' = [some (.ref a), some (.ref S), some (.int (cur.length : Int)), some (.ref D), y, z] ∧ ∃ (chunks : List (List Row)) (ss : List V), Same H H2 ∧ H2 S = some (.lst ss) ∧ Paired (BytesA (del H2 S)) ss (chunks.map secOf) ∧ rs = chunks.flatten ∧ (∀ c ∈ chunks, ChunkOk c), ?_, ?_⟩
      · refine ⟨_, rfl, _, _, rfl, rfl, _, rfl, ite2 (fun t => ?_) (fun t => ?_)⟩
        · have hcne : cur ≠ [] := fun z => by
            rw [z] at t
            have t1 : (0 : Int) < ((([] : List Row).length : Nat) : Int) := of_decide_eq_true t
            simp at t1
          refine ⟨_, rfl, .inl ⟨rfl, _, SqL.of hs⟩, _, rfl, _, rfl, cur.length, D, chunkC cur, rfl, hd, hcl, fun H2 sc s2 nsc hsc => ?_⟩
          have hs2 := s2 _ _ hs
          have hscS : sc ≠ S := fun z => by rw [z, hs] at nsc; cases nsc
          refine ⟨S, ss, _, rfl, rfl, hs2, ?_, rfl, chunks ++ [cur], ss ++ [.ref sc], same_mut (Same.trans e s2) nS, upd_same, ?_, ?_, ?_⟩
          · rw [paired_len hp, List.length_map]
            exact sz_lt (by omega)
          · rw [List.map_append, del_upd]
            refine paired_app (Paired.mapP hp fun _ _ w => w.same (Same.del s2 S)) (.cons ⟨sc, rfl, ?_⟩ .nil)
            rw [del_ne hscS]
            exact hsc
          · rw [ht, List.flatten_append]
            simp
          · intro c hm'
            rcases List.mem_append.mp hm' with h1 | h1
            · exact hc c h1
            · rw [List.mem_singleton.mp h1]
              exact ⟨hcne, hcl⟩
        · have hcur : cur = [] := by
            have t1 : ¬ (0 : Int) < ((cur.length : Nat) : Int) := of_decide_eq_false (Bool.eq_false_iff.mpr t)
            exact List.eq_nil_of_length_eq_zero (by omega)
          refine ⟨rfl, chunks, ss, e, hs, hp, ?_, hc⟩
          rw [ht, hcur, List.append_nil]
      · rintro σ' H2 ⟨rfl, chunks2, ss2, e2, hs2, hp2, hr2, hc2⟩
        exact ⟨_, rfl, q H2 S chunks2 ss2 e2 nS hs2 (Paired.mapP hp2 fun _ _ w => w.same (del_le _ _)) hr2 hc2⟩
end
end K9

set_option Elab.async false
set_option linter.all false
set_option maxRecDepth 100000
set_option maxHeartbeats 4000000
/-! _filled; a state and what it holds; values_of, bucket, relation_shape, rows_of_buckets, structure_shape. -/
namespace K9
open PySem PySem.Spec PyProof.Rows L2
/-! ### what is stored -/
structure Rel where
  name : Str
  cols : List Str
  room : Nat
  rows : List Row
structure Stc where
  name : Str
  rel : Str
  cols : List Str
  buckets : Nat
  sectors : Nat
structure Shelf where
  rels : List Rel
  stcs : List Stc
def RelA (K : PySem.W.Frag) (H : Hp) (v : V) (r : Rel) : Prop := ∃ t ct, v = .ref t ∧ SqT K H t [.ref ct, .int (r.room : Int)] ∧ SqT K H ct (r.cols.map V.str) ∧ PlainT H ct
def FactA (K : PySem.W.Frag) (H : Hp) (v : V) (r : Rel) : Prop := ∃ a, v = .ref a ∧ RowsA K H a r.rows
def StcA (K : PySem.W.Frag) (H : Hp) (v : V) (s : Stc) : Prop := ∃ t ct, v = .ref t ∧ SqT K H t [.str s.rel, .ref ct, .int (s.buckets : Int), .int (s.sectors : Int)] ∧ SqT K H ct (s.cols.map V.str)
theorem RelA.same {K : PySem.W.Frag} {H H' : Hp} {v : V} {r : Rel} (e : Same H H') (h : RelA K H v r) : RelA K H' v r := by
  obtain ⟨t, ct, rfl, h1, h2, o, u, h3, h4⟩ := h
  exact ⟨t, ct, rfl, Same.tup e h1, Same.tup e h2, o, u, e _ _ h3, h4⟩
theorem FactA.same {K : PySem.W.Frag} {H H' : Hp} {v : V} {r : Rel} (e : Same H H') (h : FactA K H v r) : FactA K H' v r := by
  obtain ⟨a, rfl, h1⟩ := h
  exact ⟨a, rfl, h1.same e⟩
theorem StcA.same {K : PySem.W.Frag} {H H' : Hp} {v : V} {r : Stc} (e : Same H H') (h : StcA K H v r) : StcA K H' v r := by
  obtain ⟨t, ct, rfl, h1, h2⟩ := h
  exact ⟨t, ct, rfl, Same.tup e h1, Same.tup e h2⟩
/-- a dict by names -/
def Ent {β : Type} (nm : β → Str) (R : V → β → Prop) (kv : Key × V) (b : β) : Prop := kv.1 = Sum.inr (nm b) ∧ R kv.2 b
def DictA {β : Type} (nm : β → Str) (R : V → β → Prop) (H : Hp) (d : Addr) (bs : List β) : Prop := ∃ kvs, Rd H d (.dK kvs) ∧ Paired (Ent nm R) kvs bs
theorem DictA.same {β : Type} {nm : β → Str} {R R' : V → β → Prop} {H H' : Hp} {d : Addr} {bs : List β} (e : Same H H') (m : ∀ v b, R v b → R' v b) (h : DictA nm R H d bs) : DictA nm R' H' d bs := by
  obtain ⟨kvs, h1, h2⟩ := h
  exact ⟨kvs, Same.rd e h1, Paired.mapP h2 fun _ _ q => ⟨q.1, m _ _ q.2⟩⟩
theorem ent_look {β : Type} {nm : β → Str} {R : V → β → Prop} : ∀ {kvs : List (Key × V)} {bs : List β}, Paired (Ent nm R) kvs bs → (bs.map nm).Nodup → ∀ {b : β}, b ∈ bs → ∃ v, valV kvs (Sum.inr (nm b)) = some v ∧ R v b
  | _, _, .nil, _, _, h => by cases h
  | _, _, .cons (a := kv) (b := b0) r t, hn, b, h => by
    have hn' : (nm b0 :: _).Nodup := hn
    obtain ⟨n1, n2⟩ := List.nodup_cons.mp hn'
    rcases List.mem_cons.mp h with rfl | h
    · exact ⟨kv.2, valV_pos r.1, r.2⟩
    · obtain ⟨v, h1, h2⟩ := ent_look t n2 h
      refine ⟨v, ?_, h2⟩
      rw [valV_neg, h1]
      intro z
      rw [r.1] at z
      have z2 : nm b0 = nm b := Sum.inr.inj z
      exact n1 (by rw [z2]; exact List.mem_map.mpr ⟨b, h, rfl⟩)
theorem DictA.get {β : Type} {nm : β → Str} {R : V → β → Prop} {H : Hp} {d : Addr} {bs : List β} (h : DictA nm R H d bs) (hn : (bs.map nm).Nodup) {b : β} (hb : b ∈ bs) : ∃ v, DGet H d (.str (nm b)) (some v) ∧ R v b := by
  obtain ⟨kvs, h1, h2⟩ := h
  obtain ⟨v, e, r⟩ := ent_look h2 hn hb
  exact ⟨v, .inl ⟨kvs, Sum.inr (nm b), h1, rfl, e.symm⟩, r⟩
/-- the three dicts -/
structure DbAt (K : PySem.W.Frag) (H : Hp) (dR dF dS : Addr) (sh : Shelf) : Prop where
  r : DictA Rel.name (RelA K H) H dR sh.rels
  f : DictA Rel.name (FactA K H) H dF sh.rels
  s : DictA Stc.name (StcA K H) H dS sh.stcs
theorem DbAt.same {K : PySem.W.Frag} {H H' : Hp} {dR dF dS : Addr} {sh : Shelf} (e : Same H H') (h : DbAt K H dR dF dS sh) : DbAt K H' dR dF dS sh :=
  ⟨h.r.same e fun _ _ q => q.same e, h.f.same e fun _ _ q => q.same e, h.s.same e fun _ _ q => q.same e⟩
abbrev CS (K : PySem.W.Frag) : Addr := He.ga K "State"
structure StCls (K : PySem.W.Frag) : Prop where
  cl : Cls K (CS K)
  nR : NoAttr K (CS K) "relations"
  nF : NoAttr K (CS K) "facts"
  nS : NoAttr K (CS K) "structures"
  nL : NoAttr K (CS K) "layouts"
/-- a State that holds this -/
def StAt (K : PySem.W.Frag) (H : Hp) (s : Addr) (sh : Shelf) : Prop := ∃ dx fs dR dF dS, H s = some (.ins (CS K) dx fs) ∧ fs.lookup ("relations" : Str) = some (.ref dR) ∧ fs.lookup ("facts" : Str) = some (.ref dF) ∧ fs.lookup ("structures" : Str) = some (.ref dS) ∧ DbAt K H dR dF dS sh
theorem StAt.same {K : PySem.W.Frag} {H H' : Hp} {s : Addr} {sh : Shelf} (e : Same H H') (h : StAt K H s sh) : StAt K H' s sh := by
  obtain ⟨dx, fs, dR, dF, dS, h1, h2, h3, h4, h5⟩ := h
  exact ⟨dx, fs, dR, dF, dS, e _ _ h1, h2, h3, h4, h5.same e⟩
/-! ### what is well formed -/
structure RelOk (r : Rel) : Prop where
  c4 : r.cols.length ≤ 4
  cn : r.cols.Nodup
  room : r.room ≤ 40
  n24 : r.rows.length ≤ 24
  rows : ∀ row ∈ r.rows, row.length = r.cols.length ∧ RowOk row
structure StcOk (sh : Shelf) (s : Stc) : Prop where
  rel : ∃ r ∈ sh.rels, r.name = s.rel ∧ ∀ c ∈ s.cols, c ∈ r.cols
  c4 : s.cols.length ≤ 4
  b0 : 0 < s.buckets
  b16 : s.buckets ≤ 16
  s8 : s.sectors ≤ 8
structure ShelfOk (sh : Shelf) : Prop where
  rn : (sh.rels.map Rel.name).Nodup
  sn : (sh.stcs.map Stc.name).Nodup
  rels : ∀ r ∈ sh.rels, RelOk r
  stcs : ∀ s ∈ sh.stcs, StcOk sh s
/-! ### the values of columns -/
def ixOf (c : Str) : List Str → Nat
  | [] => 0
  | x :: r => if x = c then 0 else ixOf c r + 1
theorem ixOf_at : ∀ {names : List Str} {c : Str}, c ∈ names → names[ixOf c names]? = some c ∧ ∀ m, m < ixOf c names → names[m]? ≠ some c
  | [], c, h => by cases h
  | x :: r, c, h => by
    unfold ixOf
    by_cases e : x = c
    · rw [if_pos e]
      exact ⟨by rw [e]; rfl, fun m hm => absurd hm (Nat.not_lt_zero _)⟩
    · rw [if_neg e]
      have hr : c ∈ r := (List.mem_cons.mp h).resolve_left fun z => e z.symm
      obtain ⟨h1, h2⟩ := ixOf_at hr
      refine ⟨h1, fun m hm => ?_⟩
      cases m with
      | zero => intro z; exact e (Option.some.inj z)
      | succ m => exact h2 m (by omega)
def valsOf (names cols : List Str) (r : Row) : Row := cols.map fun c => r.getD (ixOf c names) (.n 0)
theorem valsOf_ok {names cols : List Str} {r : Row} (hc : cols.length ≤ 4) (hr : RowOk r) : RowOk (valsOf names cols r) := by
  refine ⟨by unfold valsOf; rw [List.length_map]; exact hc, fun c h => ?_⟩
  unfold valsOf at h
  obtain ⟨x, _, rfl⟩ := List.mem_map.mp h
  rw [List.getD_eq_getElem?_getD]
  cases q : r[ixOf x names]? with
  | none =>
    exact (by decide : (0 : Int).natAbs < 10 ^ 30)
  | some c => exact hr.2 c (List.mem_of_getElem? q)
/-- the bucket of a row in a structure -/
def bktOf (r : Rel) (s : Stc) (row : Row) : Nat := bktF (valsOf r.cols s.cols row) s.buckets
theorem bktF_lt {r : Row} {n : Nat} (h : 0 < n) : bktF r n < n := by
  unfold bktF
  have : ∀ (l : List Nat) (a : Nat), a < n → l.foldl (bstep n) a < n := fun l => by
    induction l with
    | nil => intro a q; exact q
    | cons b l ih => intro a _; exact ih _ (Nat.mod_lt _ h)
  exact this _ 0 h
/-- the rows of the k-th bucket -/
def bRows (r : Rel) (s : Stc) (k : Nat) : List Row := r.rows.filter fun row => bktOf r s row == k
def spValuesOf (K : PySem.W.Frag) : Sp := fun vs H Q _ => ∃ (s ra : Addr) (row : Row) (sh : Shelf) (r : Rel) (st : Stc), vs = [.ref s, .str st.name, .ref ra] ∧ StAt K H s sh ∧ ShelfOk sh ∧ st ∈ sh.stcs ∧ r ∈ sh.rels ∧ r.name = st.rel ∧ (∀ c ∈ st.cols, c ∈ r.cols) ∧ SqT K H ra (rowV row) ∧ row.length = r.cols.length ∧
  ∀ H' p, Same H H' → SqT K H' p (rowV (valsOf r.cols st.cols row)) → Q (.ref p) H'
def spBucket (K : PySem.W.Frag) : Sp := fun vs H Q _ => ∃ (s ra : Addr) (row : Row) (sh : Shelf) (r : Rel) (st : Stc), vs = [.ref s, .str st.name, .ref ra] ∧ StAt K H s sh ∧ ShelfOk sh ∧ st ∈ sh.stcs ∧ r ∈ sh.rels ∧ r.name = st.rel ∧ (∀ c ∈ st.cols, c ∈ r.cols) ∧ SqT K H ra (rowV row) ∧ row.length = r.cols.length ∧ RowOk row ∧
  ∀ H', Same H H' → Q (.int ((bktOf r st row : Nat) : Int)) H'
section
variable {P : Program} {w : World} {K : PySem.W.Frag} {mg : Str → Option Value} {base : Heap}
theorem ok_Filled {f : Addr} {fd : FuncData} (F : FD K "_filled" "_filled" sFilled f fd) (hm : mg "_filled" = some (.ref f)) (T : Glob K mg) (cPack : C8.Cal P w K mg base 6 "pack" (spPack K) []) : C8.Cal P w K mg base 7 "_filled" (spFilled K) [] := by
  refine cal_mk F hm (FunD.bindsN (ps := PFilled) F fun _ _ _ _ _ _ us hl => match us, hl with | [_, _], _ => rfl) scFilled (fun vs H Q E h => ?_) (fun cdv A outer s H vs Q E hr h => ?_)
  · obtain ⟨a, rs, room, rfl, _⟩ := h
    rfl
  · obtain ⟨a, rs, room, rfl, hR, hlen, hok, hroom, qn, q⟩ := h
    refine ⟨_, (pss_cons (ps_set (i := 2) scFilled.nd rfl (Or.inl rfl) (C8.pe_c cPack hr (by decide) (by rfl) (pa_cons (pv 0) pa_nil)))
    (pss_cons (ps_if (PW.pt (pw_or (pt_cmpR op_isN (pv 2) pe_non (nomark _)) (pw_or1 (pt_cmpR op_gt (pe_callB call_len_seq (by rfl) T.len PySem.boot_len (pa_cons (pv 2) pa_nil)) (pv 1) (nomark _)))))
    (pss_one (ps_ret pe_non))
    pss_nil)
    (pss_one (ps_ret (pe_op op_cat (pv 2) (pe_lc (own := [("_", 3)]) (g := gName 3) (tt := tYes) rfl scFilled.nd (pi_range1 (by rfl) T.range (pa_cons (pe_op op_sub (pv 1) (pe_callB call_len_seq (by rfl) T.len PySem.boot_len (pa_cons (pv 2) pa_nil))) pa_nil)) (blkOk_by (own := [("_", 3)]) (N := NFilled) (sc := defScope sFilled) (by decide +kernel)) (fun _ _ _ _ _ => pg_name (i := 3) scFilled.nd rfl (Or.inl rfl)) (fun _ _ _ _ _ => pts_nil) (fun _ _ _ _ _ => (pe_callTy (callListK K) (by rfl) T.list (by decide +kernel) (pa_cons (C8.pe_gc (by rfl) T.cEMPTY) pa_nil))))))))), ?_⟩
    refine ⟨_, rfl, a, rs, rfl, hR, hlen, hok, fun H1 s1 => ?_, fun H1 U chunks ss s1 nU hU hP hrs hch => ?_⟩
    · refine ⟨_, rfl, rfl, _, rfl, ite2 (fun _ => ?_) (fun t => absurd (decide_eq_true rfl) t)⟩
      exact iteT (qn H1 s1)
    · refine ⟨_, rfl, rfl, _, rfl, ite2 (fun t => nomatch (of_decide_eq_true t)) (fun _ => ?_)⟩
      have hsl : ss.length = chunks.length := by rw [paired_len hP, List.length_map]
      refine ⟨_, rfl, U, _, rfl, .inl (SqL.of hU), _, rfl, _, _, rfl, rfl, _, rfl, ite2 (fun _ => qn H1 s1) (fun t => ?_)⟩
      have hle : chunks.length ≤ room := by
        have t1 : ¬ (room : Int) < ((ss.length : Nat) : Int) := of_decide_eq_false (Bool.eq_false_iff.mpr t)
        omega
      refine ⟨_, rfl, _, rfl, _, rfl, U, _, rfl, .inl (SqL.of hU), _, _, rfl, rfl, _, rfl, by omega, by omega, fun D nD => ?_⟩
      have hUD : U ≠ D := ne_of_none hU nD
      refine lc_range (lo := 0) (n := ((room : Int) - ((ss.length : Nat) : Int)).toNat) (fun i H' => Same H1 H' ∧ ∃ acc, H' D = some (.lst acc) ∧ Paired (BytesA (del H' D)) acc (List.replicate i emptySec)) ⟨same_new nD, [], upd_same, .nil⟩ ?_ ?_
      · rintro i H' hi ⟨sm, acc, hD, hPd⟩
        have hal : acc.length = i := by rw [paired_len hPd, List.length_replicate]
        refine ⟨rfl, ?_⟩
        refine ⟨_, _, rfl, .inr (T.sEMPTY _), fun l nl => ?_⟩
        have hDl : D ≠ l := ne_of_none hD nl
        refine ⟨acc, by rw [upd_ne hDl]; exact hD, sz_lt (by omega), same_mut (Same.trans sm (same_new nl)) nD, acc ++ [.ref l], upd_same, ?_⟩
        rw [del_upd, List.replicate_succ' (n := i)]
        refine paired_app (Paired.mapP hPd fun _ _ w => w.same (Same.del (same_new nl) D)) (.cons ⟨l, rfl, ?_⟩ .nil)
        rw [del_ne hDl.symm, upd_same, empty_bv]
      · rintro H' ⟨sm, acc, hD, hPd⟩
        have hal : acc.length ≤ 100 := by rw [paired_len hPd, List.length_replicate]; omega
        refine ⟨U, D, ss, acc, rfl, rfl, sm _ _ hU, hD, sz_of (by omega), fun p np => ?_⟩
        refine q _ p chunks (ss ++ acc) (Same.trans s1 (Same.trans sm (same_new np))) ((Same.trans s1 sm).free np) upd_same ?_ hrs hch hle
        unfold secsOf
        refine paired_app (Paired.mapP hP fun _ _ w => w.same (Same.trans sm (same_new np))) ?_
        have e : ((room : Int) - ((ss.length : Nat) : Int)).toNat = room - chunks.length := by omega
        rw [e] at hPd
        exact Paired.mapP hPd fun _ _ w => w.same (Same.trans (del_le _ _) (same_new np))
theorem ok_ValuesOf {f : Addr} {fd : FuncData} (F : FD K "values_of" "values_of" sValuesOf f fd) (hm : mg "values_of" = some (.ref f)) (T : Glob K mg) (C : StCls K) : C8.Cal P w K mg base 1 "values_of" (spValuesOf K) [] := by
  refine cal_mk F hm (FunD.bindsN (ps := PValuesOf) F fun _ _ _ _ _ _ us hl => match us, hl with | [_, _, _], _ => rfl) scValuesOf (fun vs H Q E h => ?_) (fun cdv A outer s H vs Q E hr h => ?_)
  · obtain ⟨a, ra, row, sh, r, st, rfl, _⟩ := h
    rfl
  · obtain ⟨a, ra, row, sh, r, st, rfl, ⟨dx, fs, dR, dF, dS, hs, fR, fF, fS, db⟩, ok, hst, hr', hrn, hcols, hra, hrl, q⟩ := h
    obtain ⟨v1, g1, t, ct, rfl, ht, hct⟩ := db.s.get ok.sn hst
    obtain ⟨v2, g2, t2, ct2, rfl, ht2, hct2, po, pu, pl, pc⟩ := db.r.get ok.rn hr'
    rw [hrn] at g2
    refine ⟨_, (pss_cons (ps_asg (pe_dget (hu_of hr) (pe_fld (pv 0) rfl) (pv 1) (fun _ _ => rfl)) (pg_tup (by rfl) (pgs_cons (pg_name (i := 3) scValuesOf.nd rfl (Or.inl rfl)) (pgs_cons (pg_name (i := 4) scValuesOf.nd rfl (Or.inl rfl)) (pgs_cons (pg_name (i := 5) scValuesOf.nd rfl (Or.inl rfl)) (pgs_cons (pg_name (i := 5) scValuesOf.nd rfl (Or.inl rfl)) pgs_nil))))))
    (pss_cons (ps_set (i := 6) scValuesOf.nd rfl (Or.inr rfl) (pe_ix ix_tup (pe_dget (hu_of hr) (pe_fld (pv 0) rfl) (pv 3) (fun _ _ => rfl)) pe_int (fun _ _ => rfl)))
    (pss_one (ps_ret (pe_callTy call_tuple_of (by rfl) T.tuple (by decide +kernel) (pa_cons (pe_lc (own := [("column", 7)]) (g := gName 7) (tt := tYes) rfl scValuesOf.nd (pi_tup (pv 4)) (blkOk_by (own := [("column", 7)]) (N := NValuesOf) (sc := defScope sValuesOf) (by decide +kernel)) (fun _ _ _ _ _ => pg_name (i := 7) scValuesOf.nd rfl (Or.inl rfl)) (fun _ _ _ _ _ => pts_nil) (fun _ _ _ _ _ => (pe_ix (ixTupK K) (pv 2) (peBmT PySem.F.plainAttrs_tuple PySem.F.slot_tuple_index PySem.F.type_tuple_index (mtTupIndexK K) (pv 6) (pa_cons (pv 7) pa_nil)) (fun _ _ => rfl)))) pa_nil)))))), ?_⟩
    refine ⟨_, rfl, a, _, dx, fs, _, rfl, hs, C.cl, C.nS, fS, _, rfl, dS, _, rfl, g1, ?_⟩
    refine ⟨t, _, rfl, ht, rfl, _, _, rfl, _, _, rfl, _, _, rfl, _, _, rfl, rfl, ?_⟩
    refine ⟨_, rfl, a, _, dx, fs, _, rfl, hs, C.cl, C.nR, fR, _, rfl, dR, _, rfl, g2, t2, _, 0, _, rfl, rfl, ht2, atI_nat (j := 0) rfl, ?_⟩
    refine ⟨_, rfl, ct, rfl, ⟨_, hct⟩, fun D nD => ?_⟩
    refine lc_tup (K := K) (a := ct) (xs := st.cols.map V.str) (fun i H' => Same H H' ∧ H' D = some (.lst (rowV (valsOf r.cols (st.cols.take i) row)))) ⟨same_new nD, upd_same⟩ (fun i H' _ z => Same.tup z.1 hct) ?_ ?_
    · rintro i x H' hi ⟨sm, hD⟩
      obtain ⟨c, hci, rfl⟩ : ∃ c, st.cols[i]? = some c ∧ x = .str c := by
        rw [List.getElem?_map] at hi
        cases e : st.cols[i]? with
        | none => rw [e] at hi; cases hi
        | some c => rw [e] at hi; exact ⟨c, rfl, (Option.some.inj hi).symm⟩
      have hcm := hcols c (List.mem_of_getElem? hci)
      obtain ⟨i1, i2⟩ := ixOf_at hcm
      have hlt : ixOf c r.cols < row.length := by
        rw [hrl]
        exact (List.getElem?_eq_some_iff.mp i1).1
      refine ⟨rfl, ?_⟩
      refine ⟨_, rfl, _, rfl, .intro ct2 ⟨rfl, po, pu, sm _ _ pl, pc⟩, _, rfl, ct2, r.cols, c, ixOf c r.cols, rfl, rfl, Same.tup sm hct2, i1, i2, ?_⟩
      refine ⟨ra, _, _, (row[ixOf c r.cols]).v, rfl, rfl, Same.tup sm hra, atI_nat (j := ixOf c r.cols) (by unfold rowV; rw [List.getElem?_map, List.getElem?_eq_getElem hlt]; rfl), ?_⟩
      refine ⟨_, hD, ?_, same_mut sm nD, ?_⟩
      · unfold rowV valsOf
        rw [List.length_map, List.length_map, List.length_take]
        have := (ok.stcs st hst).c4
        exact sz_lt (by omega)
      · rw [upd_same, List.take_add_one, hci]
        have e : row.getD (ixOf c r.cols) (.n 0) = row[ixOf c r.cols] := by rw [List.getD_eq_getElem?_getD, List.getElem?_eq_getElem hlt]; rfl
        unfold rowV valsOf
        rw [List.map_append, List.map_append]
        show _ = some (HO.lst (_ ++ [(row.getD (ixOf c r.cols) (.n 0)).v]))
        rw [e]
    · rintro H' ⟨sm, hD⟩
      rw [List.length_map, List.take_length] at hD
      refine ⟨D, _, rfl, .inl ⟨SqL.of hD, fun p np => ?_⟩⟩
      exact q _ p (Same.trans sm (same_new np)) (SqT.of upd_same)
theorem ok_Bucket {f : Addr} {fd : FuncData} (F : FD K "bucket" "bucket" sBucket f fd) (hm : mg "bucket" = some (.ref f)) (T : Glob K mg) (C : StCls K) (cValuesOf : C8.Cal P w K mg base 1 "values_of" (spValuesOf K) []) (cBucketOfValues : C8.Cal P w K mg base 6 "bucket_of_values" (spBucketOfValues K) []) : C8.Cal P w K mg base 7 "bucket" (spBucket K) [] := by
  refine cal_mk F hm (FunD.bindsN (ps := PBucket) F fun _ _ _ _ _ _ us hl => match us, hl with | [_, _, _], _ => rfl) scBucket (fun vs H Q E h => ?_) (fun cdv A outer s H vs Q E hr h => ?_)
  · obtain ⟨a, ra, row, sh, r, st, rfl, _⟩ := h
    rfl
  · obtain ⟨a, ra, row, sh, r, st, rfl, hS, ok, hst, hr', hrn, hcols, hra, hrl, hrok, q⟩ := h
    refine ⟨_, (pss_one (ps_ret (C8.pe_c cBucketOfValues hr (by decide) (by rfl) (pa_cons (C8.pe_c cValuesOf hr (by decide) (by rfl) (pa_cons (pv 0) (pa_cons (pv 1) (pa_cons (pv 2) pa_nil)))) (pa_cons (pe_ix ix_tup (pe_dget (hu_of hr) (pe_fld (pv 0) rfl) (pv 1) (fun _ _ => rfl)) pe_int (fun _ _ => rfl)) pa_nil))))), ?_⟩
    refine ⟨_, rfl, _, rfl, _, rfl, a, ra, row, sh, r, st, rfl, hS, ok, hst, hr', hrn, hcols, hra, hrl, fun H1 p s1 hp => ?_⟩
    obtain ⟨dx, fs, dR, dF, dS, hs, fR, fF, fS, db⟩ := hS.same s1
    obtain ⟨v1, g1, t, ct, rfl, ht, hct⟩ := db.s.get ok.sn hst
    refine ⟨_, rfl, a, _, dx, fs, _, rfl, hs, C.cl, C.nS, fS, _, rfl, dS, _, rfl, g1, t, _, 2, _, rfl, rfl, ht, atI_nat (j := 2) rfl, ?_⟩
    exact ⟨p, _, st.buckets, rfl, hp, valsOf_ok (ok.stcs st hst).c4 hrok, (ok.stcs st hst).b0, fun H2 s2 => q H2 (Same.trans s1 s2)⟩
end
end K9

set_option Elab.async false
set_option linter.all false
set_option maxRecDepth 100000
set_option maxHeartbeats 4000000
/-! relation_shape, rows_of_buckets, structure_shape. -/
namespace K9
open PySem PySem.Spec PyProof.Rows L2
/-- what a room's shape tells: the rows in chunks -/
def ShapeOk (H : Hp) (ss : List V) (rows : List Row) (room : Nat) : Prop := ∃ chunks : List (List Row), Paired (BytesA H) ss (secsOf chunks room) ∧ rows = chunks.flatten ∧ (∀ c ∈ chunks, ChunkOk c) ∧ chunks.length ≤ room
def spRelationShape (K : PySem.W.Frag) : Sp := fun vs H Q _ => ∃ (s : Addr) (sh : Shelf) (r : Rel), vs = [.ref s, .str r.name] ∧ StAt K H s sh ∧ ShelfOk sh ∧ r ∈ sh.rels ∧ (∀ H', Same H H' → Q .non H') ∧
  ∀ (H' : Hp) (p : Addr) (ss : List V), Same H H' → H p = none → H' p = some (.lst ss) → ShapeOk H' ss r.rows r.room → Q (.ref p) H'
def spRowsOfBuckets (K : PySem.W.Frag) : Sp := fun vs H Q _ => ∃ (s : Addr) (sh : Shelf) (r : Rel) (st : Stc), vs = [.ref s, .str st.name] ∧ StAt K H s sh ∧ ShelfOk sh ∧ st ∈ sh.stcs ∧ r ∈ sh.rels ∧ r.name = st.rel ∧ (∀ c ∈ st.cols, c ∈ r.cols) ∧
  ∀ (H' : Hp) (p : Addr) (as : List Addr), Same H H' → H p = none → H' p = some (.lst (as.map V.ref)) → as.length = st.buckets → (∀ (k : Nat) a, as[k]? = some a → H a = none ∧ RowsA K H' a (bRows r st k)) → Q (.ref p) H'
/-- a structure's shape: bucket by bucket -/
def ShapesOk (H : Hp) (ss : List V) (r : Rel) (st : Stc) : Prop := ∃ cs : List (List (List Row)), cs.length = st.buckets ∧ Paired (BytesA H) ss (cs.map fun c => secsOf c st.sectors).flatten ∧
  ∀ (k : Nat) c, cs[k]? = some c → bRows r st k = c.flatten ∧ (∀ x ∈ c, ChunkOk x) ∧ c.length ≤ st.sectors
def spStructureShape (K : PySem.W.Frag) : Sp := fun vs H Q _ => ∃ (s : Addr) (sh : Shelf) (r : Rel) (st : Stc), vs = [.ref s, .str st.name] ∧ StAt K H s sh ∧ ShelfOk sh ∧ st ∈ sh.stcs ∧ r ∈ sh.rels ∧ r.name = st.rel ∧ (∀ c ∈ st.cols, c ∈ r.cols) ∧ (∀ H', Same H H' → Q .non H') ∧
  ∀ (H' : Hp) (p : Addr) (ss : List V), Same H H' → H p = none → H' p = some (.lst ss) → ShapesOk H' ss r st → Q (.ref p) H'
theorem DGet.same {H H' : Hp} {a : Addr} {y : V} {r : Option V} (e : Same H H') (h : DGet H a y r) : DGet H' a y r := by
  rcases h with ⟨kvs, k, h1, h2, h3⟩ | ⟨kvs, k, b, h1, h2, h3, h4⟩
  · exact .inl ⟨kvs, k, Same.rd e h1, h2, h3⟩
  · exact .inr ⟨kvs, k, b, Same.rd e h1, h2, e _ _ h3, h4⟩
theorem bytes_del {H : Hp} {S : Addr} {ss : List V} (hS : H S = some (.lst ss)) (hr : ∀ x ∈ ss, ∃ a, x = V.ref a) : ∀ {zs : List V} {bss : List (List Nat)}, Paired (BytesA H) zs bss → (∀ bs ∈ bss, bs ≠ []) → Paired (BytesA (del H S)) zs bss
  | _, _, .nil, _ => .nil
  | _, _, .cons (b := bs) r t, hn => by
    obtain ⟨b, rfl, hb⟩ := r
    refine .cons ⟨b, rfl, ?_⟩ (bytes_del hS hr t fun x hx => hn x (List.mem_cons_of_mem _ hx))
    rw [del_ne, hb]
    intro z
    rw [z, hS] at hb
    have e : ss = bv bs := HO.lst.inj (Option.some.inj hb)
    cases bs with
    | nil => exact hn [] List.mem_cons_self rfl
    | cons x bs =>
      obtain ⟨a, ha⟩ := hr (.int (x : Int)) (by rw [e]; exact List.mem_cons_self)
      cases ha
theorem bytes_refs {H : Hp} : ∀ {zs : List V} {bss : List (List Nat)}, Paired (BytesA H) zs bss → ∀ x ∈ zs, ∃ a, x = V.ref a
  | _, _, .nil, x, h => by cases h
  | _, _, .cons r t, x, h => by
    obtain ⟨b, rfl, hb⟩ := r
    rcases List.mem_cons.mp h with rfl | h
    · exact ⟨b, rfl⟩
    · exact bytes_refs t x h
theorem secsOf_ne {c : List (List Row)} {n : Nat} : ∀ bs ∈ secsOf c n, bs ≠ [] := fun bs h => by
  unfold secsOf at h
  rcases List.mem_append.mp h with h | h
  · obtain ⟨x, _, rfl⟩ := List.mem_map.mp h
    unfold secOf secB
    exact List.cons_ne_nil _ _
  · rw [(List.mem_replicate.mp h).2]
    unfold emptySec
    decide
theorem secsOf_len {c : List (List Row)} {n : Nat} (h : c.length ≤ n) : (secsOf c n).length = n := by
  unfold secsOf
  rw [List.length_append, List.length_map, List.length_replicate]
  omega
theorem RelOk.some {r : Rel} (h : RelOk r) (p : Row → Bool) : (r.rows.filter p).length ≤ 100 ∧ ∀ x ∈ r.rows.filter p, RowOk x := by
  refine ⟨?_, fun x hx => (h.rows x (List.mem_filter.mp hx).1).2⟩
  have h1 : (r.rows.filter p).length ≤ r.rows.length := List.length_filter_le _ _
  have h2 := h.n24
  omega
section
variable {P : Program} {w : World} {K : PySem.W.Frag} {mg : Str → Option Value} {base : Heap}
theorem ok_RelationShape {f : Addr} {fd : FuncData} (F : FD K "relation_shape" "relation_shape" sRelationShape f fd) (hm : mg "relation_shape" = some (.ref f)) (T : Glob K mg) (C : StCls K) (cFilled : C8.Cal P w K mg base 7 "_filled" (spFilled K) []) : C8.Cal P w K mg base 8 "relation_shape" (spRelationShape K) [] := by
  refine cal_mk F hm (FunD.bindsN (ps := PRelationShape) F fun _ _ _ _ _ _ us hl => match us, hl with | [_, _], _ => rfl) scRelationShape (fun vs H Q E h => ?_) (fun cdv A outer s H vs Q E hr h => ?_)
  · obtain ⟨a, sh, r, rfl, _⟩ := h
    rfl
  · obtain ⟨a, sh, r, rfl, ⟨dx, fs, dR, dF, dS, hs, fR, fF, fS, db⟩, ok, hr', qn, q⟩ := h
    obtain ⟨v1, g1, t, ct, rfl, ht, hct, _⟩ := db.r.get ok.rn hr'
    obtain ⟨v2, g2, fa, rfl, hfa⟩ := db.f.get ok.rn hr'
    have rok := ok.rels r hr'
    refine ⟨_, (pss_one (ps_ret (C8.pe_c cFilled hr (by decide) (by rfl) (pa_cons (pe_dget (hu_of hr) (pe_fld (pv 0) rfl) (pv 1) (fun _ _ => rfl)) (pa_cons (pe_ix ix_tup (pe_dget (hu_of hr) (pe_fld (pv 0) rfl) (pv 1) (fun _ _ => rfl)) pe_int (fun _ _ => rfl)) pa_nil))))), ?_⟩
    refine ⟨_, rfl, a, _, dx, fs, _, rfl, hs, C.cl, C.nF, fF, _, rfl, dF, _, rfl, g2, ?_⟩
    refine ⟨_, rfl, a, _, dx, fs, _, rfl, hs, C.cl, C.nR, fR, _, rfl, dR, _, rfl, g1, t, _, 1, _, rfl, rfl, ht, atI_nat (j := 1) rfl, ?_⟩
    refine ⟨fa, r.rows, r.room, rfl, hfa, Nat.le_trans rok.n24 (by decide), fun x hx => (rok.rows x hx).2, Nat.le_trans rok.room (by decide), qn, ?_⟩
    intro H' p chunks ss s1 np hp hP hrs hch hle
    exact q H' p ss s1 np hp ⟨chunks, hP, hrs, hch, hle⟩
theorem ok_RowsOfBuckets {f : Addr} {fd : FuncData} (F : FD K "rows_of_buckets" "rows_of_buckets" sRowsOfBuckets f fd) (hm : mg "rows_of_buckets" = some (.ref f)) (T : Glob K mg) (C : StCls K) (cBucket : C8.Cal P w K mg base 7 "bucket" (spBucket K) []) : C8.Cal P w K mg base 8 "rows_of_buckets" (spRowsOfBuckets K) [] := by
  refine cal_mk F hm (FunD.bindsN (ps := PRowsOfBuckets) F fun _ _ _ _ _ _ us hl => match us, hl with | [_, _], _ => rfl) scRowsOfBuckets (fun vs H Q E h => ?_) (fun cdv A outer s H vs Q E hr h => ?_)
  · obtain ⟨a, sh, r, st, rfl, _⟩ := h
    rfl
  · obtain ⟨a, sh, r, st, rfl, hSt, ok, hst, hr', hrn, hcols, q⟩ := h
    obtain ⟨dx, fs, dR, dF, dS, hs, fR, fF, fS, db⟩ := id hSt
    obtain ⟨v1, g1, t, ct, rfl, ht, hct⟩ := db.s.get ok.sn hst
    have rok := ok.rels r hr'
    have sok := ok.stcs st hst
    refine ⟨_, (pss_cons (ps_asg (pe_dget (hu_of hr) (pe_fld (pv 0) rfl) (pv 1) (fun _ _ => rfl)) (pg_tup (by rfl) (pgs_cons (pg_name (i := 2) scRowsOfBuckets.nd rfl (Or.inl rfl)) (pgs_cons (pg_name (i := 3) scRowsOfBuckets.nd rfl (Or.inl rfl)) (pgs_cons (pg_name (i := 4) scRowsOfBuckets.nd rfl (Or.inl rfl)) (pgs_cons (pg_name (i := 3) scRowsOfBuckets.nd rfl (Or.inl rfl)) pgs_nil))))))
    (pss_cons (ps_setLc (i := 5) (own := [("_", 3)]) (g := gName 3) (tt := tYes) rfl scRowsOfBuckets.nd rfl rfl (sw_true rfl rfl rfl (by decide +kernel)) (pi_range1 (by rfl) T.range (pa_cons (pv 4) pa_nil)) (blkOk_by (own := [("_", 3)]) (N := NRowsOfBuckets) (sc := defScope sRowsOfBuckets) (by decide +kernel)) (fun _ _ _ _ _ => pg_name (i := 3) scRowsOfBuckets.nd rfl (Or.inl rfl)) (fun _ _ _ _ _ => pts_nil) (fun _ _ _ _ _ => (pe_lst pa_nil)))
    (pss_cons (ps_for PassesOwn.never rfl (pi_list (pe_dget (hu_of hr) (pe_fld (pv 0) rfl) (pv 2) (fun _ _ => rfl))) (pg_name (i := 6) scRowsOfBuckets.nd rfl (Or.inl rfl))
    (pss_one (ps_expr (pe_bm PySem.F.plainAttrs_list PySem.F.slot_list_append PySem.F.type_list_append mt_append (pe_ix ix_list (pv 5) (C8.pe_c cBucket hr (by decide) (by rfl) (pa_cons (pv 0) (pa_cons (pv 1) (pa_cons (pv 6) pa_nil)))) (fun _ _ => rfl)) (pa_cons (pv 6) pa_nil)))))
    (pss_one (ps_ret (pv 5)))))), ?_⟩
    refine ⟨_, rfl, a, _, dx, fs, _, rfl, hs, C.cl, C.nS, fS, _, rfl, dS, _, rfl, g1, ?_⟩
    refine ⟨t, _, rfl, ht, rfl, _, _, rfl, _, _, rfl, _, _, rfl, _, _, rfl, rfl, ?_⟩
    have hb16 := sok.b16
    refine ⟨_, rfl, _, rfl, by omega, by omega, fun D nD => ?_⟩
    refine lc_range (lo := 0) (n := st.buckets) (fun i H' => Same H H' ∧ ∃ as : List Addr, H' D = some (.lst (as.map V.ref)) ∧ as.length = i ∧ as.Nodup ∧ ∀ x ∈ as, H x = none ∧ H' x = some (.lst []) ∧ x ≠ D) ⟨same_new nD, [], upd_same, rfl, List.nodup_nil, fun x h => by cases h⟩ ?_ ?_
    · rintro i H' hi ⟨sm, as, hD, hal, hnd, has⟩
      refine ⟨rfl, ?_⟩
      refine ⟨Nat.zero_le _, fun l nl => ?_⟩
      have hDl : D ≠ l := ne_of_none hD nl
      refine ⟨_, by rw [upd_ne hDl]; exact hD, ?_, same_mut (Same.trans sm (same_new nl)) nD, as ++ [l], ?_, ?_, ?_, ?_⟩
      · rw [List.length_map]
        exact sz_lt (by omega)
      · rw [upd_same, List.map_append]
        rfl
      · rw [List.length_append, List.length_singleton, hal]
      · exact nd_snoc hnd fun hm' => by
          have := (has l hm').2.1
          rw [nl] at this
          cases this
      · intro x hx
        rcases List.mem_append.mp hx with hx | hx
        · obtain ⟨h1, h2, h3⟩ := has x hx
          exact ⟨h1, by rw [upd_ne h3, upd_ne (ne_of_none h2 nl)]; exact h2, h3⟩
        · rw [List.mem_singleton.mp hx]
          exact ⟨sm.free nl, by rw [upd_ne hDl.symm, upd_same], hDl.symm⟩
    · rintro H1 ⟨s1, as, hD, hal, hnd, has⟩
      obtain ⟨v2, g2, fa, rfl, rvs, hfa, hP⟩ := db.f.get ok.rn hr'
      rw [hrn] at g2
      have hvl := paired_len hP
      refine ⟨_, rfl, a, _, dx, fs, _, rfl, s1 _ _ hs, C.cl, C.nF, fF, _, rfl, dF, _, rfl, DGet.same s1 g2, fa, rfl, ⟨_, s1.seq hfa⟩, ?_⟩
      refine for_list (K := K) (a := fa) (xs := rvs) (fun i σ H' => ∃ y, σ = [some (.ref a), some (.str st.name), some (.str st.rel), some (.int (st.sectors : Int)), some (.int (st.buckets : Int)), some (.ref D), y] ∧ Same H H' ∧ H' D = some (.lst (as.map V.ref)) ∧
          ∀ (k : Nat) x, as[k]? = some x → ∃ L, H' x = some (.lst L) ∧ L.length ≤ i ∧ Paired (RowA K H) L ((r.rows.take i).filter fun row => bktOf r st row == k))
        ⟨none, rfl, s1, hD, fun k x hx => ⟨[], (has x (List.mem_of_getElem? hx)).2.1, Nat.le_refl _, .nil⟩⟩ (fun i σ H' _ ⟨_, _, e, _⟩ => e.seq hfa) ?_ ?_
      · rintro i v σ H' hv ⟨y, rfl, sm, hD', hL⟩
        obtain ⟨row, hri, ra, rfl, hra⟩ := paired_getL hP hv
        have hi : i < r.rows.length := (List.getElem?_eq_some_iff.mp hri).1
        have hrow := rok.rows row (List.mem_of_getElem? hri)
        have hb : bktOf r st row < st.buckets := bktF_lt sok.b0
        obtain ⟨x, hx⟩ : ∃ x, as[bktOf r st row]? = some x := ⟨_, List.getElem?_eq_getElem (by omega)⟩
        refine ⟨_, rfl, _, rfl, _, rfl, _, rfl, a, ra, row, sh, r, st, rfl, hSt.same sm, ok, hst, hr', hrn, hcols, Same.tup sm hra, hrow.1, hrow.2, fun H2 s2 => ?_⟩
        obtain ⟨L, hLx, hLl, hLP⟩ := hL _ x hx
        have hx2 := s2 _ _ hLx
        have n24 := rok.n24
        refine ⟨D, _, _, .ref x, rfl, rfl, SqL.of (s2 _ _ hD'), atI_nat (j := bktOf r st row) (by rw [List.getElem?_map, hx]; rfl), .inl ⟨rfl, _, SqL.of hx2⟩, _, rfl, x, L, _, rfl, rfl, hx2, sz_lt (by omega), ?_⟩
        have hxD : D ≠ x := (has x (List.mem_of_getElem? hx)).2.2.symm
        refine ⟨_, rfl, same_mut (Same.trans sm s2) (has x (List.mem_of_getElem? hx)).1, by rw [upd_ne hxD]; exact s2 _ _ hD', fun k z hz => ?_⟩
        have htk : r.rows.take (i + 1) = r.rows.take i ++ [row] := by rw [List.take_add_one, hri]; rfl
        rw [htk, List.filter_append]
        by_cases hk : bktOf r st row = k
        · subst hk
          rw [hx] at hz
          obtain rfl := Option.some.inj hz
          refine ⟨L ++ [.ref ra], upd_same, by rw [List.length_append, List.length_singleton]; omega, paired_app hLP ?_⟩
          rw [List.filter_cons, if_pos (by simp)]
          exact .cons ⟨ra, rfl, hra⟩ .nil
        · have hzx : z ≠ x := fun e => hk (nd_ix hnd hx (by rw [← e]; exact hz))
          obtain ⟨L', hL1, hL2, hL3⟩ := hL k z hz
          refine ⟨L', by rw [upd_ne hzx]; exact s2 _ _ hL1, by omega, ?_⟩
          rw [List.filter_cons, if_neg (by simp [hk]), List.filter_nil, List.append_nil]
          exact hL3
      · rintro σ H' ⟨y, rfl, sm, hD', hL⟩
        refine ⟨_, rfl, q H' D as sm nD hD' hal fun k x hx => ?_⟩
        obtain ⟨L, hL1, _, hL3⟩ := hL k x hx
        rw [hvl, List.take_length] at hL3
        exact ⟨(has x (List.mem_of_getElem? hx)).1, L, SqL.of hL1, Paired.mapP hL3 fun _ _ z => z.same sm⟩
theorem ok_StructureShape {f : Addr} {fd : FuncData} (F : FD K "structure_shape" "structure_shape" sStructureShape f fd) (hm : mg "structure_shape" = some (.ref f)) (T : Glob K mg) (C : StCls K) (cRowsOfBuckets : C8.Cal P w K mg base 8 "rows_of_buckets" (spRowsOfBuckets K) []) (cFilled : C8.Cal P w K mg base 7 "_filled" (spFilled K) []) : C8.Cal P w K mg base 9 "structure_shape" (spStructureShape K) [] := by
  refine cal_mk F hm (FunD.bindsN (ps := PStructureShape) F fun _ _ _ _ _ _ us hl => match us, hl with | [_, _], _ => rfl) scStructureShape (fun vs H Q E h => ?_) (fun cdv A outer s H vs Q E hr h => ?_)
  · obtain ⟨a, sh, r, st, rfl, _⟩ := h
    rfl
  · obtain ⟨a, sh, r, st, rfl, hSt, ok, hst, hr', hrn, hcols, qn, q⟩ := h
    obtain ⟨dx, fs, dR, dF, dS, hs, fR, fF, fS, db⟩ := id hSt
    obtain ⟨v1, g1, t, ct, rfl, ht, hct⟩ := db.s.get ok.sn hst
    have rok := ok.rels r hr'
    have sok := ok.stcs st hst
    refine ⟨_, (pss_cons (ps_set (i := 2) scStructureShape.nd rfl (Or.inl rfl) (pe_lst pa_nil))
    (pss_cons (ps_for PassesOwn.never rfl (pi_list (C8.pe_c cRowsOfBuckets hr (by decide) (by rfl) (pa_cons (pv 0) (pa_cons (pv 1) pa_nil)))) (pg_name (i := 3) scStructureShape.nd rfl (Or.inl rfl))
    (pss_cons (ps_set (i := 4) scStructureShape.nd rfl (Or.inl rfl) (C8.pe_c cFilled hr (by decide) (by rfl) (pa_cons (pv 3) (pa_cons (pe_ix ix_tup (pe_dget (hu_of hr) (pe_fld (pv 0) rfl) (pv 1) (fun _ _ => rfl)) pe_int (fun _ _ => rfl)) pa_nil))))
      (pss_cons (ps_if (pt_cmpR op_isN (pv 4) pe_non (nomark _))
      (pss_one (ps_ret pe_non))
      pss_nil)
      (pss_one (ps_expr (pe_bm PySem.F.plainAttrs_list PySem.F.slot_list_extend PySem.F.type_list_extend mt_extend (pv 2) (pa_cons (pv 4) pa_nil)))))))
    (pss_one (ps_ret (pv 2))))), ?_⟩
    refine ⟨Nat.zero_le _, fun S nS => ?_⟩
    have s0 := same_new (o := .lst []) nS
    refine ⟨_, rfl, _, rfl, a, sh, r, st, rfl, hSt.same s0, ok, hst, hr', hrn, hcols, fun H1 p as s1 np hp hal has => ?_⟩
    have hpS : p ≠ S := ne_new np
    have hS1 : H1 S = some (.lst []) := s1 _ _ upd_same
    refine ⟨p, rfl, ⟨_, SqL.of hp⟩, ?_⟩
    refine for_list (K := K) (a := p) (xs := as.map V.ref) (fun i σ H' => ∃ y z, σ = [some (.ref a), some (.str st.name), some (.ref S), y, z] ∧ But S H1 H' ∧ ∃ (ss : List V) (cs : List (List (List Row))), H' S = some (.lst ss) ∧ cs.length = i ∧ Paired (BytesA (del H' S)) ss (cs.map fun c => secsOf c st.sectors).flatten ∧
        ∀ (k : Nat) c, cs[k]? = some c → bRows r st k = c.flatten ∧ (∀ x ∈ c, ChunkOk x) ∧ c.length ≤ st.sectors)
      ⟨none, none, rfl, But.refl _ _, [], [], hS1, rfl, .nil, fun k c h => by simp at h⟩ (fun i σ H' _ ⟨_, _, _, e, _⟩ => e.list hpS (SqL.of hp)) ?_ ?_
    · rintro i v σ H' hv ⟨y, z, rfl, bt, ss, cs, hS', hcl, hP, hC⟩
      obtain ⟨x, hx, rfl⟩ : ∃ x, as[i]? = some x ∧ v = .ref x := by
        rw [List.getElem?_map] at hv
        cases e : as[i]? with
        | none => rw [e] at hv; cases hv
        | some c => rw [e] at hv; exact ⟨c, rfl, (Option.some.inj hv).symm⟩
      have hi : i < st.buckets := by
        rw [← hal]
        exact (List.getElem?_eq_some_iff.mp hx).1
      obtain ⟨nx, xvs, hxl, hxP⟩ := has i x hx
      have hxS : x ≠ S := ne_new nx
      have sm : Same H H' := But.same (Same.trans s0 s1) nS bt
      refine ⟨_, rfl, _, rfl, a, _, dx, fs, _, rfl, sm _ _ hs, C.cl, C.nS, fS, _, rfl, dS, _, rfl, DGet.same sm g1, t, _, 3, _, rfl, rfl, Same.tup sm ht, atI_nat (j := 3) rfl, ?_⟩
      obtain ⟨l1, l2⟩ := rok.some (fun row => bktOf r st row == i)
      refine ⟨x, bRows r st i, st.sectors, rfl, ⟨xvs, bt.list hxS hxl, Paired.mapP hxP fun _ _ w => w.but bt hS1⟩, l1, l2, Nat.le_trans sok.s8 (by decide), fun H2 s2 => ?_, fun H2 u chunks zs s2 nu hu hzP hrs hch hle => ?_⟩
      · refine ⟨_, rfl, rfl, _, rfl, ite2 (fun _ => ?_) (fun t => absurd (decide_eq_true rfl) t)⟩
        exact qn H2 (Same.trans sm s2)
      · refine ⟨_, rfl, rfl, _, rfl, ite2 (fun t => nomatch (of_decide_eq_true t)) (fun _ => ?_)⟩
        have hS2 := s2 _ _ hS'
        have hr2 := bytes_refs hP
        have hz2 := bytes_del hS2 hr2 hzP secsOf_ne
        have hsum : ∀ (l : List (List (List Row))), (∀ (k : Nat) c, l[k]? = some c → c.length ≤ st.sectors) → ((l.map fun c => secsOf c st.sectors).flatten).length = l.length * st.sectors := fun l => by
          induction l with
          | nil => intro _; simp
          | cons c l ih =>
            intro hh
            rw [List.map_cons, List.flatten_cons, List.length_append, secsOf_len (hh 0 c rfl), ih (fun k c' h => hh (k + 1) c' h), List.length_cons, Nat.succ_mul, Nat.add_comm]
        have e1 : ss.length = cs.length * st.sectors := by rw [paired_len hP, hsum cs fun k c h => (hC k c h).2.2]
        have e2 : zs.length = st.sectors := by rw [paired_len hzP, secsOf_len hle]
        have hb16 := sok.b16
        have hs8 := sok.s8
        have e3 : ss.length ≤ 128 := by
          rw [e1]
          exact Nat.le_trans (Nat.mul_le_mul (show cs.length ≤ 16 by omega) hs8) (by decide)
        refine ⟨_, rfl, .inl ⟨rfl, _, SqL.of hS2⟩, _, rfl, S, u, ss, zs, rfl, rfl, hS2, hu, sz_of (by omega), ?_⟩
        refine ⟨_, _, rfl, (bt.trans (Same.but s2)).upd, ss ++ zs, cs ++ [chunks], upd_same, by rw [List.length_append, List.length_singleton, hcl], ?_, fun k c hk => ?_⟩
        · rw [del_upd, List.map_append, List.flatten_append]
          refine paired_app (Paired.mapP hP fun _ _ w => w.same (Same.del s2 S)) ?_
          simpa using hz2
        · by_cases hk2 : k < cs.length
          · rw [List.getElem?_append_left hk2] at hk
            exact hC k c hk
          · rw [List.getElem?_append_right (by omega)] at hk
            have hk3 : k = i := by
              have := (List.getElem?_eq_some_iff.mp hk).1
              simp at this
              omega
            have hk4 : k - cs.length = 0 := by omega
            rw [hk4] at hk
            have hk5 : chunks = c := Option.some.inj hk
            subst hk3 hk5
            exact ⟨hrs, hch, hle⟩
    · rintro σ H' ⟨y, z, rfl, bt, ss, cs, hS', hcl, hP, hC⟩
      rw [List.length_map, hal] at hcl
      exact ⟨_, rfl, q H' S ss (But.same (Same.trans s0 s1) nS bt) nS hS' ⟨cs, hcl, Paired.mapP hP fun _ _ w => w.same (del_le _ _), hC⟩⟩
end
end K9

set_option Elab.async false
set_option linter.all false
set_option maxRecDepth 100000
set_option maxHeartbeats 4000000
/-! The Reader. -/
namespace K9
open PySem PySem.Spec PyProof.Rows L2
/-! ### what stands at a place -/
def At (bs : List Nat) (k : Nat) (code : List Nat) : Prop := ∃ r, bs.drop k = code ++ r
theorem At.app {bs a b : List Nat} {k : Nat} (h : At bs k (a ++ b)) : At bs k a ∧ At bs (k + a.length) b := by
  obtain ⟨r, e⟩ := h
  refine ⟨⟨b ++ r, by rw [e, List.append_assoc]⟩, r, ?_⟩
  rw [← List.drop_drop, e, List.append_assoc, List.drop_left]
theorem At.cons {bs a : List Nat} {x k : Nat} (h : At bs k (x :: a)) : bs[k]? = some x ∧ At bs (k + 1) a := by
  obtain ⟨h1, h2⟩ := At.app (a := [x]) h
  obtain ⟨r, e⟩ := h1
  refine ⟨?_, h2⟩
  have : (bs.drop k)[0]? = some x := by rw [e]; rfl
  rwa [List.getElem?_drop] at this
theorem At.len {bs a : List Nat} {k : Nat} (h : At bs k a) (h0 : 0 < a.length) : k + a.length ≤ bs.length := by
  obtain ⟨r, e⟩ := h
  have := congrArg List.length e
  rw [List.length_drop, List.length_append] at this
  omega
/-! ### the Reader's object -/
abbrev CR (K : PySem.W.Frag) : Addr := He.ga K "Reader"
theorem da_ : ¬ (("data" : Str) = "at") := by decide +kernel
def rdF (D : Addr) (k : Nat) : List (Str × V) := putF "at" (.int (k : Int)) (putF "data" (.ref D) [])
theorem rdF_eq (D : Addr) (k : Nat) : rdF D k = ([("data", V.ref D), ("at", V.int (k : Int))] : List (Str × V)) := by
  show (if ("data" : Str) = "at" then [(("data" : Str), V.int (k : Int))] else (("data" : Str), V.ref D) :: putF "at" (V.int (k : Int)) []) = _
  rw [if_neg da_]
  rfl
theorem rdF_data (D : Addr) (k : Nat) : (rdF D k).lookup ("data" : Str) = some (.ref D) := by
  unfold rdF
  rw [lookup_putF, if_neg da_, lookup_putF, if_pos rfl]
theorem rdF_at (D : Addr) (k : Nat) : (rdF D k).lookup ("at" : Str) = some (.int (k : Int)) := by
  unfold rdF
  rw [lookup_putF, if_pos rfl]
theorem rdF_no (D : Addr) (k : Nat) {m : Str} (h1 : ¬ m = "at") (h2 : ¬ m = "data") : (rdF D k).lookup m = none := by
  unfold rdF
  rw [lookup_putF, if_neg h1, lookup_putF, if_neg h2]
  rfl
theorem rdF_put (D : Addr) (k j : Nat) : putF "at" (.int (j : Int)) (rdF D k) = rdF D j := by
  rw [rdF_eq, rdF_eq]
  show (if ("data" : Str) = "at" then _ else (("data" : Str), V.ref D) :: (if ("at" : Str) = "at" then [(("at" : Str), V.int (j : Int))] else _)) = _
  rw [if_neg da_, if_pos rfl]
theorem rdF_len (D : Addr) (k : Nat) : (rdF D k).length < 1000 := by
  rw [rdF_eq]
  exact (by decide : 2 < 1000)
def RdAt (K : PySem.W.Frag) (H : Hp) (R : Addr) (bs : List Nat) (k : Nat) : Prop := ∃ dx D, H R = some (.ins (CR K) dx (rdF D k)) ∧ H D = some (.lst (bv bs))
structure RdCls (K : PySem.W.Frag) : Prop where
  cl : Cls K (CR K)
  nD : NoAttr K (CR K) "data"
  nA : NoAttr K (CR K) "at"
def RdTo (K : PySem.W.Frag) (H : Hp) (R : Addr) (bs : List Nat) (k : Nat) (Q : VK) (v : V) : Prop := ∀ H', But R H H' → RdAt K H' R bs k → Q v H'
/-! ### promises -/
def spReaderInit (K : PySem.W.Frag) : Sp := fun vs H Q _ => ∃ (x dx a : Addr) (bs : List Nat), vs = [.ref x, .ref a] ∧ H x = some (.ins (CR K) dx []) ∧ SqL K H a (bv bs) ∧ ∀ H', But x H H' → RdAt K H' x bs 0 → Q .non H'
def spReadByte (K : PySem.W.Frag) : Sp := fun vs H Q _ => ∃ (R : Addr) (bs : List Nat) (k b : Nat), vs = [.ref R] ∧ RdAt K H R bs k ∧ bs[k]? = some b ∧ RdTo K H R bs (k + 1) Q (.int (b : Int))
def spReadChoice (K : PySem.W.Frag) : Sp := fun vs H Q _ => ∃ (R : Addr) (bs : List Nat) (k b n : Nat), vs = [.ref R, .int (n : Int)] ∧ RdAt K H R bs k ∧ bs[k]? = some b ∧ b < n ∧ RdTo K H R bs (k + 1) Q (.int (b : Int))
def spReadNumber (K : PySem.W.Frag) : Sp := fun vs H Q _ => ∃ (R : Addr) (bs : List Nat) (k n : Nat), vs = [.ref R] ∧ RdAt K H R bs k ∧ At bs k (numC n) ∧ (numC n).length ≤ 60 ∧ RdTo K H R bs (k + (numC n).length) Q (.int (n : Int))
def spReadInteger (K : PySem.W.Frag) : Sp := fun vs H Q _ => ∃ (R : Addr) (bs : List Nat) (k : Nat) (i : Int), vs = [.ref R] ∧ RdAt K H R bs k ∧ At bs k (intC i) ∧ (numC i.natAbs).length ≤ 60 ∧ RdTo K H R bs (k + (intC i).length) Q (.int i)
def spReadCount (K : PySem.W.Frag) : Sp := fun vs H Q _ => ∃ (R : Addr) (bs : List Nat) (k n : Nat), vs = [.ref R] ∧ RdAt K H R bs k ∧ At bs k (numC n) ∧ (numC n).length ≤ 60 ∧ k + (numC n).length + n ≤ bs.length ∧ RdTo K H R bs (k + (numC n).length) Q (.int (n : Int))
def spReadCharacter (K : PySem.W.Frag) : Sp := fun vs H Q _ => ∃ (R : Addr) (bs : List Nat) (k c : Nat), vs = [.ref R] ∧ RdAt K H R bs k ∧ bs[k]? = some c ∧ signOk c ∧ RdTo K H R bs (k + 1) Q (.str ⟨#[c]⟩)
section
variable {P : Program} {w : World} {K : PySem.W.Frag} {mg : Str → Option Value} {base : Heap}
theorem ok_ReaderInit {f : Addr} {fd : FuncData} (M : Mk K (CR K) f) (hm : mg "Reader" = some (.ref (CR K))) (F : FD K "__init__" "Reader.__init__" sReaderInit f fd) (T : Glob K mg) (C : RdCls K) : C8.Mak P w K mg base 1 "Reader" (CR K) (spReaderInit K) [] := by
  refine mak_mk M hm F (FunD.bindsN (ps := PReaderInit) F fun _ _ _ _ _ _ us hl => match us, hl with | [_, _], _ => rfl) scReaderInit (fun vs H Q E h => ?_) (fun cdv A outer s H vs Q E hr h => ?_)
  · obtain ⟨x, dx, a, bs, rfl, _⟩ := h
    rfl
  · obtain ⟨x, dx, a, bs, rfl, hx, ha, q⟩ := h
    refine ⟨_, (pss_cons (ps_fld (pv 0) (pe_callTy call_list_of (by rfl) T.list (by decide +kernel) (pa_cons (pv 1) pa_nil)) rfl)
    (pss_one (ps_fld (pv 0) pe_int rfl))), ?_⟩
    refine ⟨_, rfl, a, _, rfl, .inl ha, fun D nD => ?_⟩
    have hxD : x ≠ D := ne_of_none hx nD
    refine ⟨_, rfl, x, _, dx, [], rfl, (by rw [upd_ne hxD]; exact hx), C.cl, C.nD, (by decide : 0 < 1000), ?_⟩
    refine ⟨_, rfl, x, _, dx, _, rfl, upd_same, C.cl, C.nA, (by decide : 1 < 1000), ?_⟩
    refine q _ ((Same.but (same_new nD)).upd.upd) ⟨dx, D, upd_same, ?_⟩
    rw [upd_ne hxD.symm, upd_ne hxD.symm, upd_same]
theorem ok_ReaderReadByte {f : Addr} {fd : FuncData} (me : Meth K (CR K) "read_byte" f) (F : FD K "read_byte" "Reader.read_byte" sReaderReadByte f fd) (T : Glob K mg) (C : RdCls K) : C8.Met P w K mg base 1 (CR K) "read_byte" (spReadByte K) [] := by
  refine met_mk C.cl me F (FunD.bindsN (ps := PReaderReadByte) F fun _ _ _ _ _ _ us hl => match us, hl with | [_], _ => rfl) scReaderReadByte (fun vs H Q E h => ?_) (fun cdv A outer s H vs Q E hr h => ?_)
  · obtain ⟨R, bs, k, b, rfl, _⟩ := h
    rfl
  · obtain ⟨R, bs, k, b, rfl, ⟨dx, D, hR, hD⟩, hb, q⟩ := h
    have hk : k < bs.length := (List.getElem?_eq_some_iff.mp hb).1
    have hDR : D ≠ R := ne_of hD hR (fun z => by cases z)
    refine ⟨_, (pss_cons (ps_if (pt_cmpR op_ge (pe_fld (pv 0) rfl) (pe_callB call_len_seq (by rfl) T.len PySem.boot_len (pa_cons (pe_fld (pv 0) rfl) pa_nil)) (nomark _))
    (pss_one ps_never)
    pss_nil)
    (pss_cons (ps_fldaug (pv 0) pe_int in_add)
    (pss_one (ps_ret (pe_ix ix_list (pe_fld (pv 0) rfl) (pe_op op_sub (pe_fld (pv 0) rfl) pe_int) (fun _ _ => rfl)))))), ?_⟩
    refine ⟨_, rfl, R, _, dx, _, _, rfl, hR, C.cl, C.nA, rdF_at D k, _, rfl, R, _, dx, _, _, rfl, hR, C.cl, C.nD, rdF_data D k, D, _, rfl, .inl (SqL.of hD), _, _, rfl, rfl, _, rfl, ite2 (fun t => ?_) (fun _ => ?_)⟩
    · have t1 : ((bv bs).length : Int) ≤ (k : Int) := of_decide_eq_true t
      rw [bv_len] at t1
      omega
    · refine ⟨_, rfl, R, _, dx, _, _, rfl, hR, C.cl, C.nA, rdF_at D k, _, _, rfl, rfl, dx, _, hR, rdF_len D k, ?_⟩
      have hR1 : (upd H R (.ins (CR K) dx (putF "at" (.int ((k : Int) + 1)) (rdF D k)))) R = some (.ins (CR K) dx (rdF D (k + 1))) := by
        rw [upd_same, ← rdF_put D k (k + 1)]
        rfl
      have hD1 : (upd H R (.ins (CR K) dx (putF "at" (.int ((k : Int) + 1)) (rdF D k)))) D = some (.lst (bv bs)) := by
        rw [upd_ne hDR]
        exact hD
      refine ⟨_, rfl, R, _, dx, _, _, rfl, hR1, C.cl, C.nD, rdF_data D (k + 1), _, rfl, R, _, dx, _, _, rfl, hR1, C.cl, C.nA, rdF_at D (k + 1), _, _, rfl, rfl, D, _, _, .int (b : Int), rfl, rfl, SqL.of hD1, at_of (j := k) (by omega) (by unfold bv; rw [List.getElem?_map, hb]; rfl), ?_⟩
      exact q _ (But.refl _ _).upd ⟨dx, D, hR1, hD1⟩
theorem ok_ReaderReadChoice {f : Addr} {fd : FuncData} (me : Meth K (CR K) "read_choice" f) (F : FD K "read_choice" "Reader.read_choice" sReaderReadChoice f fd) (C : RdCls K) (cReaderReadByte : C8.Met P w K mg base 1 (CR K) "read_byte" (spReadByte K) []) : C8.Met P w K mg base 2 (CR K) "read_choice" (spReadChoice K) [] := by
  refine met_mk C.cl me F (FunD.bindsN (ps := PReaderReadChoice) F fun _ _ _ _ _ _ us hl => match us, hl with | [_, _], _ => rfl) scReaderReadChoice (fun vs H Q E h => ?_) (fun cdv A outer s H vs Q E hr h => ?_)
  · obtain ⟨R, bs, k, b, n, rfl, _⟩ := h
    rfl
  · obtain ⟨R, bs, k, b, n, rfl, ⟨dx, D, hR, hD⟩, hb, hn, q⟩ := h
    refine ⟨_, (pss_cons (ps_set (i := 2) scReaderReadChoice.nd rfl (Or.inl rfl) (C8.pe_mt0 cReaderReadByte hr (by decide) (pv 0)))
    (pss_cons (ps_if (pt_cmpR op_ge (pv 2) (pv 1) (nomark _))
    (pss_one ps_never)
    pss_nil)
    (pss_one (ps_ret (pv 2))))), ?_⟩
    refine ⟨_, rfl, R, dx, _, rfl, hR, rdF_no D k (by decide +kernel) (by decide +kernel), R, bs, k, b, rfl, ⟨dx, D, hR, hD⟩, hb, fun H1 b1 r1 => ?_⟩
    refine ⟨_, rfl, _, rfl, _, _, rfl, rfl, _, rfl, ite2 (fun t => ?_) (fun _ => ?_)⟩
    · have t1 : (n : Int) ≤ (b : Int) := of_decide_eq_true t
      omega
    · exact ⟨_, rfl, q H1 b1 r1⟩
theorem ok_ReaderReadNumber {f : Addr} {fd : FuncData} (me : Meth K (CR K) "read_number" f) (F : FD K "read_number" "Reader.read_number" sReaderReadNumber f fd) (T : Glob K mg) (C : RdCls K) (cReaderReadByte : C8.Met P w K mg base 1 (CR K) "read_byte" (spReadByte K) []) : C8.Met P w K mg base 2 (CR K) "read_number" (spReadNumber K) [] := by
  refine met_mk C.cl me F (FunD.bindsN (ps := PReaderReadNumber) F fun _ _ _ _ _ _ us hl => match us, hl with | [_], _ => rfl) scReaderReadNumber (fun vs H Q E h => ?_) (fun cdv A outer s H vs Q E hr h => ?_)
  · obtain ⟨R, bs, k, n, rfl, _⟩ := h
    rfl
  · obtain ⟨R, bs, k, n, rfl, hR, hat, hl, q⟩ := h
    refine ⟨_, (pss_cons (ps_set (i := 1) scReaderReadNumber.nd rfl (Or.inl rfl) pe_int)
    (pss_cons (ps_set (i := 2) scReaderReadNumber.nd rfl (Or.inl rfl) pe_int)
    (pss_cons (ps_for PassesOwn.never rfl (pi_range1 (by rfl) T.range (pa_cons (C8.pe_gc (by rfl) T.cNUMBER_BYTES) pa_nil)) (pg_name (i := 3) scReaderReadNumber.nd rfl (Or.inl rfl))
    (pss_cons (ps_set (i := 4) scReaderReadNumber.nd rfl (Or.inl rfl) (C8.pe_mt0 cReaderReadByte hr (by decide) (pv 0)))
      (pss_cons (ps_aug (i := 1) scReaderReadNumber.nd rfl (Or.inl rfl) (pe_op op_mul (pe_op op_mod (pv 4) pe_int) (pv 2)) ip_add)
      (pss_cons (ps_if (pt_cmpR op_lt (pv 4) pe_int (nomark _))
      (pss_cons (ps_if (PW.pt (pw_and (pt_cmpR op_eq (pv 4) pe_int (nomark _)) (pw_and1 (pt_cmpR op_gt (pv 3) pe_int (nomark _)))))
        (pss_one ps_never)
        pss_nil)
        (pss_one (ps_ret (pv 1))))
      pss_nil)
      (pss_one (ps_set (i := 2) scReaderReadNumber.nd rfl (Or.inl rfl) (pe_op op_mul (pv 2) pe_int)))))))
    (pss_one ps_never)))), ?_⟩
    refine ⟨_, rfl, by decide, by decide, ?_⟩
    refine for_range (lo := 0) (n := 60) (fun i σ H' => ∃ (j m t f : Nat) (y z : Option V), σ = [some (.ref R), some (.int (t : Int)), some (.int (f : Int)), y, z] ∧ But R H H' ∧ RdAt K H' R bs j ∧ At bs j (numC m) ∧ t + m * f = n ∧ j + (numC m).length = k + (numC n).length ∧ (0 < i → 0 < m) ∧ i + (numC m).length ≤ 60)
      ⟨k, n, 0, 1, none, none, rfl, But.refl _ _, hR, hat, by omega, rfl, fun h => absurd h (Nat.lt_irrefl _), by omega⟩ ?_ ?_
    · rintro i σ H' hi ⟨j, m, t, f, y, z, rfl, bt, ⟨dx, D, hR', hD'⟩, ha, hs, hj, h0, hlen⟩
      have rd : ∃ b, bs[j]? = some b ∧ (m < 128 → b = m) ∧ (¬ m < 128 → b = m % 128 + 128 ∧ At bs (j + 1) (numC (m / 128))) := by
        by_cases hm : m < 128
        · rw [numC_small hm] at ha
          exact ⟨m, ha.cons.1, fun _ => rfl, fun z => absurd hm z⟩
        · rw [numC_big hm] at ha
          exact ⟨_, ha.cons.1, fun z => absurd z hm, fun _ => ⟨rfl, ha.cons.2⟩⟩
      obtain ⟨b, hb, hsm, hbg⟩ := rd
      have hbm : b % 128 = m % 128 := by
        by_cases hm : m < 128
        · rw [hsm hm]
        · rw [(hbg hm).1]; omega
      refine ⟨_, rfl, R, dx, _, rfl, hR', rdF_no D j (by decide +kernel) (by decide +kernel), R, bs, j, b, rfl, ⟨dx, D, hR', hD'⟩, hb, fun H2 b2 r2 => ?_⟩
      refine ⟨_, rfl, _, rfl, _, _, rfl, rfl, (show (0 : Int) < 128 by decide), _, rfl, _, _, rfl, rfl, .inl ⟨by omega, by omega⟩, _, _, rfl, rfl, ?_⟩
      have et : (t : Int) + (b : Int) % 128 * (f : Int) = ((t + b % 128 * f : Nat) : Int) := by
        rw [Int.natCast_add, Int.natCast_mul]
        rfl
      dsimp only
      rw [et]
      refine ⟨_, rfl, _, _, rfl, rfl, _, rfl, ite2 (fun c => ?_) (fun c => ?_)⟩
      · have c1 : (b : Int) < 128 := of_decide_eq_true c
        have hm : m < 128 := by
          by_cases hm : m < 128
          · exact hm
          · have := (hbg hm).1
            omega
        have e1 : b = m := hsm hm
        have el : (numC m).length = 1 := by rw [numC_small hm]; rfl
        refine ⟨_, rfl, rfl, _, rfl, ite2 (fun c2 => ?_) (fun c2 => ?_)⟩
        · have hb0 : (b : Int) = 0 := V.int.inj (of_decide_eq_true c2)
          refine ⟨_, rfl, _, _, rfl, rfl, _, rfl, ite2 (fun c3 => ?_) (fun c3 => ?_)⟩
          · have c4 : (0 : Int) < 0 + (i : Int) := of_decide_eq_true c3
            have := h0 (by omega)
            omega
          · refine ⟨_, rfl, ?_⟩
            have en : t + b % 128 * f = n := by
              rw [e1, ← hs, Nat.mod_eq_of_lt hm]
            rw [en]
            refine q H2 (bt.trans b2) ?_
            rw [show k + (numC n).length = j + 1 by omega]
            exact r2
        · refine iteF ⟨_, rfl, ?_⟩
          have en : t + b % 128 * f = n := by
            rw [e1, ← hs, Nat.mod_eq_of_lt hm]
          rw [en]
          refine q H2 (bt.trans b2) ?_
          rw [show k + (numC n).length = j + 1 by omega]
          exact r2
      · have c1 : ¬ (b : Int) < 128 := of_decide_eq_false (Bool.eq_false_iff.mpr c)
        have hm : ¬ m < 128 := fun z => by have := hsm z; omega
        have el : (numC m).length = (numC (m / 128)).length + 1 := by rw [numC_big hm]; rfl
        refine ⟨_, rfl, _, _, rfl, rfl, .inr ⟨by decide, by decide⟩, ?_⟩
        refine ⟨j + 1, m / 128, t + b % 128 * f, f * 128, some (.int (0 + (i : Int))), some (.int (b : Int)), ?_, bt.trans b2, r2, (hbg hm).2, ?_, by omega, fun _ => by omega, by omega⟩
        · show [some (V.ref R), some (V.int ((t + b % 128 * f : Nat) : Int)), some (V.int ((f : Int) * 128)), some (V.int (0 + (i : Int))), some (V.int (b : Int))] = _
          rw [Int.natCast_mul f 128]
          rfl
        · rw [hbm, ← hs]
          have e3 : m = m % 128 + 128 * (m / 128) := (Nat.mod_add_div m 128).symm
          have e4 : m * f = (m % 128) * f + (m / 128) * (f * 128) := by
            conv => lhs; rw [e3]
            rw [Nat.add_mul, Nat.mul_comm f 128, ← Nat.mul_assoc, Nat.mul_comm 128]
          omega
    · rintro σ H' ⟨j, m, t, f, y, z, rfl, bt, hR', ha, hs, hj, h0, hlen⟩
      have := numC_ne m
      omega
theorem ok_ReaderReadInteger {f : Addr} {fd : FuncData} (me : Meth K (CR K) "read_integer" f) (F : FD K "read_integer" "Reader.read_integer" sReaderReadInteger f fd) (C : RdCls K) (cReaderReadChoice : C8.Met P w K mg base 2 (CR K) "read_choice" (spReadChoice K) []) (cReaderReadNumber : C8.Met P w K mg base 2 (CR K) "read_number" (spReadNumber K) []) : C8.Met P w K mg base 3 (CR K) "read_integer" (spReadInteger K) [] := by
  refine met_mk C.cl me F (FunD.bindsN (ps := PReaderReadInteger) F fun _ _ _ _ _ _ us hl => match us, hl with | [_], _ => rfl) scReaderReadInteger (fun vs H Q E h => ?_) (fun cdv A outer s H vs Q E hr h => ?_)
  · obtain ⟨R, bs, k, i, rfl, _⟩ := h
    rfl
  · obtain ⟨R, bs, k, i, rfl, ⟨dx, D, hR, hD⟩, hat, hl, q⟩ := h
    obtain ⟨hb, hat2⟩ := At.cons (a := numC i.natAbs) hat
    refine ⟨_, (pss_cons (ps_set (i := 1) scReaderReadInteger.nd rfl (Or.inl rfl) (pe_cmpR op_eq (C8.pe_mt cReaderReadChoice hr (by decide) (pv 0) (pa_cons pe_int pa_nil)) pe_int (nomark _)))
    (pss_cons (ps_set (i := 2) scReaderReadInteger.nd rfl (Or.inl rfl) (C8.pe_mt0 cReaderReadNumber hr (by decide) (pv 0)))
    (pss_cons (ps_if (PW.pt (pw_and (pt_val (pv 1)) (pw_and1 (pt_cmpR op_eq (pv 2) pe_int (nomark _)))))
    (pss_one ps_never)
    pss_nil)
    (pss_one (ps_ret (pe_ifExp (pt_val (pv 1)) (pe_un un_neg (pv 2)) (pv 2))))))), ?_⟩
    refine ⟨_, rfl, R, dx, _, rfl, hR, rdF_no D k (by decide +kernel) (by decide +kernel), R, bs, k, signC i, 2, rfl, ⟨dx, D, hR, hD⟩, hb, (by unfold signC; split <;> decide), fun H1 b1 r1 => ?_⟩
    obtain ⟨dx1, D1, hR1, hD1⟩ := r1
    refine ⟨rfl, ?_⟩
    refine ⟨_, rfl, R, dx1, _, rfl, hR1, rdF_no D1 _ (by decide +kernel) (by decide +kernel), R, bs, k + 1, i.natAbs, rfl, ⟨dx1, D1, hR1, hD1⟩, hat2, hl, fun H2 b2 r2 => ?_⟩
    have fin : RdAt K H2 R bs (k + (intC i).length) := by
      have e : k + (intC i).length = k + 1 + (numC i.natAbs).length := by
        show k + ((numC i.natAbs).length + 1) = _
        omega
      rw [e]
      exact r2
    by_cases hi : i < 0
    · have e1 : decide (V.int ((signC i : Nat) : Int) = V.int 1) = true := by
        unfold signC
        rw [if_pos hi]
        rfl
      rw [e1]
      refine ⟨_, rfl, true, rfl, iteT ?_⟩
      refine ⟨_, rfl, rfl, _, rfl, ite2 (fun c => ?_) (fun _ => ?_)⟩
      · have := V.int.inj (of_decide_eq_true c)
        omega
      · refine ⟨_, rfl, true, rfl, iteT ?_⟩
        refine ⟨_, rfl, _, rfl, ?_⟩
        have e2 : -((i.natAbs : Nat) : Int) = i := by omega
        show Q (V.int (-((i.natAbs : Nat) : Int))) H2
        rw [e2]
        exact q H2 (b1.trans b2) fin
    · have e1 : decide (V.int ((signC i : Nat) : Int) = V.int 1) = false := by
        unfold signC
        rw [if_neg hi]
        rfl
      rw [e1]
      refine ⟨_, rfl, false, rfl, iteF (iteF ?_)⟩
      refine ⟨_, rfl, false, rfl, iteF ⟨_, rfl, ?_⟩⟩
      have e2 : ((i.natAbs : Nat) : Int) = i := by omega
      rw [e2]
      exact q H2 (b1.trans b2) fin
theorem ok_ReaderReadCount {f : Addr} {fd : FuncData} (me : Meth K (CR K) "read_count" f) (F : FD K "read_count" "Reader.read_count" sReaderReadCount f fd) (T : Glob K mg) (C : RdCls K) (cReaderReadNumber : C8.Met P w K mg base 2 (CR K) "read_number" (spReadNumber K) []) : C8.Met P w K mg base 3 (CR K) "read_count" (spReadCount K) [] := by
  refine met_mk C.cl me F (FunD.bindsN (ps := PReaderReadCount) F fun _ _ _ _ _ _ us hl => match us, hl with | [_], _ => rfl) scReaderReadCount (fun vs H Q E h => ?_) (fun cdv A outer s H vs Q E hr h => ?_)
  · obtain ⟨R, bs, k, n, rfl, _⟩ := h
    rfl
  · obtain ⟨R, bs, k, n, rfl, ⟨dx, D, hR, hD⟩, hat, hl, hle, q⟩ := h
    refine ⟨_, (pss_cons (ps_set (i := 1) scReaderReadCount.nd rfl (Or.inl rfl) (C8.pe_mt0 cReaderReadNumber hr (by decide) (pv 0)))
    (pss_cons (ps_if (pt_cmpR op_gt (pv 1) (pe_op op_sub (pe_callB call_len_seq (by rfl) T.len PySem.boot_len (pa_cons (pe_fld (pv 0) rfl) pa_nil)) (pe_fld (pv 0) rfl)) (nomark _))
    (pss_one ps_never)
    pss_nil)
    (pss_one (ps_ret (pv 1))))), ?_⟩
    refine ⟨_, rfl, R, dx, _, rfl, hR, rdF_no D k (by decide +kernel) (by decide +kernel), R, bs, k, n, rfl, ⟨dx, D, hR, hD⟩, hat, hl, fun H1 b1 r1 => ?_⟩
    obtain ⟨dx1, D1, hR1, hD1⟩ := id r1
    refine ⟨_, rfl, _, rfl, R, _, dx1, _, _, rfl, hR1, C.cl, C.nD, rdF_data D1 _, D1, _, rfl, .inl (SqL.of hD1), _, rfl, R, _, dx1, _, _, rfl, hR1, C.cl, C.nA, rdF_at D1 _, _, _, rfl, rfl, _, _, rfl, rfl, _, rfl, ite2 (fun c => ?_) (fun _ => ?_)⟩
    · have c1 : ((bv bs).length : Int) - ((k + (numC n).length : Nat) : Int) < (n : Int) := of_decide_eq_true c
      rw [bv_len] at c1
      omega
    · exact ⟨_, rfl, q H1 b1 r1⟩
theorem ok_ReaderReadCharacter {f : Addr} {fd : FuncData} (me : Meth K (CR K) "read_character" f) (F : FD K "read_character" "Reader.read_character" sReaderReadCharacter f fd) (T : Glob K mg) (C : RdCls K) (cReaderReadNumber : C8.Met P w K mg base 2 (CR K) "read_number" (spReadNumber K) []) : C8.Met P w K mg base 3 (CR K) "read_character" (spReadCharacter K) [] := by
  refine met_mk C.cl me F (FunD.bindsN (ps := PReaderReadCharacter) F fun _ _ _ _ _ _ us hl => match us, hl with | [_], _ => rfl) scReaderReadCharacter (fun vs H Q E h => ?_) (fun cdv A outer s H vs Q E hr h => ?_)
  · obtain ⟨R, bs, k, c, rfl, _⟩ := h
    rfl
  · obtain ⟨R, bs, k, c, rfl, ⟨dx, D, hR, hD⟩, hb, hc, q⟩ := h
    have hat : At bs k (numC c) := by
      rw [signLe hc]
      refine ⟨bs.drop (k + 1), ?_⟩
      have hk := (List.getElem?_eq_some_iff.mp hb).1
      rw [List.drop_eq_getElem_cons hk]
      have e : bs[k] = c := (List.getElem?_eq_some_iff.mp hb).2
      rw [e]
      rfl
    refine ⟨_, (pss_cons (ps_set (i := 1) scReaderReadCharacter.nd rfl (Or.inl rfl) (C8.pe_mt0 cReaderReadNumber hr (by decide) (pv 0)))
    (pss_cons (ps_if (pt_chain op_le op_lt pe_int (pv 1) pe_int)
    (pss_one (ps_ret (pe_item_str (C8.pe_gc (by rfl) T.cBEFORE_PERCENT) (pe_op op_sub (pv 1) pe_int) (fun _ _ => rfl))))
    pss_nil)
    (pss_cons (ps_if (pt_chain op_le op_lt pe_int (pv 1) pe_int)
    (pss_one (ps_ret (pe_item_str (C8.pe_gc (by rfl) T.cAFTER_PERCENT) (pe_op op_sub (pv 1) pe_int) (fun _ _ => rfl))))
    pss_nil)
    (pss_one ps_never)))), ?_⟩
    refine ⟨_, rfl, R, dx, _, rfl, hR, rdF_no D k (by decide +kernel) (by decide +kernel), R, bs, k, c, rfl, ⟨dx, D, hR, hD⟩, hat, by rw [signLe hc]; exact (by decide : 1 ≤ 60), fun H1 b1 r1 => ?_⟩
    rw [signLe hc] at r1
    obtain ⟨c1, c2, c3⟩ := hc
    refine ⟨_, rfl, _, _, rfl, rfl, _, rfl, ?_⟩
    have d1 : decide ((32 : Int) ≤ (c : Int)) = true := decide_eq_true (by omega)
    rw [if_pos d1]
    refine ⟨_, _, rfl, rfl, _, rfl, ite2 (fun e => ?_) (fun e => ?_)⟩
    · have e1 : (c : Int) < 37 := of_decide_eq_true e
      refine ⟨_, rfl, _, _, rfl, rfl, befS, _, c, rfl, rfl, by omega, by omega, ?_, ?_, ?_⟩
      · have : befS.length = 5 := by decide +kernel
        omega
      · have key : ∀ i, i < 5 → befS.cps[i]? = some (i + 32) := by decide +kernel
        have e2 : ((c : Int) - 32).toNat = c - 32 := by omega
        rw [e2, key (c - 32) (by omega)]
        congr 1
        omega
      · exact q H1 b1 r1
    · have e1 : ¬ (c : Int) < 37 := of_decide_eq_false (Bool.eq_false_iff.mpr e)
      refine ⟨_, rfl, _, _, rfl, rfl, _, rfl, ?_⟩
      have d2 : decide ((38 : Int) ≤ (c : Int)) = true := decide_eq_true (by omega)
      rw [if_pos d2]
      refine ⟨_, _, rfl, rfl, _, rfl, ite2 (fun _ => ?_) (fun e => absurd (decide_eq_true (by omega)) e)⟩
      refine ⟨_, rfl, _, _, rfl, rfl, aftS, _, c, rfl, rfl, by omega, by omega, ?_, ?_, ?_⟩
      · have : aftS.length = 89 := by decide +kernel
        omega
      · have key : ∀ i, i < 89 → aftS.cps[i]? = some (i + 38) := by decide +kernel
        have e2 : ((c : Int) - 38).toNat = c - 38 := by omega
        rw [e2, key (c - 38) (by omega)]
        congr 1
        omega
      · exact q H1 b1 r1
end
end K9

set_option Elab.async false
set_option linter.all false
set_option maxRecDepth 100000
set_option maxHeartbeats 4000000
/-! The Reader: strings, values, rows. -/
namespace K9
open PySem PySem.Spec PyProof.Rows L2
theorem joinL_nil : ∀ ls : List (List Nat), TL.joinL [] ls = ls.flatten
  | [] => rfl
  | [x] => by simp [TL.joinL]
  | x :: y :: r => by
    have ih := joinL_nil (y :: r)
    rw [List.flatten_cons, ← ih]
    simp [TL.joinL]
theorem join_signs (x : Str) : Txt.join (Str.ofString "") (x.cps.toList.map fun c => (⟨#[c]⟩ : Str)) = x := by
  apply TL.ext_tl
  rw [TL.join_eq, TL.tl_join]
  have e : TL.tl (Str.ofString "") = [] := rfl
  rw [e, joinL_nil, List.map_map]
  show (List.map (fun c => [c]) x.cps.toList).flatten = x.cps.toList
  generalize x.cps.toList = l
  induction l with
  | nil => rfl
  | cons c r ih => rw [List.map_cons, List.flatten_cons, ih]; rfl
def spReadString (K : PySem.W.Frag) : Sp := fun vs H Q _ => ∃ (R : Addr) (bs : List Nat) (k : Nat) (x : Str), vs = [.ref R] ∧ RdAt K H R bs k ∧ At bs k (strC x) ∧ x.cps.size ≤ 30 ∧ (∀ c ∈ x.cps.toList, signOk c) ∧ RdTo K H R bs (k + (strC x).length) Q (.str x)
def spReadValue (K : PySem.W.Frag) : Sp := fun vs H Q _ => ∃ (R : Addr) (bs : List Nat) (k : Nat) (c : Cell), vs = [.ref R] ∧ RdAt K H R bs k ∧ At bs k (cellC c) ∧ CellOk c ∧ RdTo K H R bs (k + (cellC c).length) Q c.v
def spReadRow (K : PySem.W.Frag) : Sp := fun vs H Q _ => ∃ (R : Addr) (bs : List Nat) (k : Nat) (r : Row), vs = [.ref R] ∧ RdAt K H R bs k ∧ At bs k (rowC r) ∧ RowOk r ∧
  ∀ (H' : Hp) (p : Addr), But R H H' → RdAt K H' R bs (k + (rowC r).length) → H p = none → H' p = some (.tup (rowV r)) → Q (.ref p) H'
section
variable {P : Program} {w : World} {K : PySem.W.Frag} {mg : Str → Option Value} {base : Heap}
theorem ok_ReaderReadString {f : Addr} {fd : FuncData} (me : Meth K (CR K) "read_string" f) (F : FD K "read_string" "Reader.read_string" sReaderReadString f fd) (T : Glob K mg) (C : RdCls K) (cReaderReadCount : C8.Met P w K mg base 3 (CR K) "read_count" (spReadCount K) []) (cReaderReadCharacter : C8.Met P w K mg base 3 (CR K) "read_character" (spReadCharacter K) []) : C8.Met P w K mg base 4 (CR K) "read_string" (spReadString K) [] := by
  refine met_mk C.cl me F (FunD.bindsN (ps := PReaderReadString) F fun _ _ _ _ _ _ us hl => match us, hl with | [_], _ => rfl) scReaderReadString (fun vs H Q E h => ?_) (fun cdv A outer s H vs Q E hr h => ?_)
  · obtain ⟨R, bs, k, x, rfl, _⟩ := h
    rfl
  · obtain ⟨R, bs, k, x, rfl, ⟨dx, D, hR, hD⟩, hat, hx, hc, q⟩ := h
    rw [strC_eq hc hx] at hat
    have hat0 : At bs k (numC x.cps.size ++ x.cps.toList) := by
      rw [numC_small (by omega)]
      exact hat
    obtain ⟨ha1, ha2⟩ := hat0.app
    have hn1 : (numC x.cps.size).length = 1 := by rw [numC_small (by omega)]; rfl
    rw [hn1] at ha2
    have hlen := At.len hat (by simp)
    rw [List.length_cons, Array.length_toList] at hlen
    refine ⟨_, (pss_one (ps_ret (pe_join pe_str (pe_lc (own := [("_", 1)]) (g := gName 1) (tt := tYes) rfl scReaderReadString.nd (pi_range1 (by rfl) T.range (pa_cons (C8.pe_mt0 cReaderReadCount hr (by decide) (pv 0)) pa_nil)) (blkOk_by (own := [("_", 1)]) (N := NReaderReadString) (sc := defScope sReaderReadString) (by decide +kernel)) (fun _ _ _ _ _ => pg_name (i := 1) scReaderReadString.nd rfl (Or.inl rfl)) (fun _ _ _ _ _ => pts_nil) (fun _ _ _ _ _ => (C8.pe_mt0 cReaderReadCharacter hr (by decide) (pv 0))))))), ?_⟩
    refine ⟨⟨_, rfl⟩, ?_⟩
    refine ⟨_, rfl, R, dx, _, rfl, hR, rdF_no D k (by decide +kernel) (by decide +kernel), R, bs, k, x.cps.size, rfl, ⟨dx, D, hR, hD⟩, ha1, by rw [hn1]; decide, by rw [hn1]; omega, fun H1 b1 r1 => ?_⟩
    rw [hn1] at r1
    refine ⟨_, rfl, by omega, by omega, fun L nL => ?_⟩
    have r1' := r1
    obtain ⟨dx1, D1, hR1, hD1⟩ := r1
    have hRL : R ≠ L := ne_of_none hR1 nL
    have b2 : But R H (upd H1 L (.lst [])) := b1.trans (Same.but (same_new nL))
    refine lc_range (lo := 0) (n := ((x.cps.size : Nat) : Int).toNat) (fun i H' => But R H (del H' L) ∧ RdAt K H' R bs (k + 1 + i) ∧ H' L = some (.lst ((x.cps.toList.take i).map fun c => V.str ⟨#[c]⟩))) ⟨?_, ?_, upd_same⟩ ?_ ?_
    · intro b o n e
      have := b1 b o n e
      rw [del_upd, del_ne (ne_of_none this nL)]
      exact this
    · exact ⟨dx1, D1, by rw [upd_ne hRL]; exact hR1, by rw [upd_ne (ne_of_none hD1 nL)]; exact hD1⟩
    · rintro i H' hi ⟨bt, ⟨dx2, D2, hR2, hD2⟩, hL⟩
      have hi2 : i < x.cps.toList.length := by
        rw [Array.length_toList]
        omega
      have hci : x.cps.toList[i]? = some x.cps.toList[i] := List.getElem?_eq_getElem hi2
      have hok := hc _ (List.mem_of_getElem? hci)
      have hb : bs[k + 1 + i]? = some x.cps.toList[i] := by
        obtain ⟨r, e⟩ := ha2
        have := congrArg (fun l => l[i]?) e
        rw [List.getElem?_drop, List.getElem?_append_left hi2] at this
        rw [this]
        exact hci
      refine ⟨rfl, ?_⟩
      refine ⟨_, rfl, R, dx2, _, rfl, hR2, rdF_no D2 _ (by decide +kernel) (by decide +kernel), R, bs, k + 1 + i, _, rfl, ⟨dx2, D2, hR2, hD2⟩, hb, hok, fun H3 b3 r3 => ?_⟩
      have hLR : L ≠ R := fun z => by rw [z, hR2] at hL; cases hL
      have hL3 := b3 _ _ hLR hL
      obtain ⟨dx3, D3, hR3, hD3⟩ := r3
      refine ⟨_, hL3, ?_, ?_, ?_, ?_⟩
      · rw [List.length_map, List.length_take]
        exact sz_lt (by omega)
      · rw [del_upd]
        intro b o n e
        have e1 := bt b o n e
        have nb : b ≠ L := fun z => by rw [z, del_same] at e1; cases e1
        rw [del_ne nb] at e1
        rw [del_ne nb]
        exact b3 _ _ n e1
      · have hDL : D3 ≠ L ∨ D3 = L := by
          by_cases z : D3 = L
          · exact .inr z
          · exact .inl z
        rcases hDL with z | z
        · exact ⟨dx3, D3, by rw [upd_ne hLR.symm]; exact hR3, by rw [upd_ne z]; exact hD3⟩
        · exfalso
          rw [z, hL3] at hD3
          have e := HO.lst.inj (Option.some.inj hD3)
          have e2 := congrArg List.length e
          rw [bv_len, List.length_map, List.length_take] at e2
          omega
      · rw [upd_same, List.take_add_one, hci, List.map_append]
        rfl
    · rintro H' ⟨bt, r2, hL⟩
      rw [Int.toNat_natCast] at r2 hL
      have ef : x.cps.toList.take x.cps.size = x.cps.toList := List.take_of_length_le (by rw [Array.length_toList]; exact Nat.le_refl _)
      rw [ef] at hL
      refine ⟨_, L, x.cps.toList.map fun c => (⟨#[c]⟩ : Str), rfl, rfl, .inl (SqL.of (by rw [List.map_map]; exact hL)), ?_, ?_⟩
      · rw [List.map_map, List.length_map, Array.length_toList]
        have e : ∀ l : List Nat, (l.map ((fun y : Str => y.length) ∘ fun c => (⟨#[c]⟩ : Str))).sum = l.length := fun l => by
          induction l with
          | nil => rfl
          | cons c r ih => rw [List.map_cons, List.sum_cons, ih, List.length_cons]; show 1 + r.length = _; omega
        rw [e, Array.length_toList]
        have : (Str.ofString "").length = 0 := rfl
        rw [this]
        omega
      · rw [join_signs]
        refine q H' (fun b o n e => ?_) ?_
        · have e1 := bt b o n e
          exact del_le _ _ _ _ e1
        · rw [strC_eq hc hx, List.length_cons, Array.length_toList, show k + (x.cps.size + 1) = k + 1 + x.cps.size by omega]
          exact r2
theorem ok_ReaderReadValue {f : Addr} {fd : FuncData} (me : Meth K (CR K) "read_value" f) (F : FD K "read_value" "Reader.read_value" sReaderReadValue f fd) (C : RdCls K) (cReaderReadChoice : C8.Met P w K mg base 2 (CR K) "read_choice" (spReadChoice K) []) (cReaderReadInteger : C8.Met P w K mg base 3 (CR K) "read_integer" (spReadInteger K) []) (cReaderReadString : C8.Met P w K mg base 4 (CR K) "read_string" (spReadString K) []) : C8.Met P w K mg base 5 (CR K) "read_value" (spReadValue K) [] := by
  refine met_mk C.cl me F (FunD.bindsN (ps := PReaderReadValue) F fun _ _ _ _ _ _ us hl => match us, hl with | [_], _ => rfl) scReaderReadValue (fun vs H Q E h => ?_) (fun cdv A outer s H vs Q E hr h => ?_)
  · obtain ⟨R, bs, k, x, rfl, _⟩ := h
    rfl
  · obtain ⟨R, bs, k, c, rfl, ⟨dx, D, hR, hD⟩, hat, hc, q⟩ := h
    refine ⟨_, (pss_cons (ps_if (pt_cmpR op_eq (C8.pe_mt cReaderReadChoice hr (by decide) (pv 0) (pa_cons pe_int pa_nil)) pe_int (nomark _))
    (pss_one (ps_ret (C8.pe_mt0 cReaderReadInteger hr (by decide) (pv 0))))
    pss_nil)
    (pss_one (ps_ret (C8.pe_mt0 cReaderReadString hr (by decide) (pv 0))))), ?_⟩
    cases c with
    | n i =>
      obtain ⟨hb, hat2⟩ := At.cons (a := intC i) hat
      refine ⟨_, rfl, R, dx, _, rfl, hR, rdF_no D k (by decide +kernel) (by decide +kernel), R, bs, k, 0, 2, rfl, ⟨dx, D, hR, hD⟩, hb, by decide, fun H1 b1 r1 => ?_⟩
      obtain ⟨dx1, D1, hR1, hD1⟩ := r1
      refine ⟨rfl, _, rfl, ite2 (fun _ => ?_) (fun t => absurd (decide_eq_true rfl) t)⟩
      refine ⟨_, rfl, R, dx1, _, rfl, hR1, rdF_no D1 _ (by decide +kernel) (by decide +kernel), R, bs, k + 1, i, rfl, ⟨dx1, D1, hR1, hD1⟩, hat2, Nat.le_trans (numLe hc) (by decide), fun H2 b2 r2 => ?_⟩
      refine q H2 (b1.trans b2) ?_
      show RdAt K H2 R bs (k + ((intC i).length + 1))
      rw [show k + ((intC i).length + 1) = k + 1 + (intC i).length by omega]
      exact r2
    | t x =>
      obtain ⟨hb, hat2⟩ := At.cons (a := strC x) hat
      refine ⟨_, rfl, R, dx, _, rfl, hR, rdF_no D k (by decide +kernel) (by decide +kernel), R, bs, k, 1, 2, rfl, ⟨dx, D, hR, hD⟩, hb, by decide, fun H1 b1 r1 => ?_⟩
      obtain ⟨dx1, D1, hR1, hD1⟩ := r1
      refine ⟨rfl, _, rfl, ite2 (fun t => ?_) (fun _ => ?_)⟩
      · have := V.int.inj (of_decide_eq_true t)
        cases this
      · refine ⟨_, rfl, R, dx1, _, rfl, hR1, rdF_no D1 _ (by decide +kernel) (by decide +kernel), R, bs, k + 1, x, rfl, ⟨dx1, D1, hR1, hD1⟩, hat2, hc.1, hc.2, fun H2 b2 r2 => ?_⟩
        refine q H2 (b1.trans b2) ?_
        show RdAt K H2 R bs (k + ((strC x).length + 1))
        rw [show k + ((strC x).length + 1) = k + 1 + (strC x).length by omega]
        exact r2
theorem flat_take {α : Type} {ls : List (List α)} {i : Nat} {x : List α} (h : ls[i]? = some x) : ls.flatten = (ls.take i).flatten ++ (x ++ (ls.drop (i + 1)).flatten) := by
  have hi := (List.getElem?_eq_some_iff.mp h)
  obtain ⟨h1, h2⟩ := hi
  have e : ls = ls.take i ++ (x :: ls.drop (i + 1)) := by
    rw [← h2, List.getElem_cons_drop, List.take_append_drop]
  conv => lhs; rw [e]
  rw [List.flatten_append, List.flatten_cons]
theorem ok_ReaderReadRow {f : Addr} {fd : FuncData} (me : Meth K (CR K) "read_row" f) (F : FD K "read_row" "Reader.read_row" sReaderReadRow f fd) (T : Glob K mg) (C : RdCls K) (cReaderReadCount : C8.Met P w K mg base 3 (CR K) "read_count" (spReadCount K) []) (cReaderReadValue : C8.Met P w K mg base 5 (CR K) "read_value" (spReadValue K) []) : C8.Met P w K mg base 6 (CR K) "read_row" (spReadRow K) [] := by
  refine met_mk C.cl me F (FunD.bindsN (ps := PReaderReadRow) F fun _ _ _ _ _ _ us hl => match us, hl with | [_], _ => rfl) scReaderReadRow (fun vs H Q E h => ?_) (fun cdv A outer s H vs Q E hr h => ?_)
  · obtain ⟨R, bs, k, x, rfl, _⟩ := h
    rfl
  · obtain ⟨R, bs, k, r, rfl, ⟨dx, D, hR, hD⟩, hat, hrok, q⟩ := h
    have h4 := hrok.1
    have hat0 : At bs k (numC r.length ++ (r.map cellC).flatten) := by
      have e : rowC r = numC r.length ++ (r.map cellC).flatten := by
        unfold rowC listC
        rw [List.length_map]
      rw [← e]
      exact hat
    obtain ⟨ha1, ha2⟩ := hat0.app
    have hn1 : (numC r.length).length = 1 := by rw [numC_small (by omega)]; rfl
    rw [hn1] at ha2
    have hlen := At.len hat0 (by rw [List.length_append, hn1]; omega)
    rw [List.length_append, hn1] at hlen
    have hcl : ∀ l : Row, l.length ≤ (l.map cellC).flatten.length := fun l => by
      induction l with
      | nil => exact Nat.le_refl _
      | cons c l ih =>
        rw [List.map_cons, List.flatten_cons, List.length_append, List.length_cons]
        have : 0 < (cellC c).length := by cases c <;> exact Nat.zero_lt_succ _
        omega
    have hcl2 := hcl r
    refine ⟨_, (pss_one (ps_ret (pe_callTy call_tuple_of (by rfl) T.tuple (by decide +kernel) (pa_cons (pe_lc (own := [("_", 1)]) (g := gName 1) (tt := tYes) rfl scReaderReadRow.nd (pi_range1 (by rfl) T.range (pa_cons (C8.pe_mt0 cReaderReadCount hr (by decide) (pv 0)) pa_nil)) (blkOk_by (own := [("_", 1)]) (N := NReaderReadRow) (sc := defScope sReaderReadRow) (by decide +kernel)) (fun _ _ _ _ _ => pg_name (i := 1) scReaderReadRow.nd rfl (Or.inl rfl)) (fun _ _ _ _ _ => pts_nil) (fun _ _ _ _ _ => (C8.pe_mt0 cReaderReadValue hr (by decide) (pv 0)))) pa_nil)))), ?_⟩
    refine ⟨_, rfl, R, dx, _, rfl, hR, rdF_no D k (by decide +kernel) (by decide +kernel), R, bs, k, r.length, rfl, ⟨dx, D, hR, hD⟩, ha1, by rw [hn1]; decide, by rw [hn1]; omega, fun H1 b1 r1 => ?_⟩
    rw [hn1] at r1
    refine ⟨_, rfl, by omega, by omega, fun L nL => ?_⟩
    obtain ⟨dx1, D1, hR1, hD1⟩ := r1
    have hRL : R ≠ L := ne_of_none hR1 nL
    refine lc_range (lo := 0) (n := ((r.length : Nat) : Int).toNat) (fun i H' => But R H (del H' L) ∧ RdAt K H' R bs (k + 1 + ((r.take i).map cellC).flatten.length) ∧ H' L = some (.lst (rowV (r.take i)))) ⟨?_, ?_, upd_same⟩ ?_ ?_
    · intro b o n e
      have := b1 b o n e
      rw [del_upd, del_ne (ne_of_none this nL)]
      exact this
    · exact ⟨dx1, D1, by rw [upd_ne hRL]; exact hR1, by rw [upd_ne (ne_of_none hD1 nL)]; exact hD1⟩
    · rintro i H' hi ⟨bt, ⟨dx2, D2, hR2, hD2⟩, hL⟩
      have hi2 : i < r.length := by omega
      have hci : r[i]? = some r[i] := List.getElem?_eq_getElem hi2
      have hok := hrok.2 _ (List.mem_of_getElem? hci)
      have hat3 : At bs (k + 1 + ((r.take i).map cellC).flatten.length) (cellC r[i]) := by
        have e := flat_take (ls := r.map cellC) (i := i) (x := cellC r[i]) (by rw [List.getElem?_map, hci]; rfl)
        rw [e] at ha2
        rw [List.map_take]
        exact ha2.app.2.app.1
      refine ⟨rfl, ?_⟩
      refine ⟨_, rfl, R, dx2, _, rfl, hR2, rdF_no D2 _ (by decide +kernel) (by decide +kernel), R, bs, _, r[i], rfl, ⟨dx2, D2, hR2, hD2⟩, hat3, hok, fun H3 b3 r3 => ?_⟩
      have hLR : L ≠ R := fun z => by rw [z, hR2] at hL; cases hL
      have hL3 := b3 _ _ hLR hL
      obtain ⟨dx3, D3, hR3, hD3⟩ := r3
      have etk : r.take (i + 1) = r.take i ++ [r[i]] := by rw [List.take_add_one, hci]; rfl
      refine ⟨_, hL3, ?_, ?_, ?_, ?_⟩
      · unfold rowV
        rw [List.length_map, List.length_take]
        exact sz_lt (by omega)
      · rw [del_upd]
        intro b o n e
        have e1 := bt b o n e
        have nb : b ≠ L := fun z => by rw [z, del_same] at e1; cases e1
        rw [del_ne nb] at e1
        rw [del_ne nb]
        exact b3 _ _ n e1
      · rw [etk, List.map_append, List.flatten_append, List.length_append]
        have e5 : (List.map cellC [r[i]]).flatten = cellC r[i] := by simp
        rw [e5, ← Nat.add_assoc]
        by_cases z : D3 = L
        · exfalso
          rw [z, hL3] at hD3
          have e := HO.lst.inj (Option.some.inj hD3)
          have e2 := congrArg List.length e
          unfold rowV at e2
          rw [bv_len, List.length_map, List.length_take] at e2
          omega
        · exact ⟨dx3, D3, by rw [upd_ne hLR.symm]; exact hR3, by rw [upd_ne z]; exact hD3⟩
      · rw [upd_same, etk]
        unfold rowV
        rw [List.map_append]
        rfl
    · rintro H' ⟨bt, r2, hL⟩
      rw [Int.toNat_natCast, List.take_length] at r2 hL
      refine ⟨L, _, rfl, .inl ⟨SqL.of hL, fun p np => ?_⟩⟩
      have npL : p ≠ L := fun z => by rw [z, hL] at np; cases np
      obtain ⟨dx4, D4, hR4, hD4⟩ := r2
      refine q _ p (fun b o n e => ?_) ?_ ?_ upd_same
      · have e1 := del_le _ _ _ _ (bt b o n e)
        rw [upd_ne (ne_of_none e1 np)]
        exact e1
      · refine ⟨dx4, D4, ?_, by rw [upd_ne (ne_of_none hD4 np)]; exact hD4⟩
        rw [upd_ne (ne_of_none hR4 np), hR4]
        congr 3
        show k + 1 + _ = k + (numC (r.map cellC).length ++ (r.map cellC).flatten).length
        rw [List.length_map, List.length_append, hn1]
        omega
      · cases e : H p with
        | none => rfl
        | some o =>
          by_cases z : p = R
          · rw [z, hR4] at np
            cases np
          · have e1 := del_le _ _ _ _ (bt p o z e)
            rw [np] at e1
            cases e1
end
end K9

set_option Elab.async false
set_option linter.all false
set_option maxRecDepth 100000
set_option maxHeartbeats 4000000
/-! The law's comparison. -/
namespace K9
open PySem PySem.Spec PyProof.Rows L2
theorem tyx_list {K : PySem.W.Frag} {H : Hp} {a : Addr} {xs : List V} (h : SqL K H a xs) : TyX K H (.ref a) (.type "list") := by
  rcases h with (h | ⟨o, h⟩) | ⟨o, its, n, h1, h2, _⟩
  · exact .base (.lst h)
  · exact .base (.frz h)
  · exact .kList h1 h2
theorem tyx_tup {K : PySem.W.Frag} {H : Hp} {a : Addr} {xs : List V} (h : SqT K H a xs) : TyX K H (.ref a) (.type "tuple") := by
  rcases h with (h | ⟨o, h⟩) | ⟨o, its, n, h1, h2, _⟩
  · exact .base (.tup h)
  · exact .fTuple h
  · exact .kTuple h1 h2
theorem kitA_l {K : PySem.W.Frag} : PySem.W.kitAny K (.type "list") [.type "list", .type "tuple"] = some true := by
  unfold PySem.W.kitAny
  rw [kit_ty (K := K) (r := true) (by decide +kernel)]
theorem kitA_t {K : PySem.W.Frag} : PySem.W.kitAny K (.type "tuple") [.type "list", .type "tuple"] = some true := by
  unfold PySem.W.kitAny
  rw [kit_ty (K := K) (r := false) (by decide +kernel)]
  unfold PySem.W.kitAny
  rw [kit_ty (K := K) (r := true) (by decide +kernel)]
theorem kitA_i {K : PySem.W.Frag} : PySem.W.kitAny K (.type "int") [.type "list", .type "tuple"] = some false := by
  unfold PySem.W.kitAny
  rw [kit_ty (K := K) (r := false) (by decide +kernel)]
  unfold PySem.W.kitAny
  rw [kit_ty (K := K) (r := false) (by decide +kernel)]
  rfl
theorem kitA_s {K : PySem.W.Frag} : PySem.W.kitAny K (.type "str") [.type "list", .type "tuple"] = some false := by
  unfold PySem.W.kitAny
  rw [kit_ty (K := K) (r := false) (by decide +kernel)]
  unfold PySem.W.kitAny
  rw [kit_ty (K := K) (r := false) (by decide +kernel)]
  rfl
/-- equal data, n deep: lists or tuples of such -/
def SameD (K : PySem.W.Frag) (H : Hp) : Nat → V → V → Prop
  | 0, x, y => ∃ c : Cell, x = c.v ∧ y = c.v
  | n + 1, x, y => ∃ a b xs ys, x = .ref a ∧ y = .ref b ∧ ((SqL K H a xs ∧ SqL K H b ys) ∨ (SqT K H a xs ∧ SqT K H b ys)) ∧ Paired (SameD K H n) xs ys ∧ xs.length ≤ 1000
theorem SameD.same {K : PySem.W.Frag} {H H' : Hp} (e : Same H H') : ∀ {n : Nat} {x y : V}, SameD K H n x y → SameD K H' n x y
  | 0, _, _, h => h
  | n + 1, _, _, h => by
    obtain ⟨a, b, xs, ys, rfl, rfl, hs, hp, hl⟩ := h
    refine ⟨a, b, xs, ys, rfl, rfl, ?_, Paired.mapP hp fun _ _ q => SameD.same e q, hl⟩
    rcases hs with ⟨h1, h2⟩ | ⟨h1, h2⟩
    · exact .inl ⟨Same.seq e h1, Same.seq e h2⟩
    · exact .inr ⟨Same.tup e h1, Same.tup e h2⟩
def spLawIsInteger : Sp := fun vs H Q _ => ∃ i : Int, vs = [.int i] ∧ Q (.bl true) H
def spLawSame (K : PySem.W.Frag) (n : Nat) : Sp := fun vs H Q _ => ∃ x y, vs = [x, y] ∧ SameD K H n x y ∧ ∀ H', Same H H' → Q (.bl true) H'
section
variable {P : Program} {w : World} {K : PySem.W.Frag} {mg : Str → Option Value} {base : Heap}
theorem ok_LawIsInteger {f : Addr} {fd : FuncData} (F : FD K "_law_is_integer" "_law_is_integer" sLawIsInteger f fd) (hm : mg "_law_is_integer" = some (.ref f)) (T : Glob K mg) : C8.Cal P w K mg base 1 "_law_is_integer" spLawIsInteger [] := by
  refine cal_mk F hm (FunD.bindsN (ps := PLawIsInteger) F fun _ _ _ _ _ _ us hl => match us, hl with | [_], _ => rfl) scLawIsInteger (fun vs H Q E h => ?_) (fun cdv A outer s H vs Q E hr h => ?_)
  · obtain ⟨i, rfl, _⟩ := h
    rfl
  · obtain ⟨i, rfl, q⟩ := h
    refine ⟨_, (pss_one (ps_ret (pe_and (pe_callB call_isi (by rfl) T.isinstance (by decide +kernel) (pa_cons (pv 0) (pa_cons (pe_bltn (v := .ty "int") (by rfl) T.int (by decide +kernel) rfl) pa_nil))) (pe_one (pe_not (pe_callB call_isi (by rfl) T.isinstance (by decide +kernel) (pa_cons (pv 0) (pa_cons (pe_bltn (v := .ty "bool") (by rfl) T.bool (by decide +kernel) rfl) pa_nil)))))))), ?_⟩
    refine ⟨_, rfl, _, _, _, _, true, rfl, .ty _, .base (.int i), kit_ty (by decide +kernel), true, rfl, iteT ?_⟩
    exact ⟨_, rfl, _, _, _, _, false, rfl, .ty _, .base (.int i), kit_ty (by decide +kernel), false, rfl, q⟩
theorem ok_LawSame0 {f : Addr} {fd : FuncData} (F : FD K "_law_same" "_law_same" sLawSame f fd) (hm : mg "_law_same" = some (.ref f)) (T : Glob K mg) (cLawIsInteger : C8.Cal P w K mg base 1 "_law_is_integer" spLawIsInteger []) : C8.Cal P w K mg base 2 "_law_same" (spLawSame K 0) [] := by
  refine cal_mk F hm (FunD.bindsN (ps := PLawSame) F fun _ _ _ _ _ _ us hl => match us, hl with | [_, _], _ => rfl) scLawSame (fun vs H Q E h => ?_) (fun cdv A outer s H vs Q E hr h => ?_)
  · obtain ⟨x, y, rfl, _⟩ := h
    rfl
  · obtain ⟨x, y, rfl, ⟨c, rfl, rfl⟩, q⟩ := h
    refine ⟨_, (pss_cons (ps_if (pt_val (pe_callB call_isiT (by rfl) T.isinstance (by decide +kernel) (pa_cons (pv 1) (pa_cons (pe_tup (pa_cons (pe_bltn (v := .ty "list") (by rfl) T.list (by decide +kernel) rfl) (pa_cons (pe_bltn (v := .ty "tuple") (by rfl) T.tuple (by decide +kernel) rfl) pa_nil))) pa_nil))))
    pss_never
    pss_nil)
    (pss_cons (ps_if (pt_cmpR op_isN (pv 1) pe_non (nomark _))
    (pss_one (ps_ret (pe_cmpR op_isN (pv 0) pe_non (nomark _))))
    pss_nil)
    (pss_cons (ps_if (pt_val (pe_callB call_isi (by rfl) T.isinstance (by decide +kernel) (pa_cons (pv 1) (pa_cons (pe_bltn (v := .ty "bool") (by rfl) T.bool (by decide +kernel) rfl) pa_nil))))
    (pss_one (ps_ret (pe_and (pe_callB call_isi (by rfl) T.isinstance (by decide +kernel) (pa_cons (pv 0) (pa_cons (pe_bltn (v := .ty "bool") (by rfl) T.bool (by decide +kernel) rfl) pa_nil))) (pe_one (pe_cmpR op_eq (pv 0) (pv 1) (nomark _))))))
    pss_nil)
    (pss_cons (ps_if (pt_val (pe_callB call_isi (by rfl) T.isinstance (by decide +kernel) (pa_cons (pv 1) (pa_cons (pe_bltn (v := .ty "int") (by rfl) T.int (by decide +kernel) rfl) pa_nil))))
    (pss_one (ps_ret (pe_and (C8.pe_c cLawIsInteger hr (by decide) (by rfl) (pa_cons (pv 0) pa_nil)) (pe_one (pe_cmpR op_eq (pv 0) (pv 1) (nomark _))))))
    pss_nil)
    (pss_one (ps_ret (pe_and (pe_callB call_isi (by rfl) T.isinstance (by decide +kernel) (pa_cons (pv 0) (pa_cons (pe_bltn (v := .ty "str") (by rfl) T.str (by decide +kernel) rfl) pa_nil))) (pe_one (pe_cmpR op_eq (pv 0) (pv 1) (nomark _)))))))))), ?_⟩
    cases c with
    | n i =>
      refine ⟨_, rfl, sz2, fun p np => ?_⟩
      refine ⟨_, p, _, .type "int", [.type "list", .type "tuple"], false, rfl, upd_same, .cons (.ty _) (.cons (.ty _) .nil), .base (.int i), kitA_i, false, rfl, iteF ?_⟩
      refine ⟨_, rfl, rfl, _, rfl, ite2 (fun t => nomatch (of_decide_eq_true t)) (fun _ => ?_)⟩
      refine ⟨_, rfl, _, _, _, _, false, rfl, .ty _, .base (.int i), kit_ty (by decide +kernel), false, rfl, iteF ?_⟩
      refine ⟨_, rfl, _, _, _, _, true, rfl, .ty _, .base (.int i), kit_ty (by decide +kernel), true, rfl, iteT ?_⟩
      refine ⟨_, rfl, i, rfl, true, rfl, iteT ?_⟩
      refine ⟨_, rfl, _, rfl, rfl, ?_⟩
      have e : decide (Cell.v (.n i) = Cell.v (.n i)) = true := decide_eq_true rfl
      rw [e]
      exact q _ (same_new np)
    | t z =>
      refine ⟨_, rfl, sz2, fun p np => ?_⟩
      refine ⟨_, p, _, .type "str", [.type "list", .type "tuple"], false, rfl, upd_same, .cons (.ty _) (.cons (.ty _) .nil), .base (.str z), kitA_s, false, rfl, iteF ?_⟩
      refine ⟨_, rfl, rfl, _, rfl, ite2 (fun t => nomatch (of_decide_eq_true t)) (fun _ => ?_)⟩
      refine ⟨_, rfl, _, _, _, _, false, rfl, .ty _, .base (.str z), kit_ty (by decide +kernel), false, rfl, iteF ?_⟩
      refine ⟨_, rfl, _, _, _, _, false, rfl, .ty _, .base (.str z), kit_ty (by decide +kernel), false, rfl, iteF ?_⟩
      refine ⟨_, rfl, _, _, _, _, true, rfl, .ty _, .base (.str z), kit_ty (by decide +kernel), true, rfl, iteT ?_⟩
      refine ⟨_, rfl, _, rfl, rfl, ?_⟩
      have e : decide (Cell.v (.t z) = Cell.v (.t z)) = true := decide_eq_true rfl
      rw [e]
      exact q _ (same_new np)
theorem bl_ne {b : Bool} {A B : Prop} (h : B) : if (!decide (V.bl b = V.bl b)) = true then A else B := by
  rw [decide_eq_true rfl]
  exact iteF h
theorem ok_LawSame1 {f : Addr} {fd : FuncData} {n : Nat} (F : FD K "_law_same" "_law_same" sLawSame f fd) (hm : mg "_law_same" = some (.ref f)) (T : Glob K mg) (cLawSame : C8.Cal P w K mg base (n + 2) "_law_same" (spLawSame K n) []) : C8.Cal P w K mg base (n + 3) "_law_same" (spLawSame K (n + 1)) [] := by
  refine cal_mk F hm (FunD.bindsN (ps := PLawSame) F fun _ _ _ _ _ _ us hl => match us, hl with | [_, _], _ => rfl) scLawSame (fun vs H Q E h => ?_) (fun cdv A outer s H vs Q E hr h => ?_)
  · obtain ⟨x, y, rfl, _⟩ := h
    rfl
  · obtain ⟨x, y, rfl, ⟨a, b, xs, ys, rfl, rfl, hs, hp, hl⟩, q⟩ := h
    have hlen := paired_len hp
    refine ⟨_, (pss_cons (ps_if (pt_val (pe_callB call_isiT (by rfl) T.isinstance (by decide +kernel) (pa_cons (pv 1) (pa_cons (pe_tup (pa_cons (pe_bltn (v := .ty "list") (by rfl) T.list (by decide +kernel) rfl) (pa_cons (pe_bltn (v := .ty "tuple") (by rfl) T.tuple (by decide +kernel) rfl) pa_nil))) pa_nil))))
    (pss_cons (ps_if (PW.pt (pw_or (pt_cmpR op_ne (pe_callB call_isi (by rfl) T.isinstance (by decide +kernel) (pa_cons (pv 1) (pa_cons (pe_bltn (v := .ty "list") (by rfl) T.list (by decide +kernel) rfl) pa_nil))) (pe_callB call_isi (by rfl) T.isinstance (by decide +kernel) (pa_cons (pv 0) (pa_cons (pe_bltn (v := .ty "list") (by rfl) T.list (by decide +kernel) rfl) pa_nil))) (nomark _)) (pw_or1 (pt_cmpR op_ne (pe_callB call_isi (by rfl) T.isinstance (by decide +kernel) (pa_cons (pv 1) (pa_cons (pe_bltn (v := .ty "tuple") (by rfl) T.tuple (by decide +kernel) rfl) pa_nil))) (pe_callB call_isi (by rfl) T.isinstance (by decide +kernel) (pa_cons (pv 0) (pa_cons (pe_bltn (v := .ty "tuple") (by rfl) T.tuple (by decide +kernel) rfl) pa_nil))) (nomark _)))))
      (pss_one (ps_ret pe_bl))
      pss_nil)
      (pss_cons (ps_if (pt_cmpR op_ne (pe_callB call_len_seq (by rfl) T.len PySem.boot_len (pa_cons (pv 0) pa_nil)) (pe_callB call_len_seq (by rfl) T.len PySem.boot_len (pa_cons (pv 1) pa_nil)) (nomark _))
      (pss_one (ps_ret pe_bl))
      pss_nil)
      (pss_cons (ps_for PassesOwn.never rfl (pi_range1 (by rfl) T.range (pa_cons (pe_callB call_len_seq (by rfl) T.len PySem.boot_len (pa_cons (pv 1) pa_nil)) pa_nil)) (pg_name (i := 2) scLawSame.nd rfl (Or.inl rfl))
      (pss_one (ps_if (pt_not (pt_val (C8.pe_c cLawSame hr (Nat.le_refl _) (by rfl) (pa_cons (pe_ix ix_seq (pv 0) (pv 2) (fun _ _ => rfl)) (pa_cons (pe_ix ix_seq (pv 1) (pv 2) (fun _ _ => rfl)) pa_nil)))))
        (pss_one (ps_ret pe_bl))
        pss_nil)))
      (pss_one (ps_ret pe_bl)))))
    pss_nil)
    pss_never), ?_⟩
    -- both are lists, or both are tuples
    obtain ⟨bt, bl, t, hty, hk, hkl, hkt, hsq⟩ : ∃ (bt bl : Bool) (t : String), (∀ H', Same H H' → TyX K H' (.ref a) (.type t) ∧ TyX K H' (.ref b) (.type t)) ∧ PySem.W.kitAny K (.type t) [.type "list", .type "tuple"] = some true ∧ kitB t "list" = some bl ∧ kitB t "tuple" = some bt ∧
        (∀ H', Same H H' → (SqL K H' a xs ∧ SqL K H' b ys) ∨ (SqT K H' a xs ∧ SqT K H' b ys)) := by
      rcases hs with ⟨h1, h2⟩ | ⟨h1, h2⟩
      · exact ⟨false, true, "list", fun H' e => ⟨tyx_list (Same.seq e h1), tyx_list (Same.seq e h2)⟩, kitA_l, by decide +kernel, by decide +kernel, fun H' e => .inl ⟨Same.seq e h1, Same.seq e h2⟩⟩
      · exact ⟨true, false, "tuple", fun H' e => ⟨tyx_tup (Same.tup e h1), tyx_tup (Same.tup e h2)⟩, kitA_t, by decide +kernel, by decide +kernel, fun H' e => .inr ⟨Same.tup e h1, Same.tup e h2⟩⟩
    refine ⟨_, rfl, sz2, fun p np => ?_⟩
    have s1 := same_new (o := .tup [.ty "list", .ty "tuple"]) np
    obtain ⟨tA, tB⟩ := hty _ s1
    refine ⟨_, p, _, .type t, [.type "list", .type "tuple"], true, rfl, upd_same, .cons (.ty _) (.cons (.ty _) .nil), tB, hk, true, rfl, iteT ?_⟩
    refine ⟨_, rfl, _, _, _, _, bl, rfl, .ty _, tB, kit_ty hkl, _, rfl, _, _, _, _, bl, rfl, .ty _, tA, kit_ty hkl, rfl, _, rfl, bl_ne ?_⟩
    refine ⟨_, rfl, _, _, _, _, bt, rfl, .ty _, tB, kit_ty hkt, _, rfl, _, _, _, _, bt, rfl, .ty _, tA, kit_ty hkt, rfl, _, rfl, bl_ne ?_⟩
    have hsq1 := hsq _ s1
    refine ⟨_, rfl, a, xs, rfl, ?_, _, rfl, b, ys, rfl, ?_, rfl, _, rfl, ?_⟩
    · rcases hsq1 with ⟨h1, _⟩ | ⟨h1, _⟩
      · exact .inl h1
      · exact .inr h1
    · rcases hsq1 with ⟨_, h1⟩ | ⟨_, h1⟩
      · exact .inl h1
      · exact .inr h1
    rw [hlen]
    refine ite2 (fun t => ?_) (fun _ => ?_)
    · rw [decide_eq_true rfl] at t
      cases t
    refine ⟨_, rfl, b, ys, rfl, ?_, _, rfl, by omega, by omega, ?_⟩
    · rcases hsq1 with ⟨_, h1⟩ | ⟨_, h1⟩
      · exact .inl h1
      · exact .inr h1
    rw [Int.toNat_natCast]
    refine for_range (lo := 0) (n := ys.length) (fun i σ H' => ∃ y, σ = [some (.ref a), some (.ref b), y] ∧ Same H H') ⟨none, rfl, s1⟩ ?_ ?_
    · rintro i σ H' hi ⟨y, rfl, sm⟩
      obtain ⟨y1, hy1⟩ : ∃ y1, ys[i]? = some y1 := ⟨_, List.getElem?_eq_getElem hi⟩
      obtain ⟨x1, hx1, hxy⟩ := paired_get hp hy1
      have hsq2 := hsq _ sm
      have e0 : (0 + (i : Int)) = (i : Int) := by omega
      refine ⟨_, rfl, _, rfl, ?_⟩
      rcases hsq2 with ⟨h1, h2⟩ | ⟨h1, h2⟩
      · exact .inl ⟨a, xs, _, x1, rfl, rfl, h1, at_of e0 hx1, _, rfl, _, rfl, .inl ⟨b, ys, _, y1, rfl, rfl, h2, at_of e0 hy1, x1, y1, rfl, hxy.same sm, fun H2 s2 => ⟨true, rfl, iteF ⟨_, rfl, Same.trans sm s2⟩⟩⟩⟩
      · exact .inr (.inl ⟨a, xs, _, x1, rfl, rfl, h1, at_of e0 hx1, _, rfl, _, rfl, .inr (.inl ⟨b, ys, _, y1, rfl, rfl, h2, at_of e0 hy1, x1, y1, rfl, hxy.same sm, fun H2 s2 => ⟨true, rfl, iteF ⟨_, rfl, Same.trans sm s2⟩⟩⟩)⟩)
    · rintro σ H' ⟨y, rfl, sm⟩
      exact q H' sm
end
end K9

set_option Elab.async false
set_option linter.all false
set_option maxRecDepth 100000
set_option maxHeartbeats 4000000
/-! The law's reading of sectors, its values of columns. -/
namespace K9
open PySem PySem.Spec PyProof.Rows L2
/-! ### lists of ints as data -/
def intsD (bs : List Nat) : PyData := .list (bs.map fun b : Nat => PyData.int (b : Int))
theorem dp_all {K : PySem.W.Frag} {H : Hp} : ∀ bs : List Nat, DpAll K H (bv bs) (bs.map fun b : Nat => PyData.int (b : Int))
  | [] => .nil
  | b :: r => .cons (.int _) (dp_all r)
theorem dp_ints {K : PySem.W.Frag} {H : Hp} {a : Addr} {bs : List Nat} (h : SqL K H a (bv bs)) : Dp K H (.ref a) (intsD bs) := .lst h (dp_all bs)
theorem lay_ints : ∀ bs : List Nat, PyData.canLayAll0 (bs.map fun b : Nat => PyData.int (b : Int)) = true
  | [] => by simp [PyData.canLayAll0]
  | b :: r => by
    have := lay_ints r
    simp [PyData.canLayAll0, PyData.canLay0, this]
theorem depth_ints : ∀ bs : List Nat, PyData.depthAll (bs.map fun b : Nat => PyData.int (b : Int)) = 0
  | [] => by simp [PyData.depthAll]
  | b :: r => by
    have := depth_ints r
    simp [PyData.depthAll, PyData.depth, this]
theorem shaped_ints (bs : List Nat) : SeqAt.shaped (intsD bs) = true := by
  unfold SeqAt.shaped intsD
  rw [Bool.and_eq_true]
  exact ⟨by rw [PyData.canLay0]; exact lay_ints bs, by rw [PyData.depth, depth_ints]; decide⟩
theorem eqv_ints (bs : List Nat) : PyData.eqv (intsD bs) (intsD bs) = true := SeqAt.eqv_refl _ (SeqAt.canLay_of_shaped (shaped_ints bs))
theorem cut_from {xs : List V} {n : Nat} : cutV xs (some (n : Int)) none = xs.drop n := by
  unfold cutV
  rw [HT.sIx_nat, HT.sIx_none]
  by_cases h : n ≤ xs.length
  · rw [Nat.min_eq_left h]
    exact List.take_of_length_le (by rw [List.length_drop]; exact Nat.le_refl _)
  · rw [Nat.min_eq_right (by omega), List.drop_length, List.drop_eq_nil_of_le (by omega)]
    exact List.take_nil
theorem bv_drop (bs : List Nat) (n : Nat) : (bv bs).drop n = bv (bs.drop n) := by
  unfold bv
  rw [List.map_drop]
/-! ### heaps with two objects that change -/
theorem But.delB {st D : Addr} {H H' : Hp} (e : But st H H') : But st (K9.del H D) (K9.del H' D) := fun b o n h => by
  by_cases q : b = D
  · rw [q, del_same] at h
    cases h
  · rw [del_ne q] at h
    rw [del_ne q]
    exact e b o n h
theorem But.tupI {K : PySem.W.Frag} {st C dx : Addr} {fs : List (Str × V)} {H H' : Hp} {a : Addr} {xs : List V} (e : But st H H') (n : H st = some (.ins C dx fs)) (h : SqT K H a xs) : SqT K H' a xs := by
  rcases h with (h | ⟨o, h⟩) | h
  · exact .inl (.inl (e _ _ (fun z => by rw [z, n] at h; cases h) h))
  · exact .inl (.inr ⟨o, e _ _ (fun z => by rw [z, n] at h; cases h) h⟩)
  · exact .inr h
theorem RowA.butI {K : PySem.W.Frag} {st C dx : Addr} {fs : List (Str × V)} {H H' : Hp} {v : V} {r : Row} (e : But st H H') (n : H st = some (.ins C dx fs)) (h : RowA K H v r) : RowA K H' v r := by
  obtain ⟨a, rfl, q⟩ := h
  exact ⟨a, rfl, But.tupI e n q⟩
/-! ### chunks by place -/
theorem secOf_nil : secOf [] = emptySec := rfl
theorem secsOf_at {chunks : List (List Row)} {room i : Nat} {bs : List Nat} (h : (secsOf chunks room)[i]? = some bs) : bs = secOf (chunks.getD i []) := by
  unfold secsOf at h
  by_cases hi : i < chunks.length
  · rw [List.getElem?_append_left (by rw [List.length_map]; exact hi), List.getElem?_map, List.getElem?_eq_getElem hi] at h
    rw [List.getD_eq_getElem?_getD, List.getElem?_eq_getElem hi]
    exact (Option.some.inj h).symm
  · rw [List.getElem?_append_right (by rw [List.length_map]; omega)] at h
    have := (List.mem_replicate.mp (List.mem_of_getElem? h)).2
    rw [List.getD_eq_getElem?_getD, List.getElem?_eq_none (by omega)]
    exact this
theorem flat_takeD (chunks : List (List Row)) (i : Nat) : (chunks.take (i + 1)).flatten = (chunks.take i).flatten ++ chunks.getD i [] := by
  rw [List.getD_eq_getElem?_getD, List.take_add_one, List.flatten_append]
  cases chunks[i]? with
  | none => simp
  | some c => simp
def spLawReadRows (K : PySem.W.Frag) : Sp := fun vs H Q _ => ∃ (p : Addr) (ss : List V) (chunks : List (List Row)) (room : Nat), vs = [.ref p] ∧ SqL K H p ss ∧ Paired (BytesA H) ss (secsOf chunks room) ∧ (∀ c ∈ chunks, ChunkOk c) ∧ chunks.length ≤ room ∧ room ≤ 100 ∧ (∀ r ∈ chunks.flatten, RowOk r) ∧ chunks.flatten.length ≤ 100 ∧
  ∀ (H' : Hp) (q : Addr) (vs' : List V), Same H H' → H q = none → H' q = some (.lst vs') → Paired (RowA K H') vs' chunks.flatten → Q (.ref q) H'
/-- the law's own shelf -/
def LawAt (K : PySem.W.Frag) (H : Hp) (L : Addr) (sh : Shelf) : Prop := ∃ dR dF dS, SqL K H L [.ref dR, .ref dF, .ref dS] ∧ DbAt K H dR dF dS sh
theorem LawAt.same {K : PySem.W.Frag} {H H' : Hp} {L : Addr} {sh : Shelf} (e : Same H H') (h : LawAt K H L sh) : LawAt K H' L sh := by
  obtain ⟨dR, dF, dS, h1, h2⟩ := h
  exact ⟨dR, dF, dS, Same.seq e h1, h2.same e⟩
def spLawValuesOf (K : PySem.W.Frag) : Sp := fun vs H Q _ => ∃ (L ra : Addr) (row : Row) (sh : Shelf) (r : Rel) (st : Stc), vs = [.ref L, .str st.name, .ref ra] ∧ LawAt K H L sh ∧ ShelfOk sh ∧ st ∈ sh.stcs ∧ r ∈ sh.rels ∧ r.name = st.rel ∧ (∀ c ∈ st.cols, c ∈ r.cols) ∧ SqT K H ra (rowV row) ∧ row.length = r.cols.length ∧
  ∀ H' p, Same H H' → SqT K H' p (rowV (valsOf r.cols st.cols row)) → Q (.ref p) H'
section
variable {P : Program} {w : World} {K : PySem.W.Frag} {mg : Str → Option Value} {base : Heap}
theorem ok_LawValuesOf {f : Addr} {fd : FuncData} (F : FD K "_law_values_of" "_law_values_of" sLawValuesOf f fd) (hm : mg "_law_values_of" = some (.ref f)) (T : Glob K mg) : C8.Cal P w K mg base 1 "_law_values_of" (spLawValuesOf K) [] := by
  refine cal_mk F hm (FunD.bindsN (ps := PLawValuesOf) F fun _ _ _ _ _ _ us hl => match us, hl with | [_, _, _], _ => rfl) scLawValuesOf (fun vs H Q E h => ?_) (fun cdv A outer s H vs Q E hr h => ?_)
  · obtain ⟨L, ra, row, sh, r, st, rfl, _⟩ := h
    rfl
  · obtain ⟨L, ra, row, sh, r, st, rfl, ⟨dR, dF, dS, hL, db⟩, ok, hst, hr', hrn, hcols, hra, hrl, q⟩ := h
    obtain ⟨v1, g1, t, ct, rfl, ht, hct⟩ := db.s.get ok.sn hst
    obtain ⟨v2, g2, t2, ct2, rfl, ht2, hct2, _⟩ := db.r.get ok.rn hr'
    rw [hrn] at g2
    refine ⟨_, (pss_cons (ps_asg (pe_dget (hu_of hr) (pe_ix ix_list (pv 0) pe_int (fun _ _ => rfl)) (pv 1) (fun _ _ => rfl)) (pg_tup (by rfl) (pgs_cons (pg_name (i := 3) scLawValuesOf.nd rfl (Or.inl rfl)) (pgs_cons (pg_name (i := 4) scLawValuesOf.nd rfl (Or.inl rfl)) (pgs_cons (pg_name (i := 5) scLawValuesOf.nd rfl (Or.inl rfl)) (pgs_cons (pg_name (i := 6) scLawValuesOf.nd rfl (Or.inl rfl)) pgs_nil))))))
    (pss_cons (ps_set (i := 7) scLawValuesOf.nd rfl (Or.inr rfl) (pe_callTy call_list_of (by rfl) T.list (by decide +kernel) (pa_cons (pe_ix ix_tup (pe_dget (hu_of hr) (pe_ix ix_list (pv 0) pe_int (fun _ _ => rfl)) (pv 3) (fun _ _ => rfl)) pe_int (fun _ _ => rfl)) pa_nil)))
    (pss_one (ps_ret (pe_callTy call_tuple_of (by rfl) T.tuple (by decide +kernel) (pa_cons (pe_lc (own := [("_law_column", 8)]) (g := gName 8) (tt := tYes) rfl scLawValuesOf.nd (pi_tup (pv 4)) (blkOk_by (own := [("_law_column", 8)]) (N := NLawValuesOf) (sc := defScope sLawValuesOf) (by decide +kernel)) (fun _ _ _ _ _ => pg_name (i := 8) scLawValuesOf.nd rfl (Or.inl rfl)) (fun _ _ _ _ _ => pts_nil) (fun _ _ _ _ _ => (pe_ix (ixTupK K) (pv 2) (peBmK K PySem.F.plainAttrs_list PySem.F.slot_list_index PySem.F.type_list_index (mtIndexK K) (pv 7) (pa_cons (pv 8) pa_nil)) (fun _ _ => rfl)))) pa_nil)))))), ?_⟩
    refine ⟨_, rfl, L, _, 2, _, rfl, rfl, hL, atI_nat (j := 2) rfl, _, rfl, dS, _, rfl, g1, ?_⟩
    refine ⟨t, _, rfl, ht, rfl, _, _, rfl, _, _, rfl, _, _, rfl, _, _, rfl, rfl, ?_⟩
    refine ⟨_, rfl, L, _, 0, _, rfl, rfl, hL, atI_nat (j := 0) rfl, _, rfl, dR, _, rfl, g2, t2, _, 0, _, rfl, rfl, ht2, atI_nat (j := 0) rfl, ?_⟩
    refine ⟨ct2, _, rfl, .inr hct2, fun N nN => ?_⟩
    refine ⟨_, rfl, ct, rfl, ⟨_, Same.tup (same_new nN) hct⟩, fun D nD => ?_⟩
    have s0 := same_new (o := .lst (r.cols.map V.str)) nN
    have hND : N ≠ D := ne_of_none upd_same nD
    refine lc_tup (K := K) (a := ct) (xs := st.cols.map V.str) (fun i H' => Same H H' ∧ H' N = some (.lst (r.cols.map V.str)) ∧ H' D = some (.lst (rowV (valsOf r.cols (st.cols.take i) row)))) ⟨Same.trans s0 (same_new nD), by rw [upd_ne hND, upd_same], upd_same⟩ (fun i H' _ z => Same.tup z.1 hct) ?_ ?_
    · rintro i x H' hi ⟨sm, hN, hD⟩
      obtain ⟨c, hci, rfl⟩ : ∃ c, st.cols[i]? = some c ∧ x = .str c := by
        rw [List.getElem?_map] at hi
        cases e : st.cols[i]? with
        | none => rw [e] at hi; cases hi
        | some c => rw [e] at hi; exact ⟨c, rfl, (Option.some.inj hi).symm⟩
      have hcm := hcols c (List.mem_of_getElem? hci)
      obtain ⟨i1, i2⟩ := ixOf_at hcm
      have hlt : ixOf c r.cols < row.length := by
        rw [hrl]
        exact (List.getElem?_eq_some_iff.mp i1).1
      refine ⟨rfl, ?_⟩
      refine ⟨_, rfl, _, rfl, .inl ⟨rfl, _, SqL.of hN⟩, _, rfl, N, r.cols.map V.str, .str c, ixOf c r.cols, .str c, rfl, rfl, SqL.of hN, rfl, ?_, ?_, ?_, ?_, ?_⟩
      · rw [List.all_map]
        exact List.all_eq_true.mpr fun _ _ => rfl
      · rw [List.getElem?_map, i1]
        rfl
      · show (c == c) = true
        exact beq_self_eq_true c
      · intro m z' hm hz
        rw [List.getElem?_map] at hz
        cases e : r.cols[m]? with
        | none => rw [e] at hz; cases hz
        | some c' =>
          rw [e] at hz
          obtain rfl := Option.some.inj hz
          show (c' == c) = false
          exact beq_eq_false_iff_ne.mpr fun z => i2 m hm (by rw [e, z])
      · refine ⟨ra, _, _, (row[ixOf c r.cols]).v, rfl, rfl, Same.tup sm hra, atI_nat (j := ixOf c r.cols) (by unfold rowV; rw [List.getElem?_map, List.getElem?_eq_getElem hlt]; rfl), ?_⟩
        refine ⟨_, hD, ?_, ?_, ?_, ?_⟩
        · unfold rowV valsOf
          rw [List.length_map, List.length_map, List.length_take]
          have := (ok.stcs st hst).c4
          exact sz_lt (by omega)
        · exact same_mut sm (Same.free s0 nD)
        · rw [upd_ne hND]
          exact hN
        · rw [upd_same, List.take_add_one, hci]
          have e : row.getD (ixOf c r.cols) (.n 0) = row[ixOf c r.cols] := by rw [List.getD_eq_getElem?_getD, List.getElem?_eq_getElem hlt]; rfl
          unfold rowV valsOf
          rw [List.map_append, List.map_append]
          show _ = some (HO.lst (_ ++ [(row.getD (ixOf c r.cols) (.n 0)).v]))
          rw [e]
    · rintro H' ⟨sm, hN, hD⟩
      rw [List.length_map, List.take_length] at hD
      refine ⟨D, _, rfl, .inl ⟨SqL.of hD, fun p np => ?_⟩⟩
      exact q _ p (Same.trans sm (same_new np)) (SqT.of upd_same)
theorem ok_LawReadRows {f : Addr} {fd : FuncData} (F : FD K "_law_read_rows" "_law_read_rows" sLawReadRows f fd) (hm : mg "_law_read_rows" = some (.ref f)) (T : Glob K mg) (C : RdCls K) (cLawIsInteger : C8.Cal P w K mg base 1 "_law_is_integer" spLawIsInteger []) (mReader : C8.Mak P w K mg base 1 "Reader" (CR K) (spReaderInit K) [])
    (cReaderReadRow : C8.Met P w K mg base 6 (CR K) "read_row" (spReadRow K) []) : C8.Cal P w K mg base 7 "_law_read_rows" (spLawReadRows K) [] := by
  refine cal_mk F hm (FunD.bindsN (ps := PLawReadRows) F fun _ _ _ _ _ _ us hl => match us, hl with | [_], _ => rfl) scLawReadRows (fun vs H Q E h => ?_) (fun cdv A outer s H vs Q E hr h => ?_)
  · obtain ⟨p, ss, chunks, room, rfl, _⟩ := h
    rfl
  · obtain ⟨p, ss, chunks, room, rfl, hS, hP, hch, hle, hroom, hrok, hrl, q⟩ := h
    have hsl := paired_len hP
    rw [secsOf_len hle] at hsl
    refine ⟨_, (pss_cons (ps_set (i := 1) scLawReadRows.nd rfl (Or.inl rfl) (pe_lst pa_nil))
    (pss_cons (ps_set (i := 2) scLawReadRows.nd rfl (Or.inl rfl) pe_bl)
    (pss_cons (ps_for PassesOwn.never rfl (pi_list (pv 0)) (pg_name (i := 3) scLawReadRows.nd rfl (Or.inl rfl))
    (pss_cons (ps_if (PW.pt (pw_or (pt_not (pt_val (pe_callB call_isi (by rfl) T.isinstance (by decide +kernel) (pa_cons (pv 3) (pa_cons (pe_bltn (v := .ty "list") (by rfl) T.list (by decide +kernel) rfl) pa_nil))))) (pw_or (pt_cmpR op_ne (pe_callB call_len_seq (by rfl) T.len PySem.boot_len (pa_cons (pv 3) pa_nil)) pe_int (nomark _)) (pw_or (pt_not (pt_val (C8.pe_c cLawIsInteger hr (by decide) (by rfl) (pa_cons (pe_ix ix_list (pv 3) pe_int (fun _ _ => rfl)) pa_nil)))) (pw_or1 (pt_not (pt_chain op_le op_lt pe_int (pe_ix ix_list (pv 3) pe_int (fun _ _ => rfl)) pe_int)))))))
      (pss_one (ps_ret pe_non))
      pss_nil)
      (C8.pss_cut (ps_if (PW.pt (pw_and (pt_val (pv 2)) (pw_and1 (pt_cmpR op_gt (pe_ix ix_list (pv 3) pe_int (fun _ _ => rfl)) pe_int (nomark _)))))
      (pss_one (ps_ret pe_non))
      pss_nil)
      (pss_cons (ps_set (i := 2) scLawReadRows.nd rfl (Or.inl rfl) (pe_cmpR op_eq (pe_ix ix_list (pv 3) pe_int (fun _ _ => rfl)) pe_int (nomark _)))
      (pss_cons (ps_set (i := 4) scLawReadRows.nd rfl (Or.inl rfl) (C8.pe_mk mReader hr (by decide) (by rfl) (pa_cons (pe_slice sl_list (pv 3) (po_some pe_int) po_none) pa_nil)))
      (pss_cons (ps_for PassesOwn.never rfl (pi_range1 (by rfl) T.range (pa_cons (pe_ix ix_list (pv 3) pe_int (fun _ _ => rfl)) pa_nil)) (pg_name (i := 5) scLawReadRows.nd rfl (Or.inl rfl))
      (pss_one (ps_expr (pe_bm PySem.F.plainAttrs_list PySem.F.slot_list_append PySem.F.type_list_append mt_append (pv 1) (pa_cons (C8.pe_mt0 cReaderReadRow hr (by decide) (pv 4)) pa_nil)))))
      (pss_one (ps_if (pt_cmpR (op_neD hr.units) (pe_slice sl_list (pv 3) (po_some (pe_op op_add pe_int (pe_fld (pv 4) rfl))) po_none) (pe_lc (own := [("_law_k", 5)]) (g := gName 5) (tt := tYes) rfl scLawReadRows.nd (pi_range1 (by rfl) T.range (pa_cons (pe_op op_sub pe_int (pe_fld (pv 4) rfl)) pa_nil)) (blkOk_by (own := [("_law_k", 5)]) (N := NLawReadRows) (sc := defScope sLawReadRows) (by decide +kernel)) (fun _ _ _ _ _ => pg_name (i := 5) scLawReadRows.nd rfl (Or.inl rfl)) (fun _ _ _ _ _ => pts_nil) (fun _ _ _ _ _ => pe_int)) (nomark _))
      (pss_one (ps_ret pe_non))
      pss_nil))))))))
    (pss_one (ps_ret (pv 1)))))), ?_⟩
    refine ⟨Nat.zero_le _, fun L nL => ?_⟩
    have s0 := same_new (o := .lst []) nL
    refine ⟨_, rfl, p, rfl, ⟨_, s0.seq hS⟩, ?_⟩
    refine for_list (K := K) (a := p) (xs := ss) (fun i σ H' => ∃ (e : Bool) (acc : List V) (y z u : Option V), σ = [some (.ref p), some (.ref L), some (.bl e), y, z, u] ∧ Same H H' ∧ H' L = some (.lst acc) ∧ Paired (RowA K (del H' L)) acc (chunks.take i).flatten ∧ (e = true → chunks.length < i))
      ⟨false, [], none, none, none, rfl, s0, upd_same, .nil, fun z => nomatch z⟩ (fun i σ H' _ ⟨_, _, _, _, _, _, e, _⟩ => e.seq hS) ?_ ?_
    · rintro i x σ H' hx ⟨e, acc, y, z, u, rfl, sm, hL, hacc, he⟩
      obtain ⟨bs, hbs, b, rfl, hb⟩ := paired_getL hP hx
      have hbs' := secsOf_at hbs
      obtain ⟨c, hc⟩ : ∃ c, chunks.getD i [] = c := ⟨_, rfl⟩
      rw [hc] at hbs'
      subst hbs'
      have hcl : (chunkC c).length ≤ 63 ∧ (∀ r ∈ c, RowOk r) ∧ (c = [] → chunks.length ≤ i) ∧ (chunks.length ≤ i → c = []) := by
        rw [List.getD_eq_getElem?_getD] at hc
        by_cases hi : i < chunks.length
        · rw [List.getElem?_eq_getElem hi] at hc
          have hcm : c ∈ chunks := by rw [← hc]; exact List.getElem_mem hi
          refine ⟨(hch c hcm).2, fun r hr => hrok r (List.mem_flatten.mpr ⟨c, hcm, hr⟩), fun z => absurd z (hch c hcm).1, fun z => by omega⟩
        · rw [List.getElem?_eq_none (by omega)] at hc
          have hc0 : c = [] := hc.symm
          subst hc0
          exact ⟨Nat.zero_le _, fun r hr => (nomatch hr), fun _ => by omega, fun _ => rfl⟩
      obtain ⟨h63, hcok, hc1, hc2⟩ := hcl
      have hcn := chunk_len c
      have hb' := sm _ _ hb
      have hlen64 : (bv (secOf c)).length = 64 := by
        rw [bv_len]
        exact secB_len h63
      have hhead : (bv (secOf c))[0]? = some (.int (c.length : Int)) := rfl
      have hflat : (chunks.take (i + 1)).flatten = (chunks.take i).flatten ++ c := by rw [flat_takeD, hc]
      have hacl : acc.length + c.length ≤ 100 := by
        rw [paired_len hacc, ← List.length_append, ← hflat]
        have e1 : chunks.flatten = (chunks.take (i + 1)).flatten ++ (chunks.drop (i + 1)).flatten := by rw [← List.flatten_append, List.take_append_drop]
        rw [e1, List.length_append] at hrl
        omega
      -- the checks of the sector
      refine ⟨_, rfl, _, _, _, _, true, rfl, .ty _, .base (.lst hb'), kit_ty (by decide +kernel), true, rfl, iteF ?_⟩
      refine ⟨_, rfl, b, _, rfl, .inl (SqL.of hb'), rfl, _, rfl, ?_⟩
      rw [hlen64]
      refine iteF ?_
      refine ⟨_, rfl, b, _, 0, .int (c.length : Int), rfl, rfl, SqL.of hb', atI_nat (j := 0) hhead, _, rfl, true, rfl, iteF ?_⟩
      refine ⟨_, rfl, b, _, 0, .int (c.length : Int), rfl, rfl, SqL.of hb', atI_nat (j := 0) hhead, _, _, rfl, rfl, _, rfl, ?_⟩
      rw [if_pos (decide_eq_true (by omega))]
      refine ⟨_, _, rfl, rfl, _, rfl, ?_⟩
      rw [decide_eq_true (show ((c.length : Nat) : Int) < 64 by omega)]
      refine iteF ?_
      -- empty sectors stand behind used ones
      refine ⟨fun σ' H2 => σ' = [some (.ref p), some (.ref L), some (.bl e), some (.ref b), z, u] ∧ H2 = H', ?_, ?_⟩
      · refine ⟨_, rfl, e, rfl, ?_⟩
        cases e with
        | false => exact iteF (iteF ⟨rfl, rfl⟩)
        | true =>
          have hc0 := hc2 (Nat.le_of_lt (he rfl))
          subst hc0
          exact iteT ⟨_, rfl, b, _, 0, .int ((([] : List Row).length : Nat) : Int), rfl, rfl, SqL.of hb', atI_nat (j := 0) hhead, _, _, rfl, rfl, _, rfl, iteF ⟨rfl, rfl⟩⟩
      rintro σ' H2 ⟨rfl, rfl⟩
      -- empty, the Reader
      refine ⟨_, rfl, b, _, 0, .int (c.length : Int), rfl, rfl, SqL.of hb', atI_nat (j := 0) hhead, rfl, ?_⟩
      refine ⟨_, rfl, 1, rfl, b, _, rfl, SqL.of hb', fun dd nd => ?_⟩
      have ecut : cutV (bv (secOf c)) (some 1) none = bv (chunkC c ++ List.replicate (63 - (chunkC c).length) 0) := by
        rw [show cutV (bv (secOf c)) (some 1) none = (bv (secOf c)).drop 1 from cut_from (n := 1), bv_drop]
        rfl
      rw [ecut]
      have s1 := same_new (o := .lst (bv (chunkC c ++ List.replicate (63 - (chunkC c).length) 0))) nd
      intro R dx nR ndx ndR
      have s2 := same_new (o := .own R) ndx
      have nR' : (upd (upd H2 dd (.lst (bv (chunkC c ++ List.replicate (63 - (chunkC c).length) 0)))) dx (.own R)) R = none := by
        rw [upd_ne ndR.symm]
        exact nR
      have s3 := same_new (o := .ins (CR K) dx []) nR'
      refine ⟨R, dx, dd, chunkC c ++ List.replicate (63 - (chunkC c).length) 0, rfl, upd_same, SqL.of (s3 _ _ (s2 _ _ upd_same)), fun H3 b3 r3 => ⟨rfl, ?_⟩⟩
      have nR0 : H2 R = none := none_new nR
      have s23 : Same H2 H3 := But.same (Same.trans s1 s2) nR0 ((Same.but s3).trans b3)
      have hL3 := s23 _ _ hL
      have hRL : L ≠ R := ne_of_none hL nR0
      have smH3 := Same.trans sm s23
      have nRH : H R = none := sm.free nR0
      have hb3 := s23 _ _ hb'
      refine ⟨_, rfl, b, _, 0, .int (c.length : Int), rfl, rfl, SqL.of hb3, atI_nat (j := 0) hhead, _, rfl, by omega, by omega, ?_⟩
      rw [Int.toNat_natCast]
      refine for_range (lo := 0) (n := c.length) (fun j σ H' => ∃ (acc : List V) (u : Option V), σ = [some (.ref p), some (.ref L), some (.bl (decide (V.int (c.length : Int) = V.int 0))), some (.ref b), some (.ref R), u] ∧ Same H H' ∧ H' L = some (.lst acc) ∧ RdAt K H' R (chunkC c ++ List.replicate (63 - (chunkC c).length) 0) (chunkC (c.take j)).length ∧
          Paired (RowA K (del H' L)) acc ((chunks.take i).flatten ++ c.take j))
        ⟨acc, u, rfl, smH3, hL3, r3, ?_⟩ ?_ ?_
      · rw [List.take_zero, List.append_nil]
        exact Paired.mapP hacc fun _ _ w => w.same (Same.del s23 L)
      · rintro j σ H4 hj ⟨acc4, u4, rfl, sm4, hL4, ⟨dx4, D4, hR4, hD4⟩, hacc4⟩
        have hcj : c[j]? = some c[j] := List.getElem?_eq_getElem hj
        have etk : c.take (j + 1) = c.take j ++ [c[j]] := by rw [List.take_add_one, hcj]; rfl
        have hat : At (chunkC c ++ List.replicate (63 - (chunkC c).length) 0) (chunkC (c.take j)).length (rowC c[j]) := by
          have e1 : c = c.take j ++ (c[j] :: c.drop (j + 1)) := by rw [List.getElem_cons_drop, List.take_append_drop]
          have e2 : chunkC c = chunkC (c.take j) ++ (rowC c[j] ++ chunkC (c.drop (j + 1))) := by
            conv => lhs; rw [e1]
            unfold chunkC
            rw [List.flatMap_append, List.flatMap_cons]
          refine ⟨chunkC (c.drop (j + 1)) ++ List.replicate (63 - (chunkC c).length) 0, ?_⟩
          conv => lhs; rw [e2]
          rw [List.append_assoc, List.drop_left, List.append_assoc]
          rw [← e2]
        refine ⟨_, rfl, .inl ⟨rfl, _, SqL.of hL4⟩, _, rfl, R, dx4, _, rfl, hR4, rdF_no D4 _ (by decide +kernel) (by decide +kernel), R, _, _, c[j], rfl, ⟨dx4, D4, hR4, hD4⟩, hat, hcok _ (List.getElem_mem hj), fun H5 t b5 r5 nt ht => ?_⟩
        have hL5 := b5 _ _ hRL hL4
        have ntL : t ≠ L := fun z => by rw [z, hL4] at nt; cases nt
        have hal4 : acc4.length < 1000 := by
          have e1 := paired_len hacc4
          rw [List.length_append, List.length_take] at e1
          rw [paired_len hacc] at hacl
          omega
        refine ⟨L, acc4, _, rfl, rfl, hL5, small1000 (Nat.le_of_lt hal4), ?_⟩
        refine ⟨acc4 ++ [.ref t], _, rfl, same_mut (But.same sm4 nRH b5) nL, upd_same, ?_, ?_⟩
        · obtain ⟨dx5, D5, hR5, hD5⟩ := r5
          rw [etk, chunkC_app, List.length_append]
          by_cases z : D5 = L
          · exfalso
            rw [z, hL5] at hD5
            have e1 := HO.lst.inj (Option.some.inj hD5)
            have e2 : ∃ v, (bv (chunkC c ++ List.replicate (63 - (chunkC c).length) 0))[0]? = some (.int v) := by
              have hpos : 0 < (chunkC c).length := by omega
              refine ⟨(((chunkC c)[0]'hpos : Nat) : Int), ?_⟩
              unfold bv
              rw [List.getElem?_map, List.getElem?_append_left hpos, List.getElem?_eq_getElem hpos]
              rfl
            rw [← e1] at e2
            obtain ⟨v, hv⟩ := e2
            obtain ⟨rr, _, aa, ea, _⟩ := paired_getL hacc4 hv
            cases ea
          · exact ⟨dx5, D5, by rw [upd_ne hRL.symm]; exact hR5, by rw [upd_ne z]; exact hD5⟩
        · rw [del_upd, etk, ← List.append_assoc]
          have b5d := But.delB (D := L) b5
          have hR4d : (del H4 L) R = some (.ins (CR K) dx4 (rdF D4 (chunkC (c.take j)).length)) := by rw [del_ne hRL.symm]; exact hR4
          refine paired_app (Paired.mapP hacc4 fun _ _ w => w.butI b5d hR4d) (.cons ⟨t, rfl, SqT.of ?_⟩ .nil)
          rw [del_ne ntL]
          exact ht
      · rintro σ H4 ⟨acc4, u4, rfl, sm4, hL4, ⟨dx4, D4, hR4, hD4⟩, hacc4⟩
        rw [List.take_length] at hR4 hacc4
        have hb4 := sm4 _ _ hb
        refine ⟨_, rfl, _, rfl, R, _, dx4, _, _, rfl, hR4, C.cl, C.nA, rdF_at D4 _, _, _, rfl, rfl, _, rfl, b, _, rfl, SqL.of hb4, fun t nt => ?_⟩
        have e1 : cutV (bv (secOf c)) (some (1 + (((chunkC c).length : Nat) : Int))) none = bv (List.replicate (63 - (chunkC c).length) 0) := by
          rw [show (1 + (((chunkC c).length : Nat) : Int)) = (((chunkC c).length + 1 : Nat) : Int) by omega, cut_from, bv_drop]
          unfold secOf secB
          rw [List.drop_succ_cons, List.drop_left]
        have s5 := same_new (o := .lst (cutV (bv (secOf c)) (some (1 + (((chunkC c).length : Nat) : Int))) none)) nt
        refine ⟨_, rfl, R, _, dx4, _, _, rfl, s5 _ _ hR4, C.cl, C.nA, rdF_at D4 _, _, _, rfl, rfl, _, rfl, by omega, by omega, fun D nD => ?_⟩
        refine lc_range (lo := 0) (n := (63 - (((chunkC c).length : Nat) : Int)).toNat) (fun j H' => Same (upd H4 t (.lst (cutV (bv (secOf c)) (some (1 + (((chunkC c).length : Nat) : Int))) none))) H' ∧ H' D = some (.lst (bv (List.replicate j 0)))) ⟨same_new nD, upd_same⟩ ?_ ?_
        · rintro j H' hj ⟨s6, hD⟩
          refine ⟨rfl, ?_⟩
          refine ⟨_, hD, ?_, same_mut s6 nD, ?_⟩
          · rw [bv_len, List.length_replicate]
            exact sz_lt (by omega)
          · rw [upd_same, List.replicate_succ' (n := j), bv_app]
            rfl
        · rintro H6 ⟨s6, hD⟩
          have e2 : (63 - (((chunkC c).length : Nat) : Int)).toNat = 63 - (chunkC c).length := by omega
          rw [e2] at hD
          have ht := s6 _ _ upd_same
          rw [e1] at ht
          refine ⟨_, _, dp_ints (SqL.of ht), dp_ints (SqL.of hD), shaped_ints _, shaped_ints _, _, rfl, ?_⟩
          rw [eqv_ints]
          refine iteF ?_
          have s46 := Same.trans s5 s6
          refine ⟨_, acc4, _, _, _, rfl, Same.trans sm4 s46, s46 _ _ hL4, ?_, fun h => ?_⟩
          · rw [hflat]
            exact Paired.mapP hacc4 fun _ _ w => w.same (Same.del s46 L)
          · have h1 := V.int.inj (of_decide_eq_true h)
            have h2 : c = [] := List.eq_nil_of_length_eq_zero (by omega)
            have := hc1 h2
            omega
    · rintro σ H' ⟨e, acc, y, z, u, rfl, sm, hL, hacc, he⟩
      have e1 : chunks.take ss.length = chunks := List.take_of_length_le (by omega)
      rw [e1] at hacc
      exact ⟨_, rfl, q H' L acc sm nL hL (Paired.mapP hacc fun _ _ w => w.same (del_le _ _))⟩
end
end K9

set_option Elab.async false
set_option linter.all false
set_option maxRecDepth 100000
set_option maxHeartbeats 4000000
/-! Rows in order; sorted(rows, key=row_key) of rows that are in order. -/
namespace K9
open PySem PySem.Spec PyProof.Rows L2
/-! ### the order -/
def cellLt : Cell → Cell → Bool
  | .n i, .n j => decide (i < j)
  | .n _, .t _ => true
  | .t _, .n _ => false
  | .t x, .t y => decide (x.cps.toList < y.cps.toList)
def rowLt : Row → Row → Bool
  | [], [] => false
  | [], _ :: _ => true
  | _ :: _, [] => false
  | x :: r, y :: t => cellLt x y || (!cellLt y x && rowLt r t)
/-- a row's key -/
def keyC : Cell → List PyData
  | .n i => [.int 0, .int i]
  | .t x => [.int 1, .str x]
def keyR (r : Row) : List PyData := r.flatMap keyC
theorem keyR_cons (c : Cell) (r : Row) : keyR (c :: r) = keyC c ++ keyR r := List.flatMap_cons
abbrev LexI := PyProof.Rows.lexLt PyProof.Rows.itemOrd
theorem lex_item (p q : Int ⊕ List Nat) (l m : List (Int ⊕ List Nat)) : LexI (p :: l) (q :: m) = (PyProof.Rows.itemLt p q || (!PyProof.Rows.itemLt q p && LexI l m)) := lex_cons (O := PyProof.Rows.itemOrd) p q l m
theorem lex_df {p q : Int ⊕ List Nat} (l m : List (Int ⊕ List Nat)) (h : p ≠ q) : LexI (p :: l) (q :: m) = PyProof.Rows.itemLt p q := lex_diff (O := PyProof.Rows.itemOrd) h
theorem lex_irr (l : List (Int ⊕ List Nat)) : LexI l l = false := lex_irrefl (O := PyProof.Rows.itemOrd) l
theorem toks_key : ∀ a b : Row, LexI (PySem.W.keyToksAll (keyR a)) (PySem.W.keyToksAll (keyR b)) = rowLt a b
  | [], [] => by
    show LexI (PySem.W.keyToksAll []) (PySem.W.keyToksAll []) = false
    exact lex_irrefl (O := PyProof.Rows.itemOrd) _
  | [], c :: r => by
    rw [keyR_cons]
    show LexI (PySem.W.keyToksAll []) _ = true
    cases c <;> (show LexI (PySem.W.keyToksAll []) (PySem.W.keyToksAll (_ :: _ :: keyR r)) = true; rw [PySem.W.toks_all_cons, PySem.W.keyToksAll, lex_item]; rfl)
  | c :: r, [] => by
    rw [keyR_cons]
    cases c <;> (show LexI (PySem.W.keyToksAll (_ :: _ :: keyR r)) (PySem.W.keyToksAll []) = false; rw [PySem.W.toks_all_cons, PySem.W.keyToksAll, lex_item]; rfl)
  | c :: r, d :: t => by
    have ih := toks_key r t
    rw [keyR_cons, keyR_cons]
    cases c with
    | n i =>
      cases d with
      | n j =>
        show LexI (PySem.W.keyToksAll (.int 0 :: .int i :: keyR r)) (PySem.W.keyToksAll (.int 0 :: .int j :: keyR t)) = _
        rw [PySem.W.toks_all_cons, PySem.W.toks_all_cons, PySem.W.toks_all_cons, PySem.W.toks_all_cons, PySem.W.keyToks, PySem.W.keyToks, PySem.W.keyToks]
        simp only [List.cons_append, List.nil_append]
        rw [lex_item, lex_item, lex_item, lex_item, ih]
        simp only [PyProof.Rows.itemLt, Int.lt_irrefl, decide_false, Bool.false_or, Bool.not_false, Bool.true_and]
        rfl
      | t y =>
        show LexI (PySem.W.keyToksAll (.int 0 :: .int i :: keyR r)) (PySem.W.keyToksAll (.int 1 :: .str y :: keyR t)) = true
        simp only [PySem.W.toks_all_cons, PySem.W.keyToks, List.cons_append, List.nil_append]
        rw [lex_item, lex_item]
        simp [PyProof.Rows.itemLt]
    | t x =>
      cases d with
      | n j =>
        show LexI (PySem.W.keyToksAll (.int 1 :: .str x :: keyR r)) (PySem.W.keyToksAll (.int 0 :: .int j :: keyR t)) = false
        simp only [PySem.W.toks_all_cons, PySem.W.keyToks, List.cons_append, List.nil_append]
        rw [lex_item, lex_item]
        simp [PyProof.Rows.itemLt]
      | t y =>
        show LexI (PySem.W.keyToksAll (.int 1 :: .str x :: keyR r)) (PySem.W.keyToksAll (.int 1 :: .str y :: keyR t)) = _
        rw [PySem.W.toks_all_cons, PySem.W.toks_all_cons, PySem.W.toks_all_cons, PySem.W.toks_all_cons, PySem.W.keyToks, PySem.W.keyToks, PySem.W.keyToks]
        simp only [List.cons_append, List.nil_append]
        rw [lex_item, lex_item, lex_item, lex_item, ih]
        simp only [PyProof.Rows.itemLt, Int.lt_irrefl, decide_false, Bool.false_or, Bool.not_false, Bool.true_and]
        rfl
theorem rowLt_asymm {a b : Row} (h : rowLt a b = true) : rowLt b a = false := by
  rw [← toks_key] at h ⊢
  exact KeyOrd.klt_asymm (O := listOrd PyProof.Rows.itemOrd) h
theorem rowLt_irrefl (a : Row) : rowLt a a = false := by
  rw [← toks_key]
  exact lex_irrefl (O := PyProof.Rows.itemOrd) _
/-! ### data that are alike up to the first that differ -/
def alikeP : List PyData → List PyData → Bool
  | x :: xs, y :: ys => PySem.W.alike x y && (!PyData.eqv x y || alikeP xs ys)
  | _, _ => true
theorem alike_key : ∀ a b : Row, alikeP (keyR a) (keyR b) = true
  | [], b => by
    show alikeP [] _ = true
    cases keyR b <;> rfl
  | c :: r, [] => by
    rw [keyR_cons]
    cases c <;> rfl
  | c :: r, d :: t => by
    have ih := alike_key r t
    rw [keyR_cons, keyR_cons]
    cases c with
    | n i =>
      cases d with
      | n j =>
        show alikeP (.int 0 :: .int i :: keyR r) (.int 0 :: .int j :: keyR t) = true
        unfold alikeP
        unfold alikeP
        rw [ih]
        simp [PySem.W.alike]
      | t y =>
        show alikeP (.int 0 :: .int i :: keyR r) (.int 1 :: .str y :: keyR t) = true
        unfold alikeP
        simp [PySem.W.alike, PyData.eqv]
    | t x =>
      cases d with
      | n j =>
        show alikeP (.int 1 :: .str x :: keyR r) (.int 0 :: .int j :: keyR t) = true
        unfold alikeP
        simp [PySem.W.alike, PyData.eqv]
      | t y =>
        show alikeP (.int 1 :: .str x :: keyR r) (.int 1 :: .str y :: keyR t) = true
        unfold alikeP
        unfold alikeP
        rw [ih]
        simp [PySem.W.alike]
section
variable {prog : Program} {w : World} {A : Around} {s : Shared}
open PySem.W PySem.SeqAt in
theorem katLex_pre {b fin : Bool} {Q : Bool → Shared → Prop} : ∀ (xs ys : List PyData) (i : Nat) (vs ws : List Value) (as bs : List Addr), ReadsAll s.heap vs xs as → ReadsAll s.heap ws ys bs → alikeP xs ys = true →
    A.units + min (PyData.depthAll xs) (PyData.depthAll ys) < cLine → (b = true → i = 0 → ∀ x r t, xs = x :: r → x ≠ .tuple t) → fin = decide (xs.length < ys.length) → Q (LexI (keyToksAll xs) (keyToksAll ys)) s → KatLex prog w A b fin Q (vs.zip ws) i s
  | [], [], i, _, _, _, _, ra, rb, _, _, _, hf, hq => by
    cases ra
    cases rb
    have e : fin = false := by rw [hf]; rfl
    subst e
    rw [lex_irr] at hq
    exact kat_nil hq
  | [], y :: ys, i, _, _, _, _, ra, rb, _, _, _, hf, hq => by
    cases ra
    have e : fin = true := by rw [hf]; exact decide_eq_true (Nat.succ_pos _)
    subst e
    rw [toks_all_cons] at hq
    simp only [keyToksAll] at hq
    rw [lex_df _ _ (by simp)] at hq
    rw [List.zip_nil_left]
    exact kat_nil (by simpa [itemLt] using hq)
  | x :: xs, [], i, _, _, _, _, ra, rb, _, _, _, hf, hq => by
    cases rb
    have e : fin = false := by rw [hf]; exact decide_eq_false (Nat.not_lt_zero _)
    subst e
    rw [toks_all_cons] at hq
    simp only [keyToksAll] at hq
    rw [lex_df _ _ (by simp)] at hq
    rw [List.zip_nil_right]
    exact kat_nil (by simpa [itemLt] using hq)
  | x :: xs, y :: ys, i, _, _, _, _, ra, rb, h, hu, hb, hf, hq => by
    obtain ⟨h1, h2⟩ := Bool.and_eq_true_iff.mp (show (alike x y && (!PyData.eqv x y || alikeP xs ys)) = true from h)
    have hf' : fin = decide (xs.length < ys.length) := by
      rw [hf]
      simp only [List.length_cons, Nat.add_lt_add_iff_right]
    cases ra with
    | cons r rs =>
      cases rb with
      | cons r' rs' =>
        rw [List.zip_cons_cons]
        refine kat_cons (eqAt_alike x y A s _ _ _ _ r r' h1 (room_head hu) prog w _ _ ?_)
        cases hx : PyData.eqv x y with
        | true =>
          rw [show LexI (keyToksAll (x :: xs)) (keyToksAll (y :: ys)) = LexI (keyToksAll xs) (keyToksAll ys) from dataLt_all_yes h1 hx] at hq
          rw [hx] at h2
          exact kat_yes (katLex_pre xs ys (i + 1) _ _ _ _ rs rs' (by simpa using h2) (room_tail hu) (fun _ hi => absurd hi (Nat.succ_ne_zero i)) hf' hq)
        | false =>
          rw [show LexI (keyToksAll (x :: xs)) (keyToksAll (y :: ys)) = dataLt x y from dataLt_all_no h1 hx] at hq
          refine kat_no (oneLt_alike (fun hbi t => ?_) r r' h1 (ne_none_of h1 hx) (room_head hu) hq)
          rw [Bool.and_eq_true] at hbi
          exact hb hbi.1 (by simpa using hbi.2) x xs t rfl
/-! ### the kind of the keys -/
/-- the key's datum -/
def keyD (r : Row) : PyData := .tuple (keyR r)
theorem lay_key : ∀ {r : Row}, (∀ c ∈ r, CellOk c) → PyData.canLayAll0 (keyR r) = true
  | [], _ => by simp [keyR, PyData.canLayAll0]
  | c :: r, h => by
    have ih := lay_key (r := r) fun d hd => h d (List.mem_cons_of_mem _ hd)
    rw [keyR_cons]
    cases c with
    | n i =>
      show PyData.canLayAll0 (.int 0 :: .int i :: keyR r) = true
      simp [PyData.canLayAll0, PyData.canLay0, ih]
    | t x =>
      have hx := h (.t x) List.mem_cons_self
      have : PyData.strOk x = true := by
        unfold PyData.strOk
        rw [← Array.all_toList, List.all_eq_true]
        intro c hc
        have := (hx.2 c hc).2.1
        simp
        omega
      show PyData.canLayAll0 (.int 1 :: .str x :: keyR r) = true
      simp [PyData.canLayAll0, PyData.canLay0, ih, this]
theorem depth_key : ∀ r : Row, PyData.depthAll (keyR r) = 0
  | [] => by simp [keyR, PyData.depthAll]
  | c :: r => by
    have ih := depth_key r
    rw [keyR_cons]
    cases c with
    | n i =>
      show PyData.depthAll (.int 0 :: .int i :: keyR r) = 0
      simp [PyData.depthAll, PyData.depth, ih]
    | t x =>
      show PyData.depthAll (.int 1 :: .str x :: keyR r) = 0
      simp [PyData.depthAll, PyData.depth, ih]
/-- v is the key of r in the heap h -/
def KeyAt (h : Heap) (v : Value) (r : Row) : Prop := ∃ as, Reads h v (keyD r) as
open Classical in
/-- the kind of keys that the rows rs make in the heap h -/
noncomputable def rowKind (h : Heap) (rs : List Row) : PyProof.Rows.KeyKind where
  toKeyOrd := listOrd PyProof.Rows.itemOrd
  keyOf v := if q : ∃ r, r ∈ rs ∧ KeyAt h v r then some (PySem.W.keyToksAll (keyR q.choose)) else none
  dflt := ([] : List (Int ⊕ List Nat))
theorem rowKind_some {h : Heap} {rs : List Row} (ok : ∀ r ∈ rs, ∀ c ∈ r, CellOk c) {v : Value} {r : Row} (hr : r ∈ rs) (k : KeyAt h v r) : (rowKind h rs).keyOf v = some (PySem.W.keyToksAll (keyR r)) := by
  have q : ∃ r, r ∈ rs ∧ KeyAt h v r := ⟨r, hr, k⟩
  have e : (rowKind h rs).keyOf v = some (PySem.W.keyToksAll (keyR q.choose)) := by
    show (open Classical in if q : ∃ r, r ∈ rs ∧ KeyAt h v r then some (PySem.W.keyToksAll (keyR q.choose)) else none) = _
    rw [dif_pos q]
  obtain ⟨h1, as1, h2⟩ := q.choose_spec
  obtain ⟨as2, h3⟩ := k
  have hl : (keyD q.choose).canLay0 = true := by
    unfold keyD
    rw [PyData.canLay0]
    exact lay_key (ok _ h1)
  have e2 : keyD q.choose = keyD r := PySem.SeqAt.Reads.unique _ _ _ _ _ hl h2 h3
  rw [e, PyData.tuple.inj e2]
theorem rowKind_inv {h : Heap} {rs : List Row} {v : Value} {k : List (Int ⊕ List Nat)} (e : (rowKind h rs).keyOf v = some k) : ∃ r, r ∈ rs ∧ KeyAt h v r ∧ k = PySem.W.keyToksAll (keyR r) := by
  by_cases q : ∃ r, r ∈ rs ∧ KeyAt h v r
  · have e' : (rowKind h rs).keyOf v = some (PySem.W.keyToksAll (keyR q.choose)) := by
      show (open Classical in if q : ∃ r, r ∈ rs ∧ KeyAt h v r then some (PySem.W.keyToksAll (keyR q.choose)) else none) = _
      rw [dif_pos q]
    obtain ⟨h1, h2⟩ := q.choose_spec
    rw [e'] at e
    exact ⟨_, h1, h2, (Option.some.inj e).symm⟩
  · have e' : (rowKind h rs).keyOf v = none := by
      show (open Classical in if q : ∃ r, r ∈ rs ∧ KeyAt h v r then some (PySem.W.keyToksAll (keyR q.choose)) else none) = _
      rw [dif_neg q]
      rfl
    rw [e'] at e
    exact absurd e (by simp)
open PySem.W PySem.SeqAt in
theorem each_firsts {h : Heap} : ∀ {vs : List Value} {rs : List Row}, EachIs (fun v r => KeyAt h v r) vs rs → (∀ r ∈ rs, r ≠ []) → ∃ fs, KatTups h vs fs ∧ fs.length = vs.length ∧ ∀ f, f ∈ fs → ∃ i t, f = Value.int i t
  | _, _, .nil, _ => ⟨[], KatTups.nil, rfl, fun f hf => absurd hf (by simp)⟩
  | _, _, .cons (b := r) ⟨as, k⟩ t, ht => by
    obtain ⟨fs, h1, h2, h3⟩ := each_firsts t fun d hd => ht d (List.mem_cons_of_mem _ hd)
    have hne := ht r (List.mem_cons_self ..)
    obtain ⟨i, rest, er⟩ : ∃ i rest, keyR r = .int i :: rest := by
      cases r with
      | nil => exact absurd rfl hne
      | cons c r =>
        rw [keyR_cons]
        cases c with
        | n j => exact ⟨_, _, rfl⟩
        | t x => exact ⟨_, _, rfl⟩
    unfold keyD at k
    rw [er] at k
    cases k with
    | @tuple a o xs n _ _ ho hc hd hr =>
      cases q : xs.toList with
      | nil =>
        rw [q] at hr
        cases hr
      | cons f fr =>
        rw [q] at hr
        cases hr with
        | cons r1 r2 =>
          have hf : xs[0]? = some f := by rw [← Array.getElem?_toList, q]; rfl
          refine ⟨f :: fs, KatTups.cons ho hc hd hf h1, by rw [List.length_cons, List.length_cons, h2], fun g hg => ?_⟩
          rcases List.mem_cons.mp hg with rfl | hg
          · cases r1
            exact ⟨_, _, rfl⟩
          · exact h3 g hg
open PySem.W PySem.SeqAt in
theorem sortsRows {vs : List Value} {rs : List Row} (e : EachIs (fun v r => KeyAt s.heap v r) vs rs) (ok : ∀ r ∈ rs, ∀ c ∈ r, CellOk c) (hne : ∀ r ∈ rs, r ≠ []) (hu : A.units + 1 < cLine) : SortsAt prog w A s (rowKind s.heap rs) vs := by
  refine ⟨fun v hv => ?_, tuples' (Value.type "int" != Value.type "tuple"), ?_, fun h2 E Q hq => ?_⟩
  · obtain ⟨r, hr, k⟩ := e.left v hv
    exact ⟨_, rowKind_some ok hr k⟩
  · intro E x y a b Q ha hb hq
    obtain ⟨r1, h1, ⟨as, k1⟩, rfl⟩ := rowKind_inv ha
    obtain ⟨r2, h2, ⟨bs, k2⟩, rfl⟩ := rowKind_inv hb
    unfold keyD at k1 k2
    cases k1 with
    | @tuple l o xs n _ _ h1 h2 h3 h4 =>
      cases k2 with
      | @tuple l' o' xs' n' _ _ k1 k2 k3 k4 =>
        have n1 : xs.size = (keyR r1).length := by simpa using SeqAt.ReadsAll.length _ _ _ h4
        have n2 : xs'.size = (keyR r2).length := by simpa using SeqAt.ReadsAll.length _ _ _ k4
        refine kat_lt h1 h3 k1 k3 (katLex_pre (keyR r1) (keyR r2) 0 _ _ _ _ h4 k4 (alike_key r1 r2) (by rw [depth_key]; simp; omega) (fun _ _ x r t ex => ?_) (by rw [n1, n2]) hq)
        intro z
        subst z
        cases r1 with
        | nil => cases ex
        | cons c r1 =>
          rw [keyR_cons] at ex
          cases c <;> cases ex
  · obtain ⟨fs, t1, t2, t3⟩ := each_firsts e hne
    refine kat_kind (T := Value.type "int") t1 (by omega) (fun f hf => ?_) (beq_self_eq_true _) hq
    obtain ⟨i, t, rfl⟩ := t3 f hf
    exact Looks.of_pure rfl
end
end K9

set_option Elab.async false
set_option linter.all false
set_option maxRecDepth 100000
set_option maxHeartbeats 4000000
/-! sorted(rows, key=row_key) as a rule of the layer, where the rows stand in order. -/
namespace K9
open PySem PySem.Spec PyProof.Rows L2 PySem.W
def keyCV : Cell → List V
  | .n i => [.int 0, .int i]
  | .t x => [.int 1, .str x]
def keyV (r : Row) : List V := r.flatMap keyCV
theorem keyV_cons (c : Cell) (r : Row) : keyV (c :: r) = keyCV c ++ keyV r := List.flatMap_cons
theorem keyV_app (r t : Row) : keyV (r ++ t) = keyV r ++ keyV t := List.flatMap_append
/-- row_key(row) -/
def spRowKey (K : PySem.W.Frag) : Sp := fun vs H Q E => ∃ a r, vs = [V.ref a] ∧ SqT K H a (rowV r) ∧ r.length ≤ 10 ∧ ∀ H' p, Same H H' → H p = none → H' p = some (.tup (keyV r)) → Q (.ref p) H'
theorem reads_key {h : Heap} : ∀ {r : Row} {its : List Value}, Vals (keyV r) its → ∃ as, ReadsAll h its (keyR r) as
  | [], its, v => by
    cases v
    exact ⟨[], .nil⟩
  | c :: r, its, v => by
    rw [keyV_cons] at v
    rw [keyR_cons]
    cases c with
    | n i =>
      cases v with
      | cons r1 v =>
        cases v with
        | cons r2 v =>
          obtain ⟨t1, rfl⟩ := r1
          obtain ⟨t2, rfl⟩ := r2
          obtain ⟨as, h⟩ := reads_key (h := h) (r := r) v
          exact ⟨_, .cons (.int _ _) (.cons (.int _ _) h)⟩
    | t x =>
      cases v with
      | cons r1 v =>
        cases v with
        | cons r2 v =>
          obtain ⟨t1, rfl⟩ := r1
          obtain ⟨t2, rfl⟩ := r2
          obtain ⟨as, h⟩ := reads_key (h := h) (r := r) v
          exact ⟨_, .cons (.int _ _) (.cons (.str _ _) h)⟩
theorem keyAt_of {P : Program} {w : World} {H : Hp} {h : Heap} {p : Addr} {r : Row} (o : ObjOk P w H h p (.tup (keyV r))) : KeyAt h (.ref p) r := by
  obtain ⟨_, its, v, ob, h1, h2, n, h3⟩ := o
  obtain ⟨as, ra⟩ := reads_key (h := h) v
  exact ⟨as, .tuple h1 h2 h3 ra⟩
theorem each_of {R : V → Row → Prop} {R' : Value → Row → Prop} (hm : ∀ v u r, RelV v u → R v r → R' u r) : ∀ {vs : List V} {us : List Value} {rs : List Row}, Vals vs us → Paired R vs rs → EachIs R' us rs
  | _, _, _, .nil, .nil => .nil
  | _, _, _, .cons r v, .cons q p => .cons (hm _ _ _ r q) (each_of hm v p)
/-- the value that a list's row has -/
def isRowAt (K : PySem.W.Frag) (H : Hp) (u : Value) (r : Row) : Prop := ∃ a, u = .ref a ∧ SqT K H a (rowV r)
theorem vals_of_each {K : PySem.W.Frag} {H : Hp} : ∀ {us : List Value} {rs : List Row}, EachIs (isRowAt K H) us rs → ∃ vs, Vals vs us ∧ Paired (RowA K H) vs rs
  | _, _, .nil => ⟨[], .nil, .nil⟩
  | _, _, .cons ⟨a, e, q⟩ t => by
    obtain ⟨vs, h1, h2⟩ := vals_of_each t
    exact ⟨.ref a :: vs, .cons e h1, .cons ⟨a, rfl, q⟩ h2⟩
def RowsInc (rs : List Row) : Prop := rs.Pairwise fun a b => rowLt a b = true
theorem inc_sorted {h : Heap} {rs0 rs : List Row} (hi : RowsInc rs) : rs.mergeSort (sortLe (rowKind h rs0).toKeyOrd false fun r => keyToksAll (keyR r)) = rs := by
  refine List.mergeSort_of_pairwise (hi.imp fun {a b} hab => ?_)
  show (!LexI (keyToksAll (keyR b)) (keyToksAll (keyR a))) = true
  rw [toks_key, rowLt_asymm hab]
  rfl
theorem keeps_restrict {g : Heap} {a kS : Addr} : ∃ G : Heap, G.get? kS = none ∧ (∀ b o, b ≠ kS → g.get? b = some o → G.get? b = some o) ∧ ∀ b o, G.get? b = some o → g.get? b = some o := by
  obtain ⟨G, g1, g2⟩ := restrict g fun b => decide (b ≠ kS)
  refine ⟨G, g2 kS (by simp), fun b o hb e => ?_, fun b o e => ?_⟩
  · rw [g1 b (decide_eq_true hb)]
    exact e
  · by_cases hb : b = kS
    · rw [hb, g2 kS (by simp)] at e
      cases e
    · rwa [g1 b (decide_eq_true hb)] at e
section
variable {X : Cx} {pins : List (Addr × Obj)} {σ : L2.St} {H : Hp} {s s' : Shared}
theorem after_un {Q : VK} {u : Value} (I : Inv X pins σ H s) (h : CE X.stack X.prog X.w H s Q u s') : ∃ v H', Inv X pins σ H' s' ∧ Un (frs X.stack) [] H H' s.heap s'.heap ∧ RelV v u ∧ Q v H' := by
  obtain ⟨v, H', os, bare, un, hok, r, q⟩ := h
  obtain ⟨hh, g, d, t, os'⟩ := s'
  obtain rfl : os' = s.os := os
  exact ⟨v, H', I.call (h' := hh) (g' := g) (d' := d) (t' := t) (ch := []) un hok bare (fun b z => absurd z (by simp)), un, r, q⟩
theorem not_frs (I : Inv X pins σ H s) {b : Addr} (hb : s.heap.objs.size ≤ b) : b ∉ frs X.stack := fun z => by
  rcases List.mem_cons.mp (I.stkSub b z) with e | z
  · have := I.lt
    rw [e] at hb
    exact absurd (Nat.lt_of_lt_of_le this hb) (Nat.lt_irrefl _)
  · exact I.nofs hb z
/-- sorted(rows, key=row_key): the rows stand in order -/
def rSortRows (K : PySem.W.Frag) (f : Addr) : List V → List V → Hp → VK → Prop := fun vs zs H Q => ∃ (a : Addr) (rs : List Row), vs = [V.ref a] ∧ zs = [V.ref f] ∧ RowsA K H a rs ∧ RowsInc rs ∧ (∀ r ∈ rs, r ≠ [] ∧ r.length ≤ 10 ∧ ∀ c ∈ r, CellOk c) ∧
  ∀ (H' : Hp) (p : Addr), Same H H' → H p = none → (∃ vs', H' p = some (.lst vs') ∧ Paired (RowA K H') vs' rs) → Q (.ref p) H'
theorem cr_sortRows {k : Nat} {f : Addr} {fd : FuncData} {ps : List Str} (F : FnOk X.prog X.w X.K X.mg X.base C8.CX0 k f fd ps (spRowKey X.K)) (hr : Room (k + 2) X.A) (hb : Binds X.K fd ps []) : CallRK X (.builtin "sorted") [Str.ofString "key"] (rSortRows X.K f) := by
  intro pins s σ H vs zs us ws Q I r rz h
  obtain ⟨l, rs, rfl, rfl, ⟨vs, hs, hp⟩, hinc, hrs, q⟩ := h
  obtain rfl := Vals.ref1 r
  obtain ⟨w1, rfl, e1⟩ := vals1 rz
  obtain rfl : w1 = Value.ref f := e1
  obtain ⟨its, rv, hl, hz⟩ := I.list hs
  have hlen : its.length = rs.length := by rw [← rv.length, paired_len hp]
  have hz' : its.length ≤ sizeLine := by rw [← rv.length]; exact hz
  have eR : EachIs (isRowAt X.K H) its rs := each_of (fun v u r e ⟨a, e2, q⟩ => by
    subst e2
    exact ⟨a, e, q⟩) rv hp
  refine PySem.W.sorted_of_sort hl.isList hz' (PyProof.Rows.ksk_s1 _ _) (fun _ => PyProof.Rows.ksk_l1 _ _) fun E' => ?_
  -- the list that is sorted
  generalize ea : s.heap.objs.size + 1 = a
  have ha0 : s.heap.objs.size ≤ a := by omega
  rw [show [Str.ofString "key"].zip [Value.ref f] = [(Str.ofString "key", Value.ref f)] from rfl, PyProof.Rows.ksk_t1]
  have hoL : (copyHeap s.heap its).get? a = some (seqObj "list" its.toArray 0) := by rw [← ea]; exact copyHeap_at s.heap its
  have ha : a < (copyHeap s.heap its).objs.size := Heap.lt_size hoL
  obtain ⟨e1, ho1⟩ : ∃ e1, ((copyHeap s.heap its).update a (Obj.mapSeq fun _ => (#[] : Array Value))).get? a = some (seqObj "list" #[] e1) := ⟨_, get?_update_seq hoL fun _ => #[]⟩
  have hkS : (((copyHeap s.heap its).update a (Obj.mapSeq fun _ => (#[] : Array Value))).push (seqObj "tuple" its.toArray 0)).objs.size = (copyHeap s.heap its).objs.size + 1 := by rw [size_push', Heap.size_update]
  unfold ksk_tree
  refine wpAny_bind (listItems_at hoL rfl ?_)
  refine wpAny_bind (listUpdate_at hoL rfl ?_ (by rw [List.size_toArray]; exact hz') (Nat.zero_le _))
  refine wpAny_bind (seqEpoch_at ho1 rfl ?_)
  refine wpAny_bind (wpAny_newTuple ?_ (by show its.length ≤ _; exact hz'))
  refine wpAny_bind (wpAny_newList ?_ (Nat.zero_le _))
  refine wpAny_holding ?_
  show wpAny _ _ _ _ _ { s with heap := sortingHeap (copyHeap s.heap its) a its }
  have I1 : Inv X pins σ H { s with heap := sortingHeap (copyHeap s.heap its) a its } := I.kept (t' := s.toks) fun b u e => by
    rw [← ea]
    exact sorting_copy_old e
  generalize ek : (((copyHeap s.heap its).update a (Obj.mapSeq fun _ => (#[] : Array Value))).push (seqObj "tuple" its.toArray 0)).objs.size = kS at hkS ⊢
  have hk0 : s.heap.objs.size ≤ kS := by omega
  have hka : kS ≠ a := by omega
  have nk0 : (sortingHeap (copyHeap s.heap its) a its).get? kS = some (seqObj "list" #[] 0) := by
    rw [← ek]
    exact Heap.get?_push_size _ rfl
  have na0 : (sortingHeap (copyHeap s.heap its) a its).get? a = some (seqObj "list" #[] e1) := Heap.get?_push_of_some _ (Heap.get?_push_of_some _ ho1)
  have fa : a ∉ frs X.stack := not_frs I ha0
  have fk : kS ∉ frs X.stack := not_frs I hk0
  unfold ksk_rest
  refine wpAny_bind (wpAny_rule ?_)
  first
    | rw [List.forIn_toArray]
    | (rw [← Array.forIn_toList]; simp only [List.toList_toArray])
    | rw [← Array.forIn_toList]
  refine wpAny_bind (ksk_fold (fun i s' => ∃ H' kA e, Inv X pins σ H' s' ∧ Same H H' ∧ H' a = none ∧ H' kS = none ∧ s'.heap.get? kS = some (seqObj "list" kA e) ∧ s'.heap.get? a = some (seqObj "list" #[] e1) ∧
      EachIs (fun v r => ∃ p, v = Value.ref p ∧ H' p = some (.tup (keyV r))) kA.toList (rs.take i)) its 0 _
    ⟨H, #[], 0, I1, Same.refl _, I.hok.fresh ha0, I.hok.fresh hk0, nk0, na0, by rw [List.take_zero]; exact EachIs.nil⟩ ?step ?done)
  case step =>
    rintro j x s' hx ⟨H', kA, e, I', hS, hHa, hHk, nk', na', hk⟩
    simp only [Nat.zero_add] at hk ⊢
    have hj : j < its.length := (List.getElem?_eq_some_iff.mp hx).1
    have hj2 : j < rs.length := by omega
    obtain ⟨rj, hrj⟩ : ∃ rj, rs[j]? = some rj := ⟨_, List.getElem?_eq_getElem hj2⟩
    have hmem := List.mem_of_getElem? hrj
    obtain ⟨_, hl10, _⟩ := hrs rj hmem
    have hzip : (x, rj) ∈ its.zip rs := List.mem_of_getElem? (i := j) (by rw [List.getElem?_zip_eq_some]; exact ⟨hx, hrj⟩)
    obtain ⟨xa, ex, hxa⟩ := eR.zip _ hzip
    have ex : x = Value.ref xa := ex
    subst ex
    have hz3 : kA.size ≤ its.length := by
      have h1 := hk.length
      rw [Array.length_toList, List.length_take] at h1
      omega
    have hsp : spRowKey X.K [V.ref xa] H' (fun v H2 => ∃ p, v = .ref p ∧ Same H' H2 ∧ H' p = none ∧ H2 p = some (.tup (keyV rj))) C8.E0 := ⟨xa, rj, rfl, Same.tup hS hxa, hl10, fun H2 p h1 h2 h3 => ⟨p, rfl, h1, h2, h3⟩⟩
    have hbs := hb s' [Value.ref xa] I'.kIn (by have := F.len _ _ _ _ hsp; simpa using this)
    refine wpAny_bind (wpAny_attempt (wpAny_call (codeAny_mono (F.run X.A.in1.in1 X.stack s' H' ⟨[Value.ref xa], []⟩ [Value.ref xa] [V.ref xa] _ C8.E0 hr.in1.in1 I'.env0.in1.in1 hbs (.cons rfl .nil) hsp) fun res s2 hq => ?_)))
    cases res with
    | error e => exact False.elim hq
    | ok fl =>
      cases fl with
      | next => exact False.elim hq
      | brk => exact False.elim hq
      | cont => exact False.elim hq
      | ret u =>
        obtain ⟨v, H2, I2, un, ru, p, rfl, s2S, hp0, hp2⟩ := after_un I' hq
        obtain rfl : u = Value.ref p := ru
        try dsimp only
        have nk2 : s2.heap.get? kS = some (seqObj "list" kA e) := un.keep _ _ nk' hHk fk (by simp)
        have na2 : s2.heap.get? a = some (seqObj "list" #[] e1) := un.keep _ _ na' hHa fa (by simp)
        have hHa2 : H2 a = none := un.free _ _ na' hHa (by simp)
        have hHk2 : H2 kS = none := un.free _ _ nk' hHk (by simp)
        have s1 := Heap.SameBut.update s2.heap kS (Obj.mapSeq (·.push (Value.ref p)))
        obtain ⟨c2, hc2⟩ : ∃ c2, (s2.heap.update kS (Obj.mapSeq (·.push (Value.ref p)))).get? kS = some (seqObj "list" (kA.push (Value.ref p)) c2) := ⟨_, get?_update_seq nk2 (·.push (Value.ref p))⟩
        have ek2 : rs.take (j + 1) = rs.take j ++ [rj] := by rw [List.take_add_one, hrj]; simp
        have ea2 : (kA.push (Value.ref p)).toList = kA.toList ++ [Value.ref p] := by simp
        refine wpAny_bind (listUpdate_at nk2 rfl ?_ (Nat.le_trans hz3 hz') (Nat.le_trans (Nat.le_of_eq (Array.size_push ..)) (Nat.succ_le_succ (Nat.le_trans hz3 hz'))))
        obtain ⟨f1, f2, f3, f4, f5, f6⟩ := I.fpOk hk0 hHk2
        refine wpAny_pure ⟨rfl, H2, kA.push (Value.ref p), c2, I2.turned (t' := s2.toks) (it := kS) (fun b o hb e => (s1.2 b hb).trans e) f1 f2 f4 f5 f6, Same.trans hS s2S, hHa2, hHk2, hc2, (s1.2 a hka.symm).trans na2, ?_⟩
        rw [ea2, ek2]
        refine each_snoc (R := fun v r => ∃ p, v = Value.ref p ∧ H2 p = some (.tup (keyV r))) ⟨p, rfl, hp2⟩ ?_
        exact hk.mono fun u d ⟨p, e1, e2⟩ => ⟨p, e1, s2S _ _ e2⟩
  case done =>
    rintro s' ⟨H', kA, e, I', hS, hHa, hHk, nk', na', hk⟩
    have e3 : rs.take (0 + its.length) = rs := List.take_of_length_le (by omega)
    rw [e3] at hk
    have hk' : EachIs (fun v r => KeyAt s'.heap v r) kA.toList rs := hk.mono fun u r ⟨p, e1, e2⟩ => by
      subst e1
      exact keyAt_of (I'.hok p _ e2)
    have hsz : kA.size = its.length := by
      have h1 := hk'.length
      rw [Array.length_toList] at h1
      omega
    try dsimp only
    refine wpAny_bind (listItems_at nk' rfl ?_)
    obtain ⟨G, g0, g1, g2⟩ := keeps_restrict (g := s'.heap) (a := a) (kS := kS)
    have hok : ∀ r ∈ rs, ∀ c ∈ r, CellOk c := fun r m => (hrs r m).2.2
    have S : SortsAt X.prog X.w X.A.in1.in1 s' (rowKind s'.heap rs) kA.toList := sortsRows hk' hok (fun r m => (hrs r m).1) (by have := hr.un; show X.A.units + 1 + 1 + 1 < _; omega)
    refine keyH_end (κ := rowKind s'.heap rs) (h₁ := G) (fun b o _ e => g2 b o e) g0 nk' na' hka S hsz hz' fun h3 tk3 c k3 n3 => ⟨rfl, ?_⟩
    have es := sortVals_each (κ := rowKind s'.heap rs) (rev := false) (R := isRowAt X.K H) (k := fun r => keyToksAll (keyR r)) eR (by
      have hm := each_mem hk'
      exact hm.mono fun v r ⟨h1, h2⟩ => rowKind_some hok h2 h1)
    rw [inc_sorted hinc] at es
    obtain ⟨vs', v1, v2⟩ := vals_of_each es
    have hlen' : vs'.length ≤ sizeLine := by
      rw [paired_len v2, ← hlen]
      exact hz'
    obtain ⟨G2, m0, m1, m2⟩ := keeps_restrict (g := h3) (a := kS) (kS := a)
    have I3 : Inv X pins σ H' { s' with heap := G2, toks := tk3 } := by
      refine I'.turnedL (ch := [a, kS]) (fun b o hb e => ?_) fun b hb => ?_
      · have n1 : b ≠ a := fun z => hb (by simp [z])
        have n2 : b ≠ kS := fun z => hb (by simp [z])
        exact m1 b o n1 (k3 b o n1 (g1 b o n2 e))
      · rcases List.mem_cons.mp hb with rfl | hb
        · exact I.fpOk ha0 hHa
        · obtain rfl : b = kS := by simpa using hb
          exact I.fpOk hk0 hHk
    refine ⟨.ref a, upd H' a (.lst vs'), ?_, rfl, q _ a (fun b o e => ?_) (I.hok.fresh ha0) ⟨vs', upd_same, ?_⟩⟩
    · exact I3.laidN (t' := tk3) (h' := h3) m2 m0 hHa ⟨hlen', _, c, v1, n3⟩
    · rw [upd_ne (ne_of_none e (I.hok.fresh ha0))]
      exact hS b o e
    · exact rowsA_same (fun b o e => by
        rw [upd_ne (ne_of_none e (I.hok.fresh ha0))]
        exact hS b o e) v2
end
end K9

set_option Elab.async false
set_option linter.all false
set_option maxRecDepth 100000
set_option maxHeartbeats 4000000
/-! value_key, row_key; State. -/
namespace K9
open PySem PySem.Spec PyProof.Rows L2
theorem hu65 {k : Nat} {A : Around} (hr : Room k A) : A.units + 65 < cLine := by
  have := hr.un
  omega
/-! ### rows as data -/
def rowD (r : Row) : PyData := .tuple (r.map Cell.d)
theorem dpAll_row {K : PySem.W.Frag} {H : Hp} : ∀ r : Row, DpAll K H (rowV r) (r.map Cell.d)
  | [] => .nil
  | .n i :: r => .cons (.int i) (dpAll_row r)
  | .t x :: r => .cons (.str x) (dpAll_row r)
theorem dp_row {K : PySem.W.Frag} {H : Hp} {v : V} {r : Row} (h : RowA K H v r) : Dp K H v (rowD r) := by
  obtain ⟨a, rfl, q⟩ := h
  exact .tup q (dpAll_row r)
theorem dpAll_rows {K : PySem.W.Frag} {H : Hp} : ∀ {vs : List V} {rs : List Row}, Paired (RowA K H) vs rs → DpAll K H vs (rs.map rowD)
  | _, _, .nil => .nil
  | _, _, .cons r t => .cons (dp_row r) (dpAll_rows t)
theorem dp_rows {K : PySem.W.Frag} {H : Hp} {a : Addr} {rs : List Row} (h : RowsA K H a rs) : Dp K H (.ref a) (.list (rs.map rowD)) := by
  obtain ⟨vs, h1, h2⟩ := h
  exact .lst h1 (dpAll_rows h2)
theorem strOk_cell {x : Str} (h : CellOk (.t x)) : PyData.strOk x = true := by
  unfold PyData.strOk
  rw [← Array.all_toList, List.all_eq_true]
  intro c hc
  have := (h.2 c hc).2.1
  simp
  omega
theorem lay_cells : ∀ {r : Row}, (∀ c ∈ r, CellOk c) → PyData.canLayAll0 (r.map Cell.d) = true
  | [], _ => by simp [PyData.canLayAll0]
  | c :: r, h => by
    have ih := lay_cells (r := r) fun d hd => h d (List.mem_cons_of_mem _ hd)
    cases c with
    | n i =>
      show PyData.canLayAll0 (.int i :: r.map Cell.d) = true
      simp [PyData.canLayAll0, PyData.canLay0, ih]
    | t x =>
      have := strOk_cell (h (.t x) List.mem_cons_self)
      show PyData.canLayAll0 (.str x :: r.map Cell.d) = true
      simp [PyData.canLayAll0, PyData.canLay0, ih, this]
theorem depth_cells : ∀ r : Row, PyData.depthAll (r.map Cell.d) = 0
  | [] => by simp [PyData.depthAll]
  | .n i :: r => by
    have ih := depth_cells r
    show PyData.depthAll (.int i :: r.map Cell.d) = 0
    simp [PyData.depthAll, PyData.depth, ih]
  | .t x :: r => by
    have ih := depth_cells r
    show PyData.depthAll (.str x :: r.map Cell.d) = 0
    simp [PyData.depthAll, PyData.depth, ih]
theorem shaped_row {r : Row} (h : ∀ c ∈ r, CellOk c) : SeqAt.shaped (rowD r) = true := by
  unfold SeqAt.shaped rowD
  rw [Bool.and_eq_true]
  exact ⟨by rw [PyData.canLay0]; exact lay_cells h, by rw [PyData.depth, depth_cells]; decide⟩
theorem lay_rows : ∀ {rs : List Row}, (∀ r ∈ rs, ∀ c ∈ r, CellOk c) → PyData.canLayAll0 (rs.map rowD) = true
  | [], _ => by simp [PyData.canLayAll0]
  | r :: rs, h => by
    have ih := lay_rows (rs := rs) fun d hd => h d (List.mem_cons_of_mem _ hd)
    have h1 : PyData.canLay0 (rowD r) = true := by
      unfold rowD
      rw [PyData.canLay0]
      exact lay_cells (h r List.mem_cons_self)
    simp [PyData.canLayAll0, ih, h1]
theorem depth_rows : ∀ rs : List Row, PyData.depthAll (rs.map rowD) ≤ 1
  | [] => by simp [PyData.depthAll]
  | r :: rs => by
    have ih := depth_rows rs
    have h1 : PyData.depth (rowD r) = 1 := by
      unfold rowD
      rw [PyData.depth, depth_cells]
    simp only [List.map_cons, PyData.depthAll]
    omega
theorem shaped_rows {rs : List Row} (h : ∀ r ∈ rs, ∀ c ∈ r, CellOk c) : SeqAt.shaped (.list (rs.map rowD)) = true := by
  have h1 := depth_rows rs
  unfold SeqAt.shaped
  rw [Bool.and_eq_true]
  exact ⟨by rw [PyData.canLay0]; exact lay_rows h, by rw [PyData.depth]; exact decide_eq_true (by omega)⟩
theorem eqv_cells : ∀ a b : Row, PyData.eqvAll (a.map Cell.d) (b.map Cell.d) = decide (a = b)
  | [], [] => by simp [PyData.eqvAll]
  | [], .n _ :: _ => by simp [PyData.eqvAll]
  | [], .t _ :: _ => by simp [PyData.eqvAll]
  | .n _ :: _, [] => by simp [PyData.eqvAll]
  | .t _ :: _, [] => by simp [PyData.eqvAll]
  | c :: r, d :: t => by
    have ih := eqv_cells r t
    cases c with
    | n i =>
      cases d with
      | n j =>
        show PyData.eqvAll (.int i :: r.map Cell.d) (.int j :: t.map Cell.d) = _
        simp only [PyData.eqvAll, PyData.eqv, ih]
        by_cases e : i = j <;> by_cases e2 : r = t <;> simp [e, e2]
      | t y =>
        show PyData.eqvAll (.int i :: r.map Cell.d) (.str y :: t.map Cell.d) = _
        simp [PyData.eqvAll, PyData.eqv]
    | t x =>
      cases d with
      | n j =>
        show PyData.eqvAll (.str x :: r.map Cell.d) (.int j :: t.map Cell.d) = _
        simp [PyData.eqvAll, PyData.eqv]
      | t y =>
        show PyData.eqvAll (.str x :: r.map Cell.d) (.str y :: t.map Cell.d) = _
        simp only [PyData.eqvAll, PyData.eqv, ih]
        by_cases e : x = y <;> by_cases e2 : r = t <;> simp [e, e2]
theorem eqv_row (a b : Row) : PyData.eqv (rowD a) (rowD b) = decide (a = b) := by
  unfold rowD
  rw [PyData.eqv]
  exact eqv_cells a b
theorem any_row (rs : List Row) (r : Row) : ((rs.map rowD).any fun z => PyData.eqv z (rowD r)) = decide (r ∈ rs) := by
  rw [List.any_map]
  rw [Bool.eq_iff_iff, List.any_eq_true, decide_eq_true_iff]
  constructor
  · rintro ⟨x, hx, e⟩
    have e' : PyData.eqv (rowD x) (rowD r) = true := e
    rw [eqv_row] at e'
    exact of_decide_eq_true e' ▸ hx
  · intro h
    refine ⟨r, h, ?_⟩
    show PyData.eqv (rowD r) (rowD r) = true
    rw [eqv_row]
    exact decide_eq_true rfl
/-! ### what never changes: tuples, known things -/
def TupO : HO → Prop
  | .tup _ => True
  | .frz _ _ => True
  | _ => False
def TSm (H H' : Hp) : Prop := ∀ b o, H b = some o → TupO o → H' b = some o
theorem TSm.refl (H : Hp) : TSm H H := fun _ _ h _ => h
theorem tsm_same {H H' : Hp} (e : Same H H') : TSm H H' := fun b o h _ => e b o h
theorem TSm.trans {H H1 H2 : Hp} (a : TSm H H1) (b : TSm H1 H2) : TSm H H2 := fun c o h t => b c o (a c o h t) t
theorem TSm.put {H : Hp} {p : Addr} {o : HO} (h : ∀ u, H p = some u → ¬ TupO u) : TSm H (upd H p o) := fun b x e t => by
  rw [upd_ne (fun z => by rw [z] at e; exact h _ e t)]
  exact e
theorem nt_lst {H : Hp} {p : Addr} {xs : List V} (h : H p = some (.lst xs)) : ∀ u, H p = some u → ¬ TupO u := fun u e t => by
  rw [h] at e
  cases e
  exact t
theorem nt_dK {H : Hp} {p : Addr} {xs : List (Key × V)} (h : H p = some (.dK xs)) : ∀ u, H p = some u → ¬ TupO u := fun u e t => by
  rw [h] at e
  cases e
  exact t
theorem nt_ins {H : Hp} {p C dx : Addr} {fs : List (Str × V)} (h : H p = some (.ins C dx fs)) : ∀ u, H p = some u → ¬ TupO u := fun u e t => by
  rw [h] at e
  cases e
  exact t
theorem TSm.tup {K : PySem.W.Frag} {H H' : Hp} {a : Addr} {xs : List V} (e : TSm H H') (h : SqT K H a xs) : SqT K H' a xs := by
  rcases h with (h | ⟨o, h⟩) | h
  · exact .inl (.inl (e _ _ h True.intro))
  · exact .inl (.inr ⟨o, e _ _ h True.intro⟩)
  · exact .inr h
theorem RowA.ts {K : PySem.W.Frag} {H H' : Hp} {v : V} {r : Row} (e : TSm H H') (h : RowA K H v r) : RowA K H' v r := by
  obtain ⟨a, rfl, q⟩ := h
  exact ⟨a, rfl, e.tup q⟩
theorem RelA.ts {K : PySem.W.Frag} {H H' : Hp} {v : V} {r : Rel} (e : TSm H H') (h : RelA K H v r) : RelA K H' v r := by
  obtain ⟨t, ct, rfl, h1, h2, o, u, h3, h4⟩ := h
  exact ⟨t, ct, rfl, e.tup h1, e.tup h2, o, u, e _ _ h3 True.intro, h4⟩
theorem StcA.ts {K : PySem.W.Frag} {H H' : Hp} {v : V} {r : Stc} (e : TSm H H') (h : StcA K H v r) : StcA K H' v r := by
  obtain ⟨t, ct, rfl, h1, h2⟩ := h
  exact ⟨t, ct, rfl, e.tup h1, e.tup h2⟩
/-! ### a State that is filled -/
def StF (fs : List (Str × V)) (dR dF dS : Addr) : Prop := fs.length ≤ 10 ∧ fs.lookup ("relations" : Str) = some (.ref dR) ∧ fs.lookup ("facts" : Str) = some (.ref dF) ∧ fs.lookup ("structures" : Str) = some (.ref dS) ∧
  fs.lookup ("_put" : Str) = none ∧ fs.lookup ("_order_facts" : Str) = none ∧ fs.lookup ("has" : Str) = none
def FactM (K : PySem.W.Frag) (H : Hp) (v : V) (r : Rel) : Prop := ∃ a vs, v = .ref a ∧ H a = some (.lst vs) ∧ Paired (RowA K H) vs r.rows
theorem FactM.fact {K : PySem.W.Frag} {H : Hp} {v : V} {r : Rel} (h : FactM K H v r) : FactA K H v r := by
  obtain ⟨a, vs, rfl, h1, h2⟩ := h
  exact ⟨a, rfl, vs, SqL.of h1, h2⟩
theorem FactM.same {K : PySem.W.Frag} {H H' : Hp} {v : V} {r : Rel} (e : Same H H') (h : FactM K H v r) : FactM K H' v r := by
  obtain ⟨a, vs, rfl, h1, h2⟩ := h
  exact ⟨a, vs, rfl, e _ _ h1, rowsA_same e h2⟩
/-- the three dicts, still written to; H0 is the heap ahead of the State -/
structure PSt (K : PySem.W.Frag) (H0 H : Hp) (dR dF dS : Addr) (kR kF kS : List (Key × V)) (sh : Shelf) : Prop where
  hR : H dR = some (.dK kR)
  hF : H dF = some (.dK kF)
  hS : H dS = some (.dK kS)
  n1 : dR ≠ dF
  n2 : dR ≠ dS
  n3 : dF ≠ dS
  pR : Paired (Ent Rel.name (RelA K H)) kR sh.rels
  pF : Paired (Ent Rel.name (FactM K H)) kF sh.rels
  dj : (kF.map Prod.snd).Nodup
  pS : Paired (Ent Stc.name (StcA K H)) kS sh.stcs
  oR : H0 dR = none
  oF : H0 dF = none
  oS : H0 dS = none
  oL : ∀ kv ∈ kF, ∀ a, kv.2 = V.ref a → H0 a = none
  old : Same H0 H
theorem PSt.same {K : PySem.W.Frag} {H0 H H' : Hp} {dR dF dS : Addr} {kR kF kS : List (Key × V)} {sh : Shelf} (e : Same H H') (h : PSt K H0 H dR dF dS kR kF kS sh) : PSt K H0 H' dR dF dS kR kF kS sh :=
  { h with hR := e _ _ h.hR, hF := e _ _ h.hF, hS := e _ _ h.hS, pR := Paired.mapP h.pR fun _ _ q => ⟨q.1, q.2.same e⟩, pF := Paired.mapP h.pF fun _ _ q => ⟨q.1, q.2.same e⟩, pS := Paired.mapP h.pS fun _ _ q => ⟨q.1, q.2.same e⟩, old := Same.trans h.old e }
def PAt (K : PySem.W.Frag) (H0 H : Hp) (x : Addr) (sh : Shelf) : Prop := H0 x = none ∧ ∃ dx fs dR dF dS kR kF kS, H x = some (.ins (CS K) dx fs) ∧ StF fs dR dF dS ∧ PSt K H0 H dR dF dS kR kF kS sh
theorem PAt.same {K : PySem.W.Frag} {H0 H H' : Hp} {x : Addr} {sh : Shelf} (e : Same H H') (h : PAt K H0 H x sh) : PAt K H0 H' x sh := by
  obtain ⟨o, dx, fs, dR, dF, dS, kR, kF, kS, h1, h2, h3⟩ := h
  exact ⟨o, dx, fs, dR, dF, dS, kR, kF, kS, e _ _ h1, h2, h3.same e⟩
inductive Item where
  | rel (r : Rel)
  | fact (nm : Str) (row : Row)
  | stc (s : Stc)
def ItA (K : PySem.W.Frag) (H : Hp) (v : V) : Item → Prop
  | .rel r => ∃ t ct, v = .ref t ∧ SqT K H t [.str "relation", .str r.name, .ref ct, .int (r.room : Int)] ∧ SqT K H ct (r.cols.map V.str) ∧ PlainT H ct
  | .fact nm row => ∃ t ra, v = .ref t ∧ SqT K H t [.str "fact", .str nm, .ref ra] ∧ SqT K H ra (rowV row)
  | .stc s => ∃ t ct, v = .ref t ∧ SqT K H t [.str "structure", .str s.name, .str s.rel, .ref ct, .int (s.buckets : Int), .int (s.sectors : Int)] ∧ SqT K H ct (s.cols.map V.str)
theorem ItA.same {K : PySem.W.Frag} {H H' : Hp} {v : V} {it : Item} (e : Same H H') (h : ItA K H v it) : ItA K H' v it := by
  cases it with
  | rel r =>
    obtain ⟨t, ct, h0, h1, h2, o, u, h3, h4⟩ := h
    exact ⟨t, ct, h0, Same.tup e h1, Same.tup e h2, o, u, e _ _ h3, h4⟩
  | fact nm row =>
    obtain ⟨t, ra, h0, h1, h2⟩ := h
    exact ⟨t, ra, h0, Same.tup e h1, Same.tup e h2⟩
  | stc s =>
    obtain ⟨t, ct, h0, h1, h2⟩ := h
    exact ⟨t, ct, h0, Same.tup e h1, Same.tup e h2⟩
/-- a relation with one row more -/
def addRow (nm : Str) (row : Row) (r : Rel) : Rel := if r.name = nm then { r with rows := r.rows ++ [row] } else r
def putI (sh : Shelf) : Item → Shelf
  | .rel r => ⟨sh.rels ++ [{ r with rows := [] }], sh.stcs⟩
  | .fact nm row => ⟨sh.rels.map (addRow nm row), sh.stcs⟩
  | .stc s => ⟨sh.rels, sh.stcs ++ [s]⟩
def PutOk (sh : Shelf) : Item → Prop
  | .rel r => r.name ∉ sh.rels.map Rel.name ∧ sh.rels.length < 100
  | .fact nm row => (sh.rels.map Rel.name).Nodup ∧ sh.rels.length < 100 ∧ ∃ r ∈ sh.rels, r.name = nm ∧ row ∉ r.rows ∧ r.rows.length < 100 ∧ (∀ c ∈ row, CellOk c) ∧ ∀ t ∈ r.rows, ∀ c ∈ t, CellOk c
  | .stc s => s.name ∉ sh.stcs.map Stc.name ∧ sh.stcs.length < 100
theorem ent_none {β : Type} {nm : β → Str} {R : V → β → Prop} : ∀ {kvs : List (Key × V)} {bs : List β} {k : Str}, Paired (Ent nm R) kvs bs → k ∉ bs.map nm → valV kvs (Sum.inr k) = none
  | _, _, _, .nil, _ => rfl
  | _, _, k, .cons (b := b0) r t, h => by
    rw [valV_neg]
    · exact ent_none t fun z => h (List.mem_cons_of_mem _ z)
    · intro z
      rw [r.1] at z
      exact h (by rw [← Sum.inr.inj z]; exact List.mem_cons_self)
theorem ent_mem {β : Type} {nm : β → Str} {R : V → β → Prop} {v : V} : ∀ {kvs : List (Key × V)} {bs : List β}, Paired (Ent nm R) kvs bs → ∀ {b : β}, b ∈ bs → ∃ kv ∈ kvs, Ent nm R kv b
  | _, _, .nil, _, h => by cases h
  | _, _, .cons (a := kv) r t, b, h => by
    rcases List.mem_cons.mp h with rfl | h
    · exact ⟨kv, List.mem_cons_self, r⟩
    · obtain ⟨kv', h1, h2⟩ := ent_mem (v := v) t h
      exact ⟨kv', List.mem_cons_of_mem _ h1, h2⟩
/-- the pair that a name finds -/
theorem ent_find {β : Type} {nm : β → Str} {R : V → β → Prop} : ∀ {kvs : List (Key × V)} {bs : List β}, Paired (Ent nm R) kvs bs → (bs.map nm).Nodup → ∀ {b : β}, b ∈ bs → ∃ kv ∈ kvs, valV kvs (Sum.inr (nm b)) = some kv.2 ∧ R kv.2 b
  | _, _, .nil, _, _, h => by cases h
  | _, _, .cons (a := kv) (b := b0) r t, hn, b, h => by
    have hn' : (nm b0 :: _).Nodup := hn
    obtain ⟨n1, n2⟩ := List.nodup_cons.mp hn'
    rcases List.mem_cons.mp h with rfl | h
    · exact ⟨kv, List.mem_cons_self, valV_pos r.1, r.2⟩
    · obtain ⟨kv', h0, h1, h2⟩ := ent_find t n2 h
      refine ⟨kv', List.mem_cons_of_mem _ h0, ?_, h2⟩
      rw [valV_neg, h1]
      intro z
      rw [r.1] at z
      have z2 : nm b0 = nm b := Sum.inr.inj z
      exact n1 (by rw [z2]; exact List.mem_map.mpr ⟨b, h, rfl⟩)
def spValueKey : Sp := fun vs H Q _ => ∃ c : Cell, vs = [c.v] ∧ ∀ H' p, Same H H' → H p = none → H' p = some (.tup (keyCV c)) → Q (.ref p) H'
def spHas (K : PySem.W.Frag) : Sp := fun vs H Q _ => ∃ H0 x ra row sh r, vs = [V.ref x, .str r.name, .ref ra] ∧ PAt K H0 H x sh ∧ (sh.rels.map Rel.name).Nodup ∧ r ∈ sh.rels ∧ SqT K H ra (rowV row) ∧ (∀ c ∈ row, CellOk c) ∧ (∀ t ∈ r.rows, ∀ c ∈ t, CellOk c) ∧
  ∀ H', Same H H' → Q (.bl (decide (row ∈ r.rows))) H'
def spPut (K : PySem.W.Frag) : Sp := fun vs H Q _ => ∃ H0 x v sh it, vs = [V.ref x, v] ∧ PAt K H0 H x sh ∧ ItA K H0 v it ∧ PutOk sh it ∧ ∀ H', PAt K H0 H' x (putI sh it) → Q .non H'
section
variable {P : Program} {w : World} {K : PySem.W.Frag} {mg : Str → Option Value} {base : Heap}
theorem ok_ValueKey {f : Addr} {fd : FuncData} (F : FD K "value_key" "value_key" sValueKey f fd) (hm : mg "value_key" = some (.ref f)) (T : Glob K mg) : C8.Cal P w K mg base 1 "value_key" spValueKey [] := by
  refine cal_mk F hm (FunD.bindsN (ps := PValueKey) F fun _ _ _ _ _ _ us hl => match us, hl with | [_], _ => rfl) scValueKey (fun vs H Q E h => ?_) (fun cdv A outer s H vs Q E hr h => ?_)
  · obtain ⟨c, rfl, _⟩ := h
    rfl
  · obtain ⟨c, rfl, q⟩ := h
    refine ⟨_, (pss_cons (ps_if (pt_val (pe_callB call_isi (by rfl) T.isinstance (by decide +kernel) (pa_cons (pv 0) (pa_cons (pe_bltn (v := .ty "int") (by rfl) T.int (by decide +kernel) rfl) pa_nil))))
    (pss_one (ps_ret (pe_tup (pa_cons pe_int (pa_cons (pv 0) pa_nil)))))
    pss_nil)
    (pss_one (ps_ret (pe_tup (pa_cons pe_int (pa_cons (pv 0) pa_nil)))))), ?_⟩
    cases c with
    | n i =>
      refine ⟨_, rfl, _, _, _, _, true, rfl, .ty _, .base (.int i), kit_ty (by decide +kernel), _, rfl, ?_⟩
      exact ⟨_, rfl, sz2, fun p np => q _ p (same_new np) np upd_same⟩
    | t x =>
      refine ⟨_, rfl, _, _, _, _, false, rfl, .ty _, .base (.str x), kit_ty (by decide +kernel), _, rfl, ?_⟩
      exact ⟨_, rfl, sz2, fun p np => q _ p (same_new np) np upd_same⟩
theorem ok_RowKey {f : Addr} {fd : FuncData} (F : FD K "row_key" "row_key" sRowKey f fd) (hm : mg "row_key" = some (.ref f)) (T : Glob K mg) (cValueKey : C8.Cal P w K mg base 1 "value_key" spValueKey []) : C8.Cal P w K mg base 2 "row_key" (spRowKey K) [] := by
  refine cal_mk F hm (FunD.bindsN (ps := PRowKey) F fun _ _ _ _ _ _ us hl => match us, hl with | [_], _ => rfl) scRowKey (fun vs H Q E h => ?_) (fun cdv A outer s H vs Q E hr h => ?_)
  · obtain ⟨a, r, rfl, _⟩ := h
    rfl
  · obtain ⟨a, r, rfl, hS, hl, q⟩ := h
    refine ⟨_, (pss_cons (ps_set (i := 1) scRowKey.nd rfl (Or.inl rfl) (pe_lst pa_nil))
    (pss_cons (ps_for PassesOwn.never rfl (pi_tup (pv 0)) (pg_name (i := 2) scRowKey.nd rfl (Or.inl rfl))
    (pss_one (ps_expr (pe_bm PySem.F.plainAttrs_list PySem.F.slot_list_extend PySem.F.type_list_extend mt_extendT (pv 1) (pa_cons (C8.pe_c cValueKey hr (by decide) (by rfl) (pa_cons (pv 2) pa_nil)) pa_nil)))))
    (pss_one (ps_ret (pe_callTy call_tuple_of (by rfl) T.tuple (by decide +kernel) (pa_cons (pv 1) pa_nil)))))), ?_⟩
    refine ⟨(by decide), fun d nd => ?_⟩
    refine ⟨_, rfl, a, rfl, ⟨_, Same.tup (same_new nd) hS⟩, for_tup (K := K) (a := a) (xs := rowV r) (fun i σ H' => ∃ y, σ = [some (.ref a), some (.ref d), y] ∧ Same H H' ∧ H' d = some (.lst (keyV (r.take i))))
      ⟨none, rfl, same_new nd, upd_same⟩ (fun i σ H' _ ⟨_, _, e, _⟩ => Same.tup e hS) ?_ ?_⟩
    · rintro i x σ H' hx ⟨y, rfl, e, hd'⟩
      obtain ⟨c, hc, rfl⟩ : ∃ c, r[i]? = some c ∧ x = c.v := by
        unfold rowV at hx
        rw [List.getElem?_map] at hx
        cases q : r[i]? with
        | none => rw [q] at hx; cases hx
        | some c => rw [q] at hx; exact ⟨c, rfl, (Option.some.inj hx).symm⟩
      have hkl : ∀ t : Row, (keyV t).length = 2 * t.length := fun t => by
        induction t with
        | nil => rfl
        | cons c t ih =>
          rw [keyV_cons, List.length_append, ih, List.length_cons]
          cases c <;> (show 2 + _ = _; omega)
      have et : r.take (i + 1) = r.take i ++ [c] := by rw [List.take_add_one, hc]; rfl
      refine ⟨_, rfl, .inl ⟨rfl, _, SqL.of hd'⟩, _, rfl, c, rfl, fun H1 p s1 np hp => ?_⟩
      have hdp : d ≠ p := ne_of_none hd' np
      have hd1 := s1 _ _ hd'
      refine ⟨d, p, _, _, rfl, rfl, hd1, SqT.of hp, ?_, ?_⟩
      · rw [hkl]
        have h1 : (keyCV c).length = 2 := by cases c <;> rfl
        have h2 : (r.take i).length ≤ r.length := by rw [List.length_take]; omega
        exact sz_of (by rw [h1]; omega)
      · refine ⟨_, rfl, same_mut (Same.trans e s1) nd, ?_⟩
        rw [upd_same, et, keyV_app]
        have e1 : keyV [c] = keyCV c := by
          rw [keyV_cons]
          show keyCV c ++ [] = _
          rw [List.append_nil]
        rw [e1]
    · rintro σ H' ⟨y, rfl, e, hd'⟩
      have hlen : (rowV r).length = r.length := List.length_map _
      rw [hlen, List.take_length] at hd'
      refine ⟨_, rfl, d, _, rfl, .inl ⟨SqL.of hd', fun p np => ?_⟩⟩
      exact q _ p (Same.trans e (same_new np)) (e.free np) upd_same
theorem ok_StateHas {f : Addr} {fd : FuncData} (me : Meth K (CS K) "has" f) (F : FD K "has" "State.has" sStateHas f fd) (C : StCls K) : C8.Met P w K mg base 1 (CS K) "has" (spHas K) [] := by
  refine met_mk C.cl me F (FunD.bindsN (ps := PStateHas) F fun _ _ _ _ _ _ us hl => match us, hl with | [_, _, _], _ => rfl) scStateHas (fun vs H Q E h => ?_) (fun cdv A outer s H vs Q E hr h => ?_)
  · obtain ⟨H0, x, ra, row, sh, r, rfl, _⟩ := h
    rfl
  · obtain ⟨H0, x, ra, row, sh, r, rfl, ⟨o, dx, fs, dR, dF, dS, kR, kF, kS, hx, ⟨z, fR, fF, fS, _⟩, p⟩, hn, hr', hra, hc, hrc, q⟩ := h
    obtain ⟨kv, _, hv, a, vs, ea, ha, hp⟩ := ent_find p.pF hn hr'
    refine ⟨_, (pss_one (ps_ret (pe_cmpR (op_inD (hu65 hr)) (pv 2) (pe_dget2 (hu_of hr) (pe_fld (pv 0) rfl) (pv 1) (pe_lst pa_nil) ⟨rfl, rfl, rfl, rfl⟩) (by rfl)))), ?_⟩
    refine ⟨_, rfl, _, rfl, x, _, dx, fs, _, rfl, hx, C.cl, C.nF, fF, dF, rfl, .inl ⟨kF, .of p.hF⟩, _, rfl, (by decide), fun l nl => ?_⟩
    have sm := same_new (o := HO.lst []) nl
    refine ⟨some kv.2, .inl ⟨kF, Sum.inr r.name, .of (sm _ _ p.hF), rfl, hv.symm⟩, ?_⟩
    refine ⟨rowD row, r.rows.map rowD, dp_row ⟨ra, rfl, Same.tup sm hra⟩, ?_, shaped_row hc, shaped_rows hrc, ?_⟩
    · show Dp K _ kv.2 _
      rw [ea]
      exact dp_rows ⟨vs, SqL.of (sm _ _ ha), rowsA_same sm hp⟩
    · rw [any_row]
      exact q _ sm
end
end K9

set_option Elab.async false
set_option linter.all false
set_option maxRecDepth 100000
set_option maxHeartbeats 4000000
/-! State: _put, _order_facts, __init__. -/
namespace K9
open PySem PySem.Spec PyProof.Rows L2
theorem putF_len (f : Str) (v : V) : ∀ fs : List (Str × V), (putF f v fs).length ≤ fs.length + 1
  | [] => Nat.le_refl _
  | (g, x) :: r => by
    show (if g = f then (g, v) :: r else (g, x) :: putF f v r).length ≤ _
    have := putF_len f v r
    split
    · simp
    · simp only [List.length_cons]; omega
theorem ne_val {H : Hp} {a b : Addr} {o u : HO} (h : H a = some o) (h' : H b = some u) (d : o ≠ u) : a ≠ b := ne_of h h' d
theorem FactM.mv {K : PySem.W.Frag} {H H' : Hp} {v : V} {r : Rel} (t : TSm H H') (m : ∀ a, v = .ref a → H' a = H a) (h : FactM K H v r) : FactM K H' v r := by
  obtain ⟨a, vs, rfl, h1, h2⟩ := h
  exact ⟨a, vs, rfl, (m a rfl).trans h1, Paired.mapP h2 fun _ _ q => q.ts t⟩
/-- where a fact list stands -/
theorem fact_at {K : PySem.W.Frag} {H : Hp} : ∀ {kF : List (Key × V)} {rs : List Rel}, Paired (Ent Rel.name (FactM K H)) kF rs → ∀ kv ∈ kF, ∃ a vs, kv.2 = .ref a ∧ H a = some (.lst vs)
  | _, _, .nil, _, h => by cases h
  | _, _, .cons r t, kv, h => by
    rcases List.mem_cons.mp h with rfl | h
    · obtain ⟨a, vs, e, h1, _⟩ := r.2
      exact ⟨a, vs, e, h1⟩
    · exact fact_at t kv h
theorem paired_memL {α β : Type} {R : α → β → Prop} : ∀ {as : List α} {bs : List β}, Paired R as bs → Paired (fun a b => R a b ∧ a ∈ as) as bs
  | _, _, .nil => .nil
  | _, _, .cons r t => .cons ⟨r, List.mem_cons_self⟩ (Paired.mapP (paired_memL t) fun _ _ q => ⟨q.1, List.mem_cons_of_mem _ q.2⟩)
theorem facts_mv {K : PySem.W.Frag} {H H' : Hp} {kF : List (Key × V)} {rs : List Rel} (t : TSm H H') (m : ∀ a vs, H a = some (.lst vs) → H' a = some (.lst vs)) (h : Paired (Ent Rel.name (FactM K H)) kF rs) : Paired (Ent Rel.name (FactM K H')) kF rs :=
  Paired.mapP h fun kv r ⟨e, a, vs, e2, h1, h2⟩ => ⟨e, a, vs, e2, m a vs h1, Paired.mapP h2 fun _ _ q => q.ts t⟩
theorem tsm_upd {H H' : Hp} {p : Addr} {o : HO} (e : TSm H H') (h : ∀ u, H p = some u → ¬ TupO u) : TSm H (upd H' p o) := fun b x eb t => by
  rw [upd_ne (fun z => by rw [z] at eb; exact h _ eb t)]
  exact e b x eb t
theorem nt_none {H : Hp} {p : Addr} (h : H p = none) : ∀ u, H p = some u → ¬ TupO u := fun u e t => by
  rw [h] at e
  cases e
theorem PSt.putRel {K : PySem.W.Frag} {H0 H : Hp} {dR dF dS : Addr} {kR kF kS : List (Key × V)} {sh : Shelf} (h : PSt K H0 H dR dF dS kR kF kS sh) {r : Rel} {ct t l : Addr} (ht : H t = none) (hct : SqT K H0 ct (r.cols.map V.str)) (hp : PlainT H0 ct)
    (hl : (upd (upd H t (.tup [.ref ct, .int (r.room : Int)])) dR (.dK (kR ++ [(Sum.inr r.name, .ref t)]))) l = none) :
    PSt K H0 (upd (upd (upd (upd H t (.tup [.ref ct, .int (r.room : Int)])) dR (.dK (kR ++ [(Sum.inr r.name, .ref t)]))) l (.lst [])) dF (.dK (kF ++ [(Sum.inr r.name, .ref l)]))) dR dF dS (kR ++ [(Sum.inr r.name, .ref t)]) (kF ++ [(Sum.inr r.name, .ref l)]) kS (putI sh (.rel r)) := by
  have htR : t ≠ dR := fun z => by rw [z, h.hR] at ht; cases ht
  have htF : t ≠ dF := fun z => by rw [z, h.hF] at ht; cases ht
  have htS : t ≠ dS := fun z => by rw [z, h.hS] at ht; cases ht
  have hlR : l ≠ dR := ne_new hl
  have hl1 := none_new hl
  have hlt : l ≠ t := ne_new hl1
  have hl0 : H l = none := none_new hl1
  have hlF : l ≠ dF := fun z => by rw [z, h.hF] at hl0; cases hl0
  have hlS : l ≠ dS := fun z => by rw [z, h.hS] at hl0; cases hl0
  have hT : ∀ o, H t = some o → False := fun o e => by rw [ht] at e; cases e
  have ts : TSm H (upd (upd (upd (upd H t (.tup [.ref ct, .int (r.room : Int)])) dR (.dK (kR ++ [(Sum.inr r.name, .ref t)]))) l (.lst [])) dF (.dK (kF ++ [(Sum.inr r.name, .ref l)]))) :=
    tsm_upd (tsm_upd (tsm_upd (tsm_upd (TSm.refl H) (nt_none ht)) (nt_dK h.hR)) (nt_none hl0)) (nt_dK h.hF)
  have ml : ∀ a vs, H a = some (.lst vs) → (upd (upd (upd (upd H t (.tup [.ref ct, .int (r.room : Int)])) dR (.dK (kR ++ [(Sum.inr r.name, .ref t)]))) l (.lst [])) dF (.dK (kF ++ [(Sum.inr r.name, .ref l)]))) a = some (.lst vs) := fun a vs e => by
    rw [upd_ne (ne_of e h.hF (fun z => by cases z)), upd_ne (ne_of_none e hl0), upd_ne (ne_of e h.hR (fun z => by cases z)), upd_ne (ne_of_none e ht)]
    exact e
  have old : Same H0 (upd (upd (upd (upd H t (.tup [.ref ct, .int (r.room : Int)])) dR (.dK (kR ++ [(Sum.inr r.name, .ref t)]))) l (.lst [])) dF (.dK (kF ++ [(Sum.inr r.name, .ref l)]))) := fun b o e => by
    have e1 := h.old b o e
    rw [upd_ne (ne_of_none e h.oF), upd_ne (ne_of_none e1 hl0), upd_ne (ne_of_none e h.oR), upd_ne (ne_of_none e1 ht)]
    exact e1
  have f0 : ∀ b, H b = none → H0 b = none := fun b e => h.old.free e
  refine ⟨?_, ?_, ?_, h.n1, h.n2, h.n3, ?_, ?_, ?_, Paired.mapP h.pS fun _ _ q => ⟨q.1, q.2.ts ts⟩, h.oR, h.oF, h.oS, ?_, old⟩
  · rw [upd_ne h.n1, upd_ne hlR.symm, upd_same]
  · rw [upd_same]
  · rw [upd_ne h.n3.symm, upd_ne hlS.symm, upd_ne h.n2.symm, upd_ne htS.symm]
    exact h.hS
  · refine paired_app (Paired.mapP h.pR fun _ _ q => ⟨q.1, q.2.ts ts⟩) (.cons ⟨rfl, t, ct, rfl, SqT.of ?_, Same.tup old hct, ?_⟩ .nil)
    · rw [upd_ne htF, upd_ne hlt.symm, upd_ne htR, upd_same]
    · obtain ⟨o, u, h3, h4⟩ := hp
      exact ⟨o, u, old _ _ h3, h4⟩
  · refine paired_app (facts_mv ts ml h.pF) (.cons ⟨rfl, l, [], rfl, ?_, .nil⟩ .nil)
    rw [upd_ne hlF, upd_same]
  · rw [List.map_append]
    refine List.nodup_append.mpr ⟨h.dj, by simp, fun x hx y hy => ?_⟩
    obtain ⟨kv, hk, rfl⟩ := List.mem_map.mp hx
    obtain ⟨a, vs, e, ha⟩ := fact_at h.pF kv hk
    have hy : y = V.ref l := by simpa using hy
    rw [hy, e]
    intro z
    cases z
    rw [hl0] at ha
    cases ha
  · intro kv hk a e
    rcases List.mem_append.mp hk with hk | hk
    · exact h.oL kv hk a e
    · have : kv = (Sum.inr r.name, V.ref l) := by simpa using hk
      subst this
      cases e
      exact f0 _ hl0
theorem pF_keep {K : PySem.W.Frag} {H H' : Hp} {nm : Str} {row : Row} {a : Addr} (t : TSm H H') (m : ∀ b, b ≠ a → ∀ vs, H b = some (.lst vs) → H' b = some (.lst vs)) : ∀ {kF : List (Key × V)} {rs : List Rel}, Paired (Ent Rel.name (FactM K H)) kF rs → (∀ kv ∈ kF, kv.2 ≠ .ref a) → (∀ r ∈ rs, r.name ≠ nm) →
    Paired (Ent Rel.name (FactM K H')) kF (rs.map (addRow nm row))
  | _, _, .nil, _, _ => .nil
  | _, _, .cons (b := r) q p, h1, h2 => by
    refine .cons ?_ (pF_keep t m p (fun kv hk => h1 kv (List.mem_cons_of_mem _ hk)) fun r hr => h2 r (List.mem_cons_of_mem _ hr))
    have e : addRow nm row r = r := by
      unfold addRow
      rw [if_neg (h2 r List.mem_cons_self)]
    rw [e]
    obtain ⟨e1, b, vs, e2, h3, h4⟩ := q
    exact ⟨e1, b, vs, e2, m b (fun z => h1 _ List.mem_cons_self (by rw [e2, z])) vs h3, Paired.mapP h4 fun _ _ q => q.ts t⟩
theorem pF_add {K : PySem.W.Frag} {H H' : Hp} {nm : Str} {row : Row} {a : Addr} {vs : List V} {v : V} (t : TSm H H') (m : ∀ b, b ≠ a → ∀ vs, H b = some (.lst vs) → H' b = some (.lst vs)) (ha : H a = some (.lst vs)) (ha' : H' a = some (.lst (vs ++ [v]))) (hv : RowA K H' v row) : ∀ {kF : List (Key × V)} {rs : List Rel}, Paired (Ent Rel.name (FactM K H)) kF rs → (kF.map Prod.snd).Nodup → (rs.map Rel.name).Nodup → valV kF (Sum.inr nm) = some (.ref a) →
    Paired (Ent Rel.name (FactM K H')) kF (rs.map (addRow nm row))
  | _, _, .nil, _, _, _ => .nil
  | _, _, .cons (a := kv) (b := r) (l₁ := kF) q p, h1, h2, h3 => by
    have h1' : (kv.2 :: kF.map Prod.snd).Nodup := h1
    have h2' : (r.name :: _).Nodup := h2
    obtain ⟨d1, d2⟩ := List.nodup_cons.mp h1'
    obtain ⟨d3, d4⟩ := List.nodup_cons.mp h2'
    obtain ⟨e1, b, ws, e2, h4, h5⟩ := q
    by_cases en : r.name = nm
    · rw [valV_pos (by rw [e1, en])] at h3
      have e3 : kv.2 = .ref a := Option.some.inj h3
      rw [e2] at e3
      cases e3
      rw [ha] at h4
      cases h4
      refine .cons ⟨?_, _, _, e2, ha', ?_⟩ (pF_keep t m p (fun kv' hk z => d1 (by rw [e2, ← z]; exact List.mem_map.mpr ⟨kv', hk, rfl⟩)) fun r' hr' z => d3 (by rw [en, ← z]; exact List.mem_map.mpr ⟨r', hr', rfl⟩))
      · rw [e1]
        unfold addRow
        rw [if_pos en]
      · have e : (addRow nm row r).rows = r.rows ++ [row] := by
          unfold addRow
          rw [if_pos en]
        rw [e]
        exact paired_app (Paired.mapP h5 fun _ _ q => q.ts t) (.cons hv .nil)
    · rw [valV_neg (by rw [e1]; exact fun z => en (Sum.inr.inj z))] at h3
      have e : addRow nm row r = r := by
        unfold addRow
        rw [if_neg en]
      refine .cons ?_ (pF_add t m ha ha' hv p d2 d4 h3)
      rw [e]
      refine ⟨e1, b, ws, e2, m b (fun z => ?_) ws h4, Paired.mapP h5 fun _ _ q => q.ts t⟩
      have hm : ∃ kv' ∈ kF, kv'.2 = V.ref a := by
        have : ∀ {l : List (Key × V)}, valV l (Sum.inr nm) = some (V.ref a) → ∃ kv' ∈ l, kv'.2 = V.ref a := fun {l} => by
          induction l with
          | nil => intro h; cases h
          | cons x l ih =>
            intro h
            by_cases e : x.1 = Sum.inr nm
            · rw [valV_pos e] at h
              exact ⟨x, List.mem_cons_self, Option.some.inj h⟩
            · rw [valV_neg e] at h
              obtain ⟨y, h1, h2⟩ := ih h
              exact ⟨y, List.mem_cons_of_mem _ h1, h2⟩
        exact this h3
      obtain ⟨kv', hk, ek⟩ := hm
      exact d1 (by rw [e2, z, ← ek]; exact List.mem_map.mpr ⟨kv', hk, rfl⟩)
theorem PSt.putFact {K : PySem.W.Frag} {H0 H : Hp} {dR dF dS : Addr} {kR kF kS : List (Key × V)} {sh : Shelf} (h : PSt K H0 H dR dF dS kR kF kS sh) {nm : Str} {row : Row} {a ra : Addr} {vs : List V} (hn : (sh.rels.map Rel.name).Nodup) (hv : valV kF (Sum.inr nm) = some (.ref a)) (ha : H a = some (.lst vs)) (hra : SqT K H0 ra (rowV row)) (h0 : H0 a = none) :
    PSt K H0 (upd H a (.lst (vs ++ [.ref ra]))) dR dF dS kR kF kS (putI sh (.fact nm row)) := by
  have ts : TSm H (upd H a (.lst (vs ++ [.ref ra]))) := tsm_upd (TSm.refl H) (nt_lst ha)
  have old : Same H0 (upd H a (.lst (vs ++ [.ref ra]))) := fun b o e => by
    rw [upd_ne (ne_of_none e h0)]
    exact h.old b o e
  refine ⟨?_, ?_, ?_, h.n1, h.n2, h.n3, ?_, ?_, h.dj, Paired.mapP h.pS fun _ _ q => ⟨q.1, q.2.ts ts⟩, h.oR, h.oF, h.oS, h.oL, old⟩
  · rw [upd_ne (ne_of h.hR ha (fun z => by cases z))]
    exact h.hR
  · rw [upd_ne (ne_of h.hF ha (fun z => by cases z))]
    exact h.hF
  · rw [upd_ne (ne_of h.hS ha (fun z => by cases z))]
    exact h.hS
  · have : ∀ {kR : List (Key × V)} {rs : List Rel}, Paired (Ent Rel.name (RelA K H)) kR rs → Paired (Ent Rel.name (RelA K (upd H a (.lst (vs ++ [.ref ra]))))) kR (rs.map (addRow nm row)) := fun {kR rs} p => by
      induction p with
      | nil => exact .nil
      | cons q t ih =>
        rename_i r _ _
        refine .cons ?_ ih
        obtain ⟨e1, q2⟩ := q
        have q3 := q2.ts ts
        obtain ⟨t, ct, e, h1, h2⟩ := q3
        have z : (addRow nm row r).name = r.name ∧ (addRow nm row r).cols = r.cols ∧ (addRow nm row r).room = r.room := by
          unfold addRow
          split <;> exact ⟨rfl, rfl, rfl⟩
        refine ⟨by rw [z.1]; exact e1, t, ct, e, by rw [z.2.2]; exact h1, by rw [z.2.1]; exact h2⟩
    exact this h.pR
  · exact pF_add ts (fun b hb ws e => by rw [upd_ne hb]; exact e) ha upd_same ⟨ra, rfl, Same.tup old hra⟩ h.pF h.dj hn hv
theorem PSt.putStc {K : PySem.W.Frag} {H0 H : Hp} {dR dF dS : Addr} {kR kF kS : List (Key × V)} {sh : Shelf} (h : PSt K H0 H dR dF dS kR kF kS sh) {s : Stc} {ct t : Addr} (ht : H t = none) (hct : SqT K H0 ct (s.cols.map V.str)) :
    PSt K H0 (upd (upd H t (.tup [.str s.rel, .ref ct, .int (s.buckets : Int), .int (s.sectors : Int)])) dS (.dK (kS ++ [(Sum.inr s.name, .ref t)]))) dR dF dS kR kF (kS ++ [(Sum.inr s.name, .ref t)]) (putI sh (.stc s)) := by
  have htR : t ≠ dR := fun z => by rw [z, h.hR] at ht; cases ht
  have htF : t ≠ dF := fun z => by rw [z, h.hF] at ht; cases ht
  have htS : t ≠ dS := fun z => by rw [z, h.hS] at ht; cases ht
  have ts : TSm H (upd (upd H t (.tup [.str s.rel, .ref ct, .int (s.buckets : Int), .int (s.sectors : Int)])) dS (.dK (kS ++ [(Sum.inr s.name, .ref t)]))) := tsm_upd (tsm_upd (TSm.refl H) (nt_none ht)) (nt_dK h.hS)
  have old : Same H0 (upd (upd H t (.tup [.str s.rel, .ref ct, .int (s.buckets : Int), .int (s.sectors : Int)])) dS (.dK (kS ++ [(Sum.inr s.name, .ref t)]))) := fun b o e => by
    have e1 := h.old b o e
    rw [upd_ne (ne_of_none e h.oS), upd_ne (ne_of_none e1 ht)]
    exact e1
  refine ⟨?_, ?_, ?_, h.n1, h.n2, h.n3, Paired.mapP h.pR fun _ _ q => ⟨q.1, q.2.ts ts⟩, facts_mv ts (fun a vs e => ?_) h.pF, h.dj, ?_, h.oR, h.oF, h.oS, h.oL, old⟩
  · rw [upd_ne h.n2, upd_ne htR.symm]
    exact h.hR
  · rw [upd_ne h.n3, upd_ne htF.symm]
    exact h.hF
  · rw [upd_same]
  · rw [upd_ne (ne_of e h.hS (fun z => by cases z)), upd_ne (ne_of_none e ht)]
    exact e
  · refine paired_app (Paired.mapP h.pS fun _ _ q => ⟨q.1, q.2.ts ts⟩) (.cons ⟨rfl, t, ct, rfl, SqT.of ?_, Same.tup old hct⟩ .nil)
    rw [upd_ne htS, upd_same]
section
variable {P : Program} {w : World} {K : PySem.W.Frag} {mg : Str → Option Value} {base : Heap}
theorem ok_StatePut {f : Addr} {fd : FuncData} (me : Meth K (CS K) "_put" f) (F : FD K "_put" "State._put" sStatePut f fd) (C : StCls K) (cStateHas : C8.Met P w K mg base 1 (CS K) "has" (spHas K) []) : C8.Met P w K mg base 2 (CS K) "_put" (spPut K) [] := by
  refine met_mk C.cl me F (FunD.bindsN (ps := PStatePut) F fun _ _ _ _ _ _ us hl => match us, hl with | [_, _], _ => rfl) scStatePut (fun vs H Q E h => ?_) (fun cdv A outer s H vs Q E hr h => ?_)
  · obtain ⟨H0, x, v, sh, it, rfl, _⟩ := h
    rfl
  · obtain ⟨H0, x, v, sh, it, rfl, hP, hI, hO, q⟩ := h
    have hP0 := hP
    obtain ⟨o, dx, fs, dR, dF, dS, kR, kF, kS, hx, ⟨z, fR, fF, fS, l1, l2, l3⟩, p⟩ := hP
    refine ⟨_, (pss_cons (ps_set (i := 2) scStatePut.nd rfl (Or.inl rfl) (pe_ix ix_tup (pv 1) pe_int (fun _ _ => rfl)))
    (pss_cons (ps_set (i := 3) scStatePut.nd rfl (Or.inl rfl) (pe_ix ix_tup (pv 1) pe_int (fun _ _ => rfl)))
    (pss_one (ps_if (pt_cmpR op_eq (pv 2) pe_str (nomark _))
    (pss_cons (ps_dput (hu_of hr) (pe_fld (pv 0) rfl) (pv 3) (pe_tup (pa_cons (pe_ix ix_tup (pv 1) pe_int (fun _ _ => rfl)) (pa_cons (pe_ix ix_tup (pv 1) pe_int (fun _ _ => rfl)) pa_nil))) rfl)
      (pss_one (ps_expr (pe_dsetd (pe_fld (pv 0) rfl) (pv 3) (pe_lst pa_nil) ⟨rfl, rfl, rfl, rfl⟩))))
    (pss_one (ps_if (pt_cmpR op_eq (pv 2) pe_str (nomark _))
      (pss_one (ps_if (pt_not (pt_val (C8.pe_mt cStateHas hr (by decide) (pv 0) (pa_cons (pv 3) (pa_cons (pe_ix ix_tup (pv 1) pe_int (fun _ _ => rfl)) pa_nil)))))
        (pss_one (ps_expr (pe_bm PySem.F.plainAttrs_list PySem.F.slot_list_append PySem.F.type_list_append mt_append (pe_dsetd (pe_fld (pv 0) rfl) (pv 3) (pe_lst pa_nil) ⟨rfl, rfl, rfl, rfl⟩) (pa_cons (pe_ix ix_tup (pv 1) pe_int (fun _ _ => rfl)) pa_nil))))
        pss_nil))
      (pss_one (ps_if (pt_cmpR op_eq (pv 2) pe_str (nomark _))
        (pss_one (ps_dput (hu_of hr) (pe_fld (pv 0) rfl) (pv 3) (pe_tup (pa_cons (pe_ix ix_tup (pv 1) pe_int (fun _ _ => rfl)) (pa_cons (pe_ix ix_tup (pv 1) pe_int (fun _ _ => rfl)) (pa_cons (pe_ix ix_tup (pv 1) pe_int (fun _ _ => rfl)) (pa_cons (pe_ix ix_tup (pv 1) pe_int (fun _ _ => rfl)) pa_nil))))) rfl))
        (pss_one (ps_dput (hu_of hr) (pe_fld (pv 0) rfl) (pv 3) (pe_ix ix_tup (pv 1) pe_int (fun _ _ => rfl)) rfl)))))))))), ?_⟩
    have lenR : kR.length = sh.rels.length := paired_len p.pR
    have lenF : kF.length = sh.rels.length := paired_len p.pF
    have lenS : kS.length = sh.stcs.length := paired_len p.pS
    cases it with
    | rel r =>
      obtain ⟨t, ct, rfl, ht0, hct, hpl⟩ := hI
      obtain ⟨hn, hlen⟩ := hO
      have ht := Same.tup p.old ht0
      refine ⟨_, rfl, t, _, 0, _, rfl, rfl, ht, atI_nat (j := 0) rfl, ?_⟩
      refine ⟨_, rfl, t, _, 1, _, rfl, rfl, ht, atI_nat (j := 1) rfl, ?_⟩
      refine ⟨_, rfl, rfl, _, rfl, ite2 (fun _ => ?_) (fun t => absurd (decide_eq_true rfl) t)⟩
      refine ⟨_, rfl, t, _, 2, _, rfl, rfl, ht, atI_nat (j := 2) rfl, _, rfl, t, _, 3, _, rfl, rfl, ht, atI_nat (j := 3) rfl, sz2, fun u nu => ?_⟩
      have su := same_new (o := HO.tup [.ref ct, .int (r.room : Int)]) nu
      have nR := ent_none p.pR hn
      have nF := ent_none p.pF hn
      refine ⟨_, rfl, x, _, dx, fs, _, rfl, su _ _ hx, C.cl, C.nR, fR, _, rfl, dR, _, rfl, .inl ⟨kR, Sum.inr r.name, su _ _ p.hR, rfl, sz_lt (by omega), rfl⟩, ?_⟩
      rw [putK_new _ nR]
      have hxR : x ≠ dR := ne_of hx p.hR (fun z => by cases z)
      have hFR : dF ≠ dR := p.n1.symm
      have hx2 : (upd (upd H u (.tup [.ref ct, .int (r.room : Int)])) dR (.dK (kR ++ [(Sum.inr r.name, .ref u)]))) x = some (.ins (CS K) dx fs) := by
        rw [upd_ne hxR]
        exact su _ _ hx
      have hF2 : (upd (upd H u (.tup [.ref ct, .int (r.room : Int)])) dR (.dK (kR ++ [(Sum.inr r.name, .ref u)]))) dF = some (.dK kF) := by
        rw [upd_ne hFR]
        exact su _ _ p.hF
      refine ⟨_, rfl, x, _, dx, fs, _, rfl, hx2, C.cl, C.nF, fF, dF, rfl, .inl ⟨kF, .of hF2⟩, _, rfl, (by decide), fun l nl => ?_⟩
      have sl := same_new (o := HO.lst []) nl
      refine ⟨kF, Sum.inr r.name, sl _ _ hF2, rfl, sz_lt (by omega), fun v hv => ?_, fun _ => ?_⟩
      · rw [nF] at hv
        cases hv
      · rw [putK_new _ nF]
        have pp := p.putRel (r := r) nu hct hpl nl
        refine q _ ⟨o, dx, fs, dR, dF, dS, _, _, _, ?_, ⟨z, fR, fF, fS, l1, l2, l3⟩, pp⟩
        rw [upd_ne (ne_of hx p.hF (fun z => by cases z))]
        exact sl _ _ hx2
    | fact nm row =>
      obtain ⟨t, ra, rfl, ht0, hra⟩ := hI
      obtain ⟨hn, hl100, r, hr', rfl, hnr, hlen, hc, hrc⟩ := hO
      have ht := Same.tup p.old ht0
      refine ⟨_, rfl, t, _, 0, _, rfl, rfl, ht, atI_nat (j := 0) rfl, ?_⟩
      refine ⟨_, rfl, t, _, 1, _, rfl, rfl, ht, atI_nat (j := 1) rfl, ?_⟩
      refine ⟨_, rfl, rfl, _, rfl, ite2 (fun t => absurd (of_decide_eq_true t) (by decide +kernel)) (fun _ => ?_)⟩
      refine ⟨_, rfl, rfl, _, rfl, ite2 (fun _ => ?_) (fun t => absurd (decide_eq_true rfl) t)⟩
      refine ⟨_, rfl, x, dx, fs, rfl, hx, l3, _, rfl, _, rfl, t, _, 2, _, rfl, rfl, ht, atI_nat (j := 2) rfl, H0, x, ra, row, sh, r, rfl, hP0, hn, hr', Same.tup p.old hra, hc, hrc, fun H1 s1 => ?_⟩
      refine ⟨_, rfl, ite2 (fun _ => ?_) (fun t => absurd (by rw [decide_eq_false hnr]; rfl) t)⟩
      have p1 := p.same s1
      obtain ⟨kv, hk, hv, a, vs, ea, ha, hp⟩ := ent_find p1.pF hn hr'
      refine ⟨_, rfl, x, _, dx, fs, _, rfl, s1 _ _ hx, C.cl, C.nF, fF, dF, rfl, .inl ⟨kF, .of p1.hF⟩, _, rfl, (by decide), fun l nl => ?_⟩
      have sl := same_new (o := HO.lst []) nl
      have p2 := p1.same sl
      rw [ea] at hv
      refine ⟨kF, Sum.inr r.name, p2.hF, rfl, sz_lt ?_, fun v hv2 => ?_, fun hv2 => ?_⟩
      · omega
      · rw [hv] at hv2
        cases hv2
        have t2 := Same.tup (Same.trans s1 sl) ht
        refine ⟨.inl ⟨rfl, _, SqL.of (sl _ _ ha)⟩, _, rfl, t, _, 2, _, rfl, rfl, t2, atI_nat (j := 2) rfl, ?_⟩
        refine ⟨a, vs, _, rfl, rfl, sl _ _ ha, ?_, ?_⟩
        · rw [paired_len hp]
          exact sz_lt (by omega)
        · have pp := p2.putFact (row := row) hn hv (sl _ _ ha) hra (p.oL kv hk a ea)
          refine q _ ⟨o, dx, fs, dR, dF, dS, _, _, _, ?_, ⟨z, fR, fF, fS, l1, l2, l3⟩, pp⟩
          rw [upd_ne (ne_of (Same.trans s1 sl _ _ hx) (sl _ _ ha) (fun z => by cases z))]
          exact Same.trans s1 sl _ _ hx
      · rw [hv] at hv2
        cases hv2
    | stc s =>
      obtain ⟨t, ct, rfl, ht0, hct⟩ := hI
      obtain ⟨hn, hlen⟩ := hO
      have ht := Same.tup p.old ht0
      refine ⟨_, rfl, t, _, 0, _, rfl, rfl, ht, atI_nat (j := 0) rfl, ?_⟩
      refine ⟨_, rfl, t, _, 1, _, rfl, rfl, ht, atI_nat (j := 1) rfl, ?_⟩
      refine ⟨_, rfl, rfl, _, rfl, ite2 (fun t => absurd (of_decide_eq_true t) (by decide +kernel)) (fun _ => ?_)⟩
      refine ⟨_, rfl, rfl, _, rfl, ite2 (fun t => absurd (of_decide_eq_true t) (by decide +kernel)) (fun _ => ?_)⟩
      refine ⟨_, rfl, rfl, _, rfl, ite2 (fun _ => ?_) (fun t => absurd (decide_eq_true rfl) t)⟩
      refine ⟨_, rfl, t, _, 2, _, rfl, rfl, ht, atI_nat (j := 2) rfl, _, rfl, t, _, 3, _, rfl, rfl, ht, atI_nat (j := 3) rfl, _, rfl, t, _, 4, _, rfl, rfl, ht, atI_nat (j := 4) rfl, _, rfl, t, _, 5, _, rfl, rfl, ht, atI_nat (j := 5) rfl, sz_of (n := 4) (by decide), fun u nu => ?_⟩
      have su := same_new (o := HO.tup [.str s.rel, .ref ct, .int (s.buckets : Int), .int (s.sectors : Int)]) nu
      have nS := ent_none p.pS hn
      refine ⟨_, rfl, x, _, dx, fs, _, rfl, su _ _ hx, C.cl, C.nS, fS, _, rfl, dS, _, rfl, .inl ⟨kS, Sum.inr s.name, su _ _ p.hS, rfl, sz_lt (by omega), rfl⟩, ?_⟩
      rw [putK_new _ nS]
      have pp := p.putStc (s := s) nu hct
      refine q _ ⟨o, dx, fs, dR, dF, dS, _, _, _, ?_, ⟨z, fR, fF, fS, l1, l2, l3⟩, pp⟩
      rw [upd_ne (ne_of hx p.hS (fun z => by cases z))]
      exact su _ _ hx
end
end K9

set_option Elab.async false
set_option linter.all false
set_option maxRecDepth 100000
set_option maxHeartbeats 4000000
/-! State: _order_facts, __init__. -/
namespace K9
open PySem PySem.Spec PyProof.Rows L2
/-! ### what a changed object leaves -/
def NotSeq : HO → Prop
  | .lst _ => False
  | .tup _ => False
  | .frz _ (.lst _) => False
  | .frz _ (.tup _) => False
  | _ => True
theorem up_list {K : PySem.W.Frag} {H : Hp} {b a : Addr} {o : HO} {xs : List V} (h : ∀ u, H b = some u → NotSeq u) (q : SqL K H a xs) : SqL K (upd H b o) a xs := by
  rcases q with (q | ⟨o', q⟩) | q
  · exact .inl (.inl (by rw [upd_ne (fun z => by rw [z] at q; exact h _ q)]; exact q))
  · exact .inl (.inr ⟨o', by rw [upd_ne (fun z => by rw [z] at q; exact h _ q)]; exact q⟩)
  · exact .inr q
theorem up_tup {K : PySem.W.Frag} {H : Hp} {b a : Addr} {o : HO} {xs : List V} (h : ∀ u, H b = some u → NotSeq u) (q : SqT K H a xs) : SqT K (upd H b o) a xs := by
  rcases q with (q | ⟨o', q⟩) | q
  · exact .inl (.inl (by rw [upd_ne (fun z => by rw [z] at q; exact h _ q)]; exact q))
  · exact .inl (.inr ⟨o', by rw [upd_ne (fun z => by rw [z] at q; exact h _ q)]; exact q⟩)
  · exact .inr q
theorem up_fact {K : PySem.W.Frag} {H : Hp} {b : Addr} {o : HO} {v : V} {r : Rel} (h : ∀ u, H b = some u → NotSeq u) (q : FactA K H v r) : FactA K (upd H b o) v r := by
  obtain ⟨a, rfl, vs, h1, h2⟩ := q
  exact ⟨a, rfl, vs, up_list h h1, Paired.mapP h2 fun _ _ ⟨c, e, q⟩ => ⟨c, e, up_tup h q⟩⟩
theorem ns_some {H : Hp} {b : Addr} {o : HO} (e : H b = some o) (n : NotSeq o) : ∀ u, H b = some u → NotSeq u := fun u h => by
  rw [e] at h
  cases h
  exact n
structure RelInc (r : Rel) : Prop where
  inc : RowsInc r.rows
  row : ∀ t ∈ r.rows, t ≠ [] ∧ t.length ≤ 10 ∧ ∀ c ∈ t, CellOk c
  n : r.rows.length ≤ 1000
def spOrderFacts (K : PySem.W.Frag) : Sp := fun vs H Q _ => ∃ H0 x sh, vs = [V.ref x] ∧ PAt K H0 H x sh ∧ (sh.rels.map Rel.name).Nodup ∧ sh.rels.length ≤ 100 ∧ (∀ r ∈ sh.rels, RelInc r) ∧ ∀ H', Same H0 H' → StAt K H' x sh → Q .non H'
def emptySh : Shelf := ⟨[], []⟩
def shAt (its : List Item) (i : Nat) : Shelf := (its.take i).foldl putI emptySh
def spStateInit (K : PySem.W.Frag) : Sp := fun vs H Q _ => ∃ (H0 : Hp) (x dx a : Addr) (vs' : List V) (its : List Item), vs = [V.ref x, .ref a] ∧ H x = some (.ins (CS K) dx []) ∧ Same H0 H ∧ H0 x = none ∧ SqL K H0 a vs' ∧ Paired (ItA K H0) vs' its ∧
  (∀ i it, its[i]? = some it → PutOk (shAt its i) it) ∧ ((shAt its its.length).rels.map Rel.name).Nodup ∧ (shAt its its.length).rels.length ≤ 100 ∧ (∀ r ∈ (shAt its its.length).rels, RelInc r) ∧ ∀ H', Same H0 H' → StAt K H' x (shAt its its.length) → Q .non H'
section
variable {P : Program} {w : World} {K : PySem.W.Frag} {mg : Str → Option Value} {base : Heap}
theorem ok_OrderFacts {f : Addr} {fd : FuncData} (me : Meth K (CS K) "_order_facts" f) (F : FD K "_order_facts" "State._order_facts" sStateOrderFacts f fd) (T : Glob K mg) (C : StCls K) (cRowKey : C8.Cal P w K mg base 2 "row_key" (spRowKey K) []) : C8.Met P w K mg base 5 (CS K) "_order_facts" (spOrderFacts K) [] := by
  obtain ⟨fRK, fdRK, psRK, dsRK, FRK, mRK, kRK, bRK, dRK⟩ := cRowKey.ex
  cases dRK
  refine met_mk C.cl me F (FunD.bindsN (ps := PStateOrderFacts) F fun _ _ _ _ _ _ us hl => match us, hl with | [_], _ => rfl) scStateOrderFacts (fun vs H Q E h => ?_) (fun cdv A outer s H vs Q E hr h => ?_)
  · obtain ⟨H0, x, sh, rfl, _⟩ := h
    rfl
  · obtain ⟨H0, x, sh, rfl, ⟨ox, dx, fs, dR, dF, dS, kR, kF, kS, hx, ⟨z, fR, fF, fS, l1, l2, l3⟩, p⟩, hn, hl100, hinc, q⟩ := h
    refine ⟨_, (pss_cons (ps_set (i := 1) scStateOrderFacts.nd rfl (Or.inl rfl) pe_dnewK)
    (pss_cons (ps_lock (ps_for PassesOwn.never rfl (pi_keys (pe_fld (pv 0) rfl)) (pg_name (i := 2) scStateOrderFacts.nd rfl (Or.inl rfl))
    (pss_one (ps_if (PW.pt (pw_or (pt_cmp (pc_din (hu_of hr) (pv 2) (pe_fld (pv 0) rfl))) (pw_or1 (pt_cmpR op_gt (pe_callB call_len_seq (by rfl) T.len PySem.boot_len (pa_cons (pe_dget (hu_of hr) (pe_fld (pv 0) rfl) (pv 2) (fun _ _ => rfl)) pa_nil)) pe_int (nomark _)))))
      (pss_one (ps_dput (hu_of hr) (pv 1) (pv 2) (pe_callBK (cr_sortRows FRK hr bRK) (by rfl) T.sorted (by decide +kernel) (pa_cons (pe_dget (hu_of hr) (pe_fld (pv 0) rfl) (pv 2) (fun _ _ => rfl)) pa_nil) (pk_cons (C8.pe_gc (v := .ref fRK) (by rfl) ⟨_, mRK, rfl⟩) pk_nil)) rfl))
      pss_nil))))
    (pss_one (ps_fld (pv 0) (pv 1) rfl)))), ?_⟩
    have lenF : kF.length = sh.rels.length := paired_len p.pF
    refine fun D nD => ?_
    have sD := same_new (o := HO.dK []) nD
    have hDF : D ≠ dF := fun e => by rw [e, p.hF] at nD; cases nD
    have hxF : x ≠ dF := ne_of hx p.hF (fun z => by cases z)
    have hxD : x ≠ D := ne_of_none hx nD
    refine ⟨dF, .dK kF, sD _ _ p.hF, True.intro, fun od => ?_⟩
    -- the heap without the new dict
    have nb : ∀ b, b ≠ dF → b ≠ D → (upd (upd H D (.dK [])) dF (.frz od (.dK kF))) b = H b := fun b h1 h2 => by rw [upd_ne h1, upd_ne h2]
    have hx1 : (upd (upd H D (.dK [])) dF (.frz od (.dK kF))) x = some (.ins (CS K) dx fs) := by rw [nb x hxF hxD]; exact hx
    have sB : Same (upd H dF (.frz od (.dK kF))) (upd (upd H D (.dK [])) dF (.frz od (.dK kF))) := fun b o e => by
      by_cases h1 : b = dF
      · rw [h1, upd_same] at e ⊢
        exact e
      · rw [upd_ne h1] at e
        rw [nb b h1 (ne_of_none e nD)]
        exact e
    have nBD : (upd H dF (.frz od (.dK kF))) D = none := by rw [upd_ne hDF]; exact nD
    have tsB : TSm H (upd H dF (.frz od (.dK kF))) := tsm_upd (TSm.refl H) (nt_dK p.hF)
    have hxB : (upd H dF (.frz od (.dK kF))) x = some (.ins (CS K) dx fs) := by rw [upd_ne hxF]; exact hx
    have hRB : (upd H dF (.frz od (.dK kF))) dR = some (.dK kR) := by rw [upd_ne p.n1]; exact p.hR
    refine ⟨_, rfl, x, _, dx, fs, _, rfl, hx1, C.cl, C.nF, fF, dF, od, rfl, .inl ⟨kF, upd_same, for_it walk_keys (fun i σ H' => ∃ y, σ = [some (.ref x), some (.ref D), y] ∧ Same (upd H dF (.frz od (.dK kF))) H' ∧ ∃ kD, H' D = some (.dK kD) ∧ Paired (Ent Rel.name (FactA K H')) kD (sh.rels.take i))
      ⟨none, rfl, sB, [], by rw [upd_ne hDF, upd_same], .nil⟩ (fun i σ H' _ ⟨_, _, e, _⟩ => e _ _ upd_same) ?_ ?_⟩⟩
    · rintro i k' σ H' H'' hi ⟨y, rfl, sm, kD, hD, pD⟩ ⟨rfl, k, v, hk, rfl⟩
      obtain ⟨r, hr', hE, a, vs, ev, ha, hp⟩ := paired_getL p.pF hk
      have hE : k = Sum.inr r.name := hE
      have ev : v = .ref a := ev
      subst hE ev
      have hrm := List.mem_of_getElem? hr'
      obtain ⟨kv, _, hv, _⟩ := ent_find p.pR hn hrm
      have haB : (upd H dF (.frz od (.dK kF))) a = some (.lst vs) := by rw [upd_ne (ne_of ha p.hF (fun z => by cases z))]; exact ha
      have hval : valV kF (Sum.inr r.name) = some (.ref a) := by
        obtain ⟨kv2, hm2, h2, h3⟩ := ent_find p.pF hn hrm
        have : ∀ {kvs : List (Key × V)} {bs : List Rel} {i : Nat} {v : V} {r : Rel}, Paired (Ent Rel.name (FactM K H)) kvs bs → (bs.map Rel.name).Nodup → kvs[i]? = some (Sum.inr r.name, v) → bs[i]? = some r → valV kvs (Sum.inr r.name) = some v := fun {kvs bs i v r} pp => by
          induction pp generalizing i with
          | nil => intro _ e _; simp at e
          | cons q t ih =>
            intro hn e1 e2
            cases i with
            | zero =>
              have e1 := Option.some.inj e1
              rw [e1]
              exact valV_pos rfl
            | succ i =>
              have hn' := List.nodup_cons.mp hn
              have e2' : _ := (show _ = some r from by simpa using e2)
              rw [valV_neg]
              · exact ih hn'.2 (by simpa using e1) e2'
              · intro z
                rw [q.1] at z
                exact hn'.1 (by rw [Sum.inr.inj z]; exact List.mem_map.mpr ⟨r, List.mem_of_getElem? e2', rfl⟩)
        exact this p.pF hn hk hr'
      refine ⟨_, rfl, _, rfl, x, _, dx, fs, _, rfl, sm _ _ hxB, C.cl, C.nR, fR, dR, some kv.2, rfl, .inl ⟨kR, Sum.inr r.name, .of (sm _ _ hRB), rfl, hv.symm⟩, _, rfl, ite2 (fun _ => ?_) (fun t => absurd rfl t)⟩
      obtain ⟨ri, rrow, rn⟩ := hinc r hrm
      refine ⟨_, rfl, x, _, dx, fs, _, rfl, sm _ _ hxB, C.cl, C.nF, fF, _, rfl, dF, .ref a, rfl, .inl ⟨kF, Sum.inr r.name, .inr ⟨od, sm _ _ upd_same⟩, rfl, hval.symm⟩, a, r.rows, rfl, rfl, ⟨vs, SqL.of (sm _ _ haB), rowsA_same sm (Paired.mapP hp fun _ _ q => q.ts tsB)⟩, ri, rrow, fun H3 pn s3 np hpn => ?_⟩
      obtain ⟨vs', hp3, pp3⟩ := hpn
      have nk : valV kD (Sum.inr r.name) = none := ent_none pD fun hm => by
        obtain ⟨r2, hr2, e2⟩ := List.mem_map.mp hm
        obtain ⟨j, hj⟩ := List.mem_iff_getElem?.mp hr2
        rw [List.getElem?_take] at hj
        split at hj
        · rename_i hji
          have h1 : (sh.rels.map Rel.name)[j]? = some r.name := by rw [List.getElem?_map, hj, ← e2]; rfl
          have h2 : (sh.rels.map Rel.name)[i]? = some r.name := by rw [List.getElem?_map, hr']; rfl
          have := nodup_ix hn h1 h2
          omega
        · cases hj
      have lenD : kD.length ≤ 100 := by
        rw [paired_len pD, List.length_take]
        omega
      have hD3 := s3 _ _ hD
      refine ⟨_, rfl, _, rfl, D, _, rfl, .inl ⟨kD, Sum.inr r.name, hD3, rfl, sz_lt (by omega), rfl⟩, _, rfl, ?_, kD ++ [(Sum.inr r.name, .ref pn)], ?_, ?_⟩
      · exact same_mut (Same.trans sm s3) nBD
      · rw [upd_same, putK_new _ nk]
      · have et : sh.rels.take (i + 1) = sh.rels.take i ++ [r] := by rw [List.take_add_one, hr']; rfl
        rw [et]
        have nsD := ns_some hD3 (show NotSeq (.dK kD) from True.intro)
        refine paired_app (Paired.mapP pD fun _ _ q => ⟨q.1, up_fact nsD (q.2.same s3)⟩) (.cons ⟨rfl, ?_⟩ .nil)
        exact up_fact nsD ⟨pn, rfl, vs', SqL.of hp3, pp3⟩
    · rintro σ H' ⟨y, rfl, sm, kD, hD, pD⟩
      rw [lenF, List.take_length] at pD
      have hFr := sm _ _ upd_same
      refine ⟨hFr, ?_⟩
      have hx' : (upd H' dF (.dK kF)) x = some (.ins (CS K) dx fs) := by rw [upd_ne hxF]; exact sm _ _ hxB
      refine ⟨_, rfl, _, rfl, x, _, dx, fs, rfl, hx', C.cl, C.nF, by omega, ?_⟩
      have nsF := ns_some hFr (show NotSeq (.frz od (.dK kF)) from True.intro)
      have nsX := ns_some hx' (show NotSeq (.ins (CS K) dx fs) from True.intro)
      have ts : TSm H (upd (upd H' dF (.dK kF)) x (.ins (CS K) dx (putF "facts" (.ref D) fs))) := fun b o e t => by
        have n1 : b ≠ dF := fun z => by rw [z, p.hF] at e; cases e; exact t
        have n2 : b ≠ x := fun z => by rw [z, hx] at e; cases e; exact t
        rw [upd_ne n2, upd_ne n1]
        exact sm _ _ (by rw [upd_ne n1]; exact e)
      refine q _ (fun b o e => ?_) ⟨dx, _, dR, D, dS, upd_same, ?_, ?_, ?_, ?_, ?_, ?_⟩
      · have n1 : b ≠ dF := ne_of_none e p.oF
        have n2 : b ≠ x := ne_of_none e ox
        rw [upd_ne n2, upd_ne n1]
        exact sm _ _ (by rw [upd_ne n1]; exact p.old b o e)
      · rw [lookup_putF, if_neg (by decide +kernel)]
        exact fR
      · rw [lookup_putF, if_pos rfl]
      · rw [lookup_putF, if_neg (by decide +kernel)]
        exact fS
      · refine ⟨kR, .of ?_, Paired.mapP p.pR fun _ _ q => ⟨q.1, q.2.ts ts⟩⟩
        rw [upd_ne (ne_of p.hR hx (fun z => by cases z)), upd_ne p.n1]
        exact sm _ _ hRB
      · refine ⟨kD, .of ?_, Paired.mapP pD fun _ _ q => ⟨q.1, up_fact nsX (up_fact nsF q.2)⟩⟩
        rw [upd_ne hxD.symm, upd_ne hDF]
        exact hD
      · refine ⟨kS, .of ?_, Paired.mapP p.pS fun _ _ q => ⟨q.1, q.2.ts ts⟩⟩
        rw [upd_ne (ne_of p.hS hx (fun z => by cases z)), upd_ne p.n3.symm]
        exact sm _ _ (by rw [upd_ne p.n3.symm]; exact p.hS)
theorem ok_StateInit {f : Addr} {fd : FuncData} {dvs : List V} (M : Mk K (CS K) f) (hm : mg "State" = some (.ref (CS K))) (F : FunD K "__init__" "State.__init__" (defArgs sStateInit) (defBody sStateInit) (defScope sStateInit) dvs [] f fd) (b : Binds K fd PStateInit []) (C : StCls K)
    (cStatePut : C8.Met P w K mg base 2 (CS K) "_put" (spPut K) []) (cStateOrderFacts : C8.Met P w K mg base 5 (CS K) "_order_facts" (spOrderFacts K) []) : C8.Mak P w K mg base 6 "State" (CS K) (spStateInit K) [] := by
  refine mak_mk M hm F b scStateInit (fun vs H Q E h => ?_) (fun cdv A outer s H vs Q E hr h => ?_)
  · obtain ⟨H0, x, dx, a, vs', its, rfl, _⟩ := h
    rfl
  · obtain ⟨H0, x, dx, a, vs', its, rfl, hx, s0, n0, hS, hP, hok, hn, hl100, hinc, q⟩ := h
    refine ⟨_, (pss_cons (ps_fld (pv 0) pe_dnewK rfl)
    (pss_cons (ps_fld (pv 0) pe_dnewK rfl)
    (pss_cons (ps_fld (pv 0) pe_dnewK rfl)
    (pss_cons (ps_fld (pv 0) pe_dnewK rfl)
    (pss_cons (ps_for PassesOwn.never rfl (pi_list (pv 1)) (pg_name (i := 2) scStateInit.nd rfl (Or.inl rfl))
    (pss_one (ps_expr (C8.pe_mt cStatePut hr (by decide) (pv 0) (pa_cons (pv 2) pa_nil)))))
    (pss_one (ps_expr (C8.pe_mt0 cStateOrderFacts hr (by decide) (pv 0))))))))), ?_⟩
    refine fun dR nR => ?_
    have hxR : x ≠ dR := ne_of_none hx nR
    refine ⟨_, rfl, x, _, dx, [], rfl, (by rw [upd_ne hxR]; exact hx), C.cl, C.nR, (by decide : 0 < 1000), ?_⟩
    refine fun dF nF => ?_
    have hFx : dF ≠ x := ne_new nF
    have nF1 := none_new nF
    have hFR : dF ≠ dR := ne_new nF1
    have nF0 := none_new nF1
    refine ⟨_, rfl, x, _, dx, putF "relations" (.ref dR) [], rfl, (by rw [upd_ne hFx.symm, upd_same]), C.cl, C.nF, (by decide : 1 < 1000), ?_⟩
    refine fun dS nS => ?_
    have hSx : dS ≠ x := ne_new nS
    have nS1 := none_new nS
    have hSF : dS ≠ dF := ne_new nS1
    have nS2 := none_new nS1
    have nS3 := none_new nS2
    have hSR : dS ≠ dR := ne_new nS3
    have nS0 := none_new nS3
    refine ⟨_, rfl, x, _, dx, putF "facts" (.ref dF) (putF "relations" (.ref dR) []), rfl, (by rw [upd_ne hSx.symm, upd_same]), C.cl, C.nS, Nat.lt_of_le_of_lt (putF_len _ _ _) (by decide : 2 < 1000), ?_⟩
    refine fun dL nL => ?_
    have hLx : dL ≠ x := ne_new nL
    have nL1 := none_new nL
    have hLS : dL ≠ dS := ne_new nL1
    have nL2 := none_new nL1
    have nL3 := none_new nL2
    have hLF : dL ≠ dF := ne_new nL3
    have nL4 := none_new nL3
    have nL5 := none_new nL4
    have hLR : dL ≠ dR := ne_new nL5
    have nL0 := none_new nL5
    have lt3 : (putF "structures" (V.ref dS) (putF "facts" (V.ref dF) (putF "relations" (V.ref dR) ([] : List (Str × V))))).length ≤ 3 := Nat.le_trans (putF_len _ _ _) (Nat.succ_le_succ (Nat.le_trans (putF_len _ _ _) (Nat.le_refl _)))
    refine ⟨_, rfl, x, _, dx, putF "structures" (.ref dS) (putF "facts" (.ref dF) (putF "relations" (.ref dR) [])), rfl, (by rw [upd_ne hLx.symm, upd_same]), C.cl, C.nL, Nat.lt_of_le_of_lt lt3 (by decide : 3 < 1000), ?_⟩
    have f0 : ∀ b, H b = none → H0 b = none := fun b e => s0.free e
    have pat : PAt K H0 (upd (upd (upd (upd (upd (upd (upd (upd H dR (.dK [])) x (.ins (CS K) dx (putF "relations" (.ref dR) []))) dF (.dK [])) x (.ins (CS K) dx (putF "facts" (.ref dF) (putF "relations" (.ref dR) [])))) dS (.dK [])) x (.ins (CS K) dx (putF "structures" (.ref dS) (putF "facts" (.ref dF) (putF "relations" (.ref dR) []))))) dL (.dK [])) x (.ins (CS K) dx (putF "layouts" (.ref dL) (putF "structures" (.ref dS) (putF "facts" (.ref dF) (putF "relations" (.ref dR) [])))))) x emptySh := by
      refine ⟨n0, dx, _, dR, dF, dS, [], [], [], upd_same, ?_, ?_⟩
      · refine ⟨Nat.le_trans (putF_len _ _ _) (by omega), ?_, ?_, ?_, ?_, ?_, ?_⟩
        · rw [lookup_putF, if_neg (by decide +kernel), lookup_putF, if_neg (by decide +kernel), lookup_putF, if_neg (by decide +kernel), lookup_putF, if_pos rfl]
        · rw [lookup_putF, if_neg (by decide +kernel), lookup_putF, if_neg (by decide +kernel), lookup_putF, if_pos rfl]
        · rw [lookup_putF, if_neg (by decide +kernel), lookup_putF, if_pos rfl]
        all_goals (rw [lookup_putF, if_neg (by decide +kernel), lookup_putF, if_neg (by decide +kernel), lookup_putF, if_neg (by decide +kernel), lookup_putF, if_neg (by decide +kernel)]; rfl)
      · refine ⟨?_, ?_, ?_, hFR.symm, hSR.symm, hSF.symm, .nil, .nil, List.nodup_nil, .nil, f0 _ nR, f0 _ nF0, f0 _ nS0, fun kv h => (by cases h), fun b o e => ?_⟩
        · rw [upd_ne hxR.symm, upd_ne hLR.symm, upd_ne hxR.symm, upd_ne hSR.symm, upd_ne hxR.symm, upd_ne hFR.symm, upd_ne hxR.symm, upd_same]
        · rw [upd_ne hFx, upd_ne hLF.symm, upd_ne hFx, upd_ne hSF.symm, upd_ne hFx, upd_same]
        · rw [upd_ne hSx, upd_ne hLS.symm, upd_ne hSx, upd_same]
        · have e1 := s0 b o e
          have nx : b ≠ x := ne_of_none e n0
          rw [upd_ne nx, upd_ne (ne_of_none e1 nL0), upd_ne nx, upd_ne (ne_of_none e1 nS0), upd_ne nx, upd_ne (ne_of_none e1 nF0), upd_ne nx, upd_ne (ne_of_none e1 nR)]
          exact e1
    have old : ∀ {H' sh}, PAt K H0 H' x sh → Same H0 H' := fun {H' sh} ⟨_, _, _, _, _, _, _, _, _, _, _, p⟩ => p.old
    refine ⟨_, rfl, a, rfl, ⟨_, Same.seq (old pat) hS⟩, for_list (K := K) (a := a) (xs := vs') (fun i σ H' => ∃ y, σ = [some (.ref x), some (.ref a), y] ∧ PAt K H0 H' x (shAt its i)) ⟨none, rfl, pat⟩ (fun i σ H' _ ⟨_, _, e⟩ => Same.seq (old e) hS) ?_ ?_⟩
    · rintro i v σ H' hv ⟨y, rfl, p⟩
      obtain ⟨it, hi, hA⟩ := paired_getL hP hv
      have p0 := p
      obtain ⟨ox, dx, fs, dR, dF, dS, kR, kF, kS, hx, ⟨z, fR, fF, fS, l1, l2, l3⟩, pp⟩ := p
      refine ⟨_, rfl, x, dx, fs, rfl, hx, l1, _, rfl, H0, x, v, _, it, rfl, p0, hA, hok i it hi, fun H2 p2 => ⟨_, rfl, ?_⟩⟩
      have e : shAt its (i + 1) = putI (shAt its i) it := by
        unfold shAt
        rw [List.take_add_one, hi, List.foldl_append]
        rfl
      rw [e]
      exact p2
    · rintro σ H' ⟨y, rfl, p⟩
      rw [paired_len hP] at p
      have p0 := p
      obtain ⟨ox, dx, fs, dR, dF, dS, kR, kF, kS, hx, ⟨z, fR, fF, fS, l1, l2, l3⟩, pp⟩ := p
      refine ⟨_, rfl, x, dx, fs, rfl, hx, l2, H0, x, _, rfl, p0, hn, hl100, hinc, fun H2 s2 st => ?_⟩
      exact q H2 s2 st
end
end K9

set_option Elab.async false
set_option linter.all false
set_option maxRecDepth 100000
set_option maxHeartbeats 4000000
/-! The law's draws: numbers, texts, values. -/
namespace K9
open PySem PySem.Spec PyProof.Rows L2
/-- the law's state: a list of the draws and a counter; G is the draws' list and what stands in it -/
def Gen (K : PySem.W.Frag) (H : Hp) (st : Addr) (G : Addr × List Int) : Prop := (∃ n : Nat, H st = some (.lst [.ref G.1, .int (n : Int)])) ∧ SqL K H G.1 (G.2.map V.int) ∧ G.1 ≠ st
theorem Gen.but {K : PySem.W.Frag} {H H' : Hp} {st : Addr} {G : Addr × List Int} (h : Gen K H st G) (b : But st H H') (n : ∃ n : Nat, H' st = some (.lst [.ref G.1, .int (n : Int)])) : Gen K H' st G := ⟨n, But.list b h.2.2 h.2.1, h.2.2⟩
theorem Gen.same {K : PySem.W.Frag} {H H' : Hp} {st : Addr} {G : Addr × List Int} (e : Same H H') (h : Gen K H st G) : Gen K H' st G := by
  obtain ⟨⟨n, h1⟩, h2, h3⟩ := h
  exact ⟨⟨n, e _ _ h1⟩, Same.seq e h2, h3⟩
theorem Gen.st {K : PySem.W.Frag} {H : Hp} {st : Addr} {G : Addr × List Int} (h : Gen K H st G) : ∃ xs, H st = some (.lst xs) := by
  obtain ⟨⟨n, h1⟩, _⟩ := h
  exact ⟨_, h1⟩
def spLawMix : Sp := fun vs H Q _ => ∃ a b : Int, vs = [.int a, .int b] ∧ ∀ r : Int, Q (.int r) H
def spLawDraws (K : PySem.W.Frag) : Sp := fun vs H Q _ => ∃ (a : Addr) (ns : List Int), vs = [.ref a] ∧ SqL K H a (ns.map V.int) ∧ ∀ H' p (ds : List Int), Same H H' → H p = none → H' p = some (.lst (ds.map V.int)) → Q (.ref p) H'
def spLawAt (K : PySem.W.Frag) : Sp := fun vs H Q _ => ∃ (a : Addr) (ds : List Int) (n : Nat), vs = [.ref a, .int (n : Int)] ∧ SqL K H a (ds.map V.int) ∧ ∀ r : Int, Q (.int r) H
def spLawNext (K : PySem.W.Frag) : Sp := fun vs H Q _ => ∃ (st : Addr) (m : Nat) (G : Addr × List Int), vs = [.ref st, .int (m : Int)] ∧ 0 < m ∧ Gen K H st G ∧ ∀ H' (r : Nat), But st H H' → Gen K H' st G → r < m → Q (.int (r : Int)) H'
def CellTo (K : PySem.W.Frag) (H : Hp) (st : Addr) (G : Addr × List Int) (Q : VK) : Prop := ∀ H' (c : Cell), But st H H' → Gen K H' st G → CellOk c → Q c.v H'
def spLawText (K : PySem.W.Frag) : Sp := fun vs H Q _ => ∃ (st : Addr) (G : Addr × List Int), vs = [.ref st, .int 30] ∧ Gen K H st G ∧ CellTo K H st G Q
def spLawValue (K : PySem.W.Frag) : Sp := fun vs H Q _ => ∃ (st : Addr) (G : Addr × List Int), vs = [.ref st] ∧ Gen K H st G ∧ CellTo K H st G Q
def spLawSmall (K : PySem.W.Frag) : Sp := fun vs H Q _ => ∃ (st : Addr) (G : Addr × List Int), vs = [.ref st] ∧ Gen K H st G ∧ CellTo K H st G Q
def signsS : Str := " !\"#$&'()*+,-./0123456789:;<=>?@ABCDEFGHIJKLMNOPQRSTUVWXYZ[\\]^_`abcdefghijklmnopqrstuvwxyz{|}~"
theorem signs_len : signsS.cps.toList.length = 94 := by decide +kernel
theorem signs_ok : ∀ c ∈ signsS.cps.toList, signOk c := by
  have : signsS.cps.toList.all (fun c => decide (32 ≤ c) && decide (c < 127) && !decide (c = 37)) = true := by decide +kernel
  intro c hc
  have h := List.all_eq_true.mp this c hc
  rw [Bool.and_eq_true, Bool.and_eq_true] at h
  refine ⟨of_decide_eq_true h.1.1, of_decide_eq_true h.1.2, ?_⟩
  have h2 := h.2
  intro z
  rw [decide_eq_true z] at h2
  cases h2
/-- the texts that the law writes out -/
def textOk (x : Str) : Bool := decide (x.cps.size ≤ 30) && x.cps.toList.all fun c => decide (32 ≤ c) && decide (c < 127) && !decide (c = 37)
theorem textOk_cell {x : Str} (h : textOk x = true) : CellOk (.t x) := by
  unfold textOk at h
  rw [Bool.and_eq_true] at h
  refine ⟨of_decide_eq_true h.1, fun c hc => ?_⟩
  have h := List.all_eq_true.mp h.2 c hc
  rw [Bool.and_eq_true, Bool.and_eq_true] at h
  refine ⟨of_decide_eq_true h.1.1, of_decide_eq_true h.1.2, ?_⟩
  have h2 := h.2
  intro z
  rw [decide_eq_true z] at h2
  cases h2
section
variable {P : Program} {w : World} {K : PySem.W.Frag} {mg : Str → Option Value} {base : Heap}
theorem ok_LawMix {f : Addr} {fd : FuncData} (F : FD K "_law_mix" "_law_mix" sLawMix f fd) (hm : mg "_law_mix" = some (.ref f)) (T : Free mg) : C8.Cal P w K mg base 1 "_law_mix" spLawMix [] := by
  refine cal_mk F hm (FunD.bindsN (ps := PLawMix) F fun _ _ _ _ _ _ us hl => match us, hl with | [_, _], _ => rfl) scLawMix (fun vs H Q E h => ?_) (fun cdv A outer s H vs Q E hr h => ?_)
  · obtain ⟨a, b, rfl, _⟩ := h
    rfl
  · obtain ⟨a, b, rfl, q⟩ := h
    refine ⟨_, (pss_cons (ps_set (i := 2) scLawMix.nd rfl (Or.inl rfl) (pe_op op_mod (pe_callTy call_int1 (by rfl) T.int (by decide +kernel) (pa_cons (pe_op op_add (pe_op op_add (pe_op op_mul (pe_callTy call_int1 (by rfl) T.int (by decide +kernel) (pa_cons (pv 0) pa_nil)) pe_int) (pe_op op_mul (pv 1) pe_int)) pe_int) pa_nil)) pe_int))
    (pss_cons (ps_set (i := 2) scLawMix.nd rfl (Or.inl rfl) (pe_op op_mod (pe_callTy call_int1 (by rfl) T.int (by decide +kernel) (pa_cons (pe_op op_add (pe_op op_add (pe_op op_mul (pv 2) (pv 2)) (pe_op op_mul (pv 1) pe_int)) pe_int) pa_nil)) pe_int))
    (pss_one (ps_ret (pe_op op_mod (pe_op op_fdiv (pv 2) pe_int) pe_int))))), ?_⟩
    have c1 : ∀ i : Int, CMul i 48271 := fun i => .inr (by decide)
    have c2 : ∀ i : Int, CMul i 69621 := fun i => .inr (by decide)
    have c3 : ∀ i : Int, CMul i 40692 := fun i => .inr (by decide)
    have hv : ∀ i : Int, CMul (i % 2147483647) (i % 2147483647) := fun i => .inl ⟨by have := Int.emod_nonneg i (show (2147483647 : Int) ≠ 0 by decide); omega, by have := Int.emod_lt_of_pos i (show (0 : Int) < 2147483647 by decide); omega⟩
    refine ⟨_, rfl, .inl ⟨_, rfl, _, _, rfl, rfl, c1 _, _, rfl, _, _, rfl, rfl, c2 _, _, _, rfl, rfl, _, _, rfl, rfl, .inl ⟨_, rfl, _, _, rfl, rfl, (show (0 : Int) < 2147483647 by decide), ?_⟩⟩⟩
    refine ⟨_, rfl, _, rfl, _, _, rfl, rfl, hv _, _, rfl, _, _, rfl, rfl, c3 _, _, _, rfl, rfl, _, _, rfl, rfl, .inl ⟨_, rfl, _, _, rfl, rfl, (show (0 : Int) < 2147483399 by decide), ?_⟩⟩
    exact ⟨_, rfl, _, _, rfl, rfl, ⟨(show (0 : Int) < 5 by decide), (show (5 : Int) < 1073741824 by decide)⟩, _, _, rfl, rfl, (show (0 : Int) < 9973 by decide), q _⟩
theorem ok_LawAt {f : Addr} {fd : FuncData} (F : FD K "_law_at" "_law_at" sLawAt f fd) (hm : mg "_law_at" = some (.ref f)) (T : Free mg) (cLawMix : C8.Cal P w K mg base 1 "_law_mix" spLawMix []) : C8.Cal P w K mg base 2 "_law_at" (spLawAt K) [] := by
  refine cal_mk F hm (FunD.bindsN (ps := PLawAt) F fun _ _ _ _ _ _ us hl => match us, hl with | [_, _], _ => rfl) scLawAt (fun vs H Q E h => ?_) (fun cdv A outer s H vs Q E hr h => ?_)
  · obtain ⟨a, ds, n, rfl, _⟩ := h
    rfl
  · obtain ⟨a, ds, n, rfl, hd, q⟩ := h
    refine ⟨_, (pss_cons (ps_if (pt_cmpR op_lt (pv 1) (pe_callB call_len_seq (by rfl) T.len PySem.boot_len (pa_cons (pv 0) pa_nil)) (nomark _))
    (pss_one (ps_ret (pe_ix ix_list (pv 0) (pv 1) (fun _ _ => rfl))))
    pss_nil)
    (pss_cons (ps_if (pt_cmpR op_eq (pe_callB call_len_seq (by rfl) T.len PySem.boot_len (pa_cons (pv 0) pa_nil)) pe_int (nomark _))
    (pss_one (ps_ret (C8.pe_c cLawMix hr (by decide) (by rfl) (pa_cons (pv 1) (pa_cons pe_int pa_nil)))))
    pss_nil)
    (pss_one (ps_ret (C8.pe_c cLawMix hr (by decide) (by rfl) (pa_cons (pe_op op_add (pe_ix ix_list (pv 0) (pe_op op_mod (pe_callTy call_int1 (by rfl) T.int (by decide +kernel) (pa_cons (pv 1) pa_nil)) (pe_callB call_len_seq (by rfl) T.len PySem.boot_len (pa_cons (pv 0) pa_nil))) (fun _ _ => rfl)) (pe_op op_mul (pv 1) pe_int)) (pa_cons (pv 1) pa_nil))))))), ?_⟩
    have hl : (ds.map V.int).length = ds.length := List.length_map _
    have hgt : ∀ j : Nat, j < ds.length → ∃ i : Int, (ds.map V.int)[j]? = some (.int i) := fun j hj => ⟨ds[j], by rw [List.getElem?_map, List.getElem?_eq_getElem hj]; rfl⟩
    refine ⟨_, rfl, _, rfl, a, _, rfl, .inl hd, _, _, rfl, rfl, _, rfl, ite2 (fun t => ?_) (fun _ => ?_)⟩
    · have t1 : (n : Int) < ((ds.map V.int).length : Int) := of_decide_eq_true t
      obtain ⟨i, hi⟩ := hgt n (by omega)
      exact ⟨_, rfl, _, rfl, a, _, _, _, rfl, rfl, hd, atI_nat hi, q _⟩
    · refine ⟨_, rfl, a, _, rfl, .inl hd, rfl, _, rfl, ite2 (fun _ => ?_) (fun t => ?_)⟩
      · exact ⟨_, rfl, _, _, rfl, q⟩
      · have t1 : ds.length ≠ 0 := fun z => t (decide_eq_true (by rw [hl, z]; rfl))
        have hm0 : 0 ≤ (n : Int) % ((ds.map V.int).length : Int) := Int.emod_nonneg _ (by omega)
        have hm1 : (n : Int) % ((ds.map V.int).length : Int) < ((ds.map V.int).length : Int) := Int.emod_lt_of_pos _ (by omega)
        obtain ⟨i, hi⟩ := hgt ((n : Int) % ((ds.map V.int).length : Int)).toNat (by omega)
        refine ⟨_, rfl, _, rfl, .inl ⟨_, rfl, _, rfl, a, _, rfl, .inl hd, _, _, rfl, rfl, by omega, a, _, ((n : Int) % ((ds.map V.int).length : Int)), .int i, rfl, rfl, hd, ?_, ?_⟩⟩
        · have := atI_nat hi
          rwa [Int.toNat_of_nonneg hm0] at this
        · exact ⟨_, rfl, _, _, rfl, rfl, .inr (by decide), _, _, rfl, rfl, _, rfl, _, _, rfl, q⟩
theorem ok_LawNext {f : Addr} {fd : FuncData} (F : FD K "_law_next" "_law_next" sLawNext f fd) (hm : mg "_law_next" = some (.ref f)) (cLawAt : C8.Cal P w K mg base 2 "_law_at" (spLawAt K) []) : C8.Cal P w K mg base 3 "_law_next" (spLawNext K) [] := by
  refine cal_mk F hm (FunD.bindsN (ps := PLawNext) F fun _ _ _ _ _ _ us hl => match us, hl with | [_, _], _ => rfl) scLawNext (fun vs H Q E h => ?_) (fun cdv A outer s H vs Q E hr h => ?_)
  · obtain ⟨st, m, G, rfl, _⟩ := h
    rfl
  · obtain ⟨st, m, ⟨d, ds⟩, rfl, hm0, ⟨⟨n, hst⟩, hd, hne⟩, q⟩ := h
    refine ⟨_, (pss_cons (ps_augS (pv 0) pe_int get_list pe_int ip_add set_list)
    (pss_one (ps_ret (pe_op op_mod (C8.pe_c cLawAt hr (by decide) (by rfl) (pa_cons (pe_ix ix_list (pv 0) pe_int (fun _ _ => rfl)) (pa_cons (pe_ix ix_list (pv 0) pe_int (fun _ _ => rfl)) pa_nil))) (pv 1))))), ?_⟩
    refine ⟨_, rfl, st, _, 1, _, rfl, rfl, by decide, SqL.of hst, rfl, _, _, rfl, rfl, st, _, 1, 1, rfl, rfl, hst, rfl, ?_⟩
    have hb : But st H (upd H st (.lst [.ref d, .int (n + 1 : Nat)])) := (But.refl st H).upd
    have hd' : SqL K (upd H st (.lst [.ref d, .int (n + 1 : Nat)])) d (ds.map V.int) := But.list hb hne hd
    have e : (upd H st (.lst ([V.ref d, V.int (n : Int)].set 1 (.int ((n : Int) + 1))))) = upd H st (.lst [.ref d, .int (n + 1 : Nat)]) := rfl
    rw [e]
    refine ⟨_, rfl, st, _, 0, _, rfl, rfl, SqL.of upd_same, atI_nat (j := 0) rfl, _, rfl, st, _, 1, _, rfl, rfl, SqL.of upd_same, atI_nat (j := 1) rfl, d, ds, n + 1, rfl, hd', fun r => ?_⟩
    have hp : (0 : Int) < (m : Int) := by omega
    have e1 := Int.emod_nonneg r (show (m : Int) ≠ 0 by omega)
    have e2 := Int.emod_lt_of_pos r hp
    refine ⟨_, rfl, _, _, rfl, rfl, hp, ?_⟩
    have := q _ (r % (m : Int)).toNat hb ⟨⟨n + 1, upd_same⟩, hd', hne⟩ (by omega)
    rwa [Int.toNat_of_nonneg e1] at this
theorem ok_LawDraws {f : Addr} {fd : FuncData} (F : FD K "_law_draws" "_law_draws" sLawDraws f fd) (hm : mg "_law_draws" = some (.ref f)) (T : Free mg) (cLawMix : C8.Cal P w K mg base 1 "_law_mix" spLawMix []) : C8.Cal P w K mg base 2 "_law_draws" (spLawDraws K) [] := by
  refine cal_mk F hm (FunD.bindsN (ps := PLawDraws) F fun _ _ _ _ _ _ us hl => match us, hl with | [_], _ => rfl) scLawDraws (fun vs H Q E h => ?_) (fun cdv A outer s H vs Q E hr h => ?_)
  · obtain ⟨a, ns, rfl, _⟩ := h
    rfl
  · obtain ⟨a, ns, rfl, hn, q⟩ := h
    refine ⟨_, (pss_cons (ps_set (i := 1) scLawDraws.nd rfl (Or.inl rfl) (pe_lst pa_nil))
    (pss_cons (ps_for PassesOwn.never rfl (pi_range1 (by rfl) T.range (pa_cons (pe_callB (call_min2 rfl) (by rfl) T.min (by decide +kernel) (pa_cons pe_int (pa_cons (pe_callB call_len_seq (by rfl) T.len PySem.boot_len (pa_cons (pv 0) pa_nil)) pa_nil))) pa_nil)) (pg_name (i := 2) scLawDraws.nd rfl (Or.inl rfl))
    (pss_cons (ps_set (i := 3) scLawDraws.nd rfl (Or.inl rfl) (pe_callTy call_int1 (by rfl) T.int (by decide +kernel) (pa_cons (pe_ix ix_list (pv 0) (pv 2) (fun _ _ => rfl)) pa_nil)))
      (pss_one (ps_if (pt_cmpR op_lt (pv 3) (pe_op op_pow pe_int pe_int) (nomark _))
      (pss_one (ps_expr (pe_bm PySem.F.plainAttrs_list PySem.F.slot_list_append PySem.F.type_list_append mt_append (pv 1) (pa_cons (C8.pe_c cLawMix hr (by decide) (by rfl) (pa_cons (pv 3) (pa_cons (pv 2) pa_nil))) pa_nil))))
      (pss_one (ps_for PassesOwn.never rfl (pi_range1 (by rfl) T.range (pa_cons pe_int pa_nil)) (pg_name (i := 4) scLawDraws.nd rfl (Or.inl rfl))
        (pss_one (ps_if (pt_cmpR op_gt (pv 3) pe_int (nomark _))
          (pss_cons (ps_expr (pe_bm PySem.F.plainAttrs_list PySem.F.slot_list_append PySem.F.type_list_append mt_append (pv 1) (pa_cons (pe_op op_mod (pe_callTy call_int1 (by rfl) T.int (by decide +kernel) (pa_cons (pv 3) pa_nil)) pe_int) pa_nil)))
            (pss_one (ps_set (i := 3) scLawDraws.nd rfl (Or.inl rfl) (pe_op op_fdiv (pv 3) pe_int))))
          pss_nil))))))))
    (pss_one (ps_ret (pv 1))))), ?_⟩
    have hl : (ns.map V.int).length = ns.length := List.length_map _
    refine ⟨by decide, fun d nd => ?_⟩
    have s0 := same_new (o := HO.lst []) nd
    refine ⟨_, rfl, a, _, rfl, .inl (Same.seq s0 hn), 63, _, rfl, ?_⟩
    obtain ⟨m, hm1, hm2, hm3⟩ : ∃ m : Nat, (if ((ns.map V.int).length : Int) < 63 then ((ns.map V.int).length : Int) else 63) = (m : Int) ∧ m ≤ 63 ∧ m ≤ ns.length := by
      rw [hl]
      by_cases h : ns.length < 63
      · exact ⟨ns.length, by rw [if_pos (by omega)], by omega, Nat.le_refl _⟩
      · exact ⟨63, by rw [if_neg (by omega)]; rfl, Nat.le_refl _, by omega⟩
    rw [hm1]
    refine ⟨_, rfl, by omega, by omega, ?_⟩
    rw [Int.toNat_natCast]
    refine for_range (lo := 0) (n := m) (fun i σ H' => ∃ y2 y3 y4, ∃ ds : List Int, σ = [some (.ref a), some (.ref d), y2, y3, y4] ∧ Same H H' ∧ H' d = some (.lst (ds.map V.int)) ∧ ds.length ≤ 60 * i)
      ⟨none, none, none, [], rfl, s0, upd_same, Nat.zero_le _⟩ ?_ ?_
    · rintro i σ H' hi ⟨y2, y3, y4, ds, rfl, sm, hd, hds⟩
      have hd0 : (ds.map V.int).length = ds.length := List.length_map _
      have hidx : (ns.map V.int)[i]? = some (.int ns[i]) := by rw [List.getElem?_map, List.getElem?_eq_getElem (by omega)]; rfl
      refine ⟨_, rfl, _, rfl, a, _, _, _, rfl, rfl, Same.seq sm hn, (show atI _ ((0 : Int) + (i : Int)) = _ by rw [Int.zero_add]; exact atI_nat hidx), .inl ⟨_, rfl, ?_⟩⟩
      refine ⟨_, rfl, 10, 18, rfl, rfl, ⟨(by decide), (by decide), (by decide)⟩, _, _, rfl, rfl, _, rfl, ite2 (fun _ => ?_) (fun _ => ?_)⟩
      · refine ⟨_, rfl, .inl ⟨rfl, _, SqL.of hd⟩, _, rfl, _, rfl, _, _, rfl, fun r => ?_⟩
        refine ⟨d, _, _, rfl, rfl, hd, sz_lt (by omega), ⟨_, _, _, ds ++ [r], rfl, same_mut sm nd, ?_, ?_⟩⟩
        · rw [upd_same, List.map_append]
          rfl
        · rw [List.length_append, List.length_singleton]
          omega
      · refine ⟨60, rfl, by decide, by decide, ?_⟩
        refine for_range (lo := 0) (n := 60) (fun j σ H2 => ∃ y4, ∃ cell : Int, ∃ ds : List Int, σ = [some (.ref a), some (.ref d), some (.int ((0 : Int) + (i : Int))), some (.int cell), y4] ∧ Same H H2 ∧ H2 d = some (.lst (ds.map V.int)) ∧ ds.length ≤ 60 * i + j)
          ⟨_, _, ds, rfl, sm, hd, by omega⟩ ?_ ?_
        · rintro j σ H2 hj ⟨y4, cell, ds, rfl, sm, hd, hds⟩
          have hd0 : (ds.map V.int).length = ds.length := List.length_map _
          refine ⟨_, rfl, _, _, rfl, rfl, _, rfl, ite2 (fun _ => ?_) (fun _ => ?_)⟩
          · refine ⟨_, rfl, .inl ⟨rfl, _, SqL.of hd⟩, _, rfl, .inl ⟨_, rfl, _, _, rfl, rfl, (show (0 : Int) < 9973 by decide), ?_⟩⟩
            refine ⟨d, _, _, rfl, rfl, hd, sz_lt (by omega), _, rfl, _, _, rfl, rfl, ⟨(show (0 : Int) < 9973 by decide), (show (9973 : Int) < 1073741824 by decide)⟩, ⟨_, _, ds ++ [cell % 9973], rfl, same_mut sm nd, ?_, ?_⟩⟩
            · rw [upd_same, List.map_append]
              rfl
            · rw [List.length_append, List.length_singleton]
              omega
          · exact ⟨_, _, ds, rfl, sm, hd, by omega⟩
        · rintro σ H2 ⟨y4, cell, ds, rfl, sm, hd, hds⟩
          exact ⟨_, _, _, ds, rfl, sm, hd, by omega⟩
    · rintro σ H' ⟨y2, y3, y4, ds, rfl, sm, hd, hds⟩
      exact ⟨_, rfl, q H' d ds sm nd hd⟩
theorem ok_LawText {f : Addr} {fd : FuncData} (F : FD K "_law_text" "_law_text" sLawText f fd) (hm : mg "_law_text" = some (.ref f)) (T : Free mg) (cLawNext : C8.Cal P w K mg base 3 "_law_next" (spLawNext K) []) : C8.Cal P w K mg base 4 "_law_text" (spLawText K) [] := by
  refine cal_mk F hm (FunD.bindsN (ps := PLawText) F fun _ _ _ _ _ _ us hl => match us, hl with | [_, _], _ => rfl) scLawText (fun vs H Q E h => ?_) (fun cdv A outer s H vs Q E hr h => ?_)
  · obtain ⟨st, G, rfl, _⟩ := h
    rfl
  · obtain ⟨st, G, rfl, hg, q⟩ := h
    refine ⟨_, (pss_cons (ps_set (i := 2) scLawText.nd rfl (Or.inr rfl) pe_str)
    (pss_cons (ps_set (i := 3) scLawText.nd rfl (Or.inr rfl) (C8.pe_c cLawNext hr (by decide) (by rfl) (pa_cons (pv 0) (pa_cons pe_int pa_nil))))
    (pss_cons (ps_set (i := 4) scLawText.nd rfl (Or.inr rfl) (C8.pe_c cLawNext hr (by decide) (by rfl) (pa_cons (pv 0) (pa_cons pe_int pa_nil))))
    (pss_one (ps_ret (pe_join pe_str (pe_lc (own := [("_law_k", 5)]) (g := gName 5) (tt := tYes) rfl scLawText.nd (pi_range1 (by rfl) T.range (pa_cons (C8.pe_c cLawNext hr (by decide) (by rfl) (pa_cons (pv 0) (pa_cons (pe_op op_add (pv 1) pe_int) pa_nil))) pa_nil)) (blkOk_by (own := [("_law_k", 5)]) (N := NLawText) (sc := defScope sLawText) (by decide +kernel)) (fun _ _ _ _ _ => pg_name (i := 5) scLawText.nd rfl (Or.inl rfl)) (fun _ _ _ _ _ => pts_nil) (fun _ _ _ _ _ => (pe_ix ix_str (pv 2) (pe_op op_mod (pe_op op_add (pv 3) (pe_op op_mul (pv 4) (pv 5))) pe_int) (fun _ _ => rfl)))))))))), ?_⟩
    refine ⟨_, rfl, st, 94, G, rfl, by decide, hg, fun H1 r1 b1 g1 l1 => ?_⟩
    refine ⟨_, rfl, st, 94, G, rfl, by decide, g1, fun H2 r2 b2 g2 l2 => ?_⟩
    refine ⟨⟨_, rfl⟩, ?_⟩
    refine ⟨_, rfl, _, rfl, _, _, rfl, rfl, st, 31, G, rfl, by decide, g2, fun H3 n b3 g3 l3 => ?_⟩
    refine ⟨_, rfl, by omega, by omega, fun L nL => ?_⟩
    refine lc_range (lo := 0) (n := ((n : Nat) : Int).toNat) (fun i H' => ∃ cs : List Nat, cs.length = i ∧ (∀ c ∈ cs, signOk c) ∧ Same H3 H' ∧ H' L = some (.lst (cs.map fun c => V.str ⟨#[c]⟩))) ⟨[], rfl, fun _ h => (by cases h), same_new nL, upd_same⟩ ?_ ?_
    · rintro i H' hi ⟨cs, hcs, hok, sm, hL⟩
      have e0 : (0 : Int) ≤ ((r1 : Int) + (r2 : Int) * ((0 : Int) + (i : Int))) % 94 := Int.emod_nonneg _ (by decide)
      have e1 : ((r1 : Int) + (r2 : Int) * ((0 : Int) + (i : Int))) % 94 < 94 := Int.emod_lt_of_pos _ (by decide)
      have hlt : (((r1 : Int) + (r2 : Int) * ((0 : Int) + (i : Int))) % 94).toNat < signsS.cps.toList.length := by rw [signs_len]; omega
      obtain ⟨ch, hget⟩ : ∃ ch, signsS.cps.toList[(((r1 : Int) + (r2 : Int) * ((0 : Int) + (i : Int))) % 94).toNat]? = some ch := ⟨_, List.getElem?_eq_getElem hlt⟩
      have hsg := signs_ok _ (List.mem_of_getElem? hget)
      refine ⟨rfl, ?_⟩
      refine ⟨_, rfl, _, rfl, _, rfl, _, rfl, _, _, rfl, rfl, .inl ⟨by omega, by omega⟩, _, _, rfl, rfl, _, _, rfl, rfl, (show (0 : Int) < 94 by decide), signsS, _, ch, rfl, rfl, sz_of (by decide +kernel), ?_, ?_⟩
      · have := atI_nat hget
        rwa [Int.toNat_of_nonneg e0] at this
      · refine ⟨_, hL, ?_, cs ++ [ch], ?_, ?_, same_mut sm nL, ?_⟩
        · rw [List.length_map]
          exact sz_lt (by omega)
        · rw [List.length_append, hcs]
          rfl
        · intro c hc
          rcases List.mem_append.mp hc with hc | hc
          · exact hok c hc
          · have : c = ch := by simpa using hc
            rw [this]
            exact hsg
        · rw [upd_same, List.map_append]
          rfl
    · rintro H' ⟨cs, hcs, hok, sm, hL⟩
      rw [Int.toNat_natCast] at hcs
      refine ⟨_, L, cs.map fun c => (⟨#[c]⟩ : Str), rfl, rfl, .inl (SqL.of (by rw [List.map_map]; exact hL)), ?_, ?_⟩
      · rw [List.map_map, List.length_map]
        have e : ∀ l : List Nat, (l.map ((fun y : Str => y.length) ∘ fun c => (⟨#[c]⟩ : Str))).sum = l.length := fun l => by
          induction l with
          | nil => rfl
          | cons c r ih => rw [List.map_cons, List.sum_cons, ih, List.length_cons]; show 1 + r.length = _; omega
        rw [e]
        have : (Str.ofString "").length = 0 := rfl
        rw [this]
        omega
      · have ej := join_signs ⟨cs.toArray⟩
        simp only [List.toList_toArray] at ej
        rw [ej]
        exact q H' (.t ⟨cs.toArray⟩) ((b1.trans b2).trans (b3.trans (Same.but sm))) (g3.same sm) ⟨by rw [List.size_toArray]; omega, fun c hc => hok c (by simpa using hc)⟩
end
end K9

set_option Elab.async false
set_option linter.all false
set_option maxRecDepth 100000
set_option maxHeartbeats 4000000
/-! The law's values. -/
namespace K9
open PySem PySem.Spec PyProof.Rows L2
theorem small_ok {i : Int} (h : i.natAbs ≤ 100000) : CellOk (.n i) := Nat.lt_of_le_of_lt h (by decide)
theorem pick_cell {cs : List Cell} {r : Nat} (h : r < cs.length) : ∃ c, c ∈ cs ∧ (cs.map Cell.v)[r]? = some c.v := ⟨cs[r], List.getElem_mem h, by rw [List.getElem?_map, List.getElem?_eq_getElem h]; rfl⟩
def nums6 : List Cell := [.n (10 ^ (30 : Int).toNat - 1), .n (1 - 10 ^ (30 : Int).toNat), .n 127, .n 128, .n (-128), .n 16384]
def texts7 : List Cell := [.t "", .t "a", .t "b", .t "ab", .t "a ", .t "0", .t "1"]
def texts4 : List Cell := [.t "a", .t "b", .t "ab", .t "lamp"]
theorem nums6_ok : ∀ c ∈ nums6, CellOk c := by
  intro c hc
  have h : nums6.all (fun c => match c with | .n i => decide (i.natAbs < 10 ^ 30) | .t x => false) = true := by decide +kernel
  have := List.all_eq_true.mp h c hc
  cases c with
  | n i => exact (show i.natAbs < 10 ^ 30 from of_decide_eq_true this)
  | t x => cases this
theorem texts_ok {cs : List Cell} (h : cs.all (fun c => match c with | .n i => false | .t x => textOk x) = true) : ∀ c ∈ cs, CellOk c := by
  intro c hc
  have := List.all_eq_true.mp h c hc
  cases c with
  | n i => cases this
  | t x => exact textOk_cell this
theorem texts7_ok : ∀ c ∈ texts7, CellOk c := texts_ok (by decide +kernel)
theorem texts4_ok : ∀ c ∈ texts4, CellOk c := texts_ok (by decide +kernel)
theorem pow_lt {v r i : Nat} (h : v < 9973 ^ i) (hr : r < 9973) : v * 9973 + r < 9973 ^ (i + 1) := by
  have : (v + 1) * 9973 ≤ 9973 ^ i * 9973 := Nat.mul_le_mul_right _ h
  rw [Nat.pow_succ]
  omega
theorem pow7 {v m : Nat} (h : v < 9973 ^ (1 + m)) (hm : m < 7) : v < 10 ^ 30 := by
  have : 9973 ^ (1 + m) ≤ 9973 ^ 7 := Nat.pow_le_pow_right (by decide) (by omega)
  exact Nat.lt_of_lt_of_le h (Nat.le_trans this (by decide))
section
variable {P : Program} {w : World} {K : PySem.W.Frag} {mg : Str → Option Value} {base : Heap}
theorem ok_LawValue {f : Addr} {fd : FuncData} (F : FD K "_law_value" "_law_value" sLawValue f fd) (hm : mg "_law_value" = some (.ref f)) (T : Free mg) (cLawNext : C8.Cal P w K mg base 3 "_law_next" (spLawNext K) []) (cLawText : C8.Cal P w K mg base 4 "_law_text" (spLawText K) []) : C8.Cal P w K mg base 5 "_law_value" (spLawValue K) [] := by
  refine cal_mk F hm (FunD.bindsN (ps := PLawValue) F fun _ _ _ _ _ _ us hl => match us, hl with | [_], _ => rfl) scLawValue (fun vs H Q E h => ?_) (fun cdv A outer s H vs Q E hr h => ?_)
  · obtain ⟨st, G, rfl, _⟩ := h
    rfl
  · obtain ⟨st, G, rfl, hg, q⟩ := h
    refine ⟨_, (pss_cons (ps_set (i := 1) scLawValue.nd rfl (Or.inl rfl) (C8.pe_c cLawNext hr (by decide) (by rfl) (pa_cons (pv 0) (pa_cons pe_int pa_nil))))
    (pss_cons (ps_if (pt_cmpR op_lt (pv 1) pe_int (nomark _))
    (pss_one (ps_ret (pe_op op_sub (C8.pe_c cLawNext hr (by decide) (by rfl) (pa_cons (pv 0) (pa_cons pe_int pa_nil))) pe_int)))
    pss_nil)
    (pss_cons (ps_if (pt_cmpR op_eq (pv 1) pe_int (nomark _))
    (pss_cons (ps_set (i := 2) scLawValue.nd rfl (Or.inl rfl) pe_int)
      (pss_cons (ps_for PassesOwn.never rfl (pi_range1 (by rfl) T.range (pa_cons (pe_op op_add pe_int (C8.pe_c cLawNext hr (by decide) (by rfl) (pa_cons (pv 0) (pa_cons pe_int pa_nil)))) pa_nil)) (pg_name (i := 3) scLawValue.nd rfl (Or.inl rfl))
      (pss_one (ps_set (i := 2) scLawValue.nd rfl (Or.inl rfl) (pe_op op_add (pe_op op_mul (pv 2) pe_int) (C8.pe_c cLawNext hr (by decide) (by rfl) (pa_cons (pv 0) (pa_cons pe_int pa_nil)))))))
      (pss_one (ps_ret (pe_op op_mul (pv 2) (pe_ix ix_list (pe_lst (pa_cons pe_int (pa_cons (pe_un un_neg pe_int) pa_nil))) (C8.pe_c cLawNext hr (by decide) (by rfl) (pa_cons (pv 0) (pa_cons pe_int pa_nil))) (fun _ _ => rfl)))))))
    pss_nil)
    (pss_cons (ps_if (pt_cmpR op_eq (pv 1) pe_int (nomark _))
    (pss_one (ps_ret (pe_ix ix_list (pe_lst (pa_cons (pe_op op_sub (pe_op op_pow pe_int pe_int) pe_int) (pa_cons (pe_op op_sub pe_int (pe_op op_pow pe_int pe_int)) (pa_cons pe_int (pa_cons pe_int (pa_cons (pe_un un_neg pe_int) (pa_cons pe_int pa_nil))))))) (C8.pe_c cLawNext hr (by decide) (by rfl) (pa_cons (pv 0) (pa_cons pe_int pa_nil))) (fun _ _ => rfl))))
    pss_nil)
    (pss_cons (ps_if (pt_cmpR op_lt (pv 1) pe_int (nomark _))
    (pss_one (ps_ret (pe_ix ix_list (pe_lst (pa_cons pe_str (pa_cons pe_str (pa_cons pe_str (pa_cons pe_str (pa_cons pe_str (pa_cons pe_str (pa_cons pe_str pa_nil)))))))) (C8.pe_c cLawNext hr (by decide) (by rfl) (pa_cons (pv 0) (pa_cons pe_int pa_nil))) (fun _ _ => rfl))))
    pss_nil)
    (pss_one (ps_ret (C8.pe_c cLawText hr (by decide) (by rfl) (pa_cons (pv 0) (pa_cons pe_int pa_nil)))))))))), ?_⟩
    refine ⟨_, rfl, st, 9, G, rfl, by decide, hg, fun H1 r b1 g1 l1 => ?_⟩
    obtain ⟨xs1, hst1⟩ := g1.st
    refine ⟨_, rfl, _, _, rfl, rfl, _, rfl, ite2 (fun _ => ?_) (fun _ => ?_)⟩
    · exact ⟨_, rfl, st, 5, G, rfl, by decide, g1, fun H2 r2 b2 g2 l2 => ⟨_, _, rfl, rfl, q H2 (.n ((r2 : Int) - 2)) (b1.trans b2) g2 (small_ok (by omega))⟩⟩
    refine ⟨_, rfl, rfl, _, rfl, ite2 (fun _ => ?_) (fun _ => ?_)⟩
    · refine ⟨_, rfl, st, 7, G, rfl, by decide, g1, fun H2 m b2 g2 l2 => ⟨_, _, rfl, rfl, _, rfl, by omega, by omega, ?_⟩⟩
      have em : ((1 : Int) + (m : Int)).toNat = 1 + m := by omega
      rw [em]
      refine for_range (lo := 0) (n := 1 + m) (fun i σ H' => ∃ (v : Nat) (y : Option V), σ = [some (.ref st), some (.int (r : Int)), some (.int (v : Int)), y] ∧ But st H H' ∧ Gen K H' st G ∧ v < 9973 ^ i) ⟨0, none, rfl, b1.trans b2, g2, by decide⟩ ?_ ?_
      · rintro i σ H' hi ⟨v, y, rfl, b3, g3, hv⟩
        refine ⟨_, rfl, _, _, rfl, rfl, .inr (by decide), _, rfl, st, 9973, G, rfl, by decide, g3, fun H4 r4 b4 g4 l4 => ⟨_, _, rfl, rfl, ⟨v * 9973 + r4, some (.int ((0 : Int) + (i : Int))), ?_, b3.trans b4, g4, pow_lt hv l4⟩⟩⟩
        have e : (v : Int) * 9973 + (r4 : Int) = ((v * 9973 + r4 : Nat) : Int) := by omega
        rw [← e]
        rfl
      · rintro σ H' ⟨v, y, rfl, b3, g3, hv⟩
        have hv2 := pow7 hv l2
        obtain ⟨xs3, hst3⟩ := g3.st
        refine ⟨_, rfl, 1, rfl, sz2, fun p np => ?_⟩
        have hpst : p ≠ st := fun z => by rw [z, hst3] at np; cases np
        refine ⟨_, rfl, st, 2, G, rfl, by decide, g3.same (same_new np), fun H5 r5 b5 g5 l5 => ?_⟩
        have hp5 := b5 _ _ hpst upd_same
        have bb := b3.trans ((Same.but (same_new np)).trans b5)
        have : r5 = 0 ∨ r5 = 1 := by omega
        rcases this with rfl | rfl
        · refine ⟨p, _, _, _, rfl, rfl, SqL.of hp5, atI_nat (j := 0) rfl, _, _, rfl, rfl, .inr (by decide), q H5 (.n ((v : Int) * 1)) bb g5 ?_⟩
          show ((v : Int) * 1).natAbs < 10 ^ 30
          rw [Int.mul_one, Int.natAbs_natCast]
          exact hv2
        · refine ⟨p, _, _, _, rfl, rfl, SqL.of hp5, atI_nat (j := 1) rfl, _, _, rfl, rfl, .inr (by decide), q H5 (.n ((v : Int) * (-1))) bb g5 ?_⟩
          show ((v : Int) * (-1)).natAbs < 10 ^ 30
          rw [Int.natAbs_mul, Int.natAbs_natCast]
          show v * 1 < _
          rw [Nat.mul_one]
          exact hv2
    refine ⟨_, rfl, rfl, _, rfl, ite2 (fun _ => ?_) (fun _ => ?_)⟩
    · refine ⟨10, 30, rfl, rfl, ⟨by decide, by decide, by decide⟩, _, _, rfl, rfl, 10, 30, rfl, rfl, ⟨by decide, by decide, by decide⟩, _, _, rfl, rfl, 128, rfl, sz_of (n := 6) (by decide), fun p np => ?_⟩
      have hpst : p ≠ st := fun z => by rw [z, hst1] at np; cases np
      refine ⟨_, rfl, st, 6, G, rfl, by decide, g1.same (same_new np), fun H5 r5 b5 g5 l5 => ?_⟩
      obtain ⟨c, hc, he⟩ := pick_cell (cs := nums6) (r := r5) l5
      exact ⟨p, nums6.map Cell.v, (r5 : Int), c.v, rfl, rfl, SqL.of (b5 _ _ hpst upd_same), atI_nat he, q H5 c (b1.trans ((Same.but (same_new np)).trans b5)) g5 (nums6_ok c hc)⟩
    refine ⟨_, rfl, _, _, rfl, rfl, _, rfl, ite2 (fun _ => ?_) (fun _ => ?_)⟩
    · refine ⟨sz_of (n := 7) (by decide), fun p np => ?_⟩
      have hpst : p ≠ st := fun z => by rw [z, hst1] at np; cases np
      refine ⟨_, rfl, st, 7, G, rfl, by decide, g1.same (same_new np), fun H5 r5 b5 g5 l5 => ?_⟩
      obtain ⟨c, hc, he⟩ := pick_cell (cs := texts7) (r := r5) l5
      exact ⟨p, texts7.map Cell.v, (r5 : Int), c.v, rfl, rfl, SqL.of (b5 _ _ hpst upd_same), atI_nat he, q H5 c (b1.trans ((Same.but (same_new np)).trans b5)) g5 (texts7_ok c hc)⟩
    · exact ⟨_, rfl, st, G, rfl, g1, fun H2 c b2 g2 hc => q H2 c (b1.trans b2) g2 hc⟩
theorem ok_LawSmall {f : Addr} {fd : FuncData} (F : FD K "_law_small" "_law_small" sLawSmall f fd) (hm : mg "_law_small" = some (.ref f)) (T : Free mg) (cLawNext : C8.Cal P w K mg base 3 "_law_next" (spLawNext K) []) (cLawValue : C8.Cal P w K mg base 5 "_law_value" (spLawValue K) []) : C8.Cal P w K mg base 6 "_law_small" (spLawSmall K) [] := by
  refine cal_mk F hm (FunD.bindsN (ps := PLawSmall) F fun _ _ _ _ _ _ us hl => match us, hl with | [_], _ => rfl) scLawSmall (fun vs H Q E h => ?_) (fun cdv A outer s H vs Q E hr h => ?_)
  · obtain ⟨st, G, rfl, _⟩ := h
    rfl
  · obtain ⟨st, G, rfl, hg, q⟩ := h
    refine ⟨_, (pss_cons (ps_set (i := 1) scLawSmall.nd rfl (Or.inl rfl) (C8.pe_c cLawNext hr (by decide) (by rfl) (pa_cons (pv 0) (pa_cons pe_int pa_nil))))
    (pss_cons (ps_if (pt_cmpR op_lt (pv 1) pe_int (nomark _))
    (pss_one (ps_ret (C8.pe_c cLawNext hr (by decide) (by rfl) (pa_cons (pv 0) (pa_cons pe_int pa_nil)))))
    pss_nil)
    (pss_cons (ps_if (pt_cmpR op_lt (pv 1) pe_int (nomark _))
    (pss_one (ps_ret (pe_ix ix_list (pe_lst (pa_cons pe_str (pa_cons pe_str (pa_cons pe_str (pa_cons pe_str pa_nil))))) (C8.pe_c cLawNext hr (by decide) (by rfl) (pa_cons (pv 0) (pa_cons pe_int pa_nil))) (fun _ _ => rfl))))
    pss_nil)
    (pss_one (ps_ret (C8.pe_c cLawValue hr (by decide) (by rfl) (pa_cons (pv 0) pa_nil))))))), ?_⟩
    refine ⟨_, rfl, st, 12, G, rfl, by decide, hg, fun H1 r b1 g1 l1 => ?_⟩
    obtain ⟨xs1, hst1⟩ := g1.st
    refine ⟨_, rfl, _, _, rfl, rfl, _, rfl, ite2 (fun _ => ?_) (fun _ => ?_)⟩
    · exact ⟨_, rfl, st, 6, G, rfl, by decide, g1, fun H2 r2 b2 g2 l2 => q H2 (.n (r2 : Int)) (b1.trans b2) g2 (small_ok (by omega))⟩
    refine ⟨_, rfl, _, _, rfl, rfl, _, rfl, ite2 (fun _ => ?_) (fun _ => ?_)⟩
    · refine ⟨sz_of (n := 4) (by decide), fun p np => ?_⟩
      have hpst : p ≠ st := fun z => by rw [z, hst1] at np; cases np
      refine ⟨_, rfl, st, 4, G, rfl, by decide, g1.same (same_new np), fun H5 r5 b5 g5 l5 => ?_⟩
      obtain ⟨c, hc, he⟩ := pick_cell (cs := texts4) (r := r5) l5
      exact ⟨p, texts4.map Cell.v, (r5 : Int), c.v, rfl, rfl, SqL.of (b5 _ _ hpst upd_same), atI_nat he, q H5 c (b1.trans ((Same.but (same_new np)).trans b5)) g5 (texts4_ok c hc)⟩
    · exact ⟨_, rfl, st, G, rfl, g1, fun H2 c b2 g2 hc => q H2 c (b1.trans b2) g2 hc⟩
end
end K9

set_option Elab.async false
set_option linter.all false
set_option maxRecDepth 100000
set_option maxHeartbeats 4000000
/-! The law's own order and its sorting. -/
namespace K9
open PySem PySem.Spec PyProof.Rows L2
theorem rowLt_trans {a b c : Row} (h : rowLt a b = true) (h2 : rowLt b c = true) : rowLt a c = true := by
  rw [← toks_key] at h h2 ⊢
  exact lex_trans (O := PyProof.Rows.itemOrd) _ _ _ h h2
theorem cell_tot {x y : Cell} (h : cellLt x y = false) (h2 : cellLt y x = false) : x = y := by
  cases x with
  | n i =>
    cases y with
    | n j =>
      have h1 : ¬ i < j := of_decide_eq_false h
      have h3 : ¬ j < i := of_decide_eq_false h2
      have : i = j := by omega
      rw [this]
    | t y => cases h
  | t x =>
    cases y with
    | n j => cases h2
    | t y =>
      have h1 : ¬ x.cps.toList < y.cps.toList := of_decide_eq_false h
      have h3 : ¬ y.cps.toList < x.cps.toList := of_decide_eq_false h2
      have e : x.cps.toList = y.cps.toList := List.le_antisymm (List.not_lt.mp h3) (List.not_lt.mp h1)
      obtain ⟨x⟩ := x
      obtain ⟨y⟩ := y
      have : x = y := Array.ext' e
      rw [this]
theorem row_tot : ∀ {a b : Row}, rowLt a b = false → rowLt b a = false → a = b
  | [], [], _, _ => rfl
  | [], _ :: _, h, _ => by cases h
  | _ :: _, [], _, h => by cases h
  | x :: r, y :: t, h, h2 => by
    have h : (cellLt x y || (!cellLt y x && rowLt r t)) = false := h
    have h2 : (cellLt y x || (!cellLt x y && rowLt t r)) = false := h2
    rw [Bool.or_eq_false_iff] at h h2
    have e := cell_tot h.1 h2.1
    have e1 := h.2
    have e2 := h2.2
    rw [h2.1] at e1
    rw [h.1] at e2
    have ih := row_tot (a := r) (b := t) (by simpa using e1) (by simpa using e2)
    rw [e, ih]
/-- where a new row stands -/
theorem inc_split : ∀ {rs : List Row} {row : Row}, RowsInc rs → row ∉ rs → (∀ x ∈ rs.take (rs.countP fun x => rowLt x row), rowLt x row = true) ∧ ∀ x ∈ rs.drop (rs.countP fun x => rowLt x row), rowLt row x = true
  | [], _, _, _ => ⟨fun _ h => (by simp at h), fun _ h => (by simp at h)⟩
  | x :: rs, row, hi, hn => by
    obtain ⟨h1, h2⟩ := List.pairwise_cons.mp hi
    have hx : row ≠ x := fun z => hn (by rw [z]; exact List.mem_cons_self)
    have hn2 : row ∉ rs := fun z => hn (List.mem_cons_of_mem _ z)
    obtain ⟨i1, i2⟩ := inc_split h2 hn2
    cases e : rowLt x row with
    | true =>
      rw [List.countP_cons_of_pos (by simpa using e), List.take_succ_cons, List.drop_succ_cons]
      refine ⟨fun y hy => ?_, i2⟩
      rcases List.mem_cons.mp hy with rfl | hy
      · exact e
      · exact i1 y hy
    | false =>
      have e2 : rowLt row x = true := by
        cases e3 : rowLt row x with
        | true => rfl
        | false => exact absurd (row_tot e3 e) hx
      have e4 : ∀ y ∈ rs, rowLt row y = true := fun y hy => rowLt_trans e2 (h1 y hy)
      have e5 : rs.countP (fun x => rowLt x row) = 0 := by
        rw [List.countP_eq_zero]
        intro y hy z
        have := rowLt_asymm (e4 y hy)
        rw [this] at z
        cases z
      rw [List.countP_cons_of_neg (by simp [e]), e5]
      refine ⟨fun y hy => by simp at hy, fun y hy => ?_⟩
      rw [List.drop_zero] at hy
      rcases List.mem_cons.mp hy with rfl | hy
      · exact e2
      · exact e4 y hy
theorem inc_insert {rs : List Row} {row : Row} (hi : RowsInc rs) (hn : row ∉ rs) : RowsInc (rs.take (rs.countP fun x => rowLt x row) ++ [row] ++ rs.drop (rs.countP fun x => rowLt x row)) := by
  obtain ⟨h1, h2⟩ := inc_split hi hn
  have hp : (rs.take (rs.countP fun x => rowLt x row) ++ rs.drop (rs.countP fun x => rowLt x row)).Pairwise fun a b => rowLt a b = true := by
    rw [List.take_append_drop]
    exact hi
  obtain ⟨p1, p2, p3⟩ := List.pairwise_append.mp hp
  refine List.pairwise_append.mpr ⟨List.pairwise_append.mpr ⟨p1, List.pairwise_singleton _ _, fun a ha b hb => ?_⟩, p2, fun a ha b hb => ?_⟩
  · have : b = row := by simpa using hb
    rw [this]
    exact h1 a ha
  · rcases List.mem_append.mp ha with ha | ha
    · exact p3 a ha b hb
    · have : a = row := by simpa using ha
      rw [this]
      exact h2 b hb
theorem paired_take {α β : Type} {R : α → β → Prop} : ∀ {as : List α} {bs : List β} (n : Nat), Paired R as bs → Paired R (as.take n) (bs.take n)
  | _, _, 0, _ => .nil
  | _, _, _ + 1, .nil => .nil
  | _, _, n + 1, .cons r t => .cons r (paired_take n t)
theorem paired_drop {α β : Type} {R : α → β → Prop} : ∀ {as : List α} {bs : List β} (n : Nat), Paired R as bs → Paired R (as.drop n) (bs.drop n)
  | _, _, 0, r => r
  | _, _, _ + 1, .nil => .nil
  | _, _, n + 1, .cons _ t => paired_drop n t
/-! ### promises -/
def sameKind : Cell → Cell → Prop
  | .n _, .n _ => True
  | .t _, .t _ => True
  | _, _ => False
def rLtC : R2 := fun x y H Q => ∃ a b : Cell, x = a.v ∧ y = b.v ∧ sameKind a b ∧ Q (.bl (cellLt a b)) H
theorem op_ltC {X : Cx} : OpR X (compareOp .Lt) rLtC := by
  intro pins s σ H x y v u Q I rx ry h
  obtain ⟨a, b, rfl, rfl, hk, q⟩ := h
  cases a with
  | n i =>
    cases b with
    | n j => exact op_lt pins s σ H _ _ v u Q I rx ry ⟨i, j, rfl, rfl, q⟩
    | t y => exact hk.elim
  | t x =>
    cases b with
    | n j => exact hk.elim
    | t y => exact op_lt_str pins s σ H _ _ v u Q I rx ry ⟨x, y, rfl, rfl, q⟩
def spLawFirst : Sp := fun vs H Q _ => ∃ a b : Cell, vs = [a.v, b.v] ∧ Q (.bl (cellLt a b)) H
def spLawOrder (K : PySem.W.Frag) : Sp := fun vs H Q _ => ∃ (a b : Addr) (r t : Row), vs = [.ref a, .ref b] ∧ SqT K H a (rowV r) ∧ SqT K H b (rowV t) ∧ r.length ≤ 100 ∧ t.length ≤ 100 ∧ ∀ o : Int, decide (o < 0) = rowLt r t → Q (.int o) H
def spLawSorted (K : PySem.W.Frag) : Sp := fun vs H Q _ => ∃ (a : Addr) (vs' : List V) (rows : List Row), vs = [.ref a] ∧ SqL K H a vs' ∧ Paired (RowA K H) vs' rows ∧ rows.length ≤ 100 ∧ (∀ r ∈ rows, r.length ≤ 100 ∧ ∀ c ∈ r, CellOk c) ∧
  ∀ (H' : Hp) (p : Addr) (ws : List V) (rs : List Row), Same H H' → H p = none → H' p = some (.lst ws) → Paired (RowA K H') ws rs → RowsInc rs → rs.length ≤ rows.length → (∀ r ∈ rs, r ∈ rows) → Q (.ref p) H'
section
variable {P : Program} {w : World} {K : PySem.W.Frag} {mg : Str → Option Value} {base : Heap}
theorem ok_LawFirst {f : Addr} {fd : FuncData} (F : FD K "_law_first" "_law_first" sLawFirst f fd) (hm : mg "_law_first" = some (.ref f)) (T : Free mg) : C8.Cal P w K mg base 1 "_law_first" spLawFirst [] := by
  refine cal_mk F hm (FunD.bindsN (ps := PLawFirst) F fun _ _ _ _ _ _ us hl => match us, hl with | [_, _], _ => rfl) scLawFirst (fun vs H Q E h => ?_) (fun cdv A outer s H vs Q E hr h => ?_)
  · obtain ⟨a, b, rfl, _⟩ := h
    rfl
  · obtain ⟨a, b, rfl, q⟩ := h
    refine ⟨_, (pss_cons (ps_if (pt_cmpR op_ne (pe_callB call_isi (by rfl) T.isinstance (by decide +kernel) (pa_cons (pv 0) (pa_cons (pe_bltn (v := .ty "int") (by rfl) T.int (by decide +kernel) rfl) pa_nil))) (pe_callB call_isi (by rfl) T.isinstance (by decide +kernel) (pa_cons (pv 1) (pa_cons (pe_bltn (v := .ty "int") (by rfl) T.int (by decide +kernel) rfl) pa_nil))) (nomark _))
    (pss_one (ps_ret (pe_callB call_isi (by rfl) T.isinstance (by decide +kernel) (pa_cons (pv 0) (pa_cons (pe_bltn (v := .ty "int") (by rfl) T.int (by decide +kernel) rfl) pa_nil)))))
    pss_nil)
    (pss_one (ps_ret (pe_cmpR op_ltC (pv 0) (pv 1) (nomark _))))), ?_⟩
    have isI : ∀ c : Cell, ∃ k : Bool, (k = match c with | .n _ => true | .t _ => false) ∧ ∀ Q : VK, Q (.bl k) H → ∃ (v t : V) (T1 T2 : Value), ∃ b : Bool, [c.v, V.ty "int"] = [v, t] ∧ True := fun c => ⟨_, rfl, fun Q _ => ⟨_, _, .none, .none, true, rfl, True.intro⟩⟩
    cases a with
    | n i =>
      cases b with
      | n j =>
        refine ⟨_, rfl, _, _, _, _, true, rfl, .ty _, .base (.int i), kit_ty (by decide +kernel), _, rfl, _, _, _, _, true, rfl, .ty _, .base (.int j), kit_ty (by decide +kernel), rfl, _, rfl, ite2 (fun t => absurd t (by decide)) (fun _ => ?_)⟩
        exact ⟨_, rfl, _, rfl, .n i, .n j, rfl, rfl, True.intro, q⟩
      | t y =>
        refine ⟨_, rfl, _, _, _, _, true, rfl, .ty _, .base (.int i), kit_ty (by decide +kernel), _, rfl, _, _, _, _, false, rfl, .ty _, .base (.str y), kit_ty (by decide +kernel), rfl, _, rfl, ite2 (fun _ => ?_) (fun t => absurd (by decide) t)⟩
        exact ⟨_, rfl, _, _, _, _, true, rfl, .ty _, .base (.int i), kit_ty (by decide +kernel), q⟩
    | t x =>
      cases b with
      | n j =>
        refine ⟨_, rfl, _, _, _, _, false, rfl, .ty _, .base (.str x), kit_ty (by decide +kernel), _, rfl, _, _, _, _, true, rfl, .ty _, .base (.int j), kit_ty (by decide +kernel), rfl, _, rfl, ite2 (fun _ => ?_) (fun t => absurd (by decide) t)⟩
        exact ⟨_, rfl, _, _, _, _, false, rfl, .ty _, .base (.str x), kit_ty (by decide +kernel), q⟩
      | t y =>
        refine ⟨_, rfl, _, _, _, _, false, rfl, .ty _, .base (.str x), kit_ty (by decide +kernel), _, rfl, _, _, _, _, false, rfl, .ty _, .base (.str y), kit_ty (by decide +kernel), rfl, _, rfl, ite2 (fun t => absurd t (by decide)) (fun _ => ?_)⟩
        exact ⟨_, rfl, _, rfl, .t x, .t y, rfl, rfl, True.intro, q⟩
theorem ok_LawOrder {f : Addr} {fd : FuncData} (F : FD K "_law_order" "_law_order" sLawOrder f fd) (hm : mg "_law_order" = some (.ref f)) (T : Free mg) (cLawFirst : C8.Cal P w K mg base 1 "_law_first" spLawFirst []) : C8.Cal P w K mg base 2 "_law_order" (spLawOrder K) [] := by
  refine cal_mk F hm (FunD.bindsN (ps := PLawOrder) F fun _ _ _ _ _ _ us hl => match us, hl with | [_, _], _ => rfl) scLawOrder (fun vs H Q E h => ?_) (fun cdv A outer s H vs Q E hr h => ?_)
  · obtain ⟨a, b, r, t, rfl, _⟩ := h
    rfl
  · obtain ⟨a, b, r, t, rfl, ha, hb, hra, htb, q⟩ := h
    refine ⟨_, (pss_cons (ps_for PassesOwn.never rfl (pi_range1 (by rfl) T.range (pa_cons (pe_callB (call_min2 rfl) (by rfl) T.min (by decide +kernel) (pa_cons (pe_callB call_len_seq (by rfl) T.len PySem.boot_len (pa_cons (pv 0) pa_nil)) (pa_cons (pe_callB call_len_seq (by rfl) T.len PySem.boot_len (pa_cons (pv 1) pa_nil)) pa_nil))) pa_nil)) (pg_name (i := 2) scLawOrder.nd rfl (Or.inl rfl))
    (pss_cons (ps_if (pt_val (C8.pe_c cLawFirst hr (by decide) (by rfl) (pa_cons (pe_ix ix_tup (pv 0) (pv 2) (fun _ _ => rfl)) (pa_cons (pe_ix ix_tup (pv 1) (pv 2) (fun _ _ => rfl)) pa_nil))))
      (pss_one (ps_ret (pe_un un_neg pe_int)))
      pss_nil)
      (pss_one (ps_if (pt_val (C8.pe_c cLawFirst hr (by decide) (by rfl) (pa_cons (pe_ix ix_tup (pv 1) (pv 2) (fun _ _ => rfl)) (pa_cons (pe_ix ix_tup (pv 0) (pv 2) (fun _ _ => rfl)) pa_nil))))
      (pss_one (ps_ret pe_int))
      pss_nil))))
    (pss_one (ps_ret (pe_op op_sub (pe_callTy call_int1 (by rfl) T.int (by decide +kernel) (pa_cons (pe_cmpR op_gt (pe_callB call_len_seq (by rfl) T.len PySem.boot_len (pa_cons (pv 0) pa_nil)) (pe_callB call_len_seq (by rfl) T.len PySem.boot_len (pa_cons (pv 1) pa_nil)) (nomark _)) pa_nil)) (pe_callTy call_int1 (by rfl) T.int (by decide +kernel) (pa_cons (pe_cmpR op_lt (pe_callB call_len_seq (by rfl) T.len PySem.boot_len (pa_cons (pv 0) pa_nil)) (pe_callB call_len_seq (by rfl) T.len PySem.boot_len (pa_cons (pv 1) pa_nil)) (nomark _)) pa_nil)))))), ?_⟩
    have lr : (rowV r).length = r.length := List.length_map _
    have lt : (rowV t).length = t.length := List.length_map _
    refine ⟨_, rfl, a, _, rfl, .inr ha, _, rfl, b, _, rfl, .inr hb, _, _, rfl, ?_⟩
    obtain ⟨m, hm1, hm2, hm3, hm4⟩ : ∃ m : Nat, (if ((rowV t).length : Int) < ((rowV r).length : Int) then ((rowV t).length : Int) else ((rowV r).length : Int)) = (m : Int) ∧ m ≤ r.length ∧ m ≤ t.length ∧ (m = r.length ∨ m = t.length) := by
      rw [lr, lt]
      by_cases h : t.length < r.length
      · exact ⟨t.length, by rw [if_pos (by omega)], by omega, Nat.le_refl _, .inr rfl⟩
      · exact ⟨r.length, by rw [if_neg (by omega)], Nat.le_refl _, by omega, .inl rfl⟩
    rw [hm1]
    refine ⟨_, rfl, by omega, by omega, ?_⟩
    rw [Int.toNat_natCast]
    refine for_range (lo := 0) (n := m) (fun i σ H' => ∃ y, σ = [some (.ref a), some (.ref b), y] ∧ H' = H ∧ rowLt r t = rowLt (r.drop i) (t.drop i)) ⟨none, rfl, rfl, rfl⟩ ?_ ?_
    · rintro i σ H' hi ⟨y, rfl, rfl, hrt⟩
      have hx : r[i]? = some r[i] := List.getElem?_eq_getElem (by omega)
      have hy : t[i]? = some t[i] := List.getElem?_eq_getElem (by omega)
      have ix : atI (rowV r) ((0 : Int) + (i : Int)) = some (r[i]).v := by
        rw [Int.zero_add]
        exact atI_nat (by unfold rowV; rw [List.getElem?_map, hx]; rfl)
      have iy : atI (rowV t) ((0 : Int) + (i : Int)) = some (t[i]).v := by
        rw [Int.zero_add]
        exact atI_nat (by unfold rowV; rw [List.getElem?_map, hy]; rfl)
      rw [List.drop_eq_getElem_cons (by omega : i < r.length), List.drop_eq_getElem_cons (by omega : i < t.length)] at hrt
      have hrt : rowLt r t = (cellLt r[i] t[i] || (!cellLt t[i] r[i] && rowLt (r.drop (i + 1)) (t.drop (i + 1)))) := hrt
      refine ⟨_, rfl, _, rfl, a, _, _, _, rfl, rfl, ha, ix, _, rfl, _, rfl, b, _, _, _, rfl, rfl, hb, iy, r[i], t[i], rfl, _, rfl, ite2 (fun e => ?_) (fun e => ?_)⟩
      · refine ⟨1, rfl, q (-1) ?_⟩
        have e : cellLt r[i] t[i] = true := e
        rw [hrt, e]
        rfl
      · have e : cellLt r[i] t[i] = false := Bool.eq_false_iff.mpr e
        refine ⟨_, rfl, _, rfl, b, _, _, _, rfl, rfl, hb, iy, _, rfl, _, rfl, a, _, _, _, rfl, rfl, ha, ix, t[i], r[i], rfl, _, rfl, ite2 (fun e2 => ?_) (fun e2 => ?_)⟩
        · have e2 : cellLt t[i] r[i] = true := e2
          refine q 1 ?_
          rw [hrt, e, e2]
          rfl
        · have e2 : cellLt t[i] r[i] = false := Bool.eq_false_iff.mpr e2
          refine ⟨_, rfl, rfl, ?_⟩
          rw [hrt, e, e2]
          rfl
    · rintro σ H' ⟨y, rfl, rfl, hrt⟩
      refine ⟨_, rfl, a, _, rfl, .inr ha, _, rfl, b, _, rfl, .inr hb, _, _, rfl, rfl, .inr ⟨_, rfl, _, rfl, a, _, rfl, .inr ha, _, rfl, b, _, rfl, .inr hb, _, _, rfl, rfl, .inr ⟨_, rfl, _, _, rfl, rfl, q _ ?_⟩⟩⟩
      rw [hrt, lr, lt]
      by_cases h1 : r.length = m
      · by_cases h2 : t.length = m
        · rw [List.drop_eq_nil_of_le (by omega), List.drop_eq_nil_of_le (by omega), decide_eq_false (by omega : ¬ (t.length : Int) < (r.length : Int)), decide_eq_false (by omega : ¬ (r.length : Int) < (t.length : Int))]
          rfl
        · have hlt : m < t.length := by omega
          rw [List.drop_eq_nil_of_le (by omega : r.length ≤ m), List.drop_eq_getElem_cons hlt, decide_eq_false (by omega : ¬ (t.length : Int) < (r.length : Int)), decide_eq_true (by omega : (r.length : Int) < (t.length : Int))]
          rfl
      · have h2 : t.length = m := by omega
        have hlt : m < r.length := by omega
        rw [List.drop_eq_nil_of_le (by omega : t.length ≤ m), List.drop_eq_getElem_cons hlt, decide_eq_true (by omega : (t.length : Int) < (r.length : Int)), decide_eq_false (by omega : ¬ (r.length : Int) < (t.length : Int))]
        rfl
theorem ok_LawSorted {f : Addr} {fd : FuncData} (F : FD K "_law_sorted" "_law_sorted" sLawSorted f fd) (hm : mg "_law_sorted" = some (.ref f)) (T : Free mg) (cLawOrder : C8.Cal P w K mg base 2 "_law_order" (spLawOrder K) []) : C8.Cal P w K mg base 3 "_law_sorted" (spLawSorted K) [] := by
  refine cal_mk F hm (FunD.bindsN (ps := PLawSorted) F fun _ _ _ _ _ _ us hl => match us, hl with | [_], _ => rfl) scLawSorted (fun vs H Q E h => ?_) (fun cdv A outer s H vs Q E hr h => ?_)
  · obtain ⟨a, vs', rows, rfl, _⟩ := h
    rfl
  · obtain ⟨a, vs', rows, rfl, hS, hP, hl100, hok, q⟩ := h
    refine ⟨_, (pss_cons (ps_set (i := 1) scLawSorted.nd rfl (Or.inl rfl) (pe_lst pa_nil))
    (pss_cons (ps_for PassesOwn.never rfl (pi_list (pv 0)) (pg_name (i := 2) scLawSorted.nd rfl (Or.inl rfl))
    (pss_cons (ps_set (i := 3) scLawSorted.nd rfl (Or.inl rfl) pe_int)
      (pss_cons (ps_for PassesOwn.never rfl (pi_list (pv 1)) (pg_name (i := 4) scLawSorted.nd rfl (Or.inl rfl))
      (pss_one (ps_set (i := 3) scLawSorted.nd rfl (Or.inl rfl) (pe_op op_add (pv 3) (pe_callTy call_int1 (by rfl) T.int (by decide +kernel) (pa_cons (pe_cmpR op_lt (C8.pe_c cLawOrder hr (by decide) (by rfl) (pa_cons (pv 4) (pa_cons (pv 2) pa_nil))) pe_int (nomark _)) pa_nil))))))
      (pss_one (ps_if (pt_cmpR (op_notInD (hu65 hr)) (pv 2) (pv 1) (by rfl))
      (pss_one (ps_expr (pe_bm PySem.F.plainAttrs_list PySem.F.slot_list_insert PySem.F.type_list_insert mt_insert (pv 1) (pa_cons (pv 3) (pa_cons (pv 2) pa_nil)))))
      pss_nil)))))
    (pss_one (ps_ret (pv 1))))), ?_⟩
    refine ⟨by decide, fun d nd => ?_⟩
    have s0 := same_new (o := HO.lst []) nd
    have hvl : vs'.length = rows.length := paired_len hP
    refine ⟨_, rfl, a, rfl, ⟨_, Same.seq s0 hS⟩, for_list (K := K) (a := a) (xs := vs') (fun i σ H' => ∃ y2 y3 y4 ws rs, σ = [some (.ref a), some (.ref d), y2, y3, y4] ∧ Same H H' ∧ H' d = some (.lst ws) ∧ Paired (RowA K H) ws rs ∧ RowsInc rs ∧ rs.length ≤ i ∧ ∀ r ∈ rs, r ∈ rows)
      ⟨none, none, none, [], [], rfl, s0, upd_same, .nil, List.Pairwise.nil, Nat.le_refl _, fun _ h => by cases h⟩ (fun i σ H' _ ⟨_, _, _, _, _, _, e, _⟩ => Same.seq e hS) ?_ ?_⟩
    · rintro i x σ H' hx ⟨y2, y3, y4, ws, rs, rfl, sm, hd, pw, hinc, hlen, hmem⟩
      obtain ⟨row, hrow, ra, rfl, hra⟩ := paired_getL hP hx
      have hrm := List.mem_of_getElem? hrow
      have hi : i < rows.length := (List.getElem?_eq_some_iff.mp hrow).1
      have hwl : ws.length = rs.length := paired_len pw
      refine ⟨_, rfl, d, rfl, ⟨_, SqL.of hd⟩, for_list (K := K) (a := d) (xs := ws) (fun j σ H2 => ∃ y4, H2 = H' ∧ σ = [some (.ref a), some (.ref d), some (.ref ra), some (.int (((rs.take j).countP fun x => rowLt x row : Nat) : Int)), y4])
        ⟨_, rfl, by rw [List.take_zero]; rfl⟩ (fun j σ H2 _ ⟨_, e, _⟩ => by rw [e]; exact SqL.of hd) ?_ ?_⟩
      · rintro j x σ H2 hxj ⟨y4, rfl, rfl⟩
        obtain ⟨r2, hr2, a2, rfl, ha2⟩ := paired_getL pw hxj
        have hr2m := hmem r2 (List.mem_of_getElem? hr2)
        refine ⟨_, rfl, _, rfl, _, rfl, a2, ra, r2, row, rfl, Same.tup sm ha2, Same.tup sm hra, (hok r2 hr2m).1, (hok row hrm).1, fun o ho => ⟨_, _, rfl, rfl, .inr ⟨_, rfl, _, _, rfl, rfl, ⟨some (.ref a2), rfl, ?_⟩⟩⟩⟩
        have et : rs.take (j + 1) = rs.take j ++ [r2] := by rw [List.take_add_one, hr2]; rfl
        rw [et, List.countP_append, ho]
        have e1 : ([r2].countP fun x => rowLt x row) = if rowLt r2 row = true then 1 else 0 := by
          rw [List.countP_cons, List.countP_nil, Nat.zero_add]
        rw [e1]
        have e2 : ((((rs.take j).countP fun x => rowLt x row) + (if rowLt r2 row = true then 1 else 0) : Nat) : Int) = (((rs.take j).countP fun x => rowLt x row : Nat) : Int) + (if rowLt r2 row = true then 1 else 0) := by
          split <;> omega
        rw [e2]
        rfl
      · rintro σ H2 ⟨y4, rfl, rfl⟩
        rw [hwl, List.take_length]
        have hrw : RowsA K H2 d rs := ⟨ws, SqL.of hd, rowsA_same sm pw⟩
        refine ⟨_, rfl, _, rfl, rowD row, rs.map rowD, dp_row ⟨ra, rfl, Same.tup sm hra⟩, dp_rows hrw, shaped_row (hok row hrm).2, shaped_rows (fun r hr => (hok r (hmem r hr)).2), _, rfl, ite2 (fun e => ?_) (fun e => ?_)⟩
        · rw [any_row] at e
          have hn : row ∉ rs := fun z => by
            rw [decide_eq_true z] at e
            cases e
          have hc : (rs.countP fun x => rowLt x row) ≤ rs.length := List.countP_le_length
          refine ⟨_, rfl, .inl ⟨rfl, _, SqL.of hd⟩, _, rfl, _, rfl, d, ws, _, _, rfl, rfl, hd, sz_lt (by omega), by omega, by omega, ?_⟩
          rw [Int.toNat_natCast]
          refine ⟨_, _, _, _, _, rfl, same_mut sm nd, upd_same, paired_app (paired_app (paired_take _ pw) (.cons ⟨ra, rfl, hra⟩ .nil)) (paired_drop _ pw), inc_insert hinc hn, ?_, ?_⟩
          · rw [List.length_append, List.length_append, List.length_take, List.length_drop, List.length_singleton]
            omega
          · intro r hr
            rcases List.mem_append.mp hr with hr | hr
            · rcases List.mem_append.mp hr with hr | hr
              · exact hmem r (List.mem_of_mem_take hr)
              · have : r = row := by simpa using hr
                rw [this]
                exact hrm
            · exact hmem r (List.mem_of_mem_drop hr)
        · exact ⟨_, _, _, ws, rs, rfl, sm, hd, pw, hinc, by omega, hmem⟩
    · rintro σ H' ⟨y2, y3, y4, ws, rs, rfl, sm, hd, pw, hinc, hlen, hmem⟩
      exact ⟨_, rfl, q H' d ws rs sm nd hd (rowsA_same sm pw) hinc (by omega) hmem⟩
end
end K9

set_option Elab.async false
set_option linter.all false
set_option maxRecDepth 100000
set_option maxHeartbeats 4000000
/-! The law's shelf while it is made. -/
namespace K9
open PySem PySem.Spec PyProof.Rows L2
def nmR : List Str := ["r", "s", "t2"]
def nmS : List Str := ["b1", "a", "c_3"]
def colsAll : List Str := ["x", "y", "z", "w"]
def stBody : Stmt → List Stmt
  | .For _ _ b _ _ => b
  | _ => []
def stVal : Stmt → Expr
  | .Assign _ v _ => v
  | .Expr v _ => v
  | .Return (some v) _ => v
  | _ => .Set [] 0 default
def arg0 : Expr → Expr
  | .Call _ (a :: _) _ _ => a
  | e => e
def compSc : Expr → Scope
  | .ListComp _ _ sc _ => sc
  | _ => default
def FactB (K : PySem.W.Frag) (st : Addr) (H : Hp) (v : V) (r : Rel) : Prop := ∃ a vs, v = .ref a ∧ a ≠ st ∧ H a = some (.lst vs) ∧ Paired (RowA K H) vs r.rows
theorem FactB.fact {K : PySem.W.Frag} {st : Addr} {H : Hp} {v : V} {r : Rel} (h : FactB K st H v r) : FactA K H v r := by
  obtain ⟨a, vs, rfl, _, h1, h2⟩ := h
  exact ⟨a, rfl, vs, SqL.of h1, h2⟩
structure ShM (K : PySem.W.Frag) (st : Addr) (G : Addr × List Int) (H : Hp) (dR dF dS : Addr) (kR kF kS : List (Key × V)) (rR rF : List Rel) (ss : List Stc) : Prop where
  g : Gen K H st G
  hR : H dR = some (.dK kR)
  hF : H dF = some (.dK kF)
  hS : H dS = some (.dK kS)
  n1 : dR ≠ dF
  n2 : dR ≠ dS
  n3 : dF ≠ dS
  pR : Paired (Ent Rel.name (RelA K H)) kR rR
  pF : Paired (Ent Rel.name (FactB K st H)) kF rF
  pS : Paired (Ent Stc.name (StcA K H)) kS ss
theorem but_ts {H H' : Hp} {st : Addr} {xs : List V} (h : H st = some (.lst xs)) (b : But st H H') : TSm H H' := fun c o e t => b c o (fun z => by rw [z, h] at e; cases e; exact t) e
theorem FactB.mv {K : PySem.W.Frag} {st : Addr} {H H' : Hp} {v : V} {r : Rel} (t : TSm H H') (m : ∀ a vs, a ≠ st → H a = some (.lst vs) → H' a = some (.lst vs)) (h : FactB K st H v r) : FactB K st H' v r := by
  obtain ⟨a, vs, rfl, n, h1, h2⟩ := h
  exact ⟨a, vs, rfl, n, m a vs n h1, Paired.mapP h2 fun _ _ q => q.ts t⟩
section
variable {K : PySem.W.Frag} {st : Addr} {G : Addr × List Int} {H H' : Hp} {dR dF dS : Addr} {kR kF kS : List (Key × V)} {rR rF : List Rel} {ss : List Stc}
theorem ShM.but (h : ShM K st G H dR dF dS kR kF kS rR rF ss) (b : But st H H') (n : ∃ n : Nat, H' st = some (.lst [.ref G.1, .int (n : Int)])) : ShM K st G H' dR dF dS kR kF kS rR rF ss := by
  obtain ⟨xs, hst⟩ := h.g.st
  have t := but_ts hst b
  have nd : ∀ {d : Addr} {k : List (Key × V)}, H d = some (.dK k) → H' d = some (.dK k) := fun {d k} e => b _ _ (ne_of e hst (fun z => by cases z)) e
  exact ⟨h.g.but b n, nd h.hR, nd h.hF, nd h.hS, h.n1, h.n2, h.n3, Paired.mapP h.pR fun _ _ q => ⟨q.1, q.2.ts t⟩, Paired.mapP h.pF fun _ _ q => ⟨q.1, q.2.mv t fun a vs na e => b _ _ na e⟩, Paired.mapP h.pS fun _ _ q => ⟨q.1, q.2.ts t⟩⟩
theorem ShM.same (h : ShM K st G H dR dF dS kR kF kS rR rF ss) (e : Same H H') : ShM K st G H' dR dF dS kR kF kS rR rF ss := by
  obtain ⟨⟨n, hn⟩, _, _⟩ := h.g
  exact h.but (Same.but e) ⟨n, e _ _ hn⟩
theorem gen_upd {d : Addr} {k : List (Key × V)} {o : HO} (g : Gen K H st G) (hd : H d = some (.dK k)) : Gen K (upd H d o) st G := by
  obtain ⟨⟨n, hn⟩, h2, h3⟩ := g
  exact ⟨⟨n, by rw [upd_ne (ne_of hn hd (fun z => by cases z))]; exact hn⟩, up_list (ns_some hd (show NotSeq (.dK k) from True.intro)) h2, h3⟩
theorem lst_upd {d a : Addr} {k : List (Key × V)} {o : HO} {vs : List V} (hd : H d = some (.dK k)) (e : H a = some (.lst vs)) : (upd H d o) a = some (.lst vs) := by
  rw [upd_ne (ne_of e hd (fun z => by cases z))]
  exact e
theorem ShM.addR (h : ShM K st G H dR dF dS kR kF kS rR rF ss) {r : Rel} {v : V} (hv : RelA K H v r) : ShM K st G (upd H dR (.dK (kR ++ [(Sum.inr r.name, v)]))) dR dF dS (kR ++ [(Sum.inr r.name, v)]) kF kS (rR ++ [r]) rF ss := by
  have t : TSm H (upd H dR (.dK (kR ++ [(Sum.inr r.name, v)]))) := tsm_upd (TSm.refl H) (nt_dK h.hR)
  exact ⟨gen_upd h.g h.hR, upd_same, by rw [upd_ne h.n1.symm]; exact h.hF, by rw [upd_ne h.n2.symm]; exact h.hS, h.n1, h.n2, h.n3, paired_app (Paired.mapP h.pR fun _ _ q => ⟨q.1, q.2.ts t⟩) (.cons ⟨rfl, hv.ts t⟩ .nil),
    Paired.mapP h.pF fun _ _ q => ⟨q.1, q.2.mv t fun a vs na e => lst_upd h.hR e⟩, Paired.mapP h.pS fun _ _ q => ⟨q.1, q.2.ts t⟩⟩
theorem ShM.addF (h : ShM K st G H dR dF dS kR kF kS rR rF ss) {r : Rel} {v : V} (hv : FactB K st H v r) : ShM K st G (upd H dF (.dK (kF ++ [(Sum.inr r.name, v)]))) dR dF dS kR (kF ++ [(Sum.inr r.name, v)]) kS rR (rF ++ [r]) ss := by
  have t : TSm H (upd H dF (.dK (kF ++ [(Sum.inr r.name, v)]))) := tsm_upd (TSm.refl H) (nt_dK h.hF)
  exact ⟨gen_upd h.g h.hF, by rw [upd_ne h.n1]; exact h.hR, upd_same, by rw [upd_ne h.n3.symm]; exact h.hS, h.n1, h.n2, h.n3, Paired.mapP h.pR fun _ _ q => ⟨q.1, q.2.ts t⟩,
    paired_app (Paired.mapP h.pF fun _ _ q => ⟨q.1, q.2.mv t fun a vs na e => lst_upd h.hF e⟩) (.cons ⟨rfl, hv.mv t fun a vs na e => lst_upd h.hF e⟩ .nil), Paired.mapP h.pS fun _ _ q => ⟨q.1, q.2.ts t⟩⟩
theorem ShM.addS (h : ShM K st G H dR dF dS kR kF kS rR rF ss) {s : Stc} {v : V} (hv : StcA K H v s) : ShM K st G (upd H dS (.dK (kS ++ [(Sum.inr s.name, v)]))) dR dF dS kR kF (kS ++ [(Sum.inr s.name, v)]) rR rF (ss ++ [s]) := by
  have t : TSm H (upd H dS (.dK (kS ++ [(Sum.inr s.name, v)]))) := tsm_upd (TSm.refl H) (nt_dK h.hS)
  exact ⟨gen_upd h.g h.hS, by rw [upd_ne h.n2]; exact h.hR, by rw [upd_ne h.n3]; exact h.hF, upd_same, h.n1, h.n2, h.n3, Paired.mapP h.pR fun _ _ q => ⟨q.1, q.2.ts t⟩,
    Paired.mapP h.pF fun _ _ q => ⟨q.1, q.2.mv t fun a vs na e => lst_upd h.hS e⟩, paired_app (Paired.mapP h.pS fun _ _ q => ⟨q.1, q.2.ts t⟩) (.cons ⟨rfl, hv.ts t⟩ .nil)⟩
end
theorem cut_to {xs : List V} {n : Nat} : cutV xs none (some (n : Int)) = xs.take n := by
  unfold cutV
  rw [HT.sIx_nat, HT.sIx_none, List.drop_zero, Nat.sub_zero]
  by_cases h : n ≤ xs.length
  · rw [Nat.min_eq_left h]
  · rw [Nat.min_eq_right (by omega), List.take_length, List.take_of_length_le (by omega)]
/-- a comprehension within a comprehension -/
theorem look_relabel {env : Env} : ∀ {names : List (Str × NameKind)} {x : Str}, (names.lookup x = some .cell ∨ names.lookup x = some .free) →
    (names.map fun (n, k) => if (k == NameKind.free && env.scope.kind == .function && env.kindOf n == some .cell) then (n, NameKind.cell) else (n, k)).lookup x = some .cell ∨ (names.map fun (n, k) => if (k == NameKind.free && env.scope.kind == .function && env.kindOf n == some .cell) then (n, NameKind.cell) else (n, k)).lookup x = some .free
  | [], x, h => by simp at h
  | (n, k) :: r, x, h => by
    have ih := @look_relabel env r x
    rw [List.map_cons]
    cases hx : x == n with
    | true =>
      simp only [List.lookup_cons, hx] at h
      by_cases hc : (k == NameKind.free && env.scope.kind == .function && env.kindOf n == some .cell) = true
      · exact .inl (by simp [List.lookup_cons, hx, hc])
      · have e : (if (k == NameKind.free && env.scope.kind == .function && env.kindOf n == some .cell) = true then (n, NameKind.cell) else (n, k)) = (n, k) := if_neg hc
        show List.lookup x ((if (k == NameKind.free && env.scope.kind == .function && env.kindOf n == some .cell) = true then (n, NameKind.cell) else (n, k)) :: _) = _ ∨ List.lookup x ((if (k == NameKind.free && env.scope.kind == .function && env.kindOf n == some .cell) = true then (n, NameKind.cell) else (n, k)) :: _) = _
        rw [e]
        simp only [List.lookup_cons, hx]
        exact h
    | false =>
      simp only [List.lookup_cons, hx] at h
      have e : ∀ l : List (Str × NameKind), List.lookup x ((if (k == NameKind.free && env.scope.kind == .function && env.kindOf n == some .cell) = true then (n, NameKind.cell) else (n, k)) :: l) = List.lookup x l := fun l => by
        split <;> simp only [List.lookup_cons, hx]
      show List.lookup x ((if (k == NameKind.free && env.scope.kind == .function && env.kindOf n == some .cell) = true then (n, NameKind.cell) else (n, k)) :: _) = _ ∨ List.lookup x ((if (k == NameKind.free && env.scope.kind == .function && env.kindOf n == some .cell) = true then (n, NameKind.cell) else (n, k)) :: _) = _
      rw [e]
      exact ih h
theorem blk_relabel {N : List Str} {S scope : Scope} {own : List (Str × Nat)} {env : Env} (h : BlkOk N S scope own) : BlkOk N (relabel S env) scope own :=
  ⟨h.kind, h.uniq, h.ix, fun y hy e => look_relabel (h.free y hy e), h.own⟩
/-- t[lo:hi] of a known tuple: a known one -/
def rSlC (K : PySem.W.Frag) : V → Option Int → Option Int → Hp → VK → Prop := fun x lo hi H Q => ∃ a xs o0, x = .ref a ∧ H a = some (.frz o0 (.tup xs)) ∧ o0.cls = .type "tuple" ∧ o0.dict = none ∧ ∀ H' p, Same H H' → SqT K H' p (cutV xs lo hi) → PlainT H' p → Q (.ref p) H'
theorem sl_tupC {X : Cx} : SlR X (rSlC X.K) := by
  intro pins s σ H x v vl vu lo hi sl Q I rx hs pl pu h
  obtain ⟨a, xs, o0, rfl, hx, hc, hd, q⟩ := h
  refine sl_tupF pins s σ H _ v vl vu lo hi sl Q I rx hs pl pu ⟨a, xs, rfl, .inl (.inr ⟨o0, hx⟩), fun hw => ?_, fun hw p o hn c d => ?_⟩
  · have e : cutV xs lo hi = xs := by
      unfold cutV
      rw [hw.1, hw.2]
      exact List.take_length
    exact q H a (Same.refl H) (by rw [e]; exact .inl (.inr ⟨o0, hx⟩)) ⟨o0, _, hx, hc, hd⟩
  · exact q _ p (same_new hn) (.inl (.inr ⟨o, upd_same⟩)) ⟨o, _, upd_same, c, d⟩
theorem paired_last {α β : Type} {R : α → β → Prop} {x y : β} (m : ∀ a, R a x → R a y) : ∀ {as : List α} {bs : List β}, Paired R as (bs ++ [x]) → Paired R as (bs ++ [y])
  | _, [], h => by
    cases h with
    | cons r t =>
      cases t
      exact .cons (m _ r) .nil
  | _, b :: bs, h => by
    cases h with
    | cons r t => exact .cons r (paired_last m t)
theorem ShM.reR {K : PySem.W.Frag} {st : Addr} {G : Addr × List Int} {H : Hp} {dR dF dS : Addr} {kR kF kS : List (Key × V)} {rR rF : List Rel} {ss : List Stc} {r0 : Rel} (rows : List Row) (h : ShM K st G H dR dF dS kR kF kS (rR ++ [r0]) rF ss) : ShM K st G H dR dF dS kR kF kS (rR ++ [{ r0 with rows := rows }]) rF ss :=
  { h with pR := paired_last (x := r0) (y := { r0 with rows := rows }) (fun _ q => q) h.pR }
theorem not_take {α : Type} {l : List α} {i : Nat} {x : α} (hn : l.Nodup) (h : l[i]? = some x) : x ∉ l.take i := fun hm => by
  obtain ⟨j, hj⟩ := List.mem_iff_getElem?.mp hm
  rw [List.getElem?_take] at hj
  split at hj
  · rename_i hji
    obtain ⟨h1, e1⟩ := List.getElem?_eq_some_iff.mp hj
    obtain ⟨h2, e2⟩ := List.getElem?_eq_some_iff.mp h
    have := (List.getElem_inj hn).mp (e1.trans e2.symm)
    omega
  · cases hj
/-- the law's shelf, its dicts not locked -/
def LawM (K : PySem.W.Frag) (H : Hp) (L : Addr) (sh : Shelf) : Prop := ∃ dR dF dS kR kF kS, H L = some (.lst [.ref dR, .ref dF, .ref dS]) ∧ H dR = some (.dK kR) ∧ H dF = some (.dK kF) ∧ H dS = some (.dK kS) ∧ dR ≠ dS ∧
  Paired (Ent Rel.name (RelA K H)) kR sh.rels ∧ Paired (Ent Rel.name (FactA K H)) kF sh.rels ∧ Paired (Ent Stc.name (StcA K H)) kS sh.stcs
structure RelGood (r : Rel) : Prop where
  ok : RelOk r
  inc : RelInc r
structure ShelfGood (sh : Shelf) : Prop where
  ok : ShelfOk sh
  inc : ∀ r ∈ sh.rels, RelInc r
  nr : ∃ n, sh.rels.map Rel.name = nmR.take n
  ns : ∃ n, sh.stcs.map Stc.name = nmS.take n
def spLawShelf (K : PySem.W.Frag) : Sp := fun vs H Q _ => ∃ (st : Addr) (G : Addr × List Int), vs = [.ref st, .int 24] ∧ Gen K H st G ∧ ∀ H' L sh, LawM K H' L sh → ShelfGood sh → Q (.ref L) H'
theorem nmR_nodup : nmR.Nodup := by decide +kernel
theorem nmS_nodup : nmS.Nodup := by decide +kernel
theorem cols_nodup : colsAll.Nodup := by decide +kernel
theorem take_name {α : Type} {l : List α} {i : Nat} {x : α} (h : l[i]? = some x) : l.take (i + 1) = l.take i ++ [x] := by
  rw [List.take_add_one, h]
  rfl
end K9

set_option Elab.async false
set_option linter.all false
set_option maxRecDepth 100000
set_option maxHeartbeats 4000000
/-! The law's shelf. -/
namespace K9
open PySem PySem.Spec PyProof.Rows L2
abbrev scShelfJ : Scope := compSc (arg0 (stVal ((stBody ((defBody sLawShelf).getD 3 default)).getD 3 default)))
section
variable {P : Program} {w : World} {K : PySem.W.Frag} {mg : Str → Option Value} {base : Heap}
theorem ok_LawShelf {f : Addr} {fd : FuncData} (F : FD K "_law_shelf" "_law_shelf" sLawShelf f fd) (hm : mg "_law_shelf" = some (.ref f)) (T : Free mg) (cLawNext : C8.Cal P w K mg base 3 "_law_next" (spLawNext K) []) (cLawSmall : C8.Cal P w K mg base 6 "_law_small" (spLawSmall K) []) (cLawSorted : C8.Cal P w K mg base 3 "_law_sorted" (spLawSorted K) []) : C8.Cal P w K mg base 7 "_law_shelf" (spLawShelf K) [] := by
  refine cal_mk F hm (FunD.bindsN (ps := PLawShelf) F fun _ _ _ _ _ _ us hl => match us, hl with | [_, _], _ => rfl) scLawShelf (fun vs H Q E h => ?_) (fun cdv A outer s H vs Q E hr h => ?_)
  · obtain ⟨st, G, rfl, _⟩ := h
    rfl
  · obtain ⟨st, G, rfl, hg, q⟩ := h
    refine ⟨_, (pss_cons (ps_set (i := 2) scLawShelf.nd rfl (Or.inl rfl) pe_dnewK)
    (pss_cons (ps_set (i := 3) scLawShelf.nd rfl (Or.inl rfl) pe_dnewK)
    (pss_cons (ps_set (i := 4) scLawShelf.nd rfl (Or.inl rfl) pe_dnewK)
    (pss_cons (ps_for PassesOwn.never rfl (pi_list (pe_slice sl_list (pe_lst (pa_cons pe_str (pa_cons pe_str (pa_cons pe_str pa_nil)))) po_none (po_some (C8.pe_c cLawNext hr (by decide) (by rfl) (pa_cons (pv 0) (pa_cons pe_int pa_nil)))))) (pg_name (i := 5) scLawShelf.nd rfl (Or.inl rfl))
    (pss_cons (ps_set (i := 6) scLawShelf.nd rfl (Or.inr rfl) (pe_op op_add pe_int (C8.pe_c cLawNext hr (by decide) (by rfl) (pa_cons (pv 0) (pa_cons pe_int pa_nil)))))
      (pss_cons (ps_dput (hu_of hr) (pv 2) (pv 5) (pe_tup (pa_cons (pe_slice sl_tupC (pe_tupF (pa_cons pe_str (pa_cons pe_str (pa_cons pe_str (pa_cons pe_str pa_nil))))) po_none (po_some (pv 6))) (pa_cons (pe_ix ix_list (pe_lst (pa_cons pe_int (pa_cons pe_int (pa_cons (pe_op op_add pe_int (C8.pe_c cLawNext hr (by decide) (by rfl) (pa_cons (pv 0) (pa_cons pe_int pa_nil)))) pa_nil)))) (C8.pe_c cLawNext hr (by decide) (by rfl) (pa_cons (pv 0) (pa_cons pe_int pa_nil))) (fun _ _ => rfl)) pa_nil))) rfl)
      (pss_cons (ps_set (i := 7) scLawShelf.nd rfl (Or.inl rfl) (C8.pe_c cLawNext hr (by decide) (by rfl) (pa_cons (pv 0) (pa_cons (pe_op op_add (pv 1) pe_int) pa_nil))))
      (pss_one (ps_dput (hu_of hr) (pv 3) (pv 5) (C8.pe_c cLawSorted hr (by decide) (by rfl) (pa_cons (pe_lc (own := [("_law_j", 11)]) (g := gName 11) (tt := tYes) rfl scLawShelf.nd (pi_range1 (by rfl) T.range (pa_cons (pv 7) pa_nil)) (blkOk_by (own := [("_law_j", 11)]) (N := NLawShelf) (sc := defScope sLawShelf) (by decide +kernel)) (fun _ _ _ _ _ => pg_name (i := 11) scLawShelf.nd rfl (Or.inl rfl)) (fun _ _ _ _ _ => pts_nil) (fun _ _ _ _ _ => (pe_callTy (callTupleK K) (by rfl) T.tuple (by decide +kernel) (pa_cons (pe_lc (own := [("_law_k", 12)]) (g := gName 12) (tt := tYes) rfl scLawShelf.nd (pi_range1 (by rfl) T.range (pa_cons (pv 6) pa_nil)) (blk_relabel (blkOk_by (own := [("_law_k", 12)]) (N := NLawShelf) (sc := scShelfJ) (by decide +kernel))) (fun _ _ _ _ _ => pg_name (i := 12) scLawShelf.nd rfl (Or.inl rfl)) (fun _ _ _ _ _ => pts_nil) (fun _ _ _ _ _ => (C8.pe_c cLawSmall hr (by decide) (by rfl) (pa_cons (pv 0) pa_nil)))) pa_nil)))) pa_nil)) rfl))))))
    (pss_cons (ps_for PassesOwn.never rfl (pi_list (pe_slice sl_list (pe_lst (pa_cons pe_str (pa_cons pe_str (pa_cons pe_str pa_nil)))) po_none (po_some (pe_op op_mul (C8.pe_c cLawNext hr (by decide) (by rfl) (pa_cons (pv 0) (pa_cons pe_int pa_nil))) (pe_callTy call_int1 (by rfl) T.int (by decide +kernel) (pa_cons (pe_cmpR op_gt (pe_callB call_lenD (by rfl) T.len PySem.boot_len (pa_cons (pv 2) pa_nil)) pe_int (nomark _)) pa_nil)))))) (pg_name (i := 5) scLawShelf.nd rfl (Or.inl rfl))
    (pss_cons (ps_set (i := 8) scLawShelf.nd rfl (Or.inl rfl) (pe_ix ix_list (pe_lst (pa_cons pe_str (pa_cons pe_str (pa_cons pe_str pa_nil)))) (C8.pe_c cLawNext hr (by decide) (by rfl) (pa_cons (pv 0) (pa_cons (pe_callB call_lenD (by rfl) T.len PySem.boot_len (pa_cons (pv 2) pa_nil)) pa_nil))) (fun _ _ => rfl)))
      (pss_cons (ps_set (i := 9) scLawShelf.nd rfl (Or.inl rfl) (pe_lst pa_nil))
      (pss_cons (ps_for PassesOwn.never rfl (pi_tup (pe_ix ix_tup (pe_dget (hu_of hr) (pv 2) (pv 8) (fun _ _ => rfl)) pe_int (fun _ _ => rfl))) (pg_name (i := 10) scLawShelf.nd rfl (Or.inl rfl))
      (pss_one (ps_if (pt_cmpR op_eq (C8.pe_c cLawNext hr (by decide) (by rfl) (pa_cons (pv 0) (pa_cons pe_int pa_nil))) pe_int (nomark _))
        (pss_one (ps_expr (pe_bm PySem.F.plainAttrs_list PySem.F.slot_list_insert PySem.F.type_list_insert mt_insert (pv 9) (pa_cons (C8.pe_c cLawNext hr (by decide) (by rfl) (pa_cons (pv 0) (pa_cons (pe_op op_add (pe_callB call_len_seq (by rfl) T.len PySem.boot_len (pa_cons (pv 9) pa_nil)) pe_int) pa_nil))) (pa_cons (pv 10) pa_nil)))))
        pss_nil)))
      (C8.pss_cut (ps_if (pt_cmpR op_eq (pe_callB call_len_seq (by rfl) T.len PySem.boot_len (pa_cons (pv 9) pa_nil)) pe_int (nomark _))
      (pss_one (ps_set (i := 9) scLawShelf.nd rfl (Or.inl rfl) (pe_lst (pa_cons (pe_ix ix_tup (pe_ix ix_tup (pe_dget (hu_of hr) (pv 2) (pv 8) (fun _ _ => rfl)) pe_int (fun _ _ => rfl)) pe_int (fun _ _ => rfl)) pa_nil))))
      pss_nil)
      (pss_one (ps_dput (hu_of hr) (pv 4) (pv 5) (pe_tup (pa_cons (pv 8) (pa_cons (pe_callTy call_tuple_of (by rfl) T.tuple (by decide +kernel) (pa_cons (pv 9) pa_nil)) (pa_cons (pe_op op_add pe_int (C8.pe_c cLawNext hr (by decide) (by rfl) (pa_cons (pv 0) (pa_cons (pe_ix ix_list (pe_lst (pa_cons pe_int (pa_cons pe_int pa_nil))) (C8.pe_c cLawNext hr (by decide) (by rfl) (pa_cons (pv 0) (pa_cons pe_int pa_nil))) (fun _ _ => rfl)) pa_nil)))) (pa_cons (pe_op op_add pe_int (C8.pe_c cLawNext hr (by decide) (by rfl) (pa_cons (pv 0) (pa_cons pe_int pa_nil)))) pa_nil))))) rfl)))))))
    (pss_one (ps_ret (pe_lst (pa_cons (pv 2) (pa_cons (pv 3) (pa_cons (pv 4) pa_nil))))))))))), ?_⟩
    refine fun dR nR => fun dF nF => fun dS nS => ?_
    have nF1 := none_new nF
    have nS1 := none_new nS
    have hFR : dF ≠ dR := ne_new nF
    have hSF : dS ≠ dF := ne_new nS
    have hSR : dS ≠ dR := ne_new nS1
    have sh0 : ShM K st G (upd (upd (upd H dR (.dK [])) dF (.dK [])) dS (.dK [])) dR dF dS [] [] [] [] [] [] := by
      refine ⟨hg.same (Same.trans (Same.trans (same_new nR) (same_new nF)) (same_new nS)), ?_, ?_, upd_same, hFR.symm, hSR.symm, hSF.symm, .nil, .nil, .nil⟩
      · rw [upd_ne hSR.symm, upd_ne hFR.symm, upd_same]
      · rw [upd_ne hSF.symm, upd_same]
    generalize (upd (upd (upd H dR (.dK [])) dF (.dK [])) dS (.dK [])) = H0 at sh0 ⊢
    -- the names of the relations
    refine ⟨sz_of (n := 3) (by decide), fun p np => ⟨_, rfl, st, 4, G, rfl, by decide, sh0.g.same (same_new np), fun H1 n b1 g1 ln => ⟨_, rfl, p, _, rfl, SqL.of (b1 _ _ ?_ upd_same), fun P nP => ⟨P, rfl, ⟨_, SqL.of upd_same⟩, ?_⟩⟩⟩⟩
    · intro z
      obtain ⟨xs, hst⟩ := sh0.g.st
      rw [z, hst] at np
      cases np
    have sh1 := ((sh0.same (same_new np)).but b1 g1.1).same (same_new (o := .lst (cutV (nmR.map V.str) none (some (n : Int)))) nP)
    have hPst0 : P ≠ st := fun z => by
      obtain ⟨xs, hst⟩ := g1.st
      rw [z, hst] at nP
      cases nP
    have hP0 : (upd H1 P (.lst (cutV (nmR.map V.str) none (some (n : Int))))) P = some (.lst ((nmR.take n).map V.str)) := by rw [upd_same, cut_to, List.map_take]
    refine for_list (K := K) (a := P) (xs := (nmR.take n).map V.str) (fun i σ H' => ∃ kR kF rels y5 y6 y7 y8 y9 y10 y11 y12, σ = [some (.ref st), some (.int 24), some (.ref dR), some (.ref dF), some (.ref dS), y5, y6, y7, y8, y9, y10, y11, y12] ∧ ShM K st G H' dR dF dS kR kF [] rels rels [] ∧ H' P = some (.lst ((nmR.take n).map V.str)) ∧ rels.map Rel.name = (nmR.take n).take i ∧ ∀ r ∈ rels, RelGood r ∧ 0 < r.cols.length)
      ⟨[], [], [], none, none, none, none, none, none, none, none, rfl, sh1, hP0, by rw [List.take_zero]; rfl, fun _ h => (by cases h)⟩ (fun i σ H' _ ⟨_, _, _, _, _, _, _, _, _, _, _, _, _, e, _⟩ => SqL.of e) ?_ ?_
    · rintro i x σ H' hx ⟨kR, kF, rels, y5, y6, y7, y8, y9, y10, y11, y12, rfl, sh, hP, hnm, hgood⟩
      obtain ⟨nm, hnmi, rfl⟩ : ∃ nm, (nmR.take n)[i]? = some nm ∧ x = .str nm := by
        rw [List.getElem?_map] at hx
        cases e : (nmR.take n)[i]? with
        | none => rw [e] at hx; cases hx
        | some c => rw [e] at hx; exact ⟨c, rfl, (Option.some.inj hx).symm⟩
      have hnd : (nmR.take n).Nodup := nmR_nodup.sublist (List.take_sublist _ _)
      have hnew : nm ∉ rels.map Rel.name := by
        rw [hnm]
        exact not_take hnd hnmi
      have hi3 : i < 3 := by
        have h1 := (List.getElem?_eq_some_iff.mp hnmi).1
        rw [List.length_take] at h1
        have : nmR.length = 3 := rfl
        omega
      have hrl : rels.length ≤ 3 := by
        have h1 := congrArg List.length hnm
        rw [List.length_map, List.length_take] at h1
        omega
      have lkR : kR.length = rels.length := paired_len sh.pR
      have lkF : kF.length = rels.length := paired_len sh.pF
      -- the width
      refine ⟨_, rfl, st, 4, G, rfl, by decide, sh.g, fun H1 wd b1 g1 lw => ⟨_, _, rfl, rfl, ?_⟩⟩
      have sh1 := sh.but b1 g1.1
      have hP1 := b1 _ _ hPst0 hP
      -- the relation's tuple
      refine ⟨sz_of (n := 4) (by decide), fun p1 o1 np1 c1 d1 => ⟨_, rfl, _, rfl, p1, _, o1, rfl, upd_same, c1, d1, fun H2 ct s2 hct hpl => ?_⟩⟩
      have s12 : Same H1 H2 := Same.trans (same_new np1) s2
      have sh2 := sh1.same s12
      have hP2 := s12 _ _ hP1
      have ecols : cutV [V.str "x", V.str "y", V.str "z", V.str "w"] none (some ((1 : Int) + (wd : Int))) = (colsAll.take (1 + wd)).map V.str := by
        have e : ((1 : Int) + (wd : Int)) = ((1 + wd : Nat) : Int) := by omega
        rw [e, cut_to, List.map_take]
        rfl
      have hct : SqT K H2 ct ((colsAll.take (1 + wd)).map V.str) := by
        rw [← ecols]
        exact hct
      refine ⟨_, rfl, st, 40, G, rfl, by decide, sh2.g, fun H3 m b3 g3 lm => ⟨_, _, rfl, rfl, sz_of (n := 3) (by decide), fun pl npl => ?_⟩⟩
      have sh3 := sh2.but b3 g3.1
      have hplst : pl ≠ st := fun z => by
        obtain ⟨xs, hst⟩ := g3.st
        rw [z, hst] at npl
        cases npl
      refine ⟨_, rfl, st, 3, G, rfl, by decide, g3.same (same_new npl), fun H4 r4 b4 g4 l4 => ?_⟩
      have sh4 := (sh3.same (same_new npl)).but b4 g4.1
      have hP4 := b4 _ _ hPst0 (same_new npl _ _ (b3 _ _ hPst0 hP2))
      obtain ⟨room, hroom, hroomi⟩ : ∃ room : Nat, room ≤ 40 ∧ [V.int 1, V.int 2, V.int ((1 : Int) + (m : Int))][r4]? = some (.int (room : Int)) := by
        have : r4 = 0 ∨ r4 = 1 ∨ r4 = 2 := by omega
        rcases this with rfl | rfl | rfl
        · exact ⟨1, by omega, rfl⟩
        · exact ⟨2, by omega, rfl⟩
        · exact ⟨1 + m, by omega, rfl⟩
      refine ⟨pl, _, _, _, rfl, rfl, SqL.of (b4 _ _ hplst upd_same), atI_nat hroomi, sz2, fun t nt => ?_⟩
      have sh5 := sh4.same (same_new (o := .tup [.ref ct, .int (room : Int)]) nt)
      have hP5 := same_new (o := .tup [.ref ct, .int (room : Int)]) nt _ _ hP4
      have b25 : But st H2 (upd H4 t (.tup [.ref ct, .int (room : Int)])) := b3.trans ((Same.but (same_new npl)).trans (b4.trans (Same.but (same_new nt))))
      obtain ⟨xs2, hst2⟩ := sh2.g.st
      have ts25 := but_ts hst2 b25
      have hrel : RelA K (upd H4 t (.tup [.ref ct, .int (room : Int)])) (.ref t) ⟨nm, colsAll.take (1 + wd), room, []⟩ := by
        obtain ⟨o, u, h3, h4⟩ := hpl
        exact ⟨t, ct, rfl, SqT.of upd_same, ts25.tup hct, o, u, ts25 _ _ h3 True.intro, h4⟩
      have nkR : valV kR (Sum.inr nm) = none := ent_none sh.pR hnew
      have nkF : valV kF (Sum.inr nm) = none := ent_none sh.pF hnew
      refine ⟨_, rfl, _, rfl, dR, _, rfl, .inl ⟨kR, Sum.inr nm, sh5.hR, rfl, sz_lt (by omega), rfl⟩, ?_⟩
      rw [putK_new _ nkR]
      have sh6 := sh5.addR hrel
      have hP6 := lst_upd (o := .dK (kR ++ [(Sum.inr nm, .ref t)])) sh5.hR hP5
      -- the rows
      refine ⟨_, rfl, _, rfl, _, _, rfl, rfl, st, 25, G, rfl, by decide, sh6.g, fun H6 cnt b6 g6 lc => ?_⟩
      have sh7 := sh6.but b6 g6.1
      have hP7 := b6 _ _ hPst0 hP6
      refine ⟨_, rfl, _, rfl, by omega, by omega, fun D nD => ?_⟩
      obtain ⟨n6, hst6⟩ := g6.1
      have hDst : D ≠ st := fun z => by rw [z, hst6] at nD; cases nD
      refine lc_range (lo := 0) (n := ((cnt : Nat) : Int).toNat) (fun j H' => But st H6 (del H' D) ∧ (∃ n : Nat, H' st = some (.lst [.ref G.1, .int (n : Int)])) ∧ ∃ acc rows, H' D = some (.lst acc) ∧ Paired (RowA K (del H' D)) acc rows ∧ rows.length = j ∧ ∀ r ∈ rows, r.length = 1 + wd ∧ ∀ c ∈ r, CellOk c) ⟨?_, ⟨n6, by rw [upd_ne hDst.symm]; exact hst6⟩, [], [], upd_same, .nil, rfl, fun _ h => (by cases h)⟩ ?_ ?_
      · intro b o nb e
        rw [del_upd, del_ne (ne_of_none e nD)]
        exact e
      · rintro j H' hj ⟨b7, n7, acc, rows, hD, pa, hlen, hok⟩
        have b7' : But st H6 H' := b7.trans (Same.but (del_le _ _))
        have g7 : Gen K H' st G := g6.but b7' n7
        obtain ⟨n7, hst7⟩ := n7
        refine ⟨rfl, ?_⟩
        refine ⟨_, rfl, _, rfl, by omega, by omega, fun D2 nD2 => ?_⟩
        have hD2st : D2 ≠ st := fun z => by rw [z, hst7] at nD2; cases nD2
        have hD2D : D ≠ D2 := ne_of_none hD nD2
        refine lc_range (lo := 0) (n := ((1 : Int) + (wd : Int)).toNat) (fun m H2 => But st H' (del H2 D2) ∧ (∃ n : Nat, H2 st = some (.lst [.ref G.1, .int (n : Int)])) ∧ ∃ cells : Row, H2 D2 = some (.lst (rowV cells)) ∧ cells.length = m ∧ ∀ c ∈ cells, CellOk c) ⟨?_, ⟨n7, by rw [upd_ne hD2st.symm]; exact hst7⟩, [], upd_same, rfl, fun _ h => (by cases h)⟩ ?_ ?_
        · intro b o nb e
          rw [del_upd, del_ne (ne_of_none e nD2)]
          exact e
        · rintro m2 H2 hm2 ⟨b8, n8, cells, hD2, hl2, hok2⟩
          have g8 : Gen K H2 st G := g7.but (b8.trans (Same.but (del_le _ _))) n8
          refine ⟨rfl, ?_⟩
          refine ⟨_, rfl, st, G, rfl, g8, fun H3 c b3 g3 hc => ⟨_, b3 _ _ hD2st hD2, ?_, ?_, ?_, cells ++ [c], ?_, ?_, ?_⟩⟩
          · unfold rowV
            rw [List.length_map]
            exact sz_lt (by omega)
          · rw [del_upd]
            exact b8.trans b3.delB
          · obtain ⟨n3, hst3⟩ := g3.1
            exact ⟨n3, by rw [upd_ne hD2st.symm]; exact hst3⟩
          · rw [upd_same]
            unfold rowV
            rw [List.map_append]
            rfl
          · rw [List.length_append, hl2]
            rfl
          · intro c2 hc2
            rcases List.mem_append.mp hc2 with h | h
            · exact hok2 c2 h
            · have : c2 = c := by simpa using h
              rw [this]
              exact hc
        · rintro H2 ⟨b8, n8, cells, hD2, hl2, hok2⟩
          refine ⟨D2, _, rfl, .inl ⟨SqL.of hD2, fun pt npt => ?_⟩⟩
          have b9 : But st H' (upd H2 pt (.tup (rowV cells))) := b8.trans ((Same.but (del_le _ _)).trans (Same.but (same_new npt)))
          have hDn := b9 _ _ hDst hD
          have hptD : pt ≠ D := fun z => by
            have h1 : H2 D = some (.lst acc) := del_le _ _ _ _ (b8 _ _ hDst hD)
            rw [z, h1] at npt
            cases npt
          obtain ⟨n8, hst8⟩ := n8
          have hlc : rows.length ≤ 24 := by omega
          refine ⟨acc, hDn, sz_lt (by rw [paired_len pa]; omega), ?_, ⟨n8, ?_⟩, acc ++ [.ref pt], rows ++ [cells], upd_same, ?_, ?_, ?_⟩
          · rw [del_upd]
            exact b7.trans b9.delB
          · rw [upd_ne hDst.symm]
            exact same_new npt _ _ hst8
          · rw [del_upd]
            have hst7d : (del H' D) st = some (.lst [.ref G.1, .int (n7 : Int)]) := by rw [del_ne hDst.symm]; exact hst7
            refine paired_app (Paired.mapP pa fun _ _ q => RowA.but b9.delB hst7d q) (.cons ⟨pt, rfl, SqT.of ?_⟩ .nil)
            rw [del_ne hptD, upd_same]
          · rw [List.length_append, hlen]
            rfl
          · intro r hr2
            rcases List.mem_append.mp hr2 with h | h
            · exact hok r h
            · have : r = cells := by simpa using h
              rw [this]
              exact ⟨by rw [hl2]; omega, hok2⟩
      · rintro H' ⟨b7, n7, acc, rows, hD, pa, hlen, hok⟩
        rw [Int.toNat_natCast] at hlen
        have b7' : But st H6 H' := b7.trans (Same.but (del_le _ _))
        have sh8 := sh7.but b7' n7
        have hP8 := b7' _ _ hPst0 hP7
        refine ⟨D, acc, rows, rfl, SqL.of hD, Paired.mapP pa fun _ _ q => q.same (del_le _ _), by omega, fun r h => ⟨by rw [(hok r h).1]; omega, (hok r h).2⟩, fun H9 pF ws rs s9 npF hpF pw hinc hl9 hmem => ?_⟩
        have sh9 := sh8.same s9
        have hP9 := s9 _ _ hP8
        have hpFst : pF ≠ st := fun z => by
          obtain ⟨xs, hst⟩ := sh8.g.st
          rw [z, hst] at npF
          cases npF
        have hfact : FactB K st H9 (.ref pF) ⟨nm, colsAll.take (1 + wd), room, rs⟩ := ⟨pF, ws, rfl, hpFst, hpF, pw⟩
        refine ⟨_, rfl, _, rfl, dF, _, rfl, .inl ⟨kF, Sum.inr nm, sh9.hF, rfl, sz_lt (by omega), rfl⟩, ?_⟩
        rw [putK_new _ nkF]
        have sh10 := (sh9.addF hfact).reR rs
        have lcols : (colsAll.take (1 + wd)).length = 1 + wd := by
          rw [List.length_take]
          have : colsAll.length = 4 := rfl
          omega
        refine ⟨_, _, _, _, _, _, _, _, _, _, _, rfl, sh10, lst_upd sh9.hF hP9, ?_, ?_⟩
        · rw [List.map_append, hnm, take_name hnmi]
          rfl
        · intro r hr2
          rcases List.mem_append.mp hr2 with h | h
          · exact hgood r h
          · have e : r = ⟨nm, colsAll.take (1 + wd), room, rs⟩ := by simpa using h
            rw [e]
            have hrow : ∀ row ∈ rs, row.length = 1 + wd ∧ ∀ c ∈ row, CellOk c := fun row h => hok row (hmem row h)
            refine ⟨⟨⟨?_, cols_nodup.sublist (List.take_sublist _ _), hroom, ?_, fun row h => ⟨?_, ?_, (hrow row h).2⟩⟩, ⟨hinc, fun row h => ⟨?_, ?_, (hrow row h).2⟩, ?_⟩⟩, ?_⟩
            · show (colsAll.take (1 + wd)).length ≤ 4
              omega
            · show rs.length ≤ 24
              omega
            · show row.length = (colsAll.take (1 + wd)).length
              rw [lcols]
              exact (hrow row h).1
            · rw [(hrow row h).1]
              omega
            · intro z
              have := (hrow row h).1
              rw [z] at this
              have : 0 = 1 + wd := this
              omega
            · rw [(hrow row h).1]
              omega
            · show rs.length ≤ 1000
              omega
            · show 0 < (colsAll.take (1 + wd)).length
              omega
    · rintro σ H' ⟨kR, kF, rels, y5, y6, y7, y8, y9, y10, y11, y12, rfl, sh, hP, hnm, hgood⟩
      have hnd : (nmR.take n).Nodup := nmR_nodup.sublist (List.take_sublist _ _)
      have lkR : kR.length = rels.length := paired_len sh.pR
      have hnm : rels.map Rel.name = nmR.take n := by
        rw [hnm]
        refine List.take_of_length_le ?_
        rw [List.length_map]
        exact Nat.le_refl _
      have hrl : rels.length ≤ 3 := by
        have h1 := congrArg List.length hnm
        rw [List.length_map, List.length_take] at h1
        have : nmR.length = 3 := rfl
        omega
      have hnat : ∀ (r : Nat) (h : r < rels.length), nmR[r]? = some (rels[r]).name := fun r h => by
        have e : (rels.map Rel.name)[r]? = some (rels[r]).name := by rw [List.getElem?_map, List.getElem?_eq_getElem h]; rfl
        rw [hnm, List.getElem?_take] at e
        split at e
        · exact e
        · cases e
      have hnrd : (rels.map Rel.name).Nodup := by rw [hnm]; exact hnd
      -- the names of the structures
      refine ⟨sz_of (n := 3) (by decide), fun p2 np2 => ?_⟩
      have hp2st : p2 ≠ st := fun z => by
        obtain ⟨xs, hst⟩ := sh.g.st
        rw [z, hst] at np2
        cases np2
      have shA := sh.same (same_new (o := .lst [V.str "b1", V.str "a", V.str "c_3"]) np2)
      refine ⟨_, rfl, st, 4, G, rfl, by decide, shA.g, fun H1 n2 b1 g1 ln2 => ?_⟩
      have shB := shA.but b1 g1.1
      refine ⟨_, rfl, dR, kR, rfl, shB.hR, _, _, rfl, rfl, .inr ⟨_, rfl, ?_⟩⟩
      obtain ⟨M, hM, hM0⟩ : ∃ M : Nat, (n2 : Int) * (if decide ((0 : Int) < ((kR.length : Nat) : Int)) = true then 1 else 0) = (M : Int) ∧ (0 < M → 0 < rels.length) := by
        by_cases h : 0 < rels.length
        · exact ⟨n2, by rw [if_pos (decide_eq_true (by omega)), Int.mul_one], fun _ => h⟩
        · exact ⟨0, by rw [if_neg (fun z => by have := of_decide_eq_true z; omega), Int.mul_zero]; rfl, fun z => absurd z (Nat.lt_irrefl _)⟩
      refine ⟨_, _, rfl, rfl, .inl ⟨by omega, by omega⟩, _, rfl, p2, _, rfl, SqL.of (b1 _ _ hp2st upd_same), fun P2 nP2 => ⟨P2, rfl, ⟨_, SqL.of upd_same⟩, ?_⟩⟩
      have hP2st : P2 ≠ st := fun z => by
        obtain ⟨xs, hst⟩ := g1.st
        rw [z, hst] at nP2
        cases nP2
      rw [hM]
      have shC := shB.same (same_new (o := .lst (cutV (nmS.map V.str) none (some (M : Int)))) nP2)
      have hP20 : (upd H1 P2 (.lst (cutV (nmS.map V.str) none (some (M : Int))))) P2 = some (.lst ((nmS.take M).map V.str)) := by rw [upd_same, cut_to, List.map_take]
      refine for_list (K := K) (a := P2) (xs := (nmS.take M).map V.str) (fun i σ H' => ∃ kS ss y5 y6 y7 y8 y9 y10 y11 y12, σ = [some (.ref st), some (.int 24), some (.ref dR), some (.ref dF), some (.ref dS), y5, y6, y7, y8, y9, y10, y11, y12] ∧ ShM K st G H' dR dF dS kR kF kS rels rels ss ∧ H' P2 = some (.lst ((nmS.take M).map V.str)) ∧ ss.map Stc.name = (nmS.take M).take i ∧ ∀ s ∈ ss, StcOk ⟨rels, []⟩ s)
        ⟨[], [], _, _, _, _, _, _, _, _, rfl, shC, hP20, by rw [List.take_zero]; rfl, fun _ h => (by cases h)⟩ (fun i σ H' _ ⟨_, _, _, _, _, _, _, _, _, _, _, _, e, _⟩ => SqL.of e) ?_ ?_
      · rintro i x σ H' hx ⟨kS, ss, y5, y6, y7, y8, y9, y10, y11, y12, rfl, sh, hP, hnS, hgoodS⟩
        obtain ⟨nm, hnmi, rfl⟩ : ∃ nm, (nmS.take M)[i]? = some nm ∧ x = .str nm := by
          rw [List.getElem?_map] at hx
          cases e : (nmS.take M)[i]? with
          | none => rw [e] at hx; cases hx
          | some c => rw [e] at hx; exact ⟨c, rfl, (Option.some.inj hx).symm⟩
        have hndS : (nmS.take M).Nodup := nmS_nodup.sublist (List.take_sublist _ _)
        have hnew : nm ∉ ss.map Stc.name := by
          rw [hnS]
          exact not_take hndS hnmi
        have hi3 : i < 3 ∧ i < M := by
          have h1 := (List.getElem?_eq_some_iff.mp hnmi).1
          rw [List.length_take] at h1
          have : nmS.length = 3 := rfl
          omega
        have hr0 : 0 < rels.length := hM0 (by omega)
        have hsl : ss.length ≤ 3 := by
          have h1 := congrArg List.length hnS
          rw [List.length_map, List.length_take] at h1
          omega
        have lkS : kS.length = ss.length := paired_len sh.pS
        have nkS : valV kS (Sum.inr nm) = none := ent_none sh.pS hnew
        -- its relation
        refine ⟨sz_of (n := 3) (by decide), fun pl npl => ?_⟩
        have hplst : pl ≠ st := fun z => by
          obtain ⟨xs, hst⟩ := sh.g.st
          rw [z, hst] at npl
          cases npl
        have shA := sh.same (same_new (o := .lst [V.str "r", V.str "s", V.str "t2"]) npl)
        refine ⟨_, rfl, _, rfl, dR, kR, rfl, shA.hR, st, kR.length, G, rfl, by omega, shA.g, fun H1 r b1 g1 lr => ?_⟩
        have hr : r < rels.length := by omega
        have shB := shA.but b1 g1.1
        have hPB := b1 _ _ hP2st (same_new (o := .lst [V.str "r", V.str "s", V.str "t2"]) npl _ _ hP)
        generalize er0 : rels[r] = r0
        have hr0m : r0 ∈ rels := by rw [← er0]; exact List.getElem_mem hr
        have hnmr : nmR[r]? = some r0.name := by rw [← er0]; exact hnat r hr
        obtain ⟨hg0, hc0⟩ := hgood r0 hr0m
        have hixr : [V.str "r", V.str "s", V.str "t2"][r]? = some (.str r0.name) := by
          have e : (nmR.map V.str)[r]? = some (.str r0.name) := by rw [List.getElem?_map, hnmr]; rfl
          exact e
        refine ⟨pl, _, _, _, rfl, rfl, SqL.of (b1 _ _ hplst upd_same), atI_nat hixr, ?_⟩
        refine ⟨by decide, fun dC nC => ?_⟩
        obtain ⟨n1, hst1⟩ := g1.1
        have hCst : dC ≠ st := fun z => by rw [z, hst1] at nC; cases nC
        obtain ⟨kv, _, hkv, t0, ct0, ekv, ht0, hct0, _⟩ := ent_find shB.pR hnrd hr0m
        have sC := same_new (o := .lst []) nC
        -- a state from here on
        have mid : ∀ {H2 : Hp}, But st H1 H2 → (∃ n : Nat, H2 st = some (.lst [.ref G.1, .int (n : Int)])) → DGet H2 dR (.str r0.name) (some (.ref t0)) ∧ SqT K H2 t0 [.ref ct0, .int (r0.room : Int)] ∧ SqT K H2 ct0 (r0.cols.map V.str) := fun {H2} b n => by
          have s2 := shB.but b n
          have ts := but_ts hst1 b
          refine ⟨.inl ⟨kR, Sum.inr r0.name, .of s2.hR, rfl, ?_⟩, ts.tup ht0, ts.tup hct0⟩
          rw [hkv, ekv]
        have m1 := mid (Same.but sC) ⟨n1, sC _ _ hst1⟩
        refine ⟨_, rfl, _, rfl, dR, _, rfl, m1.1, t0, _, 0, _, rfl, rfl, m1.2.1, atI_nat (j := 0) rfl, ct0, rfl, ⟨_, m1.2.2⟩, ?_⟩
        refine for_tup (K := K) (a := ct0) (xs := r0.cols.map V.str) (fun j σ H2 => ∃ y10, ∃ cs : List Str, σ = [some (.ref st), some (.int 24), some (.ref dR), some (.ref dF), some (.ref dS), some (.str nm), y6, y7, some (.str r0.name), some (.ref dC), y10, y11, y12] ∧ But st H1 (del H2 dC) ∧ (∃ n : Nat, H2 st = some (.lst [.ref G.1, .int (n : Int)])) ∧ H2 dC = some (.lst (cs.map V.str)) ∧ cs.length ≤ j ∧ ∀ c ∈ cs, c ∈ r0.cols)
          ⟨_, [], rfl, ?_, ⟨n1, sC _ _ hst1⟩, upd_same, Nat.le_refl _, fun _ h => (by cases h)⟩ (fun j σ H2 _ ⟨_, _, _, b, n, _⟩ => (mid (b.trans (Same.but (del_le _ _))) n).2.2) ?_ ?_
        · intro b o nb e
          rw [del_upd, del_ne (ne_of_none e nC)]
          exact e
        · rintro j x σ H2 hxj ⟨y10, cs, rfl, b2, n2, hdC, hcl, hcm⟩
          obtain ⟨c, hcj, rfl⟩ : ∃ c, r0.cols[j]? = some c ∧ x = .str c := by
            rw [List.getElem?_map] at hxj
            cases e : r0.cols[j]? with
            | none => rw [e] at hxj; cases hxj
            | some c => rw [e] at hxj; exact ⟨c, rfl, (Option.some.inj hxj).symm⟩
          have hj4 : j < 4 := by
            have h1 := (List.getElem?_eq_some_iff.mp hcj).1
            have := hg0.ok.c4
            omega
          have g2 : Gen K H2 st G := g1.but (b2.trans (Same.but (del_le _ _))) n2
          refine ⟨_, rfl, st, 2, G, rfl, by decide, g2, fun H3 r3 b3 g3 l3 => ⟨rfl, _, rfl, ite2 (fun _ => ?_) (fun _ => ?_)⟩⟩
          · have hdC3 := b3 _ _ hCst hdC
            refine ⟨_, rfl, .inl ⟨rfl, _, SqL.of hdC3⟩, _, rfl, _, rfl, dC, _, rfl, .inl (SqL.of hdC3), _, _, rfl, rfl, st, (cs.map V.str).length + 1, G, rfl, Nat.succ_pos _, g3, fun H4 r4 b4 g4 l4 => ?_⟩
            have hdC4 := b4 _ _ hCst hdC3
            rw [List.length_map] at l4
            obtain ⟨n4, hst4⟩ := g4.1
            refine ⟨_, rfl, dC, _, _, _, rfl, rfl, hdC4, sz_lt (by rw [List.length_map]; omega), by omega, by omega, ?_⟩
            rw [Int.toNat_natCast]
            refine ⟨_, cs.take r4 ++ [c] ++ cs.drop r4, rfl, ?_, ⟨n4, by rw [upd_ne hCst.symm]; exact hst4⟩, ?_, ?_, ?_⟩
            · rw [del_upd]
              exact b2.trans (b3.trans b4).delB
            · rw [upd_same, List.map_append, List.map_append, List.map_take, List.map_drop]
              rfl
            · rw [List.length_append, List.length_append, List.length_take, List.length_drop, List.length_singleton]
              omega
            · intro c2 h2
              rcases List.mem_append.mp h2 with h2 | h2
              · rcases List.mem_append.mp h2 with h2 | h2
                · exact hcm c2 (List.mem_of_mem_take h2)
                · have : c2 = c := by simpa using h2
                  rw [this]
                  exact List.mem_of_getElem? hcj
              · exact hcm c2 (List.mem_of_mem_drop h2)
          · exact ⟨_, cs, rfl, b2.trans b3.delB, g3.1, b3 _ _ hCst hdC, by omega, hcm⟩
        · rintro σ H2 ⟨y10, cs, rfl, b2, n2, hdC, hcl, hcm⟩
          rw [List.length_map] at hcl
          have hcl4 : cs.length ≤ 4 := Nat.le_trans hcl hg0.ok.c4
          have b2' : But st H1 H2 := b2.trans (Same.but (del_le _ _))
          refine ⟨fun σ H3 => ∃ y10 dC, ∃ cs : List Str, σ = [some (.ref st), some (.int 24), some (.ref dR), some (.ref dF), some (.ref dS), some (.str nm), y6, y7, some (.str r0.name), some (.ref dC), y10, y11, y12] ∧ But st H1 H3 ∧ (∃ n : Nat, H3 st = some (.lst [.ref G.1, .int (n : Int)])) ∧ H3 dC = some (.lst (cs.map V.str)) ∧ cs.length ≤ 4 ∧ ∀ c ∈ cs, c ∈ r0.cols, ?_, ?_⟩
          · refine ⟨_, rfl, dC, _, rfl, .inl (SqL.of hdC), rfl, _, rfl, ite2 (fun _ => ?_) (fun _ => ?_)⟩
            · have m2 := mid b2' n2
              have hc00 : (r0.cols.map V.str)[0]? = some (.str r0.cols[0]) := by rw [List.getElem?_map, List.getElem?_eq_getElem hc0]; rfl
              refine ⟨_, rfl, _, rfl, dR, _, rfl, m2.1, t0, _, 0, _, rfl, rfl, m2.2.1, atI_nat (j := 0) rfl, ct0, _, 0, _, rfl, rfl, m2.2.2, atI_nat (j := 0) hc00, sz1, fun dC2 nC2 => ?_⟩
              obtain ⟨n2, hst2⟩ := n2
              have s2 := same_new (o := .lst [V.str r0.cols[0]]) nC2
              refine ⟨_, dC2, [r0.cols[0]], rfl, b2'.trans (Same.but s2), ⟨n2, s2 _ _ hst2⟩, upd_same, (show 1 ≤ 4 by decide), fun c h => ?_⟩
              have : c = r0.cols[0] := by simpa using h
              rw [this]
              exact List.getElem_mem hc0
            · exact ⟨_, dC, cs, rfl, b2', n2, hdC, hcl4, hcm⟩
          · rintro σ H3 ⟨y10, dC, cs, rfl, b3, n3, hdC, hcl4, hcm⟩
            have sh3 := shB.but b3 n3
            have hP3 := b3 _ _ hP2st hPB
            refine ⟨_, rfl, _, rfl, dC, _, rfl, .inl ⟨SqL.of hdC, fun qt nqt => ?_⟩⟩
            have sq := same_new (o := .tup (cs.map V.str)) nqt
            have sh4 := sh3.same sq
            refine ⟨_, rfl, sz2, fun pp npp => ?_⟩
            have sp := same_new (o := .lst [V.int 3, V.int 16]) npp
            have sh5 := sh4.same sp
            have hppst : pp ≠ st := fun z => by
              obtain ⟨xs, hst⟩ := sh4.g.st
              rw [z, hst] at npp
              cases npp
            refine ⟨_, rfl, st, 2, G, rfl, by decide, sh5.g, fun H5 r5 b5 g5 l5 => ?_⟩
            obtain ⟨lim, hl16, hl0, hlim⟩ : ∃ lim : Nat, lim ≤ 16 ∧ 0 < lim ∧ [V.int 3, V.int 16][r5]? = some (.int (lim : Int)) := by
              have : r5 = 0 ∨ r5 = 1 := by omega
              rcases this with rfl | rfl
              · exact ⟨3, by omega, by omega, rfl⟩
              · exact ⟨16, by omega, by omega, rfl⟩
            refine ⟨pp, _, _, _, rfl, rfl, SqL.of (b5 _ _ hppst upd_same), atI_nat hlim, st, lim, G, rfl, hl0, g5, fun H6 r6 b6 g6 l6 => ⟨_, _, rfl, rfl, ?_⟩⟩
            refine ⟨_, rfl, st, 8, G, rfl, by decide, g6, fun H7 r7 b7 g7 l7 => ⟨_, _, rfl, rfl, sz_of (n := 4) (by decide), fun t2 nt2 => ?_⟩⟩
            have st2 := same_new (o := .tup [V.str r0.name, .ref qt, .int ((1 : Int) + (r6 : Int)), .int ((1 : Int) + (r7 : Int))]) nt2
            have bq : But st (upd H3 qt (.tup (cs.map V.str))) (upd H7 t2 (.tup [V.str r0.name, .ref qt, .int ((1 : Int) + (r6 : Int)), .int ((1 : Int) + (r7 : Int))])) := (Same.but sp).trans (b5.trans (b6.trans (b7.trans (Same.but st2))))
            obtain ⟨n7, hst7⟩ := g7.1
            have sh8 := sh4.but bq ⟨n7, st2 _ _ hst7⟩
            obtain ⟨xs4, hst4⟩ := sh4.g.st
            have ts := but_ts hst4 bq
            have hP8 := bq _ _ hP2st (sq _ _ hP3)
            have hstc : StcA K (upd H7 t2 (.tup [V.str r0.name, .ref qt, .int ((1 : Int) + (r6 : Int)), .int ((1 : Int) + (r7 : Int))])) (.ref t2) ⟨nm, r0.name, cs, 1 + r6, 1 + r7⟩ := by
              refine ⟨t2, qt, rfl, SqT.of ?_, ts.tup (SqT.of upd_same)⟩
              have e6 : ((1 : Int) + (r6 : Int)) = ((1 + r6 : Nat) : Int) := by omega
              have e7 : ((1 : Int) + (r7 : Int)) = ((1 + r7 : Nat) : Int) := by omega
              rw [upd_same, e6, e7]
            refine ⟨_, rfl, _, rfl, dS, _, rfl, .inl ⟨kS, Sum.inr nm, sh8.hS, rfl, sz_lt (by omega), rfl⟩, ?_⟩
            rw [putK_new _ nkS]
            refine ⟨_, _, _, _, _, _, _, _, _, _, rfl, sh8.addS hstc, lst_upd sh8.hS hP8, ?_, ?_⟩
            · rw [List.map_append, hnS, take_name hnmi]
              rfl
            · intro s hs
              rcases List.mem_append.mp hs with h | h
              · exact hgoodS s h
              · have e : s = ⟨nm, r0.name, cs, 1 + r6, 1 + r7⟩ := by simpa using h
                rw [e]
                exact ⟨⟨r0, hr0m, rfl, hcm⟩, hcl4, (show 0 < 1 + r6 by omega), (show 1 + r6 ≤ 16 by omega), (show 1 + r7 ≤ 8 by omega)⟩
      · rintro σ H' ⟨kS, ss, y5, y6, y7, y8, y9, y10, y11, y12, rfl, sh, hP, hnS, hgoodS⟩
        refine ⟨_, rfl, _, rfl, _, rfl, sz_of (n := 3) (by decide), fun L nL => ?_⟩
        have s := same_new (o := .lst [V.ref dR, V.ref dF, V.ref dS]) nL
        have sh2 := sh.same s
        have hnS : ss.map Stc.name = nmS.take M := by
          rw [hnS]
          refine List.take_of_length_le ?_
          rw [List.length_map]
          exact Nat.le_refl _
        refine q _ L ⟨rels, ss⟩ ⟨dR, dF, dS, kR, kF, kS, upd_same, sh2.hR, sh2.hF, sh2.hS, sh2.n2, sh2.pR, Paired.mapP sh2.pF fun _ _ q => ⟨q.1, q.2.fact⟩, sh2.pS⟩ ⟨⟨hnrd, ?_, fun r h => (hgood r h).1.ok, fun s h => ⟨(hgoodS s h).rel, (hgoodS s h).c4, (hgoodS s h).b0, (hgoodS s h).b16, (hgoodS s h).s8⟩⟩, fun r h => (hgood r h).1.inc, ⟨n, hnm⟩, ⟨M, hnS⟩⟩
        show (ss.map Stc.name).Nodup
        rw [hnS]
        exact nmS_nodup.sublist (List.take_sublist _ _)
end
end K9

set_option Elab.async false
set_option linter.all false
set_option maxRecDepth 100000
set_option maxHeartbeats 4000000
/-! The items of a shelf, what a State makes of them. -/
namespace K9
open PySem PySem.Spec PyProof.Rows L2
theorem inc_nodup {rs : List Row} (h : RowsInc rs) : rs.Nodup := List.Pairwise.imp (fun {a b} hab e => by rw [e, rowLt_irrefl] at hab; cases hab) h
/-- the rows of a name among facts -/
def rowsIn (nm : Str) (F : List (Str × Row)) : List Row := (F.filter fun p => decide (p.1 = nm)).map Prod.snd
theorem rowsIn_app (nm : Str) (F F' : List (Str × Row)) : rowsIn nm (F ++ F') = rowsIn nm F ++ rowsIn nm F' := by
  unfold rowsIn
  rw [List.filter_append, List.map_append]
theorem rowsIn_one (nm k : Str) (row : Row) : rowsIn nm [(k, row)] = if k = nm then [row] else [] := by
  unfold rowsIn
  by_cases h : k = nm
  · simp [h]
  · simp [h]
def factsOf (rs : List Rel) : List (Str × Row) := (rs.map fun r => r.rows.map fun t => (r.name, t)).flatten
theorem rowsIn_other {nm k : Str} {rows : List Row} (h : k ≠ nm) : rowsIn nm (rows.map fun t => (k, t)) = [] := by
  induction rows with
  | nil => rfl
  | cons t r ih =>
    rw [List.map_cons, show (k, t) :: r.map (fun t => (k, t)) = [(k, t)] ++ r.map (fun t => (k, t)) from rfl, rowsIn_app, ih, rowsIn_one, if_neg h]
    rfl
theorem rowsIn_own {nm : Str} {rows : List Row} : rowsIn nm (rows.map fun t => (nm, t)) = rows := by
  induction rows with
  | nil => rfl
  | cons t r ih =>
    rw [List.map_cons, show (nm, t) :: r.map (fun t => (nm, t)) = [(nm, t)] ++ r.map (fun t => (nm, t)) from rfl, rowsIn_app, ih, rowsIn_one, if_pos rfl]
    rfl
theorem factsOf_cons (r : Rel) (rs : List Rel) : factsOf (r :: rs) = (r.rows.map fun t => (r.name, t)) ++ factsOf rs := by
  unfold factsOf
  rw [List.map_cons, List.flatten_cons]
theorem rowsIn_none {nm : Str} : ∀ {rs : List Rel}, nm ∉ rs.map Rel.name → rowsIn nm (factsOf rs) = []
  | [], _ => rfl
  | r :: rs, h => by
    rw [factsOf_cons, rowsIn_app, rowsIn_other (fun z => h (by rw [← z]; exact List.mem_cons_self)), rowsIn_none fun z => h (List.mem_cons_of_mem _ z)]
    rfl
theorem rowsIn_facts : ∀ {rs : List Rel}, (rs.map Rel.name).Nodup → ∀ {r : Rel}, r ∈ rs → rowsIn r.name (factsOf rs) = r.rows
  | [], _, _, h => by cases h
  | r0 :: rs, hn, r, h => by
    have hn' : (r0.name :: rs.map Rel.name).Nodup := hn
    obtain ⟨n1, n2⟩ := List.nodup_cons.mp hn'
    rw [factsOf_cons, rowsIn_app]
    rcases List.mem_cons.mp h with rfl | h
    · rw [rowsIn_own, rowsIn_none n1, List.append_nil]
    · have : r0.name ≠ r.name := fun z => n1 (by rw [z]; exact List.mem_map.mpr ⟨r, h, rfl⟩)
      rw [rowsIn_other this, rowsIn_facts n2 h]
      rfl
/-- the relations with the rows that the facts F give -/
def fillR (rs : List Rel) (F : List (Str × Row)) : List Rel := rs.map fun r => { r with rows := rowsIn r.name F }
theorem fillR_names (rs : List Rel) (F : List (Str × Row)) : (fillR rs F).map Rel.name = rs.map Rel.name := by
  unfold fillR
  rw [List.map_map]
  rfl
theorem fillR_add (rs : List Rel) (F : List (Str × Row)) (nm : Str) (row : Row) : (fillR rs F).map (addRow nm row) = fillR rs (F ++ [(nm, row)]) := by
  unfold fillR
  rw [List.map_map]
  refine List.map_congr_left fun r _ => ?_
  show addRow nm row { r with rows := rowsIn r.name F } = _
  unfold addRow
  show (if r.name = nm then _ else _) = _
  rw [rowsIn_app, rowsIn_one]
  by_cases h : r.name = nm
  · rw [if_pos h, if_pos h.symm]
  · rw [if_neg h, if_neg (fun z => h z.symm), List.append_nil]
def factI (p : Str × Row) : Item := .fact p.1 p.2
theorem fold_rels : ∀ (rs : List Rel) (sh : Shelf), (rs.map Item.rel).foldl putI sh = ⟨sh.rels ++ rs.map (fun r => { r with rows := [] }), sh.stcs⟩
  | [], sh => by simp
  | r :: rs, sh => by
    rw [List.map_cons, List.foldl_cons, fold_rels rs]
    show (⟨(sh.rels ++ [{ r with rows := [] }]) ++ _, _⟩ : Shelf) = _
    rw [List.append_assoc]
    rfl
theorem fold_facts (rs : List Rel) (ss : List Stc) : ∀ (F F0 : List (Str × Row)), (F.map factI).foldl putI ⟨fillR rs F0, ss⟩ = ⟨fillR rs (F0 ++ F), ss⟩
  | [], F0 => by simp
  | p :: F, F0 => by
    rw [List.map_cons, List.foldl_cons]
    show (F.map factI).foldl putI ⟨(fillR rs F0).map (addRow p.1 p.2), ss⟩ = _
    rw [fillR_add, fold_facts rs ss F, List.append_assoc]
    rfl
theorem fold_stcs : ∀ (ss : List Stc) (sh : Shelf), (ss.map Item.stc).foldl putI sh = ⟨sh.rels, sh.stcs ++ ss⟩
  | [], sh => by simp
  | s :: ss, sh => by
    rw [List.map_cons, List.foldl_cons, fold_stcs ss]
    show (⟨_, (sh.stcs ++ [s]) ++ ss⟩ : Shelf) = _
    rw [List.append_assoc]
    rfl
theorem fill_nil (rs : List Rel) : rs.map (fun r => ({ r with rows := [] } : Rel)) = fillR rs [] := rfl
def itemsOf (rs rs2 : List Rel) (ss : List Stc) : List Item := rs.map Item.rel ++ ((factsOf rs2).map factI ++ ss.map Item.stc)
theorem shAt_rel {rs rs2 : List Rel} {ss : List Stc} {i : Nat} (h : i ≤ rs.length) : shAt (itemsOf rs rs2 ss) i = ⟨fillR (rs.take i) [], []⟩ := by
  unfold shAt itemsOf
  rw [List.take_append_of_le_length (by rw [List.length_map]; exact h), ← List.map_take, fold_rels]
  show (⟨[] ++ _, []⟩ : Shelf) = _
  rw [List.nil_append]
  rfl
theorem shAt_fact {rs rs2 : List Rel} {ss : List Stc} {i : Nat} (h : i ≤ (factsOf rs2).length) : shAt (itemsOf rs rs2 ss) (rs.length + i) = ⟨fillR rs ((factsOf rs2).take i), []⟩ := by
  unfold shAt itemsOf
  have e : rs.length + i = (rs.map Item.rel).length + i := by rw [List.length_map]
  rw [e, List.take_length_add_append, List.foldl_append, fold_rels, List.take_append_of_le_length (by rw [List.length_map]; exact h), ← List.map_take]
  show ((factsOf rs2).take i |>.map factI).foldl putI ⟨[] ++ fillR rs [], []⟩ = _
  rw [List.nil_append, fold_facts, List.nil_append]
theorem shAt_stc {rs rs2 : List Rel} {ss : List Stc} {i : Nat} (h : i ≤ ss.length) : shAt (itemsOf rs rs2 ss) (rs.length + ((factsOf rs2).length + i)) = ⟨fillR rs (factsOf rs2), ss.take i⟩ := by
  unfold shAt itemsOf
  have e : rs.length + ((factsOf rs2).length + i) = (rs.map Item.rel).length + (((factsOf rs2).map factI).length + i) := by rw [List.length_map, List.length_map]
  rw [e, List.take_length_add_append, List.foldl_append, fold_rels, List.take_length_add_append, List.foldl_append, ← List.map_take]
  show (((ss.take i).map Item.stc).foldl putI (((factsOf rs2).map factI).foldl putI ⟨[] ++ fillR rs [], []⟩)) = _
  rw [List.nil_append, fold_facts, List.nil_append, fold_stcs]
  show (⟨_, [] ++ _⟩ : Shelf) = _
  rw [List.nil_append]
theorem fill_all {rs rs2 : List Rel} (hn : (rs2.map Rel.name).Nodup) (hm : ∀ r ∈ rs, r ∈ rs2) : fillR rs (factsOf rs2) = rs := by
  unfold fillR
  have : ∀ r ∈ rs, ({ r with rows := rowsIn r.name (factsOf rs2) } : Rel) = r := fun r h => by
    rw [rowsIn_facts hn (hm r h)]
  rw [List.map_congr_left this]
  exact List.map_id _
theorem items_len (rs rs2 : List Rel) (ss : List Stc) : (itemsOf rs rs2 ss).length = rs.length + ((factsOf rs2).length + ss.length) := by
  unfold itemsOf
  rw [List.length_append, List.length_append, List.length_map, List.length_map, List.length_map]
theorem mem_facts {p : Str × Row} : ∀ {rs : List Rel}, p ∈ factsOf rs → ∃ r ∈ rs, r.name = p.1 ∧ p.2 ∈ r.rows
  | [], h => by cases h
  | r :: rs, h => by
    rw [factsOf_cons] at h
    rcases List.mem_append.mp h with h | h
    · obtain ⟨t, ht, rfl⟩ := List.mem_map.mp h
      exact ⟨r, List.mem_cons_self, rfl, ht⟩
    · obtain ⟨r', h1, h2⟩ := mem_facts h
      exact ⟨r', List.mem_cons_of_mem _ h1, h2⟩
theorem items_ok {rs rs2 : List Rel} {ss : List Stc} (hn : (rs.map Rel.name).Nodup) (hn2 : (rs2.map Rel.name).Nodup) (hm : ∀ r, r ∈ rs2 → r ∈ rs) (hs : (ss.map Stc.name).Nodup) (hl : rs.length ≤ 50) (hls : ss.length ≤ 50)
    (hr : ∀ r ∈ rs2, RowsInc r.rows ∧ r.rows.length ≤ 50 ∧ ∀ t ∈ r.rows, ∀ c ∈ t, CellOk c) : ∀ i it, (itemsOf rs rs2 ss)[i]? = some it → PutOk (shAt (itemsOf rs rs2 ss) i) it := by
  intro i it h
  have hi := (List.getElem?_eq_some_iff.mp h).1
  rw [items_len] at hi
  unfold itemsOf at h
  by_cases h1 : i < rs.length
  · rw [shAt_rel (by omega)]
    rw [List.getElem?_append_left (by rw [List.length_map]; exact h1), List.getElem?_map, List.getElem?_eq_getElem h1] at h
    obtain rfl : Item.rel rs[i] = it := Option.some.inj h
    refine ⟨?_, ?_⟩
    · show rs[i].name ∉ (fillR (rs.take i) []).map Rel.name
      rw [fillR_names, List.map_take]
      exact not_take hn (by rw [List.getElem?_map, List.getElem?_eq_getElem h1]; rfl)
    · show (fillR (rs.take i) []).length < 100
      unfold fillR
      rw [List.length_map, List.length_take]
      omega
  · rw [List.getElem?_append_right (by rw [List.length_map]; omega), List.length_map] at h
    by_cases h2 : i - rs.length < (factsOf rs2).length
    · have e : i = rs.length + (i - rs.length) := by omega
      rw [e, shAt_fact (by omega)]
      rw [List.getElem?_append_left (by rw [List.length_map]; exact h2), List.getElem?_map, List.getElem?_eq_getElem h2] at h
      obtain rfl : factI (factsOf rs2)[i - rs.length] = it := Option.some.inj h
      generalize hj : i - rs.length = j at h2
      have hpm := List.getElem_mem h2
      have hpt : (factsOf rs2).take (j + 1) = (factsOf rs2).take j ++ [(factsOf rs2)[j]] := take_name (List.getElem?_eq_getElem h2)
      generalize ep : (factsOf rs2)[j] = p at hpm hpt
      obtain ⟨r0, hr0, en, hrow⟩ := mem_facts hpm
      obtain ⟨r1, r2, r3⟩ := hr r0 hr0
      -- the rows so far stand ahead in the relation's rows
      have hpre : ∃ rest, r0.rows = rowsIn r0.name ((factsOf rs2).take j) ++ p.2 :: rest := by
        have e2 : factsOf rs2 = (factsOf rs2).take j ++ [p] ++ (factsOf rs2).drop (j + 1) := by
          rw [← hpt, List.take_append_drop]
        have e3 := rowsIn_facts hn2 hr0
        rw [e2, rowsIn_app, rowsIn_app] at e3
        have e4 : rowsIn r0.name [p] = [p.2] := by
          obtain ⟨k, row⟩ := p
          rw [rowsIn_one, if_pos en.symm]
        rw [e4] at e3
        exact ⟨_, by rw [← e3, List.append_assoc]; rfl⟩
      obtain ⟨rest, hrest⟩ := hpre
      refine ⟨by show ((fillR rs _).map Rel.name).Nodup; rw [fillR_names]; exact hn, ?_, { r0 with rows := rowsIn r0.name ((factsOf rs2).take j) }, ?_, en, ?_, ?_, r3 p.2 hrow, ?_⟩
      · show (fillR rs _).length < 100
        unfold fillR
        rw [List.length_map]
        omega
      · show _ ∈ fillR rs _
        unfold fillR
        exact List.mem_map.mpr ⟨r0, hm r0 hr0, rfl⟩
      · show p.2 ∉ rowsIn r0.name ((factsOf rs2).take j)
        have nd := inc_nodup r1
        rw [hrest] at nd
        obtain ⟨_, _, nd3⟩ := List.nodup_append.mp nd
        exact fun z => nd3 p.2 z p.2 List.mem_cons_self rfl
      · show (rowsIn r0.name ((factsOf rs2).take j)).length < 100
        have := congrArg List.length hrest
        rw [List.length_append] at this
        omega
      · intro t ht c hc
        have ht : t ∈ rowsIn r0.name ((factsOf rs2).take j) := ht
        exact r3 t (by rw [hrest]; exact List.mem_append_left _ ht) c hc
    · have e : i = rs.length + ((factsOf rs2).length + (i - rs.length - (factsOf rs2).length)) := by omega
      have h3 : i - rs.length - (factsOf rs2).length < ss.length := by omega
      rw [e, shAt_stc (by omega)]
      rw [List.getElem?_append_right (by rw [List.length_map]; omega), List.length_map, List.getElem?_map, List.getElem?_eq_getElem h3] at h
      obtain rfl : Item.stc ss[i - rs.length - (factsOf rs2).length] = it := Option.some.inj h
      refine ⟨?_, ?_⟩
      · show _ ∉ (ss.take _).map Stc.name
        rw [List.map_take]
        exact not_take hs (by rw [List.getElem?_map, List.getElem?_eq_getElem h3]; rfl)
      · show (ss.take _).length < 100
        rw [List.length_take]
        omega
/-- what a State of these items holds -/
theorem items_end {rs rs2 : List Rel} {ss : List Stc} (hn2 : (rs2.map Rel.name).Nodup) (hm : ∀ r ∈ rs, r ∈ rs2) : shAt (itemsOf rs rs2 ss) (itemsOf rs rs2 ss).length = ⟨rs, ss⟩ := by
  rw [items_len, shAt_stc (Nat.le_refl _), List.take_length, fill_all hn2 hm]
/-- things by names in another order -/
theorem by_names {α : Type} {nm : α → Str} {xs : List α} (hn : (xs.map nm).Nodup) {zs : List Str} (hp : zs.Perm (xs.map nm)) : ∃ ys : List α, ys.Perm xs ∧ ys.map nm = zs := by
  induction zs generalizing xs with
  | nil =>
    have h0 : xs.map nm = [] := List.Perm.nil_eq hp |>.symm
    have : xs = [] := List.map_eq_nil_iff.mp h0
    exact ⟨[], by rw [this], rfl⟩
  | cons z zs ih =>
    have hz : z ∈ xs.map nm := hp.mem_iff.mp List.mem_cons_self
    obtain ⟨x, hx, rfl⟩ := List.mem_map.mp hz
    obtain ⟨l1, l2, rfl⟩ := List.append_of_mem hx
    have hp2 : (l1 ++ x :: l2).Perm (x :: (l1 ++ l2)) := List.perm_middle
    have hp3 : (nm x :: zs).Perm (nm x :: (l1 ++ l2).map nm) := hp.trans (hp2.map nm)
    have hn3 : ((l1 ++ l2).map nm).Nodup := by
      have := (hp2.map nm).nodup_iff.mp hn
      exact (List.nodup_cons.mp this).2
    obtain ⟨ys, h1, h2⟩ := ih hn3 ((List.perm_cons _).mp hp3)
    exact ⟨x :: ys, (h1.cons x).trans hp2.symm, by rw [List.map_cons, h2]⟩
end K9

set_option Elab.async false
set_option linter.all false
set_option maxRecDepth 100000
set_option maxHeartbeats 4000000
/-! The law's items of its shelf. -/
namespace K9
open PySem PySem.Spec PyProof.Rows L2
theorem keys_names {β : Type} {nm : β → Str} {R : V → β → Prop} : ∀ {kvs : List (Key × V)} {bs : List β}, Paired (Ent nm R) kvs bs → kvs.map (fun kv => kV kv.1) = (bs.map nm).map V.str
  | _, _, .nil => rfl
  | _, _, .cons r t => by
    rw [List.map_cons, List.map_cons, List.map_cons, keys_names t, r.1]
    rfl
theorem factsOf_app (a b : List Rel) : factsOf (a ++ b) = factsOf a ++ factsOf b := by
  unfold factsOf
  rw [List.map_append, List.flatten_append]
theorem facts_len : ∀ {rs : List Rel}, (∀ r ∈ rs, r.rows.length ≤ 24) → (factsOf rs).length ≤ 24 * rs.length
  | [], _ => Nat.le_refl _
  | r :: rs, h => by
    rw [factsOf_cons, List.length_append, List.length_map, List.length_cons]
    have h1 := h r List.mem_cons_self
    have h2 := facts_len (rs := rs) fun x hx => h x (List.mem_cons_of_mem _ hx)
    omega
theorem good_len {sh : Shelf} (g : ShelfGood sh) : sh.rels.length ≤ 3 ∧ sh.stcs.length ≤ 3 := by
  obtain ⟨n, h1⟩ := g.nr
  obtain ⟨m, h2⟩ := g.ns
  have e1 := congrArg List.length h1
  have e2 := congrArg List.length h2
  rw [List.length_map, List.length_take] at e1 e2
  have l1 : nmR.length = 3 := rfl
  have l2 : nmS.length = 3 := rfl
  omega
def spLawShelfItems (K : PySem.W.Frag) : Sp := fun vs H Q _ => ∃ L sh, vs = [V.ref L] ∧ LawM K H L sh ∧ ShelfGood sh ∧ ∀ (H' : Hp) (p : Addr) (vs' : List V) (rs rs2 : List Rel) (ss : List Stc), Same H H' → H p = none → H' p = some (.lst vs') → Paired (ItA K H') vs' (itemsOf rs rs2 ss) → rs.Perm sh.rels → rs2.Perm sh.rels → ss.Perm sh.stcs → Q (.ref p) H'
section
variable {P : Program} {w : World} {K : PySem.W.Frag} {mg : Str → Option Value} {base : Heap}
theorem ok_LawShelfItems {f : Addr} {fd : FuncData} (F : FD K "_law_shelf_items" "_law_shelf_items" sLawShelfItems f fd) (hm : mg "_law_shelf_items" = some (.ref f)) (T : Free mg) : C8.Cal P w K mg base 1 "_law_shelf_items" (spLawShelfItems K) [] := by
  refine cal_mk F hm (FunD.bindsN (ps := PLawShelfItems) F fun _ _ _ _ _ _ us hl => match us, hl with | [_], _ => rfl) scLawShelfItems (fun vs H Q E h => ?_) (fun cdv A outer s H vs Q E hr h => ?_)
  · obtain ⟨L, sh, rfl, _⟩ := h
    rfl
  · obtain ⟨L, sh, rfl, ⟨dR, dF, dS, kR, kF, kS, hL, hR, hF, hS, hne, pR, pF, pS⟩, good, q⟩ := h
    obtain ⟨gl1, gl2⟩ := good_len good
    refine ⟨_, (pss_cons (ps_setLc (i := 1) (own := [("_law_name", 2)]) (g := gName 2) (tt := tYes) rfl scLawShelfItems.nd rfl rfl (sw_true rfl rfl rfl (by decide +kernel)) (pi_list (pe_callB cr_sortedS (by rfl) T.sorted (by decide +kernel) (pa_cons (pe_callTy (call_listD rfl) (by rfl) T.list (by decide +kernel) (pa_cons (pe_ix ix_list (pv 0) pe_int (fun _ _ => rfl)) pa_nil)) pa_nil))) (blkOk_by (own := [("_law_name", 2)]) (N := NLawShelfItems) (sc := defScope sLawShelfItems) (by decide +kernel)) (fun _ _ _ _ _ => pg_name (i := 2) scLawShelfItems.nd rfl (Or.inl rfl)) (fun _ _ _ _ _ => pts_nil) (fun _ _ _ _ _ => (pe_op (opCatTK K) (pe_tup (pa_cons pe_str (pa_cons (pv 2) pa_nil))) (pe_dget (hu_of hr) (pe_ix (ixListK K) (pv 0) pe_int (fun _ _ => rfl)) (pv 2) (fun _ _ => rfl)))))
    (pss_cons (ps_for PassesOwn.never rfl (pi_list (pe_callB cr_sortedS (by rfl) T.sorted (by decide +kernel) (pa_cons (pe_callTy (call_listD rfl) (by rfl) T.list (by decide +kernel) (pa_cons (pe_ix ix_list (pv 0) pe_int (fun _ _ => rfl)) pa_nil)) pa_nil))) (pg_name (i := 2) scLawShelfItems.nd rfl (Or.inr rfl))
    (pss_one (ps_set (i := 1) scLawShelfItems.nd rfl (Or.inl rfl) (pe_op op_cat (pv 1) (pe_lc (own := [("_law_row", 3)]) (g := gName 3) (tt := tYes) rfl scLawShelfItems.nd (pi_list (pe_dget (hu_of hr) (pe_ix ix_list (pv 0) pe_int (fun _ _ => rfl)) (pv 2) (fun _ _ => rfl))) (blkOk_by (own := [("_law_row", 3)]) (N := NLawShelfItems) (sc := defScope sLawShelfItems) (by decide +kernel)) (fun _ _ _ _ _ => pg_name (i := 3) scLawShelfItems.nd rfl (Or.inl rfl)) (fun _ _ _ _ _ => pts_nil) (fun _ _ _ _ _ => (pe_tup (pa_cons pe_str (pa_cons (pv 2) (pa_cons (pv 3) pa_nil))))))))))
    (pss_one (ps_ret (pe_op op_cat (pv 1) (pe_lc (own := [("_law_name", 2)]) (g := gName 2) (tt := tYes) rfl scLawShelfItems.nd (pi_list (pe_callB cr_sortedS (by rfl) T.sorted (by decide +kernel) (pa_cons (pe_callTy (call_listD rfl) (by rfl) T.list (by decide +kernel) (pa_cons (pe_ix ix_list (pv 0) pe_int (fun _ _ => rfl)) pa_nil)) pa_nil))) (blkOk_by (own := [("_law_name", 2)]) (N := NLawShelfItems) (sc := defScope sLawShelfItems) (by decide +kernel)) (fun _ _ _ _ _ => pg_name (i := 2) scLawShelfItems.nd rfl (Or.inl rfl)) (fun _ _ _ _ _ => pts_nil) (fun _ _ _ _ _ => (pe_op (opCatTK K) (pe_tup (pa_cons pe_str (pa_cons (pv 2) pa_nil))) (pe_dget (hu_of hr) (pe_ix (ixListK K) (pv 0) pe_int (fun _ _ => rfl)) (pv 2) (fun _ _ => rfl)))))))))), ?_⟩
    -- the relations
    refine ⟨_, rfl, L, _, 0, _, rfl, rfl, SqL.of hL, atI_nat (j := 0) rfl, dR, kR, rfl, .of hR, fun p1 np1 => ?_⟩
    rw [keys_names pR]
    refine ⟨p1, _, rfl, SqL.of upd_same, by rw [List.length_map]; omega, fun zs p2 hzs _ np2 => ⟨p2, rfl, ⟨_, SqL.of upd_same⟩, fun D nD => ?_⟩⟩
    obtain ⟨rs, hrs, ers⟩ := by_names good.ok.rn hzs
    have s2 : Same H (upd (upd H p1 (.lst ((sh.rels.map Rel.name).map V.str))) p2 (.lst (zs.map V.str))) := Same.trans (same_new np1) (same_new np2)
    have hzP : (upd (upd H p1 (.lst ((sh.rels.map Rel.name).map V.str))) p2 (.lst (zs.map V.str))) p2 = some (.lst (zs.map V.str)) := upd_same
    generalize (upd (upd H p1 (.lst ((sh.rels.map Rel.name).map V.str))) p2 (.lst (zs.map V.str))) = Hb at s2 nD hzP ⊢
    have lrs : rs.length ≤ 3 := by rw [hrs.length_eq]; exact gl1
    refine lc_list (K := K) (a := p2) (xs := zs.map V.str) (fun i H' => Same Hb H' ∧ ∃ acc, H' D = some (.lst acc) ∧ Paired (ItA K (del H' D)) acc ((rs.take i).map Item.rel)) ⟨same_new nD, [], upd_same, .nil⟩ (fun i H' _ z => SqL.of (z.1 _ _ hzP)) ?_ ?_
    · rintro i x H' hx ⟨sm, acc, hD, pa⟩
      obtain ⟨r, hri, rfl⟩ : ∃ r, rs[i]? = some r ∧ x = .str r.name := by
        rw [List.getElem?_map, ← ers, List.getElem?_map] at hx
        cases e : rs[i]? with
        | none => rw [e] at hx; cases hx
        | some c => rw [e] at hx; exact ⟨c, rfl, (Option.some.inj hx).symm⟩
      have hrm : r ∈ sh.rels := hrs.mem_iff.mp (List.mem_of_getElem? hri)
      obtain ⟨kv, _, hkv, t, ct, ekv, ht, hct, po, pu, pl, pc⟩ := ent_find pR good.ok.rn hrm
      have smH := Same.trans s2 sm
      have nDH : H D = none := s2.free nD
      refine ⟨rfl, ?_⟩
      refine ⟨_, rfl, sz2, fun t1 nt1 => ?_⟩
      have s3 := Same.trans smH (same_new (o := .tup [V.str "relation", .str r.name]) nt1)
      refine ⟨_, rfl, L, _, 0, _, rfl, rfl, SqL.of (s3 _ _ hL), atI_nat (j := 0) rfl, _, rfl, dR, .ref t, rfl, .inl ⟨kR, Sum.inr r.name, .of (s3 _ _ hR), rfl, by rw [hkv, ekv]⟩, ?_⟩
      refine ⟨t1, t, _, _, rfl, rfl, SqT.of upd_same, Same.tup s3 ht, by simp, sz_of (n := 4) (by decide), fun e => (by cases e), fun _ p np => ?_⟩
      have s4 : Same H' (upd (upd H' t1 (.tup [V.str "relation", .str r.name])) p (.tup ([V.str "relation", .str r.name] ++ [.ref ct, .int (r.room : Int)]))) := Same.trans (same_new nt1) (same_new np)
      have hpD : p ≠ D := fun z => by
        have h1 := same_new (o := .tup [V.str "relation", .str r.name]) nt1 _ _ hD
        rw [z, h1] at np
        cases np
      have lacc : acc.length ≤ 3 := by
        rw [paired_len pa, List.length_map, List.length_take]
        omega
      refine ⟨acc, s4 _ _ hD, sz_lt (by omega), same_mut (Same.trans sm s4) nD, acc ++ [.ref p], upd_same, ?_⟩
      rw [del_upd, take_name hri, List.map_append]
      refine paired_app (Paired.mapP pa fun _ _ z => z.same (Same.del s4 D)) (.cons ?_ .nil)
      have sd := same_del (Same.trans smH s4) nDH
      refine ⟨p, ct, rfl, SqT.of ?_, Same.tup sd hct, po, pu, sd _ _ pl, pc⟩
      rw [del_ne hpD, upd_same]
      rfl
    · rintro H1 ⟨sm1, acc1, hD, pa1⟩
      have elen : (zs.map V.str).length = rs.length := by rw [List.length_map, ← ers, List.length_map]
      rw [elen, List.take_length] at pa1
      have pa1 : Paired (ItA K H1) acc1 (rs.map Item.rel) := Paired.mapP pa1 fun _ _ z => z.same (del_le _ _)
      have sH1 := Same.trans s2 sm1
      -- the facts
      refine ⟨_, rfl, L, _, 1, _, rfl, rfl, SqL.of (sH1 _ _ hL), atI_nat (j := 1) rfl, dF, kF, rfl, .of (sH1 _ _ hF), fun p3 np3 => ?_⟩
      rw [keys_names pF]
      refine ⟨p3, _, rfl, SqL.of upd_same, by rw [List.length_map]; omega, fun zs2 p4 hzs2 _ np4 => ⟨p4, rfl, ⟨_, SqL.of upd_same⟩, ?_⟩⟩
      obtain ⟨rs2, hrs2, ers2⟩ := by_names good.ok.rn hzs2
      have s3 : Same H1 (upd (upd H1 p3 (.lst ((sh.rels.map Rel.name).map V.str))) p4 (.lst (zs2.map V.str))) := Same.trans (same_new np3) (same_new np4)
      have hzP4 : (upd (upd H1 p3 (.lst ((sh.rels.map Rel.name).map V.str))) p4 (.lst (zs2.map V.str))) p4 = some (.lst (zs2.map V.str)) := upd_same
      generalize (upd (upd H1 p3 (.lst ((sh.rels.map Rel.name).map V.str))) p4 (.lst (zs2.map V.str))) = Hc at s3 hzP4 ⊢
      have sHc := Same.trans sH1 s3
      have lrs2 : rs2.length ≤ 3 := by rw [hrs2.length_eq]; exact gl1
      have hrow24 : ∀ r ∈ rs2, r.rows.length ≤ 24 := fun r h => (good.ok.rels r (hrs2.mem_iff.mp h)).n24
      refine for_list (K := K) (a := p4) (xs := zs2.map V.str) (fun i σ H' => ∃ y2 y3 D acc, σ = [some (.ref L), some (.ref D), y2, y3] ∧ Same Hc H' ∧ H' D = some (.lst acc) ∧ Paired (ItA K H') acc (rs.map Item.rel ++ (factsOf (rs2.take i)).map factI) ∧ H D = none)
        ⟨_, _, D, acc1, rfl, Same.refl _, s3 _ _ hD, ?_, s2.free nD⟩ (fun i σ H' _ ⟨_, _, _, _, _, e, _⟩ => SqL.of (e _ _ hzP4)) ?_ ?_
      · rw [List.take_zero]
        show Paired _ acc1 (_ ++ [])
        rw [List.append_nil]
        exact Paired.mapP pa1 fun _ _ z => z.same s3
      · rintro i x σ H' hx ⟨y2, y3, D, acc, rfl, sm, hD, pa, nDH⟩
        obtain ⟨r, hri, rfl⟩ : ∃ r, rs2[i]? = some r ∧ x = .str r.name := by
          rw [List.getElem?_map, ← ers2, List.getElem?_map] at hx
          cases e : rs2[i]? with
          | none => rw [e] at hx; cases hx
          | some c => rw [e] at hx; exact ⟨c, rfl, (Option.some.inj hx).symm⟩
        have hrm : r ∈ sh.rels := hrs2.mem_iff.mp (List.mem_of_getElem? hri)
        obtain ⟨kv, _, hkv, a, ekv, vs, hvs, pvs⟩ := ent_find pF good.ok.rn hrm
        have smH := Same.trans sHc sm
        refine ⟨_, rfl, _, rfl, L, _, 1, _, rfl, rfl, SqL.of (smH _ _ hL), atI_nat (j := 1) rfl, _, rfl, dF, .ref a, rfl, .inl ⟨kF, Sum.inr r.name, .of (smH _ _ hF), rfl, by rw [hkv, ekv]⟩, a, rfl, ⟨_, Same.seq smH hvs⟩, fun D2 nD2 => ?_⟩
        have lvs : vs.length = r.rows.length := paired_len pvs
        have l24 := (good.ok.rels r hrm).n24
        refine lc_list (K := K) (a := a) (xs := vs) (fun j H2 => Same H' H2 ∧ ∃ acc2, H2 D2 = some (.lst acc2) ∧ Paired (ItA K (del H2 D2)) acc2 ((r.rows.take j).map fun t => Item.fact r.name t)) ⟨same_new nD2, [], upd_same, .nil⟩ (fun j H2 _ z => Same.seq (Same.trans smH z.1) hvs) ?_ ?_
        · rintro j x H2 hxj ⟨sm2, acc2, hD2, pa2⟩
          obtain ⟨row, hrow, ra, rfl, hra⟩ := paired_getL pvs hxj
          refine ⟨rfl, ?_⟩
          refine ⟨_, rfl, _, rfl, sz_of (n := 3) (by decide), fun t nt => ?_⟩
          have s5 := same_new (o := .tup [V.str "fact", .str r.name, .ref ra]) nt
          have htD : t ≠ D2 := fun z => by rw [z, hD2] at nt; cases nt
          have lacc : acc2.length ≤ 24 := by
            rw [paired_len pa2, List.length_map, List.length_take]
            omega
          refine ⟨acc2, s5 _ _ hD2, sz_lt (by omega), same_mut (Same.trans sm2 s5) nD2, acc2 ++ [.ref t], upd_same, ?_⟩
          rw [del_upd, take_name hrow, List.map_append]
          refine paired_app (Paired.mapP pa2 fun _ _ z => z.same (Same.del s5 D2)) (.cons ⟨t, ra, rfl, SqT.of ?_, Same.tup (same_del (Same.trans (Same.trans smH sm2) s5) (smH.free nD2)) hra⟩ .nil)
          rw [del_ne htD, upd_same]
        · rintro H2 ⟨sm2, acc2, hD2, pa2⟩
          rw [lvs, List.take_length] at pa2
          have lacc : acc.length ≤ 100 := by
            rw [paired_len pa, List.length_append, List.length_map, List.length_map]
            have := facts_len (rs := rs2.take i) fun r h => hrow24 r (List.mem_of_mem_take h)
            rw [List.length_take] at this
            omega
          have lacc2 : acc2.length ≤ 24 := by
            rw [paired_len pa2, List.length_map]
            exact l24
          refine ⟨D, D2, acc, acc2, rfl, rfl, sm2 _ _ hD, hD2, sz_of (by omega), fun p np => ?_⟩
          have s6 := same_new (o := .lst (acc ++ acc2)) np
          refine ⟨_, _, p, acc ++ acc2, rfl, Same.trans sm (Same.trans sm2 s6), upd_same, ?_, (Same.trans smH sm2).free np⟩
          rw [take_name hri, factsOf_app, List.map_append, ← List.append_assoc]
          have e1 : (factsOf [r]).map factI = r.rows.map fun t => Item.fact r.name t := by
            rw [factsOf_cons]
            show ((r.rows.map fun t => (r.name, t)) ++ []).map factI = _
            rw [List.append_nil, List.map_map]
            rfl
          rw [e1]
          exact paired_app (Paired.mapP pa fun _ _ z => z.same (Same.trans sm2 s6)) (Paired.mapP pa2 fun _ _ z => z.same (Same.trans (del_le _ _) s6))
      · rintro σ H' ⟨y2, y3, D, acc, rfl, sm, hD, pa, nDH⟩
        have elen2 : (zs2.map V.str).length = rs2.length := by rw [List.length_map, ← ers2, List.length_map]
        rw [elen2, List.take_length] at pa
        have smH := Same.trans sHc sm
        -- the structures
        refine ⟨_, rfl, _, rfl, L, _, 2, _, rfl, rfl, SqL.of (smH _ _ hL), atI_nat (j := 2) rfl, dS, kS, rfl, .of (smH _ _ hS), fun p5 np5 => ?_⟩
        rw [keys_names pS]
        refine ⟨p5, _, rfl, SqL.of upd_same, by rw [List.length_map]; omega, fun zs3 p6 hzs3 _ np6 => ⟨p6, rfl, ⟨_, SqL.of upd_same⟩, fun D3 nD3 => ?_⟩⟩
        obtain ⟨ss, hss, ess⟩ := by_names good.ok.sn hzs3
        have s5 : Same H' (upd (upd H' p5 (.lst ((sh.stcs.map Stc.name).map V.str))) p6 (.lst (zs3.map V.str))) := Same.trans (same_new np5) (same_new np6)
        have hzP6 : (upd (upd H' p5 (.lst ((sh.stcs.map Stc.name).map V.str))) p6 (.lst (zs3.map V.str))) p6 = some (.lst (zs3.map V.str)) := upd_same
        generalize (upd (upd H' p5 (.lst ((sh.stcs.map Stc.name).map V.str))) p6 (.lst (zs3.map V.str))) = Hd at s5 nD3 hzP6 ⊢
        have sHd := Same.trans smH s5
        have lss : ss.length ≤ 3 := by rw [hss.length_eq]; exact gl2
        refine lc_list (K := K) (a := p6) (xs := zs3.map V.str) (fun i H2 => Same Hd H2 ∧ ∃ acc3, H2 D3 = some (.lst acc3) ∧ Paired (ItA K (del H2 D3)) acc3 ((ss.take i).map Item.stc)) ⟨same_new nD3, [], upd_same, .nil⟩ (fun i H2 _ z => SqL.of (z.1 _ _ hzP6)) ?_ ?_
        · rintro i x H2 hx ⟨sm2, acc3, hD3, pa3⟩
          obtain ⟨s, hsi, rfl⟩ : ∃ s, ss[i]? = some s ∧ x = .str s.name := by
            rw [List.getElem?_map, ← ess, List.getElem?_map] at hx
            cases e : ss[i]? with
            | none => rw [e] at hx; cases hx
            | some c => rw [e] at hx; exact ⟨c, rfl, (Option.some.inj hx).symm⟩
          have hsm : s ∈ sh.stcs := hss.mem_iff.mp (List.mem_of_getElem? hsi)
          obtain ⟨kv, _, hkv, t, ct, ekv, ht, hct⟩ := ent_find pS good.ok.sn hsm
          have smH2 := Same.trans sHd sm2
          have nDH3 : H D3 = none := sHd.free nD3
          refine ⟨rfl, ?_⟩
          refine ⟨_, rfl, sz2, fun t1 nt1 => ?_⟩
          have s3 := Same.trans smH2 (same_new (o := .tup [V.str "structure", .str s.name]) nt1)
          refine ⟨_, rfl, L, _, 2, _, rfl, rfl, SqL.of (s3 _ _ hL), atI_nat (j := 2) rfl, _, rfl, dS, .ref t, rfl, .inl ⟨kS, Sum.inr s.name, .of (s3 _ _ hS), rfl, by rw [hkv, ekv]⟩, ?_⟩
          refine ⟨t1, t, _, _, rfl, rfl, SqT.of upd_same, Same.tup s3 ht, by simp, sz_of (n := 6) (by decide), fun e => (by cases e), fun _ p np => ?_⟩
          have s4 : Same H2 (upd (upd H2 t1 (.tup [V.str "structure", .str s.name])) p (.tup ([V.str "structure", .str s.name] ++ [.str s.rel, .ref ct, .int (s.buckets : Int), .int (s.sectors : Int)]))) := Same.trans (same_new nt1) (same_new np)
          have hpD : p ≠ D3 := fun z => by
            have h1 := same_new (o := .tup [V.str "structure", .str s.name]) nt1 _ _ hD3
            rw [z, h1] at np
            cases np
          have lacc : acc3.length ≤ 3 := by
            rw [paired_len pa3, List.length_map, List.length_take]
            omega
          refine ⟨acc3, s4 _ _ hD3, sz_lt (by omega), same_mut (Same.trans sm2 s4) nD3, acc3 ++ [.ref p], upd_same, ?_⟩
          rw [del_upd, take_name hsi, List.map_append]
          refine paired_app (Paired.mapP pa3 fun _ _ z => z.same (Same.del s4 D3)) (.cons ?_ .nil)
          have sd := same_del (Same.trans smH2 s4) nDH3
          refine ⟨p, ct, rfl, SqT.of ?_, Same.tup sd hct⟩
          rw [del_ne hpD, upd_same]
          rfl
        · rintro H2 ⟨sm2, acc3, hD3, pa3⟩
          have elen3 : (zs3.map V.str).length = ss.length := by rw [List.length_map, ← ess, List.length_map]
          rw [elen3, List.take_length] at pa3
          have lacc : acc.length ≤ 100 := by
            rw [paired_len pa, List.length_append, List.length_map, List.length_map]
            have := facts_len hrow24
            omega
          have lacc3 : acc3.length ≤ 3 := by
            rw [paired_len pa3, List.length_map]
            exact lss
          have sD2 := Same.trans s5 sm2
          refine ⟨D, D3, acc, acc3, rfl, rfl, sD2 _ _ hD, hD3, sz_of (by omega), fun p np => ?_⟩
          have s6 := same_new (o := .lst (acc ++ acc3)) np
          refine q _ p (acc ++ acc3) rs rs2 ss (Same.trans smH (Same.trans sD2 s6)) ((Same.trans smH sD2).free np) upd_same ?_ hrs hrs2 hss
          unfold itemsOf
          rw [← List.append_assoc]
          exact paired_app (Paired.mapP pa fun _ _ z => z.same (Same.trans sD2 s6)) (Paired.mapP pa3 fun _ _ z => z.same (Same.trans (del_le _ _) s6))
end
end K9

set_option Elab.async false
set_option linter.all false
set_option maxRecDepth 100000
set_option maxHeartbeats 4000000
/-! What the law itself needs: locked dicts, equal rows, buckets. -/
namespace K9
open PySem PySem.Spec PyProof.Rows L2
theorem paired_perm_mem {α : Type} {xs ys : List α} (h : xs.Perm ys) (x : α) : x ∈ xs ↔ x ∈ ys := h.mem_iff
theorem LawM.at {K : PySem.W.Frag} {H : Hp} {L : Addr} {sh : Shelf} (h : LawM K H L sh) : LawAt K H L sh := by
  obtain ⟨dR, dF, dS, kR, kF, kS, hL, hR, hF, hS, _, pR, pF, pS⟩ := h
  exact ⟨dR, dF, dS, SqL.of hL, ⟨kR, .of hR, pR⟩, ⟨kF, .of hF, pF⟩, ⟨kS, .of hS, pS⟩⟩
theorem LawM.same {K : PySem.W.Frag} {H H' : Hp} {L : Addr} {sh : Shelf} (e : Same H H') (h : LawM K H L sh) : LawM K H' L sh := by
  obtain ⟨dR, dF, dS, kR, kF, kS, hL, hR, hF, hS, n, pR, pF, pS⟩ := h
  exact ⟨dR, dF, dS, kR, kF, kS, e _ _ hL, e _ _ hR, e _ _ hF, e _ _ hS, n, Paired.mapP pR fun _ _ q => ⟨q.1, q.2.same e⟩, Paired.mapP pF fun _ _ q => ⟨q.1, q.2.same e⟩, Paired.mapP pS fun _ _ q => ⟨q.1, q.2.same e⟩⟩
/-! ### a locked dict -/
section
variable {K : PySem.W.Frag} {H : Hp} {d : Addr} {k : List (Key × V)} {od : Obj}
theorem lk_list {a : Addr} {xs : List V} (hd : H d = some (.dK k)) (h : SqL K H a xs) : SqL K (upd H d (.frz od (.dK k))) a xs := up_list (ns_some hd (show NotSeq (.dK k) from True.intro)) h
theorem lk_tup {a : Addr} {xs : List V} (hd : H d = some (.dK k)) (h : SqT K H a xs) : SqT K (upd H d (.frz od (.dK k))) a xs := up_tup (ns_some hd (show NotSeq (.dK k) from True.intro)) h
theorem lk_rd {a : Addr} {k2 : List (Key × V)} (hd : H d = some (.dK k)) (h : Rd H a (.dK k2)) : Rd (upd H d (.frz od (.dK k))) a (.dK k2) := by
  by_cases e : a = d
  · rw [e] at h ⊢
    rcases h with h | ⟨o, h⟩
    · rw [hd] at h
      cases h
      exact .inr ⟨od, upd_same⟩
    · rw [hd] at h
      cases h
  · rcases h with h | ⟨o, h⟩
    · exact .inl (by rw [upd_ne e]; exact h)
    · exact .inr ⟨o, by rw [upd_ne e]; exact h⟩
theorem lk_frz {a : Addr} {o : Obj} {u : HO} (hd : H d = some (.dK k)) (h : H a = some (.frz o u)) : (upd H d (.frz od (.dK k))) a = some (.frz o u) := by
  rw [upd_ne (ne_of h hd (fun z => by cases z))]
  exact h
theorem lk_rel {v : V} {r : Rel} (hd : H d = some (.dK k)) (h : RelA K H v r) : RelA K (upd H d (.frz od (.dK k))) v r := by
  obtain ⟨t, ct, rfl, h1, h2, o, u, h3, h4⟩ := h
  exact ⟨t, ct, rfl, lk_tup hd h1, lk_tup hd h2, o, u, lk_frz hd h3, h4⟩
theorem lk_fact {v : V} {r : Rel} (hd : H d = some (.dK k)) (h : FactA K H v r) : FactA K (upd H d (.frz od (.dK k))) v r := up_fact (ns_some hd (show NotSeq (.dK k) from True.intro)) h
theorem lk_stc {v : V} {r : Stc} (hd : H d = some (.dK k)) (h : StcA K H v r) : StcA K (upd H d (.frz od (.dK k))) v r := by
  obtain ⟨t, ct, rfl, h1, h2⟩ := h
  exact ⟨t, ct, rfl, lk_tup hd h1, lk_tup hd h2⟩
theorem lk_db {dR dF dS : Addr} {sh : Shelf} (hd : H d = some (.dK k)) (h : DbAt K H dR dF dS sh) : DbAt K (upd H d (.frz od (.dK k))) dR dF dS sh := by
  obtain ⟨⟨k1, r1, p1⟩, ⟨k2, r2, p2⟩, ⟨k3, r3, p3⟩⟩ := h
  exact ⟨⟨k1, lk_rd hd r1, Paired.mapP p1 fun _ _ q => ⟨q.1, lk_rel hd q.2⟩⟩, ⟨k2, lk_rd hd r2, Paired.mapP p2 fun _ _ q => ⟨q.1, lk_fact hd q.2⟩⟩, ⟨k3, lk_rd hd r3, Paired.mapP p3 fun _ _ q => ⟨q.1, lk_stc hd q.2⟩⟩⟩
theorem lk_st {s : Addr} {sh : Shelf} (hd : H d = some (.dK k)) (h : StAt K H s sh) : StAt K (upd H d (.frz od (.dK k))) s sh := by
  obtain ⟨dx, fs, dR, dF, dS, h1, h2, h3, h4, h5⟩ := h
  exact ⟨dx, fs, dR, dF, dS, by rw [upd_ne (ne_of h1 hd (fun z => by cases z))]; exact h1, h2, h3, h4, lk_db hd h5⟩
theorem lk_law {L : Addr} {sh : Shelf} (hd : H d = some (.dK k)) (h : LawAt K H L sh) : LawAt K (upd H d (.frz od (.dK k))) L sh := by
  obtain ⟨dR, dF, dS, h1, h2⟩ := h
  exact ⟨dR, dF, dS, lk_list hd h1, lk_db hd h2⟩
/-- behind the loop -/
theorem unlock_same {H' : Hp} (hd : H d = some (.dK k)) (e : Same (upd H d (.frz od (.dK k))) H') : Same H (upd H' d (.dK k)) := fun b o h => by
  by_cases z : b = d
  · rw [z, hd] at h
    rw [z, upd_same]
    exact h
  · rw [upd_ne z]
    exact e b o (by rw [upd_ne z]; exact h)
end
/-! ### equal rows -/
theorem sameD_cells {K : PySem.W.Frag} {H : Hp} : ∀ r : Row, Paired (SameD K H 0) (rowV r) (rowV r)
  | [] => .nil
  | c :: r => .cons ⟨c, rfl, rfl⟩ (sameD_cells r)
theorem sameD_rows {K : PySem.W.Frag} {H : Hp} : ∀ {vs ws : List V} {rs : List Row}, Paired (RowA K H) vs rs → Paired (RowA K H) ws rs → (∀ r ∈ rs, r.length ≤ 1000) → Paired (SameD K H 1) vs ws
  | _, _, _, .nil, h, _ => by
    cases h
    exact .nil
  | _, _, _, .cons (b := r) ⟨a, e1, q1⟩ t, h, hl => by
    cases h with
    | cons r2 t2 =>
      obtain ⟨b, e2, q2⟩ := r2
      refine .cons ⟨a, b, rowV r, rowV r, e1, e2, .inr ⟨q1, q2⟩, sameD_cells r, ?_⟩ (sameD_rows t t2 fun x hx => hl x (List.mem_cons_of_mem _ hx))
      unfold rowV
      rw [List.length_map]
      exact hl r List.mem_cons_self
theorem sameD_lists {K : PySem.W.Frag} {H : Hp} {a b : Addr} {rs : List Row} (h1 : RowsA K H a rs) (h2 : RowsA K H b rs) (hl : ∀ r ∈ rs, r.length ≤ 1000) (hn : rs.length ≤ 1000) : SameD K H 2 (.ref a) (.ref b) := by
  obtain ⟨vs, s1, p1⟩ := h1
  obtain ⟨ws, s2, p2⟩ := h2
  exact ⟨a, b, vs, ws, rfl, rfl, .inl ⟨s1, s2⟩, sameD_rows p1 p2 hl, by rw [paired_len p1]; exact hn⟩
/-! ### buckets -/
/-- the k-th part of parts of one length -/
theorem flat_lenA {α : Type} {n : Nat} : ∀ {l : List (List α)}, (∀ x ∈ l, x.length = n) → l.flatten.length = l.length * n
  | [], _ => by simp
  | x :: l, h => by
    rw [List.flatten_cons, List.length_append, flat_lenA fun y hy => h y (List.mem_cons_of_mem _ hy), h x List.mem_cons_self, List.length_cons, Nat.add_mul, Nat.one_mul, Nat.add_comm]
theorem flat_part {α : Type} {n : Nat} : ∀ {l : List (List α)} {k : Nat} {x : List α}, (∀ x ∈ l, x.length = n) → l[k]? = some x → (l.flatten.drop (n * k)).take n = x
  | [], _, _, _, h => by simp at h
  | y :: l, 0, x, hl, h => by
    have e : y = x := by simpa using h
    have hy := hl y List.mem_cons_self
    rw [Nat.mul_zero, List.drop_zero, List.flatten_cons, ← e, ← hy, List.take_left]
  | y :: l, k + 1, x, hl, h => by
    have hy := hl y List.mem_cons_self
    have e : n * (k + 1) = y.length + n * k := by rw [hy, Nat.mul_succ, Nat.add_comm]
    rw [List.flatten_cons, e, List.drop_length_add_append]
    exact flat_part (fun z hz => hl z (List.mem_cons_of_mem _ hz)) (by simpa using h)
theorem cut_at {xs : List V} {i n : Nat} : cutV xs (some (i : Int)) (some ((i + n : Nat) : Int)) = (xs.drop i).take n := by
  unfold cutV
  rw [HT.sIx_nat, HT.sIx_nat]
  by_cases h : i ≤ xs.length
  · rw [Nat.min_eq_left h]
    by_cases h2 : i + n ≤ xs.length
    · rw [Nat.min_eq_left h2, Nat.add_sub_cancel_left]
    · rw [Nat.min_eq_right (by omega), List.take_of_length_le (by rw [List.length_drop]; omega), List.take_of_length_le (by rw [List.length_drop]; omega)]
  · rw [Nat.min_eq_right (by omega : xs.length ≤ i), List.drop_eq_nil_of_le (Nat.le_refl _), List.drop_eq_nil_of_le (by omega), List.take_nil, List.take_nil]
/-- how many rows lie in the first buckets -/
def totF (r : Rel) (s : Stc) : Nat → Nat
  | 0 => 0
  | k + 1 => totF r s k + (bRows r s k).length
theorem totF_eq (r : Rel) (s : Stc) : ∀ n, totF r s n = (r.rows.filter fun row => decide (bktOf r s row < n)).length
  | 0 => by
    show 0 = _
    rw [List.filter_eq_nil_iff.mpr (fun a _ => by simp)]
    rfl
  | n + 1 => by
    show totF r s n + (bRows r s n).length = _
    rw [totF_eq r s n]
    unfold bRows
    induction r.rows with
    | nil => rfl
    | cons a l ih =>
      rw [List.filter_cons, List.filter_cons, List.filter_cons]
      by_cases h1 : bktOf r s a < n
      · have h2 : (bktOf r s a == n) = false := by rw [beq_eq_false_iff_ne]; omega
        have h3 : bktOf r s a < n + 1 := by omega
        simp only [decide_eq_true h1, h2, decide_eq_true h3, if_true, Bool.false_eq_true, if_false, List.length_cons]
        omega
      · by_cases h4 : bktOf r s a = n
        · have h2 : (bktOf r s a == n) = true := by rw [beq_iff_eq]; exact h4
          have h3 : bktOf r s a < n + 1 := by omega
          simp only [decide_eq_false h1, h2, decide_eq_true h3, if_true, Bool.false_eq_true, if_false, List.length_cons]
          omega
        · have h2 : (bktOf r s a == n) = false := by rw [beq_eq_false_iff_ne]; exact h4
          have h3 : ¬ bktOf r s a < n + 1 := by omega
          simp only [decide_eq_false h1, h2, decide_eq_false h3, Bool.false_eq_true, if_false]
          exact ih
theorem totF_all {r : Rel} {s : Stc} (h : 0 < s.buckets) : totF r s s.buckets = r.rows.length := by
  rw [totF_eq, List.filter_eq_self.mpr]
  intro a _
  exact decide_eq_true (bktF_lt h)
theorem bRows_in (r : Rel) (s : Stc) (k : Nat) : (r.rows.filter fun row => decide (row ∈ bRows r s k)) = bRows r s k := by
  unfold bRows
  refine List.filter_congr fun a ha => ?_
  rw [Bool.eq_iff_iff, decide_eq_true_iff, List.mem_filter]
  exact ⟨fun h => h.2, fun h => ⟨ha, h⟩⟩
theorem bRows_mem {r : Rel} {s : Stc} {k : Nat} {row : Row} (h : row ∈ bRows r s k) : row ∈ r.rows ∧ bktOf r s row = k := by
  unfold bRows at h
  obtain ⟨h1, h2⟩ := List.mem_filter.mp h
  exact ⟨h1, by simpa using h2⟩
theorem bRows_len (r : Rel) (s : Stc) (k : Nat) : (bRows r s k).length ≤ r.rows.length := List.length_filter_le _ _
end K9

set_option Elab.async false
set_option linter.all false
set_option maxRecDepth 100000
set_option maxHeartbeats 8000000
/-! The law. -/
namespace K9
open PySem PySem.Spec PyProof.Rows L2
def spLaw (K : PySem.W.Frag) : Sp := fun vs H Q _ => ∃ (a : Addr) (ns : List Int), vs = [.ref a] ∧ SqL K H a (ns.map V.int) ∧ ∀ H', Q (.bl true) H'
theorem not_bl {p : Prop} (h : ¬ (!true) = true → p) : p := h (by decide)
section
variable {P : Program} {w : World} {K : PySem.W.Frag} {mg : Str → Option Value} {base : Heap}
theorem fn_mk {x : Str} {st : Stmt} {f : Addr} {fd : FuncData} {N ps : List Str} {k : Nat} {sp : Sp} (F : FD K x x st f fd) (S : FnScope N ps (defScope st)) (len : ∀ vs H Q E, sp vs H Q E → vs.length = ps.length)
    (hbody : ∀ (cdv : Value) (A : Around) (outer : List Env) (s : Shared) (H : Hp) (vs : List V) (Q : VK) (E : XK), Room k (A.deeper (envOfC x (defScope st) s.heap.objs.size f cdv)) → sp vs H Q E →
      ∃ t, PSs (cxOf C8.CX0 P w K mg base N x (defScope st) f cdv A outer s H E).nox (defBody st) t ∧ t { nx := fun _ H' => Q .non H', rt := Q } (start N vs) H) : FnOk P w K mg base C8.CX0 (k + 1) f fd ps sp := F.ok S len fun cdv A outer s H vs Q E hr h => by
  obtain ⟨t, p, q⟩ := hbody cdv A outer s H vs Q E hr h
  exact ⟨t, p.nox, q⟩
theorem ok_Law {f : Addr} {fd : FuncData} (F : FD K "law" "law" sLaw f fd) (T : Glob K mg)
    (cLawDraws : C8.Cal P w K mg base 2 "_law_draws" (spLawDraws K) []) (cLawShelf : C8.Cal P w K mg base 7 "_law_shelf" (spLawShelf K) []) (cLawShelfItems : C8.Cal P w K mg base 1 "_law_shelf_items" (spLawShelfItems K) []) (mState : C8.Mak P w K mg base 6 "State" (CS K) (spStateInit K) [])
    (cRelationShape : C8.Cal P w K mg base 8 "relation_shape" (spRelationShape K) []) (cStructureShape : C8.Cal P w K mg base 9 "structure_shape" (spStructureShape K) []) (cLawReadRows : C8.Cal P w K mg base 7 "_law_read_rows" (spLawReadRows K) []) (cLawSame : C8.Cal P w K mg base 4 "_law_same" (spLawSame K 2) [])
    (cLawValuesOf : C8.Cal P w K mg base 1 "_law_values_of" (spLawValuesOf K) []) (cBucketOfValues : C8.Cal P w K mg base 6 "bucket_of_values" (spBucketOfValues K) []) : FnOk P w K mg base C8.CX0 12 f fd PLaw (spLaw K) := by
  refine fn_mk F scLaw (fun vs H Q E h => ?_) (fun cdv A outer s H vs Q E hr h => ?_)
  · obtain ⟨a, ns, rfl, _⟩ := h
    rfl
  · obtain ⟨a, ns, rfl, hs, q⟩ := h
    refine ⟨_, (pss_cons (ps_set (i := 1) scLaw.nd rfl (Or.inl rfl) (pe_lst (pa_cons (C8.pe_c cLawDraws hr (by decide) (by rfl) (pa_cons (pv 0) pa_nil)) (pa_cons pe_int pa_nil))))
    (pss_cons (ps_set (i := 2) scLaw.nd rfl (Or.inr rfl) (C8.pe_c cLawShelf hr (by decide) (by rfl) (pa_cons (pv 1) (pa_cons pe_int pa_nil))))
    (pss_cons (ps_set (i := 3) scLaw.nd rfl (Or.inl rfl) (C8.pe_mk mState hr (by decide) (by rfl) (pa_cons (C8.pe_c cLawShelfItems hr (by decide) (by rfl) (pa_cons (pv 2) pa_nil)) pa_nil)))
    (pss_cons (ps_lock (ps_for PassesOwn.never rfl (pi_keys (pe_ix ix_list (pv 2) pe_int (fun _ _ => rfl))) (pg_name (i := 4) scLaw.nd rfl (Or.inr rfl))
    (pss_cons (ps_set (i := 5) scLaw.nd rfl (Or.inl rfl) (C8.pe_c cRelationShape hr (by decide) (by rfl) (pa_cons (pv 3) (pa_cons (pv 4) pa_nil))))
      (pss_one (ps_if (pt_cmpR op_notN (pv 5) pe_non (nomark _))
      (pss_one (ps_if (PW.pt (pw_or (pt_cmpR op_ne (pe_callB call_len_seq (by rfl) T.len PySem.boot_len (pa_cons (pv 5) pa_nil)) (pe_ix ix_tup (pe_dget (hu_of hr) (pe_ix ix_list (pv 2) pe_int (fun _ _ => rfl)) (pv 4) (fun _ _ => rfl)) pe_int (fun _ _ => rfl)) (nomark _)) (pw_or1 (pt_not (pt_val (C8.pe_c cLawSame hr (by decide) (by rfl) (pa_cons (C8.pe_c cLawReadRows hr (by decide) (by rfl) (pa_cons (pv 5) pa_nil)) (pa_cons (pe_dget (hu_of hr) (pe_ix ix_list (pv 2) pe_int (fun _ _ => rfl)) (pv 4) (fun _ _ => rfl)) pa_nil))))))))
        (pss_one (ps_ret pe_bl))
        pss_nil))
      pss_nil)))))
    (pss_cons (ps_lock (ps_for PassesOwn.never rfl (pi_keys (pe_ix ix_list (pv 2) pe_int (fun _ _ => rfl))) (pg_name (i := 4) scLaw.nd rfl (Or.inr rfl))
    (pss_cons (ps_asg (pe_dget (hu_of hr) (pe_ix ix_list (pv 2) pe_int (fun _ _ => rfl)) (pv 4) (fun _ _ => rfl)) (pg_tup (by rfl) (pgs_cons (pg_name (i := 6) scLaw.nd rfl (Or.inl rfl)) (pgs_cons (pg_name (i := 7) scLaw.nd rfl (Or.inl rfl)) (pgs_cons (pg_name (i := 8) scLaw.nd rfl (Or.inr rfl)) (pgs_cons (pg_name (i := 9) scLaw.nd rfl (Or.inl rfl)) pgs_nil))))))
      (pss_cons (ps_set (i := 5) scLaw.nd rfl (Or.inl rfl) (C8.pe_c cStructureShape hr (by decide) (by rfl) (pa_cons (pv 3) (pa_cons (pv 4) pa_nil))))
      (pss_one (ps_if (pt_cmpR op_notN (pv 5) pe_non (nomark _))
      (pss_cons (ps_if (pt_cmpR op_ne (pe_callB call_len_seq (by rfl) T.len PySem.boot_len (pa_cons (pv 5) pa_nil)) (pe_op op_mul (pv 8) (pv 9)) (nomark _))
        (pss_one (ps_ret pe_bl))
        pss_nil)
        (pss_cons (ps_set (i := 10) scLaw.nd rfl (Or.inl rfl) pe_int)
        (pss_cons (ps_for PassesOwn.never rfl (pi_range1 (by rfl) T.range (pa_cons (pv 8) pa_nil)) (pg_name (i := 11) scLaw.nd rfl (Or.inr rfl))
        (pss_cons (ps_set (i := 12) scLaw.nd rfl (Or.inr rfl) (C8.pe_c cLawReadRows hr (by decide) (by rfl) (pa_cons (pe_slice sl_list (pv 5) (po_some (pe_op op_mul (pv 9) (pv 11))) (po_some (pe_op op_add (pe_op op_mul (pv 9) (pv 11)) (pv 9)))) pa_nil)))
          (pss_cons (ps_if (PW.pt (pw_or (pt_cmpR op_isN (pv 12) pe_non (nomark _)) (pw_or1 (pt_not (pt_val (C8.pe_c cLawSame hr (by decide) (by rfl) (pa_cons (pv 12) (pa_cons (pe_lc (own := [("_law_row", 13)]) (g := gName 13) (tt := _) rfl scLaw.nd (pi_list (pe_dget (hu_of hr) (pe_ix ix_list (pv 2) pe_int (fun _ _ => rfl)) (pv 6) (fun _ _ => rfl))) (blkOk_by (own := [("_law_row", 13)]) (N := NLaw) (sc := defScope sLaw) (by decide +kernel)) (fun _ _ _ _ _ => pg_name (i := 13) scLaw.nd rfl (Or.inl rfl)) (fun _ _ _ _ _ => pts_one (pt_cmpR (opInDK K (hu65 hr)) (pv 13) (pv 12) (by rfl))) (fun _ _ _ _ _ => (pv 13))) pa_nil))))))))
          (pss_one (ps_ret pe_bl))
          pss_nil)
          (pss_cons (ps_set (i := 10) scLaw.nd rfl (Or.inl rfl) (pe_op op_add (pv 10) (pe_callB call_len_seq (by rfl) T.len PySem.boot_len (pa_cons (pv 12) pa_nil))))
          (pss_one (ps_if (pt_cmpR op_gt (pe_callB call_len_seq (by rfl) T.len PySem.boot_len (pa_cons (pe_lc (own := [("_law_row", 13)]) (g := gName 13) (tt := _) rfl scLaw.nd (pi_list (pv 12)) (blkOk_by (own := [("_law_row", 13)]) (N := NLaw) (sc := defScope sLaw) (by decide +kernel)) (fun _ _ _ _ _ => pg_name (i := 13) scLaw.nd rfl (Or.inl rfl)) (fun _ _ _ _ _ => pts_one (pt_cmpR op_ne (C8.pe_c cBucketOfValues hr (by decide) (by rfl) (pa_cons (C8.pe_c cLawValuesOf hr (by decide) (by rfl) (pa_cons (pv 2) (pa_cons (pv 4) (pa_cons (pv 13) pa_nil)))) (pa_cons (pv 8) pa_nil))) (pv 11) (nomark _))) (fun _ _ _ _ _ => (pv 13))) pa_nil)) pe_int (nomark _))
          (pss_one (ps_ret pe_bl))
          pss_nil))))))
        (pss_one (ps_if (pt_cmpR op_ne (pv 10) (pe_callB call_len_seq (by rfl) T.len PySem.boot_len (pa_cons (pe_dget (hu_of hr) (pe_ix ix_list (pv 2) pe_int (fun _ _ => rfl)) (pv 6) (fun _ _ => rfl)) pa_nil)) (nomark _))
        (pss_one (ps_ret pe_bl))
        pss_nil)))))
      pss_nil))))))
    (pss_one (ps_ret pe_bl))))))), ?_⟩
    refine ⟨_, rfl, a, ns, rfl, hs, fun H1 d ds s1 nd hd => ⟨sz2, fun st nst => ?_⟩⟩
    have g0 : Gen K (upd H1 st (.lst [.ref d, .int 20])) st (d, ds) := ⟨⟨20, upd_same⟩, Same.seq (same_new nst) (SqL.of hd), fun z => by
      have z : d = st := z
      rw [← z, hd] at nst
      cases nst⟩
    refine ⟨_, rfl, st, (d, ds), rfl, g0, fun H2 L sh hL good => ?_⟩
    obtain ⟨gl1, gl2⟩ := good_len good
    refine ⟨_, rfl, L, sh, rfl, hL, good, fun H3 p vs' rs rs2 ss s3 np hp pa prs prs2 pss => fun x dx nx ndx hne => ?_⟩
    have hn1 : (rs.map Rel.name).Nodup := (prs.map _).nodup_iff.mpr good.ok.rn
    have hn2 : (rs2.map Rel.name).Nodup := (prs2.map _).nodup_iff.mpr good.ok.rn
    have hn3 : (ss.map Stc.name).Nodup := (pss.map _).nodup_iff.mpr good.ok.sn
    have ie := items_end (rs := rs) (rs2 := rs2) (ss := ss) hn2 (fun r h => prs2.mem_iff.mpr (prs.mem_iff.mp h))
    have hrinc : ∀ r ∈ rs, RelInc r := fun r h => good.inc r (prs.mem_iff.mp h)
    refine ⟨H3, x, dx, p, vs', itemsOf rs rs2 ss, rfl, upd_same, Same.trans (same_new ndx) (same_new (by rw [upd_ne hne.symm]; exact nx)), nx, SqL.of hp, pa, items_ok hn1 hn2 (fun r h => prs.mem_iff.mpr (prs2.mem_iff.mp h)) hn3 (by rw [prs.length_eq]; omega) (by rw [pss.length_eq]; omega) (fun r h => ?_), by rw [ie]; exact hn1, by rw [ie]; show rs.length ≤ 100; rw [prs.length_eq]; omega, by rw [ie]; exact hrinc, fun H4 s4 hSt => ⟨rfl, ?_⟩⟩
    · have h1 := prs2.mem_iff.mp h
      have h2 := good.inc r h1
      have h3 := good.ok.rels r h1
      exact ⟨h2.inc, Nat.le_trans h3.n24 (by decide), fun t ht => (h2.row t ht).2.2⟩
    rw [ie] at hSt
    have ok' : ShelfOk ⟨rs, ss⟩ := ⟨hn1, hn3, fun r h => good.ok.rels r (prs.mem_iff.mp h), fun s h => by
      have h1 := good.ok.stcs s (pss.mem_iff.mp h)
      obtain ⟨r, h2, h3⟩ := h1.rel
      exact ⟨⟨r, prs.mem_iff.mpr h2, h3⟩, h1.c4, h1.b0, h1.b16, h1.s8⟩⟩
    have hL4 := hL.same (Same.trans s3 s4)
    obtain ⟨dR, dF, dS, kR, kF, kS, hLl, hR, hF, hS, hne2, pR, pF, pS⟩ := hL4
    have db4 : DbAt K H4 dR dF dS sh := ⟨⟨kR, .of hR, pR⟩, ⟨kF, .of hF, pF⟩, ⟨kS, .of hS, pS⟩⟩
    -- the relations
    refine ⟨dR, .dK kR, hR, True.intro, fun od => ?_⟩
    have hLB : SqL K (upd H4 dR (.frz od (.dK kR))) L [.ref dR, .ref dF, .ref dS] := lk_list hR (SqL.of hLl)
    have dbB := lk_db (od := od) hR db4
    have stB := lk_st (od := od) hR hSt
    refine ⟨_, rfl, L, _, 0, _, rfl, rfl, hLB, atI_nat (j := 0) rfl, dR, od, rfl, .inl ⟨kR, upd_same, for_it walk_keys (fun i σ H' => ∃ y4 y5 y6 y7 y8 y9 y10 y11 y12 y13, σ = [some (.ref a), some (.ref st), some (.ref L), some (.ref x), y4, y5, y6, y7, y8, y9, y10, y11, y12, y13] ∧ Same (upd H4 dR (.frz od (.dK kR))) H')
      ⟨_, _, _, _, _, _, _, _, _, _, rfl, Same.refl _⟩ (fun i σ H' _ ⟨_, _, _, _, _, _, _, _, _, _, _, e⟩ => e _ _ upd_same) ?_ ?_⟩⟩
    · rintro i k' σ H' H'' hi ⟨y4, y5, y6, y7, y8, y9, y10, y11, y12, y13, rfl, sm⟩ ⟨rfl, k, v, hk, rfl⟩
      obtain ⟨r, hri, hE, _⟩ := paired_getL pR hk
      have hE : k = Sum.inr r.name := hE
      subst hE
      have hrm := List.mem_of_getElem? hri
      have okr := good.ok.rels r hrm
      refine ⟨_, rfl, _, rfl, x, ⟨rs, ss⟩, r, rfl, stB.same sm, ok', prs.mem_iff.mpr hrm, fun H6 s6 => ?_, fun H6 p6 ss6 s6 np6 hp6 hsh => ?_⟩
      · refine ⟨_, rfl, rfl, _, rfl, ite2 (fun t => absurd t (by decide)) (fun _ => ?_)⟩
        exact ⟨_, _, _, _, _, _, _, _, _, _, rfl, Same.trans sm s6⟩
      · obtain ⟨chunks, pB, hfl, hch, hle⟩ := hsh
        refine ⟨_, rfl, rfl, _, rfl, ite2 (fun _ => ?_) (fun t => absurd (by rw [decide_eq_false (fun z => nomatch z)]; rfl) t)⟩
        have sm6 := Same.trans sm s6
        have db6 := dbB.same sm6
        obtain ⟨v1, g1, t1, ct1, rfl, ht1, hct1, _⟩ := db6.r.get good.ok.rn hrm
        have hlen : ss6.length = r.room := by rw [paired_len pB, secsOf_len hle]
        refine ⟨_, rfl, p6, _, rfl, .inl (SqL.of hp6), _, rfl, L, _, 0, _, rfl, rfl, Same.seq sm6 hLB, atI_nat (j := 0) rfl, _, rfl, dR, _, rfl, g1, t1, _, 1, _, rfl, rfl, ht1, atI_nat (j := 1) rfl, rfl, _, rfl, ite2 (fun t => absurd t (by rw [hlen, decide_eq_true rfl]; decide)) (fun _ => ?_)⟩
        refine ⟨_, rfl, p6, ss6, chunks, r.room, rfl, SqL.of hp6, pB, hch, hle, Nat.le_trans okr.room (by decide), fun t ht => (okr.rows t (by rw [hfl]; exact ht)).2, by rw [← hfl]; exact Nat.le_trans okr.n24 (by decide), fun H7 q7 vs7 s7 nq7 hq7 pq7 => ?_⟩
        have sm7 := Same.trans sm6 s7
        have db7 := dbB.same sm7
        obtain ⟨v2, g2, af, rfl, hrows⟩ := db7.f.get good.ok.rn hrm
        refine ⟨_, rfl, L, _, 1, _, rfl, rfl, Same.seq sm7 hLB, atI_nat (j := 1) rfl, _, rfl, dF, _, rfl, g2, .ref q7, .ref af, rfl, sameD_lists ⟨vs7, SqL.of hq7, by rw [hfl]; exact pq7⟩ hrows (fun t ht => Nat.le_trans (okr.rows t ht).2.1 (by decide)) (Nat.le_trans okr.n24 (by decide)), fun H8 s8 => ?_⟩
        refine ⟨_, rfl, ite2 (fun t => absurd t (by decide)) (fun _ => ?_)⟩
        exact ⟨_, _, _, _, _, _, _, _, _, _, rfl, Same.trans sm7 s8⟩
    · rintro σ H' ⟨y4, y5, y6, y7, y8, y9, y10, y11, y12, y13, rfl, sm⟩
      refine ⟨sm _ _ upd_same, ?_⟩
      have sU := unlock_same hR sm
      generalize upd H' dR (.dK kR) = H5 at sU ⊢
      have hR5 := sU _ _ hR
      have hS5 := sU _ _ hS
      have db5 := db4.same sU
      have st5 := hSt.same sU
      -- the structures
      refine ⟨dS, .dK kS, hS5, True.intro, fun od2 => ?_⟩
      have hLC : SqL K (upd H5 dS (.frz od2 (.dK kS))) L [.ref dR, .ref dF, .ref dS] := lk_list hS5 (SqL.of (sU _ _ hLl))
      have dbC := lk_db (od := od2) hS5 db5
      have stC := lk_st (od := od2) hS5 st5
      refine ⟨_, rfl, L, _, 2, _, rfl, rfl, hLC, atI_nat (j := 2) rfl, dS, od2, rfl, .inl ⟨kS, upd_same, for_it walk_keys (fun i σ H' => ∃ y4 y5 y6 y7 y8 y9 y10 y11 y12 y13, σ = [some (.ref a), some (.ref st), some (.ref L), some (.ref x), y4, y5, y6, y7, y8, y9, y10, y11, y12, y13] ∧ Same (upd H5 dS (.frz od2 (.dK kS))) H')
        ⟨_, _, _, _, _, _, _, _, _, _, rfl, Same.refl _⟩ (fun i σ H' _ ⟨_, _, _, _, _, _, _, _, _, _, _, e⟩ => e _ _ upd_same) ?_ ?_⟩⟩
      · rintro i k' σ H' H'' hi ⟨y4, y5, y6, y7, y8, y9, y10, y11, y12, y13, rfl, sm⟩ ⟨rfl, k, v, hk, rfl⟩
        obtain ⟨s, hsi, hE, _⟩ := paired_getL pS hk
        have hE : k = Sum.inr s.name := hE
        subst hE
        have hsm := List.mem_of_getElem? hsi
        have oks := good.ok.stcs s hsm
        obtain ⟨r, hrm, hrn, hcols⟩ := oks.rel
        have okr := good.ok.rels r hrm
        have hb0 := oks.b0
        have hb16 := oks.b16
        have hs8 := oks.s8
        have db' := dbC.same sm
        obtain ⟨v1, g1, t1, ct1, rfl, ht1, hct1⟩ := db'.s.get good.ok.sn hsm
        refine ⟨_, rfl, L, _, 2, _, rfl, rfl, Same.seq sm hLC, atI_nat (j := 2) rfl, _, rfl, dS, _, rfl, g1, ?_⟩
        refine ⟨t1, _, rfl, ht1, rfl, _, _, rfl, _, _, rfl, _, _, rfl, _, _, rfl, rfl, ?_⟩
        refine ⟨_, rfl, _, rfl, x, ⟨rs, ss⟩, r, s, rfl, stC.same sm, ok', pss.mem_iff.mpr hsm, prs.mem_iff.mpr hrm, hrn, hcols, fun H6 s6 => ?_, fun H6 p6 ss6 s6 np6 hp6 hsh => ?_⟩
        · refine ⟨_, rfl, rfl, _, rfl, ite2 (fun t => absurd t (by decide)) (fun _ => ?_)⟩
          exact ⟨_, _, _, _, _, _, _, _, _, _, rfl, Same.trans sm s6⟩
        · obtain ⟨cs, hcl, pB, hcs⟩ := hsh
          refine ⟨_, rfl, rfl, _, rfl, ite2 (fun _ => ?_) (fun t => absurd (by rw [decide_eq_false (fun z => nomatch z)]; rfl) t)⟩
          have sm6 := Same.trans sm s6
          have hsec : ∀ y ∈ cs.map fun c => secsOf c s.sectors, y.length = s.sectors := fun y hy => by
            obtain ⟨c, hc, rfl⟩ := List.mem_map.mp hy
            obtain ⟨j, hj⟩ := List.mem_iff_getElem?.mp hc
            exact secsOf_len (hcs j c hj).2.2
          have hlen : ss6.length = s.buckets * s.sectors := by rw [paired_len pB, flat_lenA hsec, List.length_map, hcl]
          refine ⟨_, rfl, p6, _, rfl, .inl (SqL.of hp6), _, rfl, _, rfl, _, _, rfl, rfl, .inl ⟨by omega, by omega⟩, rfl, _, rfl, ite2 (fun t => absurd t (by rw [hlen, decide_eq_true (by rw [Int.natCast_mul])]; decide)) (fun _ => ?_)⟩
          refine ⟨_, rfl, _, rfl, by omega, by omega, ?_⟩
          rw [Int.toNat_natCast]
          refine for_range (lo := 0) (n := s.buckets) (fun k σ H8 => ∃ y11 y12 y13, σ = [some (.ref a), some (.ref st), some (.ref L), some (.ref x), some (.str s.name), some (.ref p6), some (.str s.rel), some (.ref ct1), some (.int (s.buckets : Int)), some (.int (s.sectors : Int)), some (.int ((totF r s k : Nat) : Int)), y11, y12, y13] ∧ Same H6 H8) ⟨_, _, _, rfl, Same.refl _⟩ ?_ ?_
          · rintro k σ H8 hk2 ⟨y11, y12, y13, rfl, sm8⟩
            have hk3 : k < cs.length := by omega
            obtain ⟨c, hck⟩ : ∃ c, cs[k]? = some c := ⟨_, List.getElem?_eq_getElem hk3⟩
            obtain ⟨hbr, hcok, hcle⟩ := hcs k c hck
            have hp8 := sm8 _ _ hp6
            have ecut : cutV ss6 (some ((s.sectors : Int) * ((0 : Int) + (k : Int)))) (some ((s.sectors : Int) * ((0 : Int) + (k : Int)) + (s.sectors : Int))) = (ss6.drop (s.sectors * k)).take s.sectors := by
              have e1 : (s.sectors : Int) * ((0 : Int) + (k : Int)) = ((s.sectors * k : Nat) : Int) := by rw [Int.zero_add, Int.natCast_mul]
              have e2 : (s.sectors : Int) * ((0 : Int) + (k : Int)) + (s.sectors : Int) = ((s.sectors * k + s.sectors : Nat) : Int) := by rw [e1, Int.natCast_add]
              rw [e2, e1, cut_at]
            have pcut : Paired (BytesA H8) ((ss6.drop (s.sectors * k)).take s.sectors) (secsOf c s.sectors) := by
              have h1 := paired_take s.sectors (paired_drop (s.sectors * k) pB)
              rw [flat_part (k := k) (x := secsOf c s.sectors) hsec (by rw [List.getElem?_map, hck]; rfl)] at h1
              exact Paired.mapP h1 fun _ _ z => z.same sm8
            refine ⟨_, rfl, _, rfl, _, rfl, _, _, rfl, rfl, .inl ⟨by omega, by omega⟩, _, rfl, _, rfl, _, rfl, _, _, rfl, rfl, .inl ⟨by omega, by omega⟩, _, rfl, _, _, rfl, rfl, _, rfl, p6, ss6, rfl, SqL.of hp8, fun P7 nP7 => ?_⟩
            rw [ecut]
            have sP7 := same_new (o := .lst ((ss6.drop (s.sectors * k)).take s.sectors)) nP7
            have hbl := bRows_len r s k
            have n24 := okr.n24
            refine ⟨P7, _, c, s.sectors, rfl, SqL.of upd_same, Paired.mapP pcut fun _ _ z => z.same sP7, hcok, hcle, by omega, fun t ht => (okr.rows t (bRows_mem (by rw [hbr]; exact ht)).1).2, by rw [← hbr]; omega, fun H9 q9 vs9 s9 nq9 hq9 pq9 => ?_⟩
            rw [← hbr] at pq9
            have sm9 := Same.trans sm6 (Same.trans sm8 (Same.trans sP7 s9))
            have db9 := dbC.same sm9
            refine ⟨_, rfl, rfl, _, rfl, ite2 (fun t => nomatch (of_decide_eq_true t)) (fun _ => ?_)⟩
            obtain ⟨v2, g2, af, rfl, wsF, hwsF, pwsF⟩ := db9.f.get good.ok.rn hrm
            rw [hrn] at g2
            refine ⟨_, rfl, _, rfl, L, _, 1, _, rfl, rfl, Same.seq sm9 hLC, atI_nat (j := 1) rfl, _, rfl, dF, _, rfl, g2, af, rfl, ⟨_, hwsF⟩, fun D nD => ?_⟩
            have hokb : ∀ t ∈ bRows r s k, ∀ z ∈ t, CellOk z := fun t ht => (okr.rows t (bRows_mem ht).1).2.2
            refine lc_list (K := K) (a := af) (xs := wsF) (fun j H10 => Same H9 H10 ∧ ∃ acc, H10 D = some (.lst acc) ∧ Paired (RowA K H9) acc ((r.rows.take j).filter fun row => decide (row ∈ bRows r s k))) ⟨same_new nD, [], upd_same, .nil⟩ (fun j H10 _ z => Same.seq z.1 hwsF) ?_ ?_
            · rintro j xv H10 hxj ⟨sm10, acc, hD, pacc⟩
              obtain ⟨row, hrow, ra, rfl, hra⟩ := paired_getL pwsF hxj
              have hrowm := List.mem_of_getElem? hrow
              refine ⟨rfl, ?_⟩
              refine ⟨_, rfl, _, rfl, rowD row, (bRows r s k).map rowD, dp_row ⟨ra, rfl, Same.tup sm10 hra⟩, dp_rows ⟨vs9, SqL.of (sm10 _ _ hq9), rowsA_same sm10 pq9⟩, shaped_row (okr.rows row hrowm).2.2, shaped_rows hokb, _, rfl, ?_⟩
              rw [any_row]
              have lacc : acc.length ≤ 24 := by
                rw [paired_len pacc]
                refine Nat.le_trans (List.length_filter_le _ _) ?_
                rw [List.length_take]
                omega
              refine ite2 (fun t => ?_) (fun t => ?_)
              · refine ⟨_, rfl, acc, hD, sz_lt (by omega), same_mut sm10 nD, acc ++ [.ref ra], upd_same, ?_⟩
                rw [take_name hrow, List.filter_append]
                have e : [row].filter (fun row => decide (row ∈ bRows r s k)) = [row] := by rw [List.filter_cons, if_pos t]; rfl
                rw [e]
                exact paired_app pacc (.cons ⟨ra, rfl, hra⟩ .nil)
              · refine ⟨sm10, acc, hD, ?_⟩
                rw [take_name hrow, List.filter_append]
                have e : [row].filter (fun row => decide (row ∈ bRows r s k)) = [] := by rw [List.filter_cons, if_neg t]; rfl
                rw [e, List.append_nil]
                exact pacc
            · rintro H10 ⟨sm10, acc, hD, pacc⟩
              rw [paired_len pwsF, List.take_length, bRows_in] at pacc
              have l1000 : (bRows r s k).length ≤ 1000 := by omega
              refine ⟨.ref q9, .ref D, rfl, sameD_lists ⟨vs9, SqL.of (sm10 _ _ hq9), rowsA_same sm10 pq9⟩ ⟨acc, SqL.of hD, rowsA_same sm10 pacc⟩ (fun t ht => Nat.le_trans (okr.rows t (bRows_mem ht).1).2.1 (by decide)) l1000, fun H11 s11 => ?_⟩
              refine ⟨_, rfl, ite2 (fun t => absurd t (by decide)) (fun _ => ?_)⟩
              have sm11 := Same.trans sm10 s11
              have hq11 := sm11 _ _ hq9
              refine ⟨_, rfl, _, rfl, q9, _, rfl, .inl (SqL.of hq11), _, _, rfl, rfl, ?_⟩
              refine ⟨_, rfl, q9, rfl, ⟨_, SqL.of hq11⟩, fun D2 nD2 => ?_⟩
              refine lc_list (K := K) (a := q9) (xs := vs9) (fun j H12 => Same H11 H12 ∧ H12 D2 = some (.lst [])) ⟨same_new nD2, upd_same⟩ (fun j H12 _ z => SqL.of (z.1 _ _ hq11)) ?_ ?_
              · rintro j xv H12 hxj ⟨sm12, hD2⟩
                obtain ⟨row, hrow, ra, rfl, hra⟩ := paired_getL pq9 hxj
                obtain ⟨hrowm, hbk⟩ := bRows_mem (List.mem_of_getElem? hrow)
                have sm12' := Same.trans sm9 (Same.trans sm11 sm12)
                have law12 : LawAt K H12 L sh := ⟨dR, dF, dS, Same.seq sm12' hLC, dbC.same sm12'⟩
                obtain ⟨hrl, hrok⟩ := okr.rows row hrowm
                refine ⟨rfl, ?_⟩
                refine ⟨_, rfl, _, rfl, _, rfl, L, ra, row, sh, r, s, rfl, law12, good.ok, hsm, hrm, hrn, hcols, Same.tup (Same.trans sm11 sm12) hra, hrl, fun H13 pv13 s13 hpv => ?_⟩
                refine ⟨_, rfl, pv13, _, s.buckets, rfl, hpv, valsOf_ok oks.c4 hrok, hb0, fun H14 s14 => ?_⟩
                have hbk' : bktF (valsOf r.cols s.cols row) s.buckets = k := hbk
                refine ⟨_, rfl, rfl, _, rfl, ite2 (fun t => absurd t (by rw [hbk', Int.zero_add, decide_eq_true rfl]; decide)) (fun _ => ?_)⟩
                exact ⟨Same.trans sm12 (Same.trans s13 s14), s14 _ _ (s13 _ _ hD2)⟩
              · rintro H12 ⟨sm12, hD2⟩
                refine ⟨D2, _, rfl, .inl (SqL.of hD2), _, _, rfl, rfl, _, rfl, ite2 (fun t => absurd t (by decide)) (fun _ => ?_)⟩
                refine ⟨some (.int ((0 : Int) + (k : Int))), some (.ref q9), y13, ?_, Same.trans sm8 (Same.trans sP7 (Same.trans s9 (Same.trans sm11 sm12)))⟩
                have e : ((totF r s (k + 1) : Nat) : Int) = ((totF r s k : Nat) : Int) + ((vs9.length : Nat) : Int) := by
                  rw [paired_len pq9]
                  show ((totF r s k + (bRows r s k).length : Nat) : Int) = _
                  rw [Int.natCast_add]
                rw [e]
                rfl
          · rintro σ H8 ⟨y11, y12, y13, rfl, sm8⟩
            have sm9 := Same.trans sm6 sm8
            have db9 := dbC.same sm9
            obtain ⟨v2, g2, af, rfl, wsF, hwsF, pwsF⟩ := db9.f.get good.ok.rn hrm
            rw [hrn] at g2
            refine ⟨_, rfl, _, rfl, L, _, 1, _, rfl, rfl, Same.seq sm9 hLC, atI_nat (j := 1) rfl, _, rfl, dF, _, rfl, g2, af, _, rfl, .inl hwsF, rfl, _, rfl, ite2 (fun t => absurd t (by rw [totF_all hb0, paired_len pwsF, decide_eq_true rfl]; decide)) (fun _ => ?_)⟩
            exact ⟨_, _, _, _, _, _, _, _, _, _, rfl, sm9⟩
      · rintro σ H' ⟨y4, y5, y6, y7, y8, y9, y10, y11, y12, y13, rfl, sm⟩
        exact ⟨sm _ _ upd_same, q _⟩
end
end K9

set_option Elab.async false
set_option linter.all false
set_option maxRecDepth 100000
set_option maxHeartbeats 0
/-! The head: facts by names, the chain of promises, the law. Printed by gen_head.py. -/
namespace K9
open PySem PySem.Spec PyProof.Rows L2
def dValueKey : He.DefD := ⟨("value_key", none), "value_key", "value_key", defArgs sValueKey, defBody sValueKey, defScope sValueKey, [], []⟩
def dRowKey : He.DefD := ⟨("row_key", none), "row_key", "row_key", defArgs sRowKey, defBody sRowKey, defScope sRowKey, [], []⟩
def dWriteNumber : He.DefD := ⟨("write_number", none), "write_number", "write_number", defArgs sWriteNumber, defBody sWriteNumber, defScope sWriteNumber, [], []⟩
def dWriteInteger : He.DefD := ⟨("write_integer", none), "write_integer", "write_integer", defArgs sWriteInteger, defBody sWriteInteger, defScope sWriteInteger, [], []⟩
def dWriteList : He.DefD := ⟨("write_list", none), "write_list", "write_list", defArgs sWriteList, defBody sWriteList, defScope sWriteList, [], []⟩
def dWriteString : He.DefD := ⟨("write_string", none), "write_string", "write_string", defArgs sWriteString, defBody sWriteString, defScope sWriteString, [], []⟩
def dWriteValue : He.DefD := ⟨("write_value", none), "write_value", "write_value", defArgs sWriteValue, defBody sWriteValue, defScope sWriteValue, [], []⟩
def dWriteRow : He.DefD := ⟨("write_row", none), "write_row", "write_row", defArgs sWriteRow, defBody sWriteRow, defScope sWriteRow, [], []⟩
def dSector : He.DefD := ⟨("_sector", none), "_sector", "_sector", defArgs sSector, defBody sSector, defScope sSector, [], []⟩
def dPack : He.DefD := ⟨("pack", none), "pack", "pack", defArgs sPack, defBody sPack, defScope sPack, [], []⟩
def dBucketOfValues : He.DefD := ⟨("bucket_of_values", none), "bucket_of_values", "bucket_of_values", defArgs sBucketOfValues, defBody sBucketOfValues, defScope sBucketOfValues, [], []⟩
def dValuesOf : He.DefD := ⟨("values_of", none), "values_of", "values_of", defArgs sValuesOf, defBody sValuesOf, defScope sValuesOf, [], []⟩
def dBucket : He.DefD := ⟨("bucket", none), "bucket", "bucket", defArgs sBucket, defBody sBucket, defScope sBucket, [], []⟩
def dFilled : He.DefD := ⟨("_filled", none), "_filled", "_filled", defArgs sFilled, defBody sFilled, defScope sFilled, [], []⟩
def dRelationShape : He.DefD := ⟨("relation_shape", none), "relation_shape", "relation_shape", defArgs sRelationShape, defBody sRelationShape, defScope sRelationShape, [], []⟩
def dRowsOfBuckets : He.DefD := ⟨("rows_of_buckets", none), "rows_of_buckets", "rows_of_buckets", defArgs sRowsOfBuckets, defBody sRowsOfBuckets, defScope sRowsOfBuckets, [], []⟩
def dStructureShape : He.DefD := ⟨("structure_shape", none), "structure_shape", "structure_shape", defArgs sStructureShape, defBody sStructureShape, defScope sStructureShape, [], []⟩
def dLawMix : He.DefD := ⟨("_law_mix", none), "_law_mix", "_law_mix", defArgs sLawMix, defBody sLawMix, defScope sLawMix, [], []⟩
def dLawDraws : He.DefD := ⟨("_law_draws", none), "_law_draws", "_law_draws", defArgs sLawDraws, defBody sLawDraws, defScope sLawDraws, [], []⟩
def dLawAt : He.DefD := ⟨("_law_at", none), "_law_at", "_law_at", defArgs sLawAt, defBody sLawAt, defScope sLawAt, [], []⟩
def dLawIsInteger : He.DefD := ⟨("_law_is_integer", none), "_law_is_integer", "_law_is_integer", defArgs sLawIsInteger, defBody sLawIsInteger, defScope sLawIsInteger, [], []⟩
def dLawSame : He.DefD := ⟨("_law_same", none), "_law_same", "_law_same", defArgs sLawSame, defBody sLawSame, defScope sLawSame, [], []⟩
def dLawNext : He.DefD := ⟨("_law_next", none), "_law_next", "_law_next", defArgs sLawNext, defBody sLawNext, defScope sLawNext, [], []⟩
def dLawText : He.DefD := ⟨("_law_text", none), "_law_text", "_law_text", defArgs sLawText, defBody sLawText, defScope sLawText, [], []⟩
def dLawValue : He.DefD := ⟨("_law_value", none), "_law_value", "_law_value", defArgs sLawValue, defBody sLawValue, defScope sLawValue, [], []⟩
def dLawFirst : He.DefD := ⟨("_law_first", none), "_law_first", "_law_first", defArgs sLawFirst, defBody sLawFirst, defScope sLawFirst, [], []⟩
def dLawOrder : He.DefD := ⟨("_law_order", none), "_law_order", "_law_order", defArgs sLawOrder, defBody sLawOrder, defScope sLawOrder, [], []⟩
def dLawSorted : He.DefD := ⟨("_law_sorted", none), "_law_sorted", "_law_sorted", defArgs sLawSorted, defBody sLawSorted, defScope sLawSorted, [], []⟩
def dLawSmall : He.DefD := ⟨("_law_small", none), "_law_small", "_law_small", defArgs sLawSmall, defBody sLawSmall, defScope sLawSmall, [], []⟩
def dLawShelf : He.DefD := ⟨("_law_shelf", none), "_law_shelf", "_law_shelf", defArgs sLawShelf, defBody sLawShelf, defScope sLawShelf, [], []⟩
def dLawShelfItems : He.DefD := ⟨("_law_shelf_items", none), "_law_shelf_items", "_law_shelf_items", defArgs sLawShelfItems, defBody sLawShelfItems, defScope sLawShelfItems, [], []⟩
def dLawValuesOf : He.DefD := ⟨("_law_values_of", none), "_law_values_of", "_law_values_of", defArgs sLawValuesOf, defBody sLawValuesOf, defScope sLawValuesOf, [], []⟩
def dLawReadRows : He.DefD := ⟨("_law_read_rows", none), "_law_read_rows", "_law_read_rows", defArgs sLawReadRows, defBody sLawReadRows, defScope sLawReadRows, [], []⟩
def dLaw : He.DefD := ⟨("law", none), "law", "law", defArgs sLaw, defBody sLaw, defScope sLaw, [], []⟩
def dStateInit : He.DefD := ⟨("State", some "__init__"), "__init__", "State.__init__", defArgs sStateInit, defBody sStateInit, defScope sStateInit, [.adr (He.dflAt ("State", some "__init__") 0)], []⟩
def dStatePut : He.DefD := ⟨("State", some "_put"), "_put", "State._put", defArgs sStatePut, defBody sStatePut, defScope sStatePut, [], []⟩
def dStateOrderFacts : He.DefD := ⟨("State", some "_order_facts"), "_order_facts", "State._order_facts", defArgs sStateOrderFacts, defBody sStateOrderFacts, defScope sStateOrderFacts, [], []⟩
def dStateHas : He.DefD := ⟨("State", some "has"), "has", "State.has", defArgs sStateHas, defBody sStateHas, defScope sStateHas, [], []⟩
def dReaderInit : He.DefD := ⟨("Reader", some "__init__"), "__init__", "Reader.__init__", defArgs sReaderInit, defBody sReaderInit, defScope sReaderInit, [], []⟩
def dReaderReadByte : He.DefD := ⟨("Reader", some "read_byte"), "read_byte", "Reader.read_byte", defArgs sReaderReadByte, defBody sReaderReadByte, defScope sReaderReadByte, [], []⟩
def dReaderReadChoice : He.DefD := ⟨("Reader", some "read_choice"), "read_choice", "Reader.read_choice", defArgs sReaderReadChoice, defBody sReaderReadChoice, defScope sReaderReadChoice, [], []⟩
def dReaderReadNumber : He.DefD := ⟨("Reader", some "read_number"), "read_number", "Reader.read_number", defArgs sReaderReadNumber, defBody sReaderReadNumber, defScope sReaderReadNumber, [], []⟩
def dReaderReadInteger : He.DefD := ⟨("Reader", some "read_integer"), "read_integer", "Reader.read_integer", defArgs sReaderReadInteger, defBody sReaderReadInteger, defScope sReaderReadInteger, [], []⟩
def dReaderReadCount : He.DefD := ⟨("Reader", some "read_count"), "read_count", "Reader.read_count", defArgs sReaderReadCount, defBody sReaderReadCount, defScope sReaderReadCount, [], []⟩
def dReaderReadCharacter : He.DefD := ⟨("Reader", some "read_character"), "read_character", "Reader.read_character", defArgs sReaderReadCharacter, defBody sReaderReadCharacter, defScope sReaderReadCharacter, [], []⟩
def dReaderReadString : He.DefD := ⟨("Reader", some "read_string"), "read_string", "Reader.read_string", defArgs sReaderReadString, defBody sReaderReadString, defScope sReaderReadString, [], []⟩
def dReaderReadValue : He.DefD := ⟨("Reader", some "read_value"), "read_value", "Reader.read_value", defArgs sReaderReadValue, defBody sReaderReadValue, defScope sReaderReadValue, [], []⟩
def dReaderReadRow : He.DefD := ⟨("Reader", some "read_row"), "read_row", "Reader.read_row", defArgs sReaderReadRow, defBody sReaderReadRow, defScope sReaderReadRow, [], []⟩
def fnA : List He.DefD := [dValueKey, dRowKey, dWriteNumber, dWriteInteger, dWriteList, dWriteString, dWriteValue, dWriteRow, dSector, dPack, dBucketOfValues, dValuesOf, dBucket, dFilled, dRelationShape, dRowsOfBuckets, dStructureShape, dLawMix, dLawDraws, dLawAt, dLawIsInteger, dLawSame, dLawNext, dLawText]
def fnB : List He.DefD := [dLawValue, dLawFirst, dLawOrder, dLawSorted, dLawSmall, dLawShelf, dLawShelfItems, dLawValuesOf, dLawReadRows, dLaw, dStateInit, dStatePut, dStateOrderFacts, dStateHas, dReaderInit, dReaderReadByte, dReaderReadChoice, dReaderReadNumber, dReaderReadInteger, dReaderReadCount, dReaderReadCharacter, dReaderReadString, dReaderReadValue, dReaderReadRow]
def fnH : List He.DefD := fnA ++ fnB
def fa0 : List He.Fa := [.glo "value_key", .glo "row_key", .glo "write_number", .glo "write_integer", .glo "write_list", .glo "write_string", .glo "write_value", .glo "write_row", .glo "_sector", .glo "pack", .glo "bucket_of_values", .glo "values_of", .glo "bucket", .glo "_filled", .glo "relation_shape", .glo "rows_of_buckets", .glo "structure_shape", .glo "_law_mix", .glo "_law_draws", .glo "_law_at", .glo "_law_is_integer", .glo "_law_same", .glo "_law_next", .glo "_law_text", .glo "_law_value", .glo "_law_first", .glo "_law_order", .glo "_law_sorted", .glo "_law_small", .glo "_law_shelf"]
def fa1 : List He.Fa := [.glo "_law_shelf_items", .glo "_law_values_of", .glo "_law_read_rows", .glo "law", .glo "State", .glo "Reader", .glo "EMPTY", .free "isinstance", .free "int", .free "bool", .free "str", .free "list", .free "tuple", .free "len", .free "range", .free "sorted", .free "min", .free "abs", .free "ord", .int "SECTOR" 64, .int "NUMBER_BYTES" 60, .str "BEFORE_PERCENT" befS, .str "AFTER_PERCENT" aftS, .cls "State", .cls "Reader", .noat "State" "relations", .noat "State" "facts", .noat "State" "structures", .noat "State" "layouts", .noat "Reader" "data"]
def fa2 : List He.Fa := [.noat "Reader" "at", .meth "State" "_put", .meth "State" "_order_facts", .meth "State" "has", .meth "Reader" "read_byte", .meth "Reader" "read_choice", .meth "Reader" "read_number", .meth "Reader" "read_integer", .meth "Reader" "read_count", .meth "Reader" "read_character", .meth "Reader" "read_string", .meth "Reader" "read_value", .meth "Reader" "read_row", .mkr "State", .mkr "Reader"]
def faH : List He.Fa := fa0 ++ fa1 ++ fa2
def exH (K : PySem.W.Frag) : Bool := He.tupB K "EMPTY" (List.replicate 64 (.int 0))
abbrev R : PySem.W.OpenRow := PySem.W.OpenLaw.row PySem.Challenge.rw_turnshelves_k09_whole_rows_lie_in_their
abbrev hk : PySem.W.Hook := He.hookX 4 faH fnH [] [] exH
def ob (s : PySem.W.SharedT) : He.AlX := He.obsX 4 faH fnH [] [] exH (HandSHeadRun.getT s)
theorem ob_eq (s : PySem.W.SharedT) : ob s = hk.obs s.abs := He.obsX_eq (HandSHeadRun.getT_eq s)
def names1 : List PySem.Str := ["_wall", "__name__", "ShelfError", "DamagedData", "value_key", "row_key", "State", "BEFORE_PERCENT", "AFTER_PERCENT", "NUMBER_BYTES", "write_number", "write_integer", "write_list", "write_string", "write_value", "write_row", "Reader", "SECTOR", "EMPTY", "_sector", "pack", "bucket_of_values", "values_of", "bucket", "_filled"]
def names2 : List PySem.Str := ["relation_shape", "rows_of_buckets", "structure_shape", "_law_mix", "_law_draws", "_law_at", "_law_is_integer", "_law_same", "_law_next", "_law_text", "_law_value", "_law_first", "_law_order", "_law_sorted", "_law_small", "_law_shelf", "_law_shelf_items", "_law_values_of", "_law_read_rows"]
def namesH : List PySem.Str := names1 ++ names2
theorem runH (w : World) : HandSHeadRun.RunEq R (PySem.W.view R.prog [49]) hk ob 20000 namesH w := by
  intro os
  kernel_rfl
theorem globH {K : PySem.W.Frag} {h : Heap} {mg : Str → Option Value} (X : K.In h) (G : h.Ns mainGlobals mg) (c : He.SaysD faH fnH K) (ex : exH K = true) : Glob K mg where
  isinstance := He.free_ok X G (c.fact 37 (f := .free "isinstance") rfl)
  int := He.free_ok X G (c.fact 38 (f := .free "int") rfl)
  bool := He.free_ok X G (c.fact 39 (f := .free "bool") rfl)
  str := He.free_ok X G (c.fact 40 (f := .free "str") rfl)
  list := He.free_ok X G (c.fact 41 (f := .free "list") rfl)
  tuple := He.free_ok X G (c.fact 42 (f := .free "tuple") rfl)
  len := He.free_ok X G (c.fact 43 (f := .free "len") rfl)
  range := He.free_ok X G (c.fact 44 (f := .free "range") rfl)
  sorted := He.free_ok X G (c.fact 45 (f := .free "sorted") rfl)
  min := He.free_ok X G (c.fact 46 (f := .free "min") rfl)
  abs := He.free_ok X G (c.fact 47 (f := .free "abs") rfl)
  ord := He.free_ok X G (c.fact 48 (f := .free "ord") rfl)
  cSECTOR := by
    obtain ⟨t, e⟩ := He.int_ok X G (c.fact 49 (f := .int "SECTOR" 64) rfl)
    exact ⟨_, e, t, rfl⟩
  cNUMBER_BYTES := by
    obtain ⟨t, e⟩ := He.int_ok X G (c.fact 50 (f := .int "NUMBER_BYTES" 60) rfl)
    exact ⟨_, e, t, rfl⟩
  cBEFORE_PERCENT := by
    obtain ⟨t, e⟩ := He.str_ok X G (c.fact 51 (f := .str "BEFORE_PERCENT" befS) rfl)
    exact ⟨_, e, t, rfl⟩
  cAFTER_PERCENT := by
    obtain ⟨t, e⟩ := He.str_ok X G (c.fact 52 (f := .str "AFTER_PERCENT" aftS) rfl)
    exact ⟨_, e, t, rfl⟩
  cEMPTY := ⟨_, (He.glo_ok X G (c.fact 36 (f := .glo "EMPTY") rfl)), rfl⟩
  sEMPTY := fun H => by
    have h := He.tupB_ok ex H
    rw [List.map_replicate] at h
    exact h
theorem stH {K : PySem.W.Frag} (c : He.SaysD faH fnH K) : StCls K := ⟨(He.cls_ok (c.fact 53 (f := .cls "State") rfl)), He.noat_ok (c.fact 55 (f := .noat "State" "relations") rfl), He.noat_ok (c.fact 56 (f := .noat "State" "facts") rfl), He.noat_ok (c.fact 57 (f := .noat "State" "structures") rfl), He.noat_ok (c.fact 58 (f := .noat "State" "layouts") rfl)⟩
theorem rdH {K : PySem.W.Frag} (c : He.SaysD faH fnH K) : RdCls K := ⟨(He.cls_ok (c.fact 54 (f := .cls "Reader") rfl)), He.noat_ok (c.fact 59 (f := .noat "Reader" "data") rfl), He.noat_ok (c.fact 60 (f := .noat "Reader" "at") rfl)⟩
theorem bindsSI {K : PySem.W.Frag} {dvs : List V} {f : Addr} {fd : FuncData} (F : FunD K "__init__" "State.__init__" (defArgs sStateInit) (defBody sStateInit) (defScope sStateInit) dvs [] f fd) (hd : dvs.length = 1) : Binds K fd PStateInit [] := by
  obtain ⟨ds, v, b⟩ := F.binds1 (ps := PStateInit) 2 1 (fun z => by rw [z] at hd; cases hd) (by rw [hd]; rfl) fun T kV doc pm an cdv ct us its h1 h2 => (match us, its, h1, h2.trans hd with | [_, _], [_], _, _ => ⟨_, rfl, rfl⟩)
  rw [List.drop_eq_nil_of_le (by omega)] at v
  cases v
  exact b
theorem factsH {P : Program} {w : World} {K : PySem.W.Frag} {h : Heap} {mg : Str → Option Value} {f : Addr} (X : K.In h) (G : h.Ns mainGlobals mg) (hfa : mg ("law" : Str) = some (.ref f)) (c : He.SaysD faH fnH K) (ex : exH K = true) :
    ∃ fd : FuncData, (∀ (s : Shared) (v : Value), BindsTo s fd ⟨[v], []⟩ [("_law_script", v)]) ∧ ∀ base : Heap, K.In base → base.Ns mainGlobals mg → FnOk P w K mg base C8.CX0 12 f fd ["_law_script"] (spLaw K) := by
  obtain ⟨fdValueKey, FValueKey⟩ := c.def_ 0 (d := dValueKey) rfl
  obtain ⟨fdRowKey, FRowKey⟩ := c.def_ 1 (d := dRowKey) rfl
  obtain ⟨fdWriteNumber, FWriteNumber⟩ := c.def_ 2 (d := dWriteNumber) rfl
  obtain ⟨fdWriteInteger, FWriteInteger⟩ := c.def_ 3 (d := dWriteInteger) rfl
  obtain ⟨fdWriteList, FWriteList⟩ := c.def_ 4 (d := dWriteList) rfl
  obtain ⟨fdWriteString, FWriteString⟩ := c.def_ 5 (d := dWriteString) rfl
  obtain ⟨fdWriteValue, FWriteValue⟩ := c.def_ 6 (d := dWriteValue) rfl
  obtain ⟨fdWriteRow, FWriteRow⟩ := c.def_ 7 (d := dWriteRow) rfl
  obtain ⟨fdSector, FSector⟩ := c.def_ 8 (d := dSector) rfl
  obtain ⟨fdPack, FPack⟩ := c.def_ 9 (d := dPack) rfl
  obtain ⟨fdBucketOfValues, FBucketOfValues⟩ := c.def_ 10 (d := dBucketOfValues) rfl
  obtain ⟨fdValuesOf, FValuesOf⟩ := c.def_ 11 (d := dValuesOf) rfl
  obtain ⟨fdBucket, FBucket⟩ := c.def_ 12 (d := dBucket) rfl
  obtain ⟨fdFilled, FFilled⟩ := c.def_ 13 (d := dFilled) rfl
  obtain ⟨fdRelationShape, FRelationShape⟩ := c.def_ 14 (d := dRelationShape) rfl
  obtain ⟨fdRowsOfBuckets, FRowsOfBuckets⟩ := c.def_ 15 (d := dRowsOfBuckets) rfl
  obtain ⟨fdStructureShape, FStructureShape⟩ := c.def_ 16 (d := dStructureShape) rfl
  obtain ⟨fdLawMix, FLawMix⟩ := c.def_ 17 (d := dLawMix) rfl
  obtain ⟨fdLawDraws, FLawDraws⟩ := c.def_ 18 (d := dLawDraws) rfl
  obtain ⟨fdLawAt, FLawAt⟩ := c.def_ 19 (d := dLawAt) rfl
  obtain ⟨fdLawIsInteger, FLawIsInteger⟩ := c.def_ 20 (d := dLawIsInteger) rfl
  obtain ⟨fdLawSame, FLawSame⟩ := c.def_ 21 (d := dLawSame) rfl
  obtain ⟨fdLawNext, FLawNext⟩ := c.def_ 22 (d := dLawNext) rfl
  obtain ⟨fdLawText, FLawText⟩ := c.def_ 23 (d := dLawText) rfl
  obtain ⟨fdLawValue, FLawValue⟩ := c.def_ 24 (d := dLawValue) rfl
  obtain ⟨fdLawFirst, FLawFirst⟩ := c.def_ 25 (d := dLawFirst) rfl
  obtain ⟨fdLawOrder, FLawOrder⟩ := c.def_ 26 (d := dLawOrder) rfl
  obtain ⟨fdLawSorted, FLawSorted⟩ := c.def_ 27 (d := dLawSorted) rfl
  obtain ⟨fdLawSmall, FLawSmall⟩ := c.def_ 28 (d := dLawSmall) rfl
  obtain ⟨fdLawShelf, FLawShelf⟩ := c.def_ 29 (d := dLawShelf) rfl
  obtain ⟨fdLawShelfItems, FLawShelfItems⟩ := c.def_ 30 (d := dLawShelfItems) rfl
  obtain ⟨fdLawValuesOf, FLawValuesOf⟩ := c.def_ 31 (d := dLawValuesOf) rfl
  obtain ⟨fdLawReadRows, FLawReadRows⟩ := c.def_ 32 (d := dLawReadRows) rfl
  obtain ⟨fdLaw, FLaw⟩ := c.def_ 33 (d := dLaw) rfl
  obtain ⟨fdStateInit, FStateInit⟩ := c.def_ 34 (d := dStateInit) rfl
  obtain ⟨fdStatePut, FStatePut⟩ := c.def_ 35 (d := dStatePut) rfl
  obtain ⟨fdStateOrderFacts, FStateOrderFacts⟩ := c.def_ 36 (d := dStateOrderFacts) rfl
  obtain ⟨fdStateHas, FStateHas⟩ := c.def_ 37 (d := dStateHas) rfl
  obtain ⟨fdReaderInit, FReaderInit⟩ := c.def_ 38 (d := dReaderInit) rfl
  obtain ⟨fdReaderReadByte, FReaderReadByte⟩ := c.def_ 39 (d := dReaderReadByte) rfl
  obtain ⟨fdReaderReadChoice, FReaderReadChoice⟩ := c.def_ 40 (d := dReaderReadChoice) rfl
  obtain ⟨fdReaderReadNumber, FReaderReadNumber⟩ := c.def_ 41 (d := dReaderReadNumber) rfl
  obtain ⟨fdReaderReadInteger, FReaderReadInteger⟩ := c.def_ 42 (d := dReaderReadInteger) rfl
  obtain ⟨fdReaderReadCount, FReaderReadCount⟩ := c.def_ 43 (d := dReaderReadCount) rfl
  obtain ⟨fdReaderReadCharacter, FReaderReadCharacter⟩ := c.def_ 44 (d := dReaderReadCharacter) rfl
  obtain ⟨fdReaderReadString, FReaderReadString⟩ := c.def_ 45 (d := dReaderReadString) rfl
  obtain ⟨fdReaderReadValue, FReaderReadValue⟩ := c.def_ 46 (d := dReaderReadValue) rfl
  obtain ⟨fdReaderReadRow, FReaderReadRow⟩ := c.def_ 47 (d := dReaderReadRow) rfl
  have T := globH X G c ex
  have TF := T.toFree
  have CSt := stH c
  have CRd := rdH c
  have gValueKey := He.glo_ok X G (c.fact 0 (f := .glo "value_key") rfl)
  have gRowKey := He.glo_ok X G (c.fact 1 (f := .glo "row_key") rfl)
  have gWriteNumber := He.glo_ok X G (c.fact 2 (f := .glo "write_number") rfl)
  have gWriteInteger := He.glo_ok X G (c.fact 3 (f := .glo "write_integer") rfl)
  have gWriteList := He.glo_ok X G (c.fact 4 (f := .glo "write_list") rfl)
  have gWriteString := He.glo_ok X G (c.fact 5 (f := .glo "write_string") rfl)
  have gWriteValue := He.glo_ok X G (c.fact 6 (f := .glo "write_value") rfl)
  have gWriteRow := He.glo_ok X G (c.fact 7 (f := .glo "write_row") rfl)
  have gSector := He.glo_ok X G (c.fact 8 (f := .glo "_sector") rfl)
  have gPack := He.glo_ok X G (c.fact 9 (f := .glo "pack") rfl)
  have gBucketOfValues := He.glo_ok X G (c.fact 10 (f := .glo "bucket_of_values") rfl)
  have gValuesOf := He.glo_ok X G (c.fact 11 (f := .glo "values_of") rfl)
  have gBucket := He.glo_ok X G (c.fact 12 (f := .glo "bucket") rfl)
  have gFilled := He.glo_ok X G (c.fact 13 (f := .glo "_filled") rfl)
  have gRelationShape := He.glo_ok X G (c.fact 14 (f := .glo "relation_shape") rfl)
  have gRowsOfBuckets := He.glo_ok X G (c.fact 15 (f := .glo "rows_of_buckets") rfl)
  have gStructureShape := He.glo_ok X G (c.fact 16 (f := .glo "structure_shape") rfl)
  have gLawMix := He.glo_ok X G (c.fact 17 (f := .glo "_law_mix") rfl)
  have gLawDraws := He.glo_ok X G (c.fact 18 (f := .glo "_law_draws") rfl)
  have gLawAt := He.glo_ok X G (c.fact 19 (f := .glo "_law_at") rfl)
  have gLawIsInteger := He.glo_ok X G (c.fact 20 (f := .glo "_law_is_integer") rfl)
  have gLawSame := He.glo_ok X G (c.fact 21 (f := .glo "_law_same") rfl)
  have gLawNext := He.glo_ok X G (c.fact 22 (f := .glo "_law_next") rfl)
  have gLawText := He.glo_ok X G (c.fact 23 (f := .glo "_law_text") rfl)
  have gLawValue := He.glo_ok X G (c.fact 24 (f := .glo "_law_value") rfl)
  have gLawFirst := He.glo_ok X G (c.fact 25 (f := .glo "_law_first") rfl)
  have gLawOrder := He.glo_ok X G (c.fact 26 (f := .glo "_law_order") rfl)
  have gLawSorted := He.glo_ok X G (c.fact 27 (f := .glo "_law_sorted") rfl)
  have gLawSmall := He.glo_ok X G (c.fact 28 (f := .glo "_law_small") rfl)
  have gLawShelf := He.glo_ok X G (c.fact 29 (f := .glo "_law_shelf") rfl)
  have gLawShelfItems := He.glo_ok X G (c.fact 30 (f := .glo "_law_shelf_items") rfl)
  have gLawValuesOf := He.glo_ok X G (c.fact 31 (f := .glo "_law_values_of") rfl)
  have gLawReadRows := He.glo_ok X G (c.fact 32 (f := .glo "_law_read_rows") rfl)
  have gLaw := He.glo_ok X G (c.fact 33 (f := .glo "law") rfl)
  have gState := He.glo_ok X G (c.fact 34 (f := .glo "State") rfl)
  have gReader := He.glo_ok X G (c.fact 35 (f := .glo "Reader") rfl)
  have mStatePut := He.meth_ok (c.fact 61 (f := .meth "State" "_put") rfl)
  have mStateOrderFacts := He.meth_ok (c.fact 62 (f := .meth "State" "_order_facts") rfl)
  have mStateHas := He.meth_ok (c.fact 63 (f := .meth "State" "has") rfl)
  have mReaderReadByte := He.meth_ok (c.fact 64 (f := .meth "Reader" "read_byte") rfl)
  have mReaderReadChoice := He.meth_ok (c.fact 65 (f := .meth "Reader" "read_choice") rfl)
  have mReaderReadNumber := He.meth_ok (c.fact 66 (f := .meth "Reader" "read_number") rfl)
  have mReaderReadInteger := He.meth_ok (c.fact 67 (f := .meth "Reader" "read_integer") rfl)
  have mReaderReadCount := He.meth_ok (c.fact 68 (f := .meth "Reader" "read_count") rfl)
  have mReaderReadCharacter := He.meth_ok (c.fact 69 (f := .meth "Reader" "read_character") rfl)
  have mReaderReadString := He.meth_ok (c.fact 70 (f := .meth "Reader" "read_string") rfl)
  have mReaderReadValue := He.meth_ok (c.fact 71 (f := .meth "Reader" "read_value") rfl)
  have mReaderReadRow := He.meth_ok (c.fact 72 (f := .meth "Reader" "read_row") rfl)
  have kState := He.mkr_ok (c.fact 73 (f := .mkr "State") rfl)
  have kReader := He.mkr_ok (c.fact 74 (f := .mkr "Reader") rfl)
  have e := hfa.symm.trans gLaw
  cases e
  have b := FunD.bindsA (ps := ["_law_script"]) FLaw fun _ _ _ _ _ _ us hl => match us, hl with | [_], _ => rfl
  refine ⟨fdLaw, fun s v => b s [v] rfl, fun base _ _ => ?_⟩
  have cWriteNumber := ok_WriteNumber (P := P) (w := w) (base := base) FWriteNumber gWriteNumber TF
  have cWriteInteger := ok_WriteInteger (P := P) (w := w) (base := base) FWriteInteger gWriteInteger TF cWriteNumber
  have cWriteList := ok_WriteList (P := P) (w := w) (base := base) FWriteList gWriteList TF cWriteNumber
  have cWriteString := ok_WriteString (P := P) (w := w) (base := base) FWriteString gWriteString TF cWriteNumber cWriteList
  have cWriteValue := ok_WriteValue (P := P) (w := w) (base := base) FWriteValue gWriteValue TF cWriteInteger cWriteString
  have cWriteRow := ok_WriteRow (P := P) (w := w) (base := base) FWriteRow gWriteRow TF cWriteList cWriteValue
  have cBucketOfValues := ok_BucketOfValues (P := P) (w := w) (base := base) FBucketOfValues gBucketOfValues TF cWriteRow
  have cSector := ok_Sector (P := P) (w := w) (base := base) FSector gSector T
  have cPack := ok_Pack (P := P) (w := w) (base := base) FPack gPack T cSector cWriteRow
  have cFilled := ok_Filled (P := P) (w := w) (base := base) FFilled gFilled T cPack
  have cValuesOf := ok_ValuesOf (P := P) (w := w) (base := base) FValuesOf gValuesOf T CSt
  have cBucket := ok_Bucket (P := P) (w := w) (base := base) FBucket gBucket T CSt cValuesOf cBucketOfValues
  have cRelationShape := ok_RelationShape (P := P) (w := w) (base := base) FRelationShape gRelationShape T CSt cFilled
  have cRowsOfBuckets := ok_RowsOfBuckets (P := P) (w := w) (base := base) FRowsOfBuckets gRowsOfBuckets T CSt cBucket
  have cStructureShape := ok_StructureShape (P := P) (w := w) (base := base) FStructureShape gStructureShape T CSt cRowsOfBuckets cFilled
  have mReader := ok_ReaderInit (P := P) (w := w) (base := base) kReader gReader FReaderInit T CRd
  have cReaderReadByte := ok_ReaderReadByte (P := P) (w := w) (mg := mg) (base := base) mReaderReadByte FReaderReadByte T CRd
  have cReaderReadChoice := ok_ReaderReadChoice (P := P) (w := w) (mg := mg) (base := base) mReaderReadChoice FReaderReadChoice CRd cReaderReadByte
  have cReaderReadNumber := ok_ReaderReadNumber (P := P) (w := w) (mg := mg) (base := base) mReaderReadNumber FReaderReadNumber T CRd cReaderReadByte
  have cReaderReadInteger := ok_ReaderReadInteger (P := P) (w := w) (mg := mg) (base := base) mReaderReadInteger FReaderReadInteger CRd cReaderReadChoice cReaderReadNumber
  have cReaderReadCount := ok_ReaderReadCount (P := P) (w := w) (mg := mg) (base := base) mReaderReadCount FReaderReadCount T CRd cReaderReadNumber
  have cReaderReadCharacter := ok_ReaderReadCharacter (P := P) (w := w) (mg := mg) (base := base) mReaderReadCharacter FReaderReadCharacter T CRd cReaderReadNumber
  have cReaderReadString := ok_ReaderReadString (P := P) (w := w) (mg := mg) (base := base) mReaderReadString FReaderReadString T CRd cReaderReadCount cReaderReadCharacter
  have cReaderReadValue := ok_ReaderReadValue (P := P) (w := w) (mg := mg) (base := base) mReaderReadValue FReaderReadValue CRd cReaderReadChoice cReaderReadInteger cReaderReadString
  have cReaderReadRow := ok_ReaderReadRow (P := P) (w := w) (mg := mg) (base := base) mReaderReadRow FReaderReadRow T CRd cReaderReadCount cReaderReadValue
  have cValueKey := ok_ValueKey (P := P) (w := w) (base := base) FValueKey gValueKey T
  have cRowKey := ok_RowKey (P := P) (w := w) (base := base) FRowKey gRowKey T cValueKey
  have cStateHas := ok_StateHas (P := P) (w := w) (mg := mg) (base := base) mStateHas FStateHas CSt
  have cStatePut := ok_StatePut (P := P) (w := w) (mg := mg) (base := base) mStatePut FStatePut CSt cStateHas
  have cStateOrderFacts := ok_OrderFacts (P := P) (w := w) (mg := mg) (base := base) mStateOrderFacts FStateOrderFacts T CSt cRowKey
  have mState := ok_StateInit (P := P) (w := w) (base := base) kState gState FStateInit (bindsSI FStateInit rfl) CSt cStatePut cStateOrderFacts
  have cLawIsInteger := ok_LawIsInteger (P := P) (w := w) (base := base) FLawIsInteger gLawIsInteger T
  have cLawSame0 := ok_LawSame0 (P := P) (w := w) (base := base) FLawSame gLawSame T cLawIsInteger
  have cLawSame1 := ok_LawSame1 (P := P) (w := w) (base := base) (n := 0) FLawSame gLawSame T cLawSame0
  have cLawSame := ok_LawSame1 (P := P) (w := w) (base := base) (n := 1) FLawSame gLawSame T cLawSame1
  have cLawValuesOf := ok_LawValuesOf (P := P) (w := w) (base := base) FLawValuesOf gLawValuesOf T
  have cLawReadRows := ok_LawReadRows (P := P) (w := w) (base := base) FLawReadRows gLawReadRows T CRd cLawIsInteger mReader cReaderReadRow
  have cLawMix := ok_LawMix (P := P) (w := w) (base := base) FLawMix gLawMix TF
  have cLawAt := ok_LawAt (P := P) (w := w) (base := base) FLawAt gLawAt TF cLawMix
  have cLawNext := ok_LawNext (P := P) (w := w) (base := base) FLawNext gLawNext cLawAt
  have cLawDraws := ok_LawDraws (P := P) (w := w) (base := base) FLawDraws gLawDraws TF cLawMix
  have cLawText := ok_LawText (P := P) (w := w) (base := base) FLawText gLawText TF cLawNext
  have cLawValue := ok_LawValue (P := P) (w := w) (base := base) FLawValue gLawValue TF cLawNext cLawText
  have cLawSmall := ok_LawSmall (P := P) (w := w) (base := base) FLawSmall gLawSmall TF cLawNext cLawValue
  have cLawFirst := ok_LawFirst (P := P) (w := w) (base := base) FLawFirst gLawFirst TF
  have cLawOrder := ok_LawOrder (P := P) (w := w) (base := base) FLawOrder gLawOrder TF cLawFirst
  have cLawSorted := ok_LawSorted (P := P) (w := w) (base := base) FLawSorted gLawSorted TF cLawOrder
  have cLawShelf := ok_LawShelf (P := P) (w := w) (base := base) FLawShelf gLawShelf TF cLawNext cLawSmall cLawSorted
  have cLawShelfItems := ok_LawShelfItems (P := P) (w := w) (base := base) FLawShelfItems gLawShelfItems TF
  exact ok_Law (P := P) (w := w) (base := base) FLaw T cLawDraws cLawShelf cLawShelfItems mState cRelationShape cStructureShape cLawReadRows cLawSame cLawValuesOf cBucketOfValues
end K9
open PySem PySem.W PySem.Calls PyProof.Rows
theorem PySem.Challenge.cw_turnshelves_k09_whole_rows_lie_in_their_holds : PySem.Challenge.rw_turnshelves_k09_whole_rows_lie_in_their.Holds := by
  w_on; o_law
  refine HandSHeadRun.head_any (r := OpenLaw.row PySem.Challenge.rw_turnshelves_k09_whole_rows_lie_in_their) (q := view (OpenLaw.row PySem.Challenge.rw_turnshelves_k09_whole_rows_lie_in_their).prog [49]) (H := K9.hk) (ob := K9.ob) (M := 20000) (loose := K9.namesH) (d := HandSHeadRun.topDef (OpenLaw.row PySem.Challenge.rw_turnshelves_k09_whole_rows_lie_in_their).prog 49) (kwd := []) K9.ob_eq
    (by kernel_rfl) (fun s => by kernel_rfl) K9.runH (by kernel_rfl) (by kernel_rfl) (by kernel_rfl) (by rfl) (by first | assumption | decide +kernel) (by decide +kernel) ⟨rfl, rfl, rfl, rfl, rfl, by decide +kernel⟩ ?hw ?hc
  case hw => w_witness2
  case hc =>
    refine L2.walk_ofE (l := PySem.Challenge.rw_turnshelves_k09_whole_rows_lie_in_their) (n := 63) (k := 12) (x := "_law_script") (CX := C8.CX0) rfl (by decide) (by kernel_rfl) ⟨rfl, by decide, by decide⟩ ?F (fun _ _ _ _ z => z)
    intro w mg fa h Y G hmg0
    obtain ⟨K, KX, c⟩ := Y
    have hmg : mg ("law" : PySem.Str) = some (.ref fa) := by
      have e : (HandSHeadRun.topDef (OpenLaw.row PySem.Challenge.rw_turnshelves_k09_whole_rows_lie_in_their).prog 49).name = ("law" : PySem.Str) := by kernel_rfl
      rw [← e]
      exact hmg0
    obtain ⟨fd, hb, hF⟩ := K9.factsH (P := (PySem.Challenge.rw_turnshelves_k09_whole_rows_lie_in_their).prog) (w := w) KX G hmg c.t.d c.more
    exact ⟨K, fd, K9.spLaw K, KX, hb, fun H a ns hl _ hS => ⟨a, ns, rfl, hS, fun _ => rfl⟩, hF⟩
