import PyProof.Rows.All
import Wide.All
import OpenK.AllK
import Wide.FinOn
import KE.KStateDown
import HandS.ForMost
import HandS.ForExc
import HandS.Defaults
import HandS.Head0
import HandS.Head1
import HandS.Head2
import HandS.HeadEnd
import HandS.HeadHook1
import HandS.HeadHook2
import HandS.HeadHook3
import HandS.HeadHook4
import HandS.HeadWalk
import HandS.Codes
import HandS.Wide
import HandS.WideBits
import HandS.Evl
import HandS.Walk
import HandS.Zip
import HandS.Lambda
import PyProof.StrOps2
import PySem.PyData
import HandS.Steps
import KE.KDictZip
import KE.KItemsList
import HandS.ListItems
import HandS.SortKw
import KE.DatumOrd
import KE.GoesEnum
import PySem.Challenge.RW_tierpile_k10_whole_texts_read
set_option Elab.async false
set_option linter.all false
set_option maxRecDepth 100000
set_option maxHeartbeats 8000000
namespace K10
open PySem PySem.Spec PyProof.Rows L2
/-! ### the text by places -/
def top (i : Nat) : Stmt := PySem.Challenge.pw_tierpile_k10_whole_texts_read.main.body.getD i (.Pass ⟨0, 0, 0, 0⟩)
abbrev sRunOf : Stmt := top 23
abbrev sMarkAt : Stmt := top 24
abbrev sMarks : Stmt := top 25
abbrev sLayoutInit : Stmt := inClass (top 29) 0
abbrev sLayoutLay : Stmt := inClass (top 29) 1
abbrev sLayoutBegin : Stmt := inClass (top 29) 2
abbrev sLayoutBlock : Stmt := inClass (top 29) 3
abbrev sLayoutFirstOfLine : Stmt := inClass (top 29) 4
abbrev sLayoutBracket : Stmt := inClass (top 29) 5
abbrev sLayoutPut : Stmt := inClass (top 29) 6
abbrev sLaid : Stmt := top 30
abbrev sSubtrees : Stmt := top 35
abbrev sDepth : Stmt := top 36
abbrev sReaderInit : Stmt := inClass (top 38) 0
abbrev sReaderSees : Stmt := inClass (top 38) 1
abbrev sReaderTake : Stmt := inClass (top 38) 2
abbrev sReaderDefs : Stmt := inClass (top 38) 3
abbrev sReaderOneDef : Stmt := inClass (top 38) 4
abbrev sReaderExpr : Stmt := inClass (top 38) 5
abbrev sReaderLetRows : Stmt := inClass (top 38) 6
abbrev sReaderLetRow : Stmt := inClass (top 38) 7
abbrev sReaderBothRows : Stmt := inClass (top 38) 8
abbrev sReaderEither : Stmt := inClass (top 38) 9
abbrev sReaderBoth : Stmt := inClass (top 38) 10
abbrev sReaderLike : Stmt := inClass (top 38) 11
abbrev sReaderInRow : Stmt := inClass (top 38) 12
abbrev sReaderSums : Stmt := inClass (top 38) 13
abbrev sReaderTerm : Stmt := inClass (top 38) 14
abbrev sReaderPiece : Stmt := inClass (top 38) 15
abbrev sReaderBeginsAtom : Stmt := inClass (top 38) 16
abbrev sReaderAtom : Stmt := inClass (top 38) 17
abbrev sRead : Stmt := top 39
abbrev sLawDraws : Stmt := top 41
abbrev sLawDraw : Stmt := top 42
abbrev sLawKeys : Stmt := top 43
abbrev sLawNames : Stmt := top 44
abbrev sLawPlace : Stmt := top 45
abbrev sLawLeaf : Stmt := top 46
abbrev sLawLoop : Stmt := top 47
abbrev sLawOp : Stmt := top 48
abbrev sLawCall : Stmt := top 49
abbrev sLawTree : Stmt := top 50
abbrev sLawProgram : Stmt := top 51
abbrev sLawLine : Stmt := top 52
abbrev sLawWord : Stmt := top 53
abbrev sLawLevel : Stmt := top 54
abbrev sLawItem : Stmt := top 55
abbrev sLawBlock : Stmt := top 56
abbrev sLawWriteBlock : Stmt := top 57
abbrev sLawWriteSo : Stmt := top 58
abbrev sLawWrite : Stmt := top 59
abbrev sLawWritten : Stmt := top 60
abbrev sLawTold : Stmt := top 63
abbrev sLaw : Stmt := top 64
end K10
namespace K10
open PySem PySem.Spec PyProof.Rows L2
def dRunOf : He.DefD := ⟨("run_of", none), "run_of", "run_of", defArgs sRunOf, defBody sRunOf, defScope sRunOf, [], []⟩
def dMarkAt : He.DefD := ⟨("mark_at", none), "mark_at", "mark_at", defArgs sMarkAt, defBody sMarkAt, defScope sMarkAt, [], []⟩
def dMarks : He.DefD := ⟨("marks", none), "marks", "marks", defArgs sMarks, defBody sMarks, defScope sMarks, [], []⟩
def dLayoutInit : He.DefD := ⟨("Layout", some "__init__"), "__init__", "Layout.__init__", defArgs sLayoutInit, defBody sLayoutInit, defScope sLayoutInit, [], []⟩
def dLayoutLay : He.DefD := ⟨("Layout", some "lay"), "lay", "Layout.lay", defArgs sLayoutLay, defBody sLayoutLay, defScope sLayoutLay, [], []⟩
def dLayoutBegin : He.DefD := ⟨("Layout", some "begin"), "begin", "Layout.begin", defArgs sLayoutBegin, defBody sLayoutBegin, defScope sLayoutBegin, [], []⟩
def dLayoutBlock : He.DefD := ⟨("Layout", some "block"), "block", "Layout.block", defArgs sLayoutBlock, defBody sLayoutBlock, defScope sLayoutBlock, [], []⟩
def dLayoutFirstOfLine : He.DefD := ⟨("Layout", some "first_of_line"), "first_of_line", "Layout.first_of_line", defArgs sLayoutFirstOfLine, defBody sLayoutFirstOfLine, defScope sLayoutFirstOfLine, [], []⟩
def dLayoutBracket : He.DefD := ⟨("Layout", some "bracket"), "bracket", "Layout.bracket", defArgs sLayoutBracket, defBody sLayoutBracket, defScope sLayoutBracket, [], []⟩
def dLayoutPut : He.DefD := ⟨("Layout", some "put"), "put", "Layout.put", defArgs sLayoutPut, defBody sLayoutPut, defScope sLayoutPut, [], []⟩
def dLaid : He.DefD := ⟨("laid", none), "laid", "laid", defArgs sLaid, defBody sLaid, defScope sLaid, [], []⟩
def dSubtrees : He.DefD := ⟨("subtrees", none), "subtrees", "subtrees", defArgs sSubtrees, defBody sSubtrees, defScope sSubtrees, [], []⟩
def dDepth : He.DefD := ⟨("depth", none), "depth", "depth", defArgs sDepth, defBody sDepth, defScope sDepth, [], []⟩
def dReaderInit : He.DefD := ⟨("Reader", some "__init__"), "__init__", "Reader.__init__", defArgs sReaderInit, defBody sReaderInit, defScope sReaderInit, [], []⟩
def dReaderSees : He.DefD := ⟨("Reader", some "sees"), "sees", "Reader.sees", defArgs sReaderSees, defBody sReaderSees, defScope sReaderSees, [(.adr (He.dflAt ("Reader", some "sees") 0))], []⟩
def dReaderTake : He.DefD := ⟨("Reader", some "take"), "take", "Reader.take", defArgs sReaderTake, defBody sReaderTake, defScope sReaderTake, [(.adr (He.dflAt ("Reader", some "take") 0))], []⟩
def dReaderDefs : He.DefD := ⟨("Reader", some "defs"), "defs", "Reader.defs", defArgs sReaderDefs, defBody sReaderDefs, defScope sReaderDefs, [], []⟩
def dReaderOneDef : He.DefD := ⟨("Reader", some "one_def"), "one_def", "Reader.one_def", defArgs sReaderOneDef, defBody sReaderOneDef, defScope sReaderOneDef, [], []⟩
def dReaderExpr : He.DefD := ⟨("Reader", some "expr"), "expr", "Reader.expr", defArgs sReaderExpr, defBody sReaderExpr, defScope sReaderExpr, [], []⟩
def dReaderLetRows : He.DefD := ⟨("Reader", some "let_rows"), "let_rows", "Reader.let_rows", defArgs sReaderLetRows, defBody sReaderLetRows, defScope sReaderLetRows, [], []⟩
def dReaderLetRow : He.DefD := ⟨("Reader", some "let_row"), "let_row", "Reader.let_row", defArgs sReaderLetRow, defBody sReaderLetRow, defScope sReaderLetRow, [], []⟩
def dReaderBothRows : He.DefD := ⟨("Reader", some "both_rows"), "both_rows", "Reader.both_rows", defArgs sReaderBothRows, defBody sReaderBothRows, defScope sReaderBothRows, [], []⟩
def dReaderEither : He.DefD := ⟨("Reader", some "either"), "either", "Reader.either", defArgs sReaderEither, defBody sReaderEither, defScope sReaderEither, [], []⟩
def dReaderBoth : He.DefD := ⟨("Reader", some "both"), "both", "Reader.both", defArgs sReaderBoth, defBody sReaderBoth, defScope sReaderBoth, [], []⟩
def dReaderLike : He.DefD := ⟨("Reader", some "like"), "like", "Reader.like", defArgs sReaderLike, defBody sReaderLike, defScope sReaderLike, [], []⟩
def dReaderInRow : He.DefD := ⟨("Reader", some "in_row"), "in_row", "Reader.in_row", defArgs sReaderInRow, defBody sReaderInRow, defScope sReaderInRow, [], []⟩
def dReaderSums : He.DefD := ⟨("Reader", some "sums"), "sums", "Reader.sums", defArgs sReaderSums, defBody sReaderSums, defScope sReaderSums, [], []⟩
def dReaderTerm : He.DefD := ⟨("Reader", some "term"), "term", "Reader.term", defArgs sReaderTerm, defBody sReaderTerm, defScope sReaderTerm, [], []⟩
def dReaderPiece : He.DefD := ⟨("Reader", some "piece"), "piece", "Reader.piece", defArgs sReaderPiece, defBody sReaderPiece, defScope sReaderPiece, [], []⟩
def dReaderBeginsAtom : He.DefD := ⟨("Reader", some "begins_atom"), "begins_atom", "Reader.begins_atom", defArgs sReaderBeginsAtom, defBody sReaderBeginsAtom, defScope sReaderBeginsAtom, [], []⟩
def dReaderAtom : He.DefD := ⟨("Reader", some "atom"), "atom", "Reader.atom", defArgs sReaderAtom, defBody sReaderAtom, defScope sReaderAtom, [], []⟩
def dRead : He.DefD := ⟨("read", none), "read", "read", defArgs sRead, defBody sRead, defScope sRead, [], []⟩
def dLawDraws : He.DefD := ⟨("_law_draws", none), "_law_draws", "_law_draws", defArgs sLawDraws, defBody sLawDraws, defScope sLawDraws, [], []⟩
def dLawDraw : He.DefD := ⟨("_law_draw", none), "_law_draw", "_law_draw", defArgs sLawDraw, defBody sLawDraw, defScope sLawDraw, [], []⟩
def dLawKeys : He.DefD := ⟨("_law_keys", none), "_law_keys", "_law_keys", defArgs sLawKeys, defBody sLawKeys, defScope sLawKeys, [], []⟩
def dLawNames : He.DefD := ⟨("_law_names", none), "_law_names", "_law_names", defArgs sLawNames, defBody sLawNames, defScope sLawNames, [], []⟩
def dLawPlace : He.DefD := ⟨("_law_place", none), "_law_place", "_law_place", defArgs sLawPlace, defBody sLawPlace, defScope sLawPlace, [], []⟩
def dLawLeaf : He.DefD := ⟨("_law_leaf", none), "_law_leaf", "_law_leaf", defArgs sLawLeaf, defBody sLawLeaf, defScope sLawLeaf, [], []⟩
def dLawLoop : He.DefD := ⟨("_law_loop", none), "_law_loop", "_law_loop", defArgs sLawLoop, defBody sLawLoop, defScope sLawLoop, [], []⟩
def dLawOp : He.DefD := ⟨("_law_op", none), "_law_op", "_law_op", defArgs sLawOp, defBody sLawOp, defScope sLawOp, [], []⟩
def dLawCall : He.DefD := ⟨("_law_call", none), "_law_call", "_law_call", defArgs sLawCall, defBody sLawCall, defScope sLawCall, [], []⟩
def dLawTree : He.DefD := ⟨("_law_tree", none), "_law_tree", "_law_tree", defArgs sLawTree, defBody sLawTree, defScope sLawTree, [], []⟩
def dLawProgram : He.DefD := ⟨("_law_program", none), "_law_program", "_law_program", defArgs sLawProgram, defBody sLawProgram, defScope sLawProgram, [], []⟩
def dLawLine : He.DefD := ⟨("_law_line", none), "_law_line", "_law_line", defArgs sLawLine, defBody sLawLine, defScope sLawLine, [], []⟩
def dLawWord : He.DefD := ⟨("_law_word", none), "_law_word", "_law_word", defArgs sLawWord, defBody sLawWord, defScope sLawWord, [], []⟩
def dLawLevel : He.DefD := ⟨("_law_level", none), "_law_level", "_law_level", defArgs sLawLevel, defBody sLawLevel, defScope sLawLevel, [], []⟩
def dLawItem : He.DefD := ⟨("_law_item", none), "_law_item", "_law_item", defArgs sLawItem, defBody sLawItem, defScope sLawItem, [], []⟩
def dLawBlock : He.DefD := ⟨("_law_block", none), "_law_block", "_law_block", defArgs sLawBlock, defBody sLawBlock, defScope sLawBlock, [], []⟩
def dLawWriteBlock : He.DefD := ⟨("_law_write_block", none), "_law_write_block", "_law_write_block", defArgs sLawWriteBlock, defBody sLawWriteBlock, defScope sLawWriteBlock, [], []⟩
def dLawWriteSo : He.DefD := ⟨("_law_write_so", none), "_law_write_so", "_law_write_so", defArgs sLawWriteSo, defBody sLawWriteSo, defScope sLawWriteSo, [], []⟩
def dLawWrite : He.DefD := ⟨("_law_write", none), "_law_write", "_law_write", defArgs sLawWrite, defBody sLawWrite, defScope sLawWrite, [], []⟩
def dLawWritten : He.DefD := ⟨("_law_written", none), "_law_written", "_law_written", defArgs sLawWritten, defBody sLawWritten, defScope sLawWritten, [], []⟩
def dLawTold : He.DefD := ⟨("_law_told", none), "_law_told", "_law_told", defArgs sLawTold, defBody sLawTold, defScope sLawTold, [], []⟩
def dLaw : He.DefD := ⟨("law", none), "law", "law", defArgs sLaw, defBody sLaw, defScope sLaw, [], []⟩
def fnS : List He.DefD := [dRunOf, dMarkAt, dMarks, dLayoutInit, dLayoutLay, dLayoutBegin, dLayoutBlock, dLayoutFirstOfLine, dLayoutBracket, dLayoutPut, dLaid, dSubtrees, dDepth, dReaderInit, dReaderSees, dReaderTake, dReaderDefs, dReaderOneDef, dReaderExpr, dReaderLetRows, dReaderLetRow, dReaderBothRows, dReaderEither, dReaderBoth, dReaderLike, dReaderInRow, dReaderSums, dReaderTerm, dReaderPiece, dReaderBeginsAtom, dReaderAtom, dRead, dLawDraws, dLawDraw, dLawKeys, dLawNames, dLawPlace, dLawLeaf, dLawLoop, dLawOp, dLawCall, dLawTree, dLawProgram, dLawLine, dLawWord, dLawLevel, dLawItem, dLawBlock, dLawWriteBlock, dLawWriteSo, dLawWrite, dLawWritten, dLawTold, dLaw]
def faS0 : List He.Fa := [.glo "run_of", .glo "mark_at", .glo "marks", .glo "laid", .glo "subtrees", .glo "depth", .glo "read", .glo "_law_draws", .glo "_law_draw", .glo "_law_keys", .glo "_law_names", .glo "_law_place", .glo "_law_leaf", .glo "_law_loop", .glo "_law_op", .glo "_law_call", .glo "_law_tree", .glo "_law_program", .glo "_law_line", .glo "_law_word", .glo "_law_level", .glo "_law_item", .glo "_law_block", .glo "_law_write_block", .glo "_law_write_so", .glo "_law_write", .glo "_law_written", .glo "_law_told", .glo "law", .glo "TierError"]
def faS1 : List He.Fa := [.glo "Layout", .glo "Reader", .glo "KEYS", .glo "SIGNS", .int "MOST_OPEN" 24, .int "BRACKET" (-1), .int "DEEP" 10, .int "MOST_DEFS" 8, .int "MOST_PARTS" 4, .str "LETTERS" "abcdefghijklmnopqrstuvwxyz", .str "FIGURES" "0123456789", .cls "Layout", .mkr "Layout", .noat "Layout" "told", .noat "Layout" "stack", .cls "Reader", .mkr "Reader", .noat "Reader" "row", .noat "Reader" "at", .meth "Layout" "__init__", .meth "Layout" "lay", .meth "Layout" "begin", .meth "Layout" "block", .meth "Layout" "first_of_line", .meth "Layout" "bracket", .meth "Layout" "put", .meth "Reader" "__init__", .meth "Reader" "sees", .meth "Reader" "take", .meth "Reader" "defs"]
def faS2 : List He.Fa := [.meth "Reader" "one_def", .meth "Reader" "expr", .meth "Reader" "let_rows", .meth "Reader" "let_row", .meth "Reader" "both_rows", .meth "Reader" "either", .meth "Reader" "both", .meth "Reader" "like", .meth "Reader" "in_row", .meth "Reader" "sums", .meth "Reader" "term", .meth "Reader" "piece", .meth "Reader" "begins_atom", .meth "Reader" "atom", .free "len", .free "list", .free "enumerate", .free "max", .free "min", .free "reversed", .free "range", .free "int", .free "str", .free "tuple", .free "zip"]
def faS : List He.Fa := faS0 ++ faS1 ++ faS2
def lo0 : List PySem.Str := ["TierError", "BadText", "NoMark", "NoBlock", "NoText", "TooDeep", "NoForm", "NoProgram", "NoCode", "NoWorths", "NoLine", "NoTree", "NotNow", "Unsound", "NotThere", "TooMany", "NothingLeft", "KEYS", "LETTERS", "FIGURES", "SIGNS", "run_of", "mark_at", "marks", "MOST_OPEN", "BRACKET", "Layout", "laid", "DEEP", "MOST_DEFS"]
def lo1 : List PySem.Str := ["MOST_PARTS", "subtrees", "depth", "Reader", "read", "_law_draws", "_law_draw", "_law_keys", "_law_names", "_law_place", "_law_leaf", "_law_loop", "_law_op", "_law_call", "_law_tree", "_law_program", "_law_line", "_law_word", "_law_level", "_law_item", "_law_block", "_law_write_block", "_law_write_so", "_law_write", "_law_written", "_law_kind_of", "_law_refusal", "_law_told"]
def loS : List PySem.Str := lo0 ++ lo1
def tfS : List He.Defn := [("law", none)]
/-- the object at a is a tuple of these -/
def tupAtB (K : PySem.W.Frag) (a : Addr) (vs : List V) : Bool := match K.lookup a with
  | some ⟨.type c, _, .seq its _, _⟩ => decide (c = "tuple") && (decide (its.size ≤ sizeLine) && He.relAll vs its.toList)
  | _ => false
def keysV : List He.Dv := [.str "let", .str "if", .str "then", .str "else", .str "case", .str "of", .str "div", .str "mod", .str "and", .str "or"]
def signsV : List He.Dv := [.str "==", .str "->", .str "[]", .str "(", .str ")", .str "+", .str "-", .str "*", .str "<", .str "=", .str ":"]
def exS (K : PySem.W.Frag) : Bool := He.tupB K "KEYS" keysV && (He.tupB K "SIGNS" signsV && (tupAtB K (He.dflAt ("Reader", some "sees") 0 K) [] && tupAtB K (He.dflAt ("Reader", some "take") 0 K) []))
abbrev RowS : PySem.W.OpenRow := PySem.W.OpenLaw.row PySem.Challenge.rw_tierpile_k10_whole_texts_read
abbrev hkS : PySem.W.Hook := He.hookX 5 faS fnS [] tfS exS
def obS (s : PySem.W.SharedT) : He.AlX := He.obsX 5 faS fnS [] tfS exS (HandSHeadRun.getT s)
theorem obS_eq (s : PySem.W.SharedT) : obS s = hkS.obs s.abs := He.obsX_eq (HandSHeadRun.getT_eq s)
/-- what the head's Hook looks at -/
def kS (s : PySem.W.SharedT) : PySem.W.Frag := He.frT (HandSHeadRun.getT s) (He.asD (HandSHeadRun.getT s) 5)
/-- the top's run, to its end -/
noncomputable abbrev endS (w : World) (os : OsState) : Option PySem.W.SharedT := HandSHeadRun.endF (HandSHeadRun.stepQ (HandSHeadRun.denQ HandSHeadRun.tabQ) RowS.prog w) 20000 RowS.prog w os
theorem run1 (w : World) (os : OsState) : (endS w os).map (fun s => (HandSHeadRun.looksF RowS.prog (PySem.W.boot_heap w.params) s.abs, HandSHeadRun.seenQ (PySem.W.view RowS.prog [64]) loS (importedModules RowS.prog.main.body) (fun s => PySem.W.xlAt (PySem.W.view RowS.prog [64]) [] s && PySem.W.recOk RowS.toRowW.records s) s.abs)) =
    some (true, PySem.W.openGood (PySem.W.view RowS.prog [64]) loS) := by kernel_rfl
theorem run2 (w : World) (os : OsState) : (endS w os).map (fun s => (faS.all fun f => f.ok (kS s)) && (exS (kS s) && He.tabsB (HandSHeadRun.getT s) tfS (kS s))) = some true := by kernel_rfl
theorem run3 (w : World) (os : OsState) : (endS w os).map (fun s => fnS.all fun d => d.ok (kS s)) = some true := by kernel_rfl
theorem run4 (w : World) (os : OsState) : (endS w os).map (fun s => fnS.map fun d => He.fnW (kS s) d.at_) = some (fnS.map He.DefD.val) := by kernel_rfl
theorem runS (w : World) : HandSHeadRun.RunEq RowS (PySem.W.view RowS.prog [64]) hkS obS 20000 loS w := by
  intro os
  have h1 := run1 w os
  have h2 := run2 w os
  have h3 := run3 w os
  have h4 := run4 w os
  show (endS w os).map _ = _
  generalize endS w os = e at h1 h2 h3 h4
  cases e with
  | none => cases h1
  | some s =>
    have e1 := Option.some.inj h1
    have e2 : ((faS.all fun f => f.ok (kS s)) && (exS (kS s) && He.tabsB (HandSHeadRun.getT s) tfS (kS s))) = true := Option.some.inj h2
    have e3 : (fnS.all fun d => d.ok (kS s)) = true := Option.some.inj h3
    have e4 : (fnS.map fun d => He.fnW (kS s) d.at_) = fnS.map He.DefD.val := Option.some.inj h4
    obtain ⟨e5, e6⟩ := He.ba e2
    have eo : obS s = hkS.val w := by
      show ((((faS.all fun f => f.ok (kS s)) && (fnS.all fun d => d.ok (kS s)), fnS.map fun d => He.fnW (kS s) d.at_), []), exS (kS s) && He.tabsB (HandSHeadRun.getT s) tfS (kS s)) = (((true, fnS.map He.DefD.val), []), true)
      rw [e5, e3, e4, e6] <;> rfl
    have k1 := congrArg Prod.fst e1
    have k2 := congrArg Prod.snd e1
    exact congrArg some (Prod.ext k1 (Prod.ext k2 eo))
end K10
namespace K10
open PySem
/-! ### marks, trees as data -/
structure M where
  k : Str
  w : Str
  l : Int
  c : Int
def plD (l c : Int) : PyData := .tuple [.int l, .int c]
def M.pl (m : M) : PyData := plD m.l m.c
def M.py (m : M) : PyData := .tuple [.str m.k, .str m.w, .int m.l, .int m.c]
def numD (p : PyData) (k : Int) : PyData := .tuple [.str "num", p, .int k]
def nilD (p : PyData) : PyData := .tuple [.str "nil", p]
def useD (p : PyData) (x : Str) (as : List PyData) : PyData := .tuple [.str "use", p, .str x, .tuple as]
def opD (p : PyData) (s : Str) (l r : PyData) : PyData := .tuple [.str "op", p, .str s, l, r]
def ifD (p c y n : PyData) : PyData := .tuple [.str "if", p, c, y, n]
def letD (p : PyData) (x : Str) (w b : PyData) : PyData := .tuple [.str "let", p, .str x, w, b]
def caseD (p t e : PyData) (h l : Str) (b : PyData) : PyData := .tuple [.str "case", p, t, e, .str h, .str l, b]
def keysS : List Str := ["let", "if", "then", "else", "case", "of", "div", "mod", "and", "or"]
/-- a name: 1 to 8 small letters, no key -/
def Nm (x : Str) : Prop := (∀ a ∈ x.cps.toList, 97 ≤ a ∧ a ≤ 122) ∧ 1 ≤ x.length ∧ x.length ≤ 8 ∧ x ∉ keysS
def numsI : List Int := [0, 1, 2, 3, 7, 999999999, 12]
def opsS : List Str := ["+", "-", "*", "div", "mod", "==", "<", ":"]
/-- a tree of at most such a depth, whatever its places -/
inductive Tr : Nat → PyData → Prop where
  | num {n : Nat} {l c k : Int} : k ∈ numsI → Tr (n + 1) (numD (plD l c) k)
  | nil {n : Nat} {l c : Int} : Tr (n + 1) (nilD (plD l c))
  | use {n : Nat} {l c : Int} {x : Str} {as : List PyData} : Nm x → as.length ≤ 3 → (∀ a ∈ as, Tr n a) → Tr (n + 1) (useD (plD l c) x as)
  | op {n : Nat} {pl pc : Int} {s : Str} {l r : PyData} : s ∈ opsS → Tr n l → Tr n r → Tr (n + 1) (opD (plD pl pc) s l r)
  | ite {n : Nat} {pl pc : Int} {c y e : PyData} : Tr n c → Tr n y → Tr n e → Tr (n + 1) (ifD (plD pl pc) c y e)
  | lt {n : Nat} {pl pc : Int} {x : Str} {w b : PyData} : Nm x → Tr n w → Tr n b → Tr (n + 1) (letD (plD pl pc) x w b)
  | cas {n : Nat} {pl pc : Int} {t e : PyData} {h l : Str} {b : PyData} : Nm h → Nm l → Tr n t → Tr n e → Tr n b → Tr (n + 1) (caseD (plD pl pc) t e h l b)
theorem Tr.up {n : Nat} {d : PyData} (h : Tr n d) : Tr (n + 1) d := by
  induction h with
  | num h => exact .num h
  | nil => exact .nil
  | use h1 h2 _ ih => exact .use h1 h2 ih
  | op h1 _ _ i1 i2 => exact .op h1 i1 i2
  | ite _ _ _ i1 i2 i3 => exact .ite i1 i2 i3
  | lt h1 _ _ i1 i2 => exact .lt h1 i1 i2
  | cas h1 h2 _ _ _ i1 i2 i3 => exact .cas h1 h2 i1 i2 i3

/-! ### what the reader sees -/
def M.sees (m : M) (k : Str) (ws : List Str) : Bool := decide (m.k = k) && (ws.isEmpty || decide (m.w ∈ ws))
def seesH (R : List M) (k : Str) (ws : List Str) : Prop := ∃ m r, R = m :: r ∧ m.sees k ws = true
def AtomH (m : M) : Bool := m.sees "number" [] || m.sees "name" [] || m.sees "sign" ["[]", "("]
def MulH (m : M) : Bool := m.sees "sign" ["*"] || m.sees "key" ["div", "mod"]
def AddH (m : M) : Bool := m.sees "sign" ["+", "-"]
def ColH (m : M) : Bool := m.sees "sign" [":"]
def CmpH (m : M) : Bool := m.sees "sign" ["==", "<"]
def LogH (m : M) : Bool := m.sees "key" ["and"] || m.sees "key" ["or"]
/-- the row goes on, with a mark of which f is not so -/
def Not (f : M → Bool) (R : List M) : Prop := ∃ m r, R = m :: r ∧ f m = false

abbrev Rel := List M → PyData → List M → Prop
def numOf (w : Str) (k : Int) : Prop := (w, k) ∈ [(("0" : Str), (0 : Int)), ("1", 1), ("2", 2), ("3", 3), ("7", 7), ("999999999", 999999999), ("12", 12)]
inductive Atom (E : Rel) : Rel where
  | num {m : M} {R : List M} {k : Int} : m.k = "number" → numOf m.w k → Atom E (m :: R) (numD m.pl k) R
  | name {m : M} {R : List M} : m.k = "name" → Atom E (m :: R) (useD m.pl m.w []) R
  | nil {m : M} {R : List M} : m.k = "sign" → m.w = "[]" → Atom E (m :: R) (nilD m.pl) R
  | par {m e : M} {R R1 : List M} {d : PyData} : m.k = "sign" → m.w = "(" → e.k = "sign" → e.w = ")" → E R d (e :: R1) → Atom E (m :: R) d R1
inductive Args (E : Rel) : Nat → List M → List PyData → List M → Prop where
  | stop {n : Nat} {R : List M} : Not AtomH R → Args E n R [] R
  | full {R : List M} : Args E 0 R [] R
  | step {n : Nat} {m : M} {R R1 R2 : List M} {a : PyData} {as : List PyData} : AtomH m = true → Atom E (m :: R) a R1 → Args E n R1 as R2 → Args E (n + 1) (m :: R) (a :: as) R2
inductive Piece (E : Rel) : Rel where
  | name {m : M} {R R1 : List M} {as : List PyData} : m.k = "name" → Args E 4 R as R1 → Piece E (m :: R) (useD m.pl m.w as) R1
  | atom {m : M} {R R1 : List M} {d : PyData} : m.k ≠ "name" → Atom E (m :: R) d R1 → Piece E (m :: R) d R1
inductive TermL (E : Rel) : PyData → Rel where
  | stop {a : PyData} {R : List M} : Not MulH R → TermL E a R a R
  | step {a b d : PyData} {m : M} {R R1 R2 : List M} : MulH m = true → Piece E R b R1 → TermL E (opD m.pl m.w a b) R1 d R2 → TermL E a (m :: R) d R2
def Term (E : Rel) : Rel := fun R d R' => ∃ a R1, Piece E R a R1 ∧ TermL E a R1 d R'
inductive SumL (E : Rel) : PyData → Rel where
  | stop {a : PyData} {R : List M} : Not AddH R → SumL E a R a R
  | step {a b d : PyData} {m : M} {R R1 R2 : List M} : AddH m = true → Term E R b R1 → SumL E (opD m.pl m.w a b) R1 d R2 → SumL E a (m :: R) d R2
def Sums (E : Rel) : Rel := fun R d R' => ∃ a R1, Term E R a R1 ∧ SumL E a R1 d R'
inductive InRow (E : Rel) : Nat → Rel where
  | one {n : Nat} {R R1 : List M} {d : PyData} : Sums E R d R1 → Not ColH R1 → InRow E (n + 1) R d R1
  | two {n : Nat} {m : M} {R R1 R2 : List M} {a b : PyData} : Sums E R a (m :: R1) → ColH m = true → InRow E n R1 b R2 → InRow E (n + 1) R (opD m.pl m.w a b) R2
inductive Like (E : Rel) (n : Nat) : Rel where
  | one {R R1 : List M} {d : PyData} : InRow E n R d R1 → Not CmpH R1 → Like E n R d R1
  | two {m : M} {R R1 R2 : List M} {a b : PyData} : InRow E n R a (m :: R1) → CmpH m = true → InRow E n R1 b R2 → Like E n R (opD m.pl m.w a b) R2
/-- a name's row in a let -/
structure LRow where
  p : PyData
  x : Str
  w : PyData
def LRow.py (r : LRow) : PyData := .tuple [r.p, .str r.x, r.w]
def isTok (m : M) (k w : Str) : Prop := m.k = k ∧ m.w = w
inductive LetRow (E : Rel) : List M → LRow → List M → Prop where
  | mk {m e s : M} {R R1 : List M} {d : PyData} : m.k = "name" → isTok e "sign" "=" → isTok s "lay" ";" → E R d (s :: R1) → LetRow E (m :: e :: R) ⟨m.pl, m.w, d⟩ R1
/-- a further row begins -/
def NameEq (R : List M) : Prop := ∃ m e r, R = m :: e :: r ∧ m.k = "name" ∧ e.w = "="
/-- the row goes on for two marks, and no further row begins -/
def NoNameEq (R : List M) : Prop := ∃ m e r, R = m :: e :: r ∧ ¬ (m.k = "name" ∧ e.w = "=")
inductive RowL (E : Rel) : List M → List LRow → List M → Prop where
  | stop {R : List M} : NoNameEq R → RowL E R [] R
  | step {R R1 R2 : List M} {r : LRow} {rs : List LRow} : NameEq R → LetRow E R r R1 → RowL E R1 rs R2 → RowL E R (r :: rs) R2
def letsD (rs : List LRow) (d : PyData) : PyData := rs.foldr (fun r b => letD r.p r.x r.w b) d
inductive ExprF (E : Rel) (n : Nat) : Rel where
  | like {m : M} {R R1 : List M} {d : PyData} : ¬ (m.k = "key" ∧ (m.w = "let" ∨ m.w = "case" ∨ m.w = "if")) → Like E n (m :: R) d R1 → Not LogH R1 → ExprF E n (m :: R) d R1
  | ite {m t e : M} {R R1 R2 R3 : List M} {a b c : PyData} : isTok m "key" "if" → E R a (t :: R1) → isTok t "key" "then" → E R1 b (e :: R2) → isTok e "key" "else" → E R2 c R3 → ExprF E n (m :: R) (ifD m.pl a b c) R3
  | lt {m o c : M} {R R1 R2 R3 : List M} {r : LRow} {rs : List LRow} {d : PyData} : rs.length ≤ 10 → isTok m "key" "let" → isTok o "lay" "{" → LetRow E R r R1 → RowL E R1 rs R2 → E R2 d (c :: R3) → isTok c "lay" "}" → ExprF E n (m :: o :: R) (letsD (r :: rs) d) R3
  | cas {m f o b g s h col t g2 c : M} {R R1 R2 R3 : List M} {a e d : PyData} : isTok m "key" "case" → E R a (f :: o :: b :: g :: R1) → isTok f "key" "of" → isTok o "lay" "{" → isTok b "sign" "[]" → isTok g "sign" "->" → E R1 e (s :: h :: col :: t :: g2 :: R2) →
      isTok s "lay" ";" → h.k = "name" → isTok col "sign" ":" → t.k = "name" → isTok g2 "sign" "->" → E R2 d (c :: R3) → isTok c "lay" "}" → ExprF E n (m :: R) (caseD m.pl a e h.w t.w d) R3
/-- expr, with so many exprs within one another -/
def PEx (fu : Nat) : Nat → Rel
  | 0 => fun _ _ _ => False
  | n + 1 => ExprF (PEx fu n) fu
inductive DefR (E : Rel) : List M → PyData → List M → Prop where
  | mk {m e : M} {ps R R1 : List M} {d : PyData} : m.k = "name" → (∀ p ∈ ps, p.k = "name") → ps.length ≤ 4 → isTok e "sign" "=" → E R d R1 →
      DefR E (m :: (ps ++ e :: R)) (.tuple [.str "def", m.pl, .str m.w, .tuple (ps.map fun p => .str p.w), d]) R1
end K10
namespace K10
open PySem
/-! ### the layout -/
def layM (w : Str) (l c : Int) : M := ⟨"lay", w, l, c⟩
def clos (n : Nat) (m : M) : List M := List.replicate n (layM "}" m.l m.c)
inductive Core : List Int → M → List Int → List M → Prop where
  | opn {S : List Int} {m : M} : isTok m "sign" "(" → S.length < 24 → Core S m (-1 :: S) [m]
  | cls {ext S : List Int} {m : M} : isTok m "sign" ")" → (∀ e ∈ ext, e ≠ -1) → Core (ext ++ -1 :: S) m S (clos ext.length m ++ [m])
  | oth {S : List Int} {m : M} : ¬ isTok m "sign" "(" → ¬ isTok m "sign" ")" → Core S m S [m]
def opensB (a : M) : Prop := a.k = "key" ∧ (a.w = "let" ∨ a.w = "of")
inductive Pre : List Int → Option M → M → List Int → List M → Prop where
  | blk {S : List Int} {a : Option M} {m : M} : (∀ b, a = some b → opensB b) → (∀ s ∈ S, s < m.c) → -1 < m.c → S.length < 24 → Pre S a m (m.c :: S) [layM "{" m.l m.c]
  | same {S : List Int} {a m : M} : ¬ opensB a → ¬ a.l < m.l → Pre S (some a) m S []
  | line {ext S : List Int} {s : Int} {a m : M} : ¬ opensB a → a.l < m.l → (∀ e ∈ ext, m.c < e) → s ≤ m.c → Pre (ext ++ s :: S) (some a) m (s :: S) (clos ext.length m ++ if s = m.c then [layM ";" m.l m.c] else [])
def LayN : List Int → Option M → List M → List Int → List M → Prop
  | S, _, [], S', D => S' = S ∧ D = []
  | S, a, m :: r, S', D => ∃ S1 D1 S2 D2 D3, Pre S a m S1 D1 ∧ Core S1 m S2 D2 ∧ LayN S2 (some m) r S' D3 ∧ D = D1 ++ (D2 ++ D3)
def Lay0 : List Int → List M → List Int → List M → Prop
  | S, [], S', D => S' = S ∧ D = []
  | S, m :: r, S', D => ∃ S1 D1 D2, Core S m S1 D1 ∧ LayN S1 (some m) r S' D2 ∧ D = D1 ++ D2
theorem layN_of {S S1 S' : List Int} {a : Option M} {m : M} {r D1 D2 : List M} (h : Pre S a m S1 D1) (h2 : Lay0 S1 (m :: r) S' D2) : LayN S a (m :: r) S' (D1 ++ D2) := by
  obtain ⟨S2, E1, E2, c, l, rfl⟩ := h2
  exact ⟨S1, D1, S2, E1, E2, h, c, l, rfl⟩
theorem layN_app : ∀ {ms ms' : List M} {S S1 S2 : List Int} {a b : Option M} {D1 D2 : List M}, LayN S a ms S1 D1 → (∀ z, (ms.getLast? = some z → b = some z)) → (ms = [] → b = a) → LayN S1 b ms' S2 D2 → LayN S a (ms ++ ms') S2 (D1 ++ D2)
  | [], ms', S, S1, S2, a, b, D1, D2, h, _, hb, h2 => by
    obtain ⟨rfl, rfl⟩ := h
    rw [hb rfl] at h2
    exact h2
  | m :: r, ms', S, S1, S2, a, b, D1, D2, h, hl, _, h2 => by
    obtain ⟨T1, E1, T2, E2, E3, p, c, l, rfl⟩ := h
    refine ⟨T1, E1, T2, E2, E3 ++ D2, p, c, layN_app (b := b) l (fun z hz => hl z ?_) (fun e => ?_) h2, by simp⟩
    · cases r with
      | nil => simp at hz
      | cons x y => rw [List.getLast?_cons_cons]; exact hz
    · subst e
      exact hl m rfl
theorem lay0_app {ms ms' : List M} {S S1 S2 : List Int} {a : M} {D1 D2 : List M} (h : Lay0 S ms S1 D1) (hl : ms.getLast? = some a) (h2 : LayN S1 (some a) ms' S2 D2) : Lay0 S (ms ++ ms') S2 (D1 ++ D2) := by
  cases ms with
  | nil => simp at hl
  | cons m r =>
    obtain ⟨T1, E1, E2, c, l, rfl⟩ := h
    refine ⟨T1, E1, E2 ++ D2, c, layN_app (b := some a) l (fun z hz => ?_) (fun e => ?_) h2, by simp⟩
    · cases r with
      | nil => simp at hz
      | cons x y => rw [List.getLast?_cons_cons, hz] at hl; exact hl.symm
    · subst e
      exact hl.symm
theorem core_ne {S S' : List Int} {m : M} {D : List M} (h : Core S m S' D) : D ≠ [] := by
  cases h <;> simp
theorem lay0_ne {S S' : List Int} {ms D : List M} (h : Lay0 S ms S' D) (hn : ms ≠ []) : D ≠ [] := by
  cases ms with
  | nil => exact absurd rfl hn
  | cons m r =>
    obtain ⟨_, D1, _, c, _, rfl⟩ := h
    intro e
    exact core_ne c (List.append_eq_nil_iff.mp e).1
/-- a mark that goes on: on the line, or on another one, not left of lo -/
def Cont (lo : Int) (a m : M) : Prop := m.l = a.l ∨ (a.l < m.l ∧ lo ≤ m.c)
theorem pre_cont {lo s : Int} {a m : M} {S : List Int} (h : Cont lo a m) (ha : ¬ opensB a) (hs : s < lo) : Pre (s :: S) (some a) m (s :: S) [] := by
  rcases h with h | ⟨h1, h2⟩
  · exact .same ha (by omega)
  · have z : Pre ([] ++ s :: S) (some a) m (s :: S) (clos ([] : List Int).length m ++ if s = m.c then [layM ";" m.l m.c] else []) := Pre.line ha h1 (by simp) (by omega)
    rw [if_neg (by omega)] at z
    exact z
/-- closers, wherever they stand -/
def Cl (n : Nat) (C : List M) : Prop := C.length = n ∧ ∀ m ∈ C, isTok m "lay" "}"
theorem cl_clos (n : Nat) (m : M) : Cl n (clos n m) := ⟨by simp [clos], fun x hx => by
  rw [(List.mem_replicate.mp hx).2]
  exact ⟨rfl, rfl⟩⟩
theorem cl_nil : Cl 0 [] := ⟨rfl, by simp⟩
theorem cl_app {a b : Nat} {C D : List M} (h : Cl a C) (h2 : Cl b D) : Cl (a + b) (C ++ D) :=
  ⟨by rw [List.length_append, h.1, h2.1], fun m hm => (List.mem_append.mp hm).elim (h.2 m) (h2.2 m)⟩

/-! ### reading by levels -/
def StopE (R : List M) : Prop := Not AtomH R ∧ Not MulH R ∧ Not AddH R ∧ Not ColH R ∧ Not CmpH R ∧ Not LogH R
def ParA (E : Rel) (D : List M) (d : PyData) : Prop := ∀ R, Atom E (D ++ R) d R
def ParP (E : Rel) (D : List M) (d : PyData) : Prop := ∀ R, Not AtomH R → Piece E (D ++ R) d R
def ParT (E : Rel) (D : List M) (d : PyData) : Prop := ∀ R d' R', Not AtomH R → TermL E d R d' R' → Term E (D ++ R) d' R'
def ParS (E : Rel) (D : List M) (d : PyData) : Prop := ∀ R d' R', Not AtomH R → Not MulH R → SumL E d R d' R' → Sums E (D ++ R) d' R'
def ParI (E : Rel) (k : Nat) (D : List M) (d : PyData) : Prop := ∀ fu R, k ≤ fu → Not AtomH R → Not MulH R → Not AddH R → Not ColH R → InRow E fu (D ++ R) d R
def ParE (E : Rel) (D : List M) (d : PyData) : Prop := ∀ R, StopE R → ExprF E 6 (D ++ R) d R
def ParL (k : Nat) (E : Rel) : Nat → List M → PyData → Prop
  | 8 => ParA E
  | 7 => ParP E
  | 6 => ParT E
  | 5 => ParS E
  | 4 => ParI E k
  | _ => ParE E
theorem atom_piece {E : Rel} {X R : List M} {d : PyData} (h : Atom E X d R) (hs : Not AtomH R) : Piece E X d R := by
  cases h with
  | num h1 h2 => exact .atom (by rw [h1]; decide +kernel) (.num h1 h2)
  | name h1 => exact .name h1 (.stop hs)
  | nil h1 h2 => exact .atom (by rw [h1]; decide +kernel) (.nil h1 h2)
  | par h1 h2 h3 h4 h5 => exact .atom (by rw [h1]; decide +kernel) (.par h1 h2 h3 h4 h5)
theorem par_AP {E : Rel} {D : List M} {d : PyData} (h : ParA E D d) : ParP E D d := fun R hs => atom_piece (h R) hs
theorem par_PT {E : Rel} {D : List M} {d : PyData} (h : ParP E D d) : ParT E D d := fun R d' R' hs hl => ⟨d, R, h R hs, hl⟩
theorem par_TS {E : Rel} {D : List M} {d : PyData} (h : ParT E D d) : ParS E D d := fun R d' R' hs hm hl => ⟨d, R, h R d R hs (.stop hm), hl⟩
theorem par_SI {E : Rel} {k : Nat} {D : List M} {d : PyData} (hk : 1 ≤ k) (h : ParS E D d) : ParI E k D d := fun fu R hf h1 h2 h3 h4 => by
  obtain ⟨f, rfl⟩ : ∃ f, fu = f + 1 := ⟨fu - 1, by omega⟩
  exact .one (h R d R h1 h2 (.stop h3)) h4
/-- a row's first mark, where one thing begins -/
def HeadOk (X : List M) : Prop := ∃ m r, X = m :: r ∧ m.k ≠ "key"
theorem atom_head {E : Rel} {X R : List M} {d : PyData} (h : Atom E X d R) : HeadOk X := by
  cases h with
  | num h1 _ => exact ⟨_, _, rfl, by rw [h1]; decide +kernel⟩
  | name h1 => exact ⟨_, _, rfl, by rw [h1]; decide +kernel⟩
  | nil h1 _ => exact ⟨_, _, rfl, by rw [h1]; decide +kernel⟩
  | par h1 _ _ _ _ => exact ⟨_, _, rfl, by rw [h1]; decide +kernel⟩
theorem piece_head {E : Rel} {X R : List M} {d : PyData} (h : Piece E X d R) : HeadOk X := by
  cases h with
  | name h1 _ => exact ⟨_, _, rfl, by rw [h1]; decide +kernel⟩
  | atom _ h2 => exact atom_head h2
theorem sums_head {E : Rel} {X R : List M} {d : PyData} (h : Sums E X d R) : HeadOk X := by
  obtain ⟨_, _, ⟨_, _, hp, _⟩, _⟩ := h
  exact piece_head hp
theorem inrow_head {E : Rel} {n : Nat} {X R : List M} {d : PyData} (h : InRow E n X d R) : HeadOk X := by
  cases h with
  | one h1 _ => exact sums_head h1
  | two h1 _ _ => exact sums_head h1
theorem like_head {E : Rel} {n : Nat} {X R : List M} {d : PyData} (h : Like E n X d R) : HeadOk X := by
  cases h with
  | one h1 _ => exact inrow_head h1
  | two h1 _ _ => exact inrow_head h1
theorem like_expr {E : Rel} {n : Nat} {X R : List M} {d : PyData} (h : Like E n X d R) (hl : Not LogH R) : ExprF E n X d R := by
  obtain ⟨m, r, rfl, hk⟩ := like_head h
  exact .like (fun z => hk z.1) h hl
theorem par_IE {E : Rel} {k : Nat} {D : List M} {d : PyData} (hk : k ≤ 6) (h : ParI E k D d) : ParE E D d := fun R ⟨h1, h2, h3, h4, h5, h6⟩ =>
  like_expr (.one (h 6 R hk h1 h2 h3 h4) h5) h6
theorem parL_E {k : Nat} {E : Rel} {n : Nat} {D : List M} {d : PyData} (hn : n ≤ 3) : ParL k E n D d = ParE E D d := by
  match n, hn with
  | 0, _ => rfl
  | 1, _ => rfl
  | 2, _ => rfl
  | 3, _ => rfl
theorem parL_step {k : Nat} {E : Rel} {n : Nat} {D : List M} {d : PyData} (h1 : 1 ≤ k) (h6 : k ≤ 6) (hn : n < 8) (h : ParL k E (n + 1) D d) : ParL k E n D d := by
  match n, hn, h with
  | 7, _, h => exact par_AP h
  | 6, _, h => exact par_PT h
  | 5, _, h => exact par_TS h
  | 4, _, h => exact par_SI h1 h
  | 3, _, h => exact par_IE h6 h
  | 2, _, h => exact h
  | 1, _, h => exact h
  | 0, _, h => exact h
theorem parL_down {k : Nat} {E : Rel} {a b : Nat} {D : List M} {d : PyData} (h1 : 1 ≤ k) (h6 : k ≤ 6) (ha : a ≤ 8) (hb : b ≤ a) (h : ParL k E a D d) : ParL k E b D d := by
  induction a with
  | zero =>
    obtain rfl : b = 0 := by omega
    exact h
  | succ n ih =>
    by_cases e : b = n + 1
    · subst e
      exact h
    · exact ih (by omega) (by omega) (parL_step h1 h6 (by omega) h)

/-! ### what a written expr is -/
def EndTok (m : M) : Prop := m.k = "name" ∨ m.k = "number" ∨ (m.k = "sign" ∧ (m.w = "[]" ∨ m.w = ")"))
def SecOk (D : List M) : Prop := ∀ a b r, D = a :: b :: r → a.k = "name" → b.w ≠ "="
structure Ready (q : Nat) (least lo : Int) (S : List Int) : Prop where
  top : ∃ s S0, S = s :: S0 ∧ s < lo
  most : ∀ s ∈ S, s ≤ least
  room : S.length + (q + 1) ≤ 24
  pos : 0 ≤ least
/-- q: how deep, k: the depth, need: how near it holds together; ms its marks, read to d -/
structure Ex (q k need : Nat) (least lo : Int) (ms : List M) (d : PyData) : Prop where
  last : ∃ a, ms.getLast? = some a ∧ EndTok a
  lays : ∀ S, Ready q least lo S → ∃ ext D, Lay0 S ms (ext ++ S) D ∧ (∀ e ∈ ext, least < e) ∧ (1 ≤ need → ext = []) ∧ ∀ C, Cl ext.length C → SecOk (D ++ C) ∧ ∀ N, q ≤ N → ParL k (PEx 6 N) need (D ++ C) d
theorem Ready.mono {q q' : Nat} {least lo : Int} {S : List Int} (r : Ready q least lo S) (h : q' ≤ q) : Ready q' least lo S := ⟨r.top, r.most, by have := r.room; omega, r.pos⟩
theorem Ex.ne {q k need : Nat} {least lo : Int} {ms : List M} {d : PyData} (h : Ex q k need least lo ms d) : ms ≠ [] := by
  obtain ⟨a, e, _⟩ := h.last
  intro z
  rw [z] at e
  cases e
theorem Ex.strict {q k need : Nat} {least lo : Int} {ms : List M} {d : PyData} (h : Ex q k need least lo ms d) (hn : 1 ≤ need) {S : List Int} (r : Ready q least lo S) : ∃ D, Lay0 S ms S D ∧ D ≠ [] ∧ SecOk D ∧ ∀ N, q ≤ N → ParL k (PEx 6 N) need D d := by
  obtain ⟨ext, D, l, _, he, p⟩ := h.lays S r
  obtain rfl := he hn
  obtain ⟨p1, p2⟩ := p [] cl_nil
  rw [List.append_nil] at p1 p2
  exact ⟨D, l, lay0_ne l h.ne, p1, p2⟩
theorem EndTok.nob {a : M} (h : EndTok a) : ¬ opensB a := by
  rintro ⟨hk, _⟩
  rcases h with h | h | ⟨h, _⟩
  · rw [h] at hk; revert hk; decide +kernel
  · rw [h] at hk; revert hk; decide +kernel
  · rw [h] at hk; revert hk; decide +kernel
theorem secOk_key {D : List M} {m : M} {r : List M} (e : D = m :: r) (h : m.k ≠ "name") : SecOk D := fun a b r' e' ha => by
  rw [e] at e'
  injection e' with e1 _
  rw [e1] at h
  exact absurd ha h
/-- a mark that opens and closes nothing -/
def Plain (m : M) : Prop := ¬ isTok m "sign" "(" ∧ ¬ isTok m "sign" ")"
theorem plain_k {m : M} (h : m.k ≠ "sign") : Plain m := ⟨fun z => h z.1, fun z => h z.1⟩
theorem plain_w {m : M} (h1 : m.w ≠ "(") (h2 : m.w ≠ ")") : Plain m := ⟨fun z => h1 z.2, fun z => h2 z.2⟩
theorem lay0_one {S : List Int} {m : M} (h : Plain m) : Lay0 S [m] S [m] := ⟨S, [m], [], .oth h.1 h.2, ⟨rfl, rfl⟩, rfl⟩
/-- an atom of one mark -/
theorem ex_atom {q k : Nat} {least lo : Int} {m : M} {d : PyData} (hp : Plain m) (he : EndTok m) (ha : ∀ E R, Atom E (m :: R) d R) : Ex q k 8 least lo [m] d :=
  ⟨⟨m, rfl, he⟩, fun S r => ⟨[], [m], lay0_one hp, by simp, fun _ => rfl, fun C hC => by
    obtain rfl : C = [] := List.eq_nil_of_length_eq_zero hC.1
    exact ⟨fun a b r e => by simp at e, fun N _ R => ha _ R⟩⟩⟩
theorem ex_num {q k : Nat} {least lo : Int} {m : M} {i : Int} (hk : m.k = "number") (hn : numOf m.w i) : Ex q k 8 least lo [m] (numD m.pl i) :=
  ex_atom (plain_k (by rw [hk]; decide +kernel)) (.inr (.inl hk)) fun _ _ => .num hk hn
theorem ex_nil {q k : Nat} {least lo : Int} {m : M} (hk : m.k = "sign") (hn : m.w = "[]") : Ex q k 8 least lo [m] (nilD m.pl) :=
  ex_atom (plain_w (by rw [hn]; decide +kernel) (by rw [hn]; decide +kernel)) (.inr (.inr ⟨hk, .inl hn⟩)) fun _ _ => .nil hk hn
theorem ex_use0 {q k : Nat} {least lo : Int} {m : M} (hk : m.k = "name") : Ex q k 8 least lo [m] (useD m.pl m.w []) :=
  ex_atom (plain_k (by rw [hk]; decide +kernel)) (.inl hk) fun _ _ => .name hk
/-- a so-written tree, wanted at a lesser level -/
theorem Ex.down {q q' k lev need : Nat} {least lo : Int} {ms : List M} {d : PyData} (h : Ex q k lev least lo ms d) (hq : q ≤ q') (h1 : 1 ≤ k) (h6 : k ≤ 6) (hl : lev ≤ 8) (hn : need ≤ lev) : Ex q' k need least lo ms d :=
  ⟨h.last, fun S r => by
    obtain ⟨ext, D, l, he, hz, p⟩ := h.lays S (r.mono hq)
    exact ⟨ext, D, l, he, fun z => hz (by omega), fun C hC => ⟨(p C hC).1, fun N hN => parL_down h1 h6 hl hn ((p C hC).2 N (by omega))⟩⟩⟩
/-- within round brackets -/
theorem ex_par {q k lev : Nat} {least lo lo' : Int} {b e : M} {ms : List M} {d : PyData} {need : Nat} (h : Ex q k lev least 0 ms d) (h1 : 1 ≤ k) (h6 : k ≤ 6) (hl : lev ≤ 8) (hb : isTok b "sign" "(") (he : isTok e "sign" ")")
    (hc : ∃ m r, ms = m :: r ∧ Cont 0 b m) (hz : ∃ a, ms.getLast? = some a ∧ e.l = a.l) (hn : need ≤ 8) : Ex (q + 1) k need least lo (b :: (ms ++ [e])) d := by
  refine ⟨⟨e, by rw [← List.cons_append, List.getLast?_append] <;> rfl, .inr (.inr ⟨he.1, .inr he.2⟩)⟩, fun S r => ?_⟩
  have r' : Ready q least 0 (-1 :: S) := ⟨⟨-1, S, rfl, by omega⟩, fun s hs => by
      rcases List.mem_cons.mp hs with z | z
      · have := r.pos
        omega
      · exact r.most s z, by have := r.room; rw [List.length_cons]; omega, r.pos⟩
  obtain ⟨ext, D, l, hx, _, p⟩ := (h.down (need := 0) (Nat.le_refl q) h1 h6 hl (by omega)).lays _ r'
  obtain ⟨m, rr, rfl, hm⟩ := hc
  obtain ⟨a, ha, hal⟩ := hz
  obtain ⟨a', ha', hend⟩ := h.last
  rw [ha] at ha'
  cases ha'
  have nb : ¬ opensB b := fun z => by
    have z1 := z.1
    rw [hb.1] at z1
    revert z1
    decide +kernel
  have step1 : LayN (-1 :: S) (some b) (m :: rr) (ext ++ -1 :: S) ([] ++ D) := layN_of (pre_cont hm nb (by omega)) l
  have step2 : LayN (ext ++ -1 :: S) (some a) [e] S ([] ++ ((clos ext.length e ++ [e]) ++ [])) :=
    ⟨_, _, _, _, _, .same hend.nob (by omega), .cls he (fun x hx' z => by have := hx x hx'; have := r.pos; omega), ⟨rfl, rfl⟩, rfl⟩
  have step : LayN (-1 :: S) (some b) (m :: rr ++ [e]) S (([] ++ D) ++ ([] ++ ((clos ext.length e ++ [e]) ++ []))) := layN_app (b := some a) step1 (fun z hz => by rw [ha] at hz; exact hz) (by simp) step2
  refine ⟨[], b :: (D ++ (clos ext.length e ++ [e])), ⟨-1 :: S, [b], _, .opn hb (by have := r.room; omega), step, by simp⟩, by simp, fun _ => rfl, fun C hC => ?_⟩
  obtain rfl : C = [] := List.eq_nil_of_length_eq_zero hC.1
  rw [List.append_nil]
  refine ⟨secOk_key rfl (by rw [hb.1]; decide +kernel), fun N hN => parL_down h1 h6 (Nat.le_refl 8) hn ?_⟩
  intro R
  obtain ⟨n, rfl⟩ : ∃ n, N = n + 1 := ⟨N - 1, by omega⟩
  have pe := (p (clos ext.length e) (cl_clos _ _)).2 n (by omega) (e :: R) (by
    have hk := he.1
    have hw := he.2
    have f : ∀ (k : Str) (ws : List Str), (k ≠ "sign" ∨ (ws ≠ [] ∧ (")" : Str) ∉ ws)) → e.sees k ws = false := fun k ws h => by
      unfold M.sees
      rw [hk, hw]
      rcases h with h | ⟨h, h'⟩
      · rw [decide_eq_false (fun z => h z.symm)]
        rfl
      · rw [decide_eq_false h']
        cases ws with
        | nil => exact absurd rfl h
        | cons x y => exact Bool.and_false _
    have f1 : ∀ (k : Str) (ws : List Str), k ≠ "sign" → e.sees k ws = false := fun k ws h => f k ws (.inl h)
    refine ⟨⟨e, R, rfl, ?_⟩, ⟨e, R, rfl, ?_⟩, ⟨e, R, rfl, ?_⟩, ⟨e, R, rfl, ?_⟩, ⟨e, R, rfl, ?_⟩, ⟨e, R, rfl, ?_⟩⟩
    · unfold AtomH
      rw [f1 "number" _ (by decide +kernel), f1 "name" _ (by decide +kernel), f "sign" _ (.inr ⟨by simp, by decide +kernel⟩)] <;> rfl
    · unfold MulH
      rw [f1 "key" _ (by decide +kernel), f "sign" _ (.inr ⟨by simp, by decide +kernel⟩)] <;> rfl
    · exact f "sign" _ (.inr ⟨by simp, by decide +kernel⟩)
    · exact f "sign" _ (.inr ⟨by simp, by decide +kernel⟩)
    · exact f "sign" _ (.inr ⟨by simp, by decide +kernel⟩)
    · unfold LogH
      rw [f1 "key" _ (by decide +kernel), f1 "key" _ (by decide +kernel)] <;> rfl)
  have z : Atom (PEx 6 (n + 1)) (b :: ((D ++ clos ext.length e) ++ (e :: R))) d R := .par hb.1 hb.2 he.1 he.2 pe
  have eq : b :: (D ++ (clos ext.length e ++ [e])) ++ R = b :: ((D ++ clos ext.length e) ++ (e :: R)) := by simp
  rw [eq]
  exact z
end K10
namespace K10
open PySem
theorem sees_of {m : M} {k w : Str} (h : isTok m k w) (k' : Str) (ws : List Str) : m.sees k' ws = M.sees ⟨k, w, 0, 0⟩ k' ws := by
  unfold M.sees
  rw [h.1, h.2]
theorem atomH_of {m : M} {k w : Str} (h : isTok m k w) : AtomH m = AtomH ⟨k, w, 0, 0⟩ := by unfold AtomH; rw [sees_of h, sees_of h, sees_of h]
theorem mulH_of {m : M} {k w : Str} (h : isTok m k w) : MulH m = MulH ⟨k, w, 0, 0⟩ := by unfold MulH; rw [sees_of h, sees_of h]
theorem addH_of {m : M} {k w : Str} (h : isTok m k w) : AddH m = AddH ⟨k, w, 0, 0⟩ := by unfold AddH; rw [sees_of h]
theorem colH_of {m : M} {k w : Str} (h : isTok m k w) : ColH m = ColH ⟨k, w, 0, 0⟩ := by unfold ColH; rw [sees_of h]
theorem cmpH_of {m : M} {k w : Str} (h : isTok m k w) : CmpH m = CmpH ⟨k, w, 0, 0⟩ := by unfold CmpH; rw [sees_of h]
theorem logH_of {m : M} {k w : Str} (h : isTok m k w) : LogH m = LogH ⟨k, w, 0, 0⟩ := by unfold LogH; rw [sees_of h, sees_of h]
def stopB (m : M) : Bool := !AtomH m && (!MulH m && (!AddH m && (!ColH m && (!CmpH m && !LogH m))))
theorem stop_tok {m : M} {R : List M} {k w : Str} (h : isTok m k w) (c : stopB ⟨k, w, 0, 0⟩ = true) : StopE (m :: R) := by
  unfold stopB at c
  simp only [Bool.and_eq_true, Bool.not_eq_true'] at c
  obtain ⟨c1, c2, c3, c4, c5, c6⟩ := c
  exact ⟨⟨m, R, rfl, (atomH_of h).trans c1⟩, ⟨m, R, rfl, (mulH_of h).trans c2⟩, ⟨m, R, rfl, (addH_of h).trans c3⟩, ⟨m, R, rfl, (colH_of h).trans c4⟩, ⟨m, R, rfl, (cmpH_of h).trans c5⟩, ⟨m, R, rfl, (logH_of h).trans c6⟩⟩
theorem plain_of {m : M} {k w : Str} (h : isTok m k w) (c : k ≠ "sign" ∨ (w ≠ "(" ∧ w ≠ ")")) : Plain m := by
  rcases c with c | ⟨c1, c2⟩
  · exact plain_k (by rw [h.1]; exact c)
  · exact plain_w (by rw [h.2]; exact c1) (by rw [h.2]; exact c2)
theorem nob_of {m : M} {k w : Str} (h : isTok m k w) (c : k ≠ "key" ∨ (w ≠ "let" ∧ w ≠ "of")) : ¬ opensB m := by
  rintro ⟨z1, z2⟩
  rw [h.1] at z1
  rw [h.2] at z2
  rcases c with c | ⟨c1, c2⟩
  · exact c z1
  · exact z2.elim c1 c2
/-- marks, one list behind the other, over the same stack -/
theorem layN_tok {lo s : Int} {S : List Int} {a m : M} (h : Cont lo a m) (ha : ¬ opensB a) (hs : s < lo) (hp : Plain m) : LayN (s :: S) (some a) [m] (s :: S) [m] :=
  layN_of (D1 := []) (pre_cont h ha hs) (lay0_one hp)
theorem layN_seg {lo s : Int} {S S' : List Int} {a m : M} {r D : List M} (h : Cont lo a m) (ha : ¬ opensB a) (hs : s < lo) (l : Lay0 (s :: S) (m :: r) S' D) : LayN (s :: S) (some a) (m :: r) S' D :=
  layN_of (D1 := []) (pre_cont h ha hs) l
theorem layN_cat {ms ms' : List M} {S S1 S2 : List Int} {a b : M} {D1 D2 : List M} (h : LayN S (some a) ms S1 D1) (hb : (a :: ms).getLast? = some b) (h2 : LayN S1 (some b) ms' S2 D2) : LayN S (some a) (ms ++ ms') S2 (D1 ++ D2) := by
  refine layN_app h (fun z hz => ?_) (fun e => ?_) h2
  · cases ms with
    | nil => cases hz
    | cons x y => rw [List.getLast?_cons_cons, hz] at hb; exact hb.symm
  · subst e
    exact hb.symm
/-- first marks -/
def Hd (lo : Int) (a : M) (ms : List M) : Prop := ∃ m r, ms = m :: r ∧ Cont lo a m
theorem layN_hd {lo s : Int} {S S' : List Int} {a : M} {ms D : List M} (h : Hd lo a ms) (ha : ¬ opensB a) (hs : s < lo) (l : Lay0 (s :: S) ms S' D) : LayN (s :: S) (some a) ms S' D := by
  obtain ⟨m, r, rfl, hc⟩ := h
  exact layN_seg hc ha hs l
theorem last_cons {a : M} {ms : List M} {b : M} (h : ms.getLast? = some b) : (a :: ms).getLast? = some b := by
  cases ms with
  | nil => cases h
  | cons x y => rw [List.getLast?_cons_cons]; exact h
theorem last_app {ms ms' : List M} {b : M} (h : ms'.getLast? = some b) : (ms ++ ms').getLast? = some b := by
  rw [List.getLast?_append, h] <;> rfl

/-! ### operators -/
def levO (s : Str) : Nat := if s = "==" ∨ s = "<" then 3 else if s = ":" then 4 else if s = "+" ∨ s = "-" then 5 else 6
def needL (s : Str) : Nat := levO s + if levO s < 5 then 1 else 0
def needR (s : Str) : Nat := levO s + if levO s = 4 then 0 else 1
def kindO (s : Str) : Str := if s = "div" ∨ s = "mod" then "key" else "sign"
theorem par_mul {k : Nat} {E : Rel} {m : M} {Dl Dr : List M} {dl dr : PyData} (ha : AtomH m = false) (hm : MulH m = true) (h1 : ParL k E 6 Dl dl) (h2 : ParL k E 7 Dr dr) : ParL (k + 1) E 6 (Dl ++ m :: Dr) (opD m.pl m.w dl dr) := by
  intro R d' R' hs hl
  have e : (Dl ++ m :: Dr) ++ R = Dl ++ (m :: (Dr ++ R)) := by simp
  rw [e]
  exact h1 (m :: (Dr ++ R)) d' R' ⟨m, _, rfl, ha⟩ (.step hm (h2 R hs) hl)
theorem par_add {k : Nat} {E : Rel} {m : M} {Dl Dr : List M} {dl dr : PyData} (ha : AtomH m = false) (hm : MulH m = false) (hd : AddH m = true) (h1 : ParL k E 5 Dl dl) (h2 : ParL k E 6 Dr dr) : ParL (k + 1) E 5 (Dl ++ m :: Dr) (opD m.pl m.w dl dr) := by
  intro R d' R' hs hm' hl
  have e : (Dl ++ m :: Dr) ++ R = Dl ++ (m :: (Dr ++ R)) := by simp
  rw [e]
  exact h1 (m :: (Dr ++ R)) d' R' ⟨m, _, rfl, ha⟩ ⟨m, _, rfl, hm⟩ (.step hd (h2 R dr R hs (.stop hm')) hl)
theorem par_col {k : Nat} {E : Rel} {m : M} {Dl Dr : List M} {dl dr : PyData} (ha : AtomH m = false) (hm : MulH m = false) (hd : AddH m = false) (hc : ColH m = true) (h1 : ParL k E 5 Dl dl) (h2 : ParL k E 4 Dr dr) :
    ParL (k + 1) E 4 (Dl ++ m :: Dr) (opD m.pl m.w dl dr) := by
  intro fu R hf s1 s2 s3 s4
  have e : (Dl ++ m :: Dr) ++ R = Dl ++ (m :: (Dr ++ R)) := by simp
  rw [e]
  obtain ⟨f, rfl⟩ : ∃ f, fu = f + 1 := ⟨fu - 1, by omega⟩
  exact .two (h1 (m :: (Dr ++ R)) dl _ ⟨m, _, rfl, ha⟩ ⟨m, _, rfl, hm⟩ (.stop ⟨m, _, rfl, hd⟩)) hc (h2 f R (by omega) s1 s2 s3 s4)
theorem par_cmp {k : Nat} {E : Rel} {m : M} {Dl Dr : List M} {dl dr : PyData} (hk : k ≤ 6) (ha : AtomH m = false) (hm : MulH m = false) (hd : AddH m = false) (hc : ColH m = false) (hq : CmpH m = true) (h1 : ParL k E 4 Dl dl) (h2 : ParL k E 4 Dr dr) :
    ParL (k + 1) E 3 (Dl ++ m :: Dr) (opD m.pl m.w dl dr) := by
  intro R ⟨s1, s2, s3, s4, s5, s6⟩
  have e : (Dl ++ m :: Dr) ++ R = Dl ++ (m :: (Dr ++ R)) := by simp
  rw [e]
  exact like_expr (.two (h1 6 (m :: (Dr ++ R)) hk ⟨m, _, rfl, ha⟩ ⟨m, _, rfl, hm⟩ ⟨m, _, rfl, hd⟩ ⟨m, _, rfl, hc⟩) hq (h2 6 R hk s1 s2 s3 s4)) s6
theorem par_op {k : Nat} {E : Rel} {m : M} {s : Str} {Dl Dr : List M} {dl dr : PyData} (hk : k ≤ 6) (hs : s ∈ opsS) (hm : isTok m (kindO s) s) (h1 : ParL k E (needL s) Dl dl) (h2 : ParL k E (needR s) Dr dr) : ParL (k + 1) E (levO s) (Dl ++ m :: Dr) (opD m.pl s dl dr) := by
  have ew := hm.2
  simp only [opsS, List.mem_cons, List.not_mem_nil, or_false] at hs
  rcases hs with rfl | rfl | rfl | rfl | rfl | rfl | rfl | rfl
  · rw [show levO "+" = 5 by decide +kernel]; rw [show needL "+" = 5 by decide +kernel] at h1; rw [show needR "+" = 6 by decide +kernel] at h2
    rw [← ew]
    exact par_add ((atomH_of hm).trans (by decide +kernel)) ((mulH_of hm).trans (by decide +kernel)) ((addH_of hm).trans (by decide +kernel)) h1 h2
  · rw [show levO "-" = 5 by decide +kernel]; rw [show needL "-" = 5 by decide +kernel] at h1; rw [show needR "-" = 6 by decide +kernel] at h2
    rw [← ew]
    exact par_add ((atomH_of hm).trans (by decide +kernel)) ((mulH_of hm).trans (by decide +kernel)) ((addH_of hm).trans (by decide +kernel)) h1 h2
  · rw [show levO "*" = 6 by decide +kernel]; rw [show needL "*" = 6 by decide +kernel] at h1; rw [show needR "*" = 7 by decide +kernel] at h2
    rw [← ew]
    exact par_mul ((atomH_of hm).trans (by decide +kernel)) ((mulH_of hm).trans (by decide +kernel)) h1 h2
  · rw [show levO "div" = 6 by decide +kernel]; rw [show needL "div" = 6 by decide +kernel] at h1; rw [show needR "div" = 7 by decide +kernel] at h2
    rw [← ew]
    exact par_mul ((atomH_of hm).trans (by decide +kernel)) ((mulH_of hm).trans (by decide +kernel)) h1 h2
  · rw [show levO "mod" = 6 by decide +kernel]; rw [show needL "mod" = 6 by decide +kernel] at h1; rw [show needR "mod" = 7 by decide +kernel] at h2
    rw [← ew]
    exact par_mul ((atomH_of hm).trans (by decide +kernel)) ((mulH_of hm).trans (by decide +kernel)) h1 h2
  · rw [show levO "==" = 3 by decide +kernel]; rw [show needL "==" = 4 by decide +kernel] at h1; rw [show needR "==" = 4 by decide +kernel] at h2
    rw [← ew]
    exact par_cmp hk ((atomH_of hm).trans (by decide +kernel)) ((mulH_of hm).trans (by decide +kernel)) ((addH_of hm).trans (by decide +kernel)) ((colH_of hm).trans (by decide +kernel)) ((cmpH_of hm).trans (by decide +kernel)) h1 h2
  · rw [show levO "<" = 3 by decide +kernel]; rw [show needL "<" = 4 by decide +kernel] at h1; rw [show needR "<" = 4 by decide +kernel] at h2
    rw [← ew]
    exact par_cmp hk ((atomH_of hm).trans (by decide +kernel)) ((mulH_of hm).trans (by decide +kernel)) ((addH_of hm).trans (by decide +kernel)) ((colH_of hm).trans (by decide +kernel)) ((cmpH_of hm).trans (by decide +kernel)) h1 h2
  · rw [show levO ":" = 4 by decide +kernel]; rw [show needL ":" = 5 by decide +kernel] at h1; rw [show needR ":" = 4 by decide +kernel] at h2
    rw [← ew]
    exact par_col ((atomH_of hm).trans (by decide +kernel)) ((mulH_of hm).trans (by decide +kernel)) ((addH_of hm).trans (by decide +kernel)) ((colH_of hm).trans (by decide +kernel)) h1 h2
theorem op_facts {s : Str} (hs : s ∈ opsS) : s ≠ "=" ∧ s ≠ "(" ∧ s ≠ ")" ∧ s ≠ "let" ∧ s ≠ "of" ∧ 1 ≤ needL s ∧ 1 ≤ needR s ∧ 1 ≤ levO s ∧ levO s ≤ 8 := by
  simp only [opsS, List.mem_cons, List.not_mem_nil, or_false] at hs
  rcases hs with rfl | rfl | rfl | rfl | rfl | rfl | rfl | rfl <;> decide +kernel
theorem secOk_cat {Dl X : List M} {m : M} (h : SecOk Dl) (hn : Dl ≠ []) (hm : m.w ≠ "=") : SecOk (Dl ++ m :: X) := fun a b r e ha => by
  cases Dl with
  | nil => exact absurd rfl hn
  | cons x y =>
    cases y with
    | nil =>
      injection e with e1 e2
      injection e2 with e3 _
      rw [← e3]
      exact hm
    | cons z t =>
      injection e with e1 e2
      injection e2 with e3 _
      rw [← e3]
      exact h x z t rfl (by rw [e1]; exact ha)
theorem ex_op {q k : Nat} {least lo : Int} {ml mr : List M} {m : M} {s : Str} {dl dr : PyData} (hk : k ≤ 6) (hs : s ∈ opsS) (hm : isTok m (kindO s) s) (hl : Ex q k (needL s) least lo ml dl) (hr : Ex q k (needR s) least lo mr dr)
    (c1 : ∃ a, ml.getLast? = some a ∧ Cont lo a m) (c2 : Hd lo m mr) : Ex q (k + 1) (levO s) least lo (ml ++ m :: mr) (opD m.pl s dl dr) := by
  obtain ⟨f1, f2, f3, f4, f5, f6, f7, f8, f9⟩ := op_facts hs
  obtain ⟨a, ha, hc⟩ := c1
  obtain ⟨a', ha', hend⟩ := hl.last
  rw [ha] at ha'
  cases ha'
  obtain ⟨z, hz, hzend⟩ := hr.last
  refine ⟨⟨z, last_app (last_cons hz), hzend⟩, fun S r => ?_⟩
  obtain ⟨Dl, l1, n1, s1, p1⟩ := hl.strict f6 r
  obtain ⟨Dr, l2, n2, s2, p2⟩ := hr.strict f7 r
  obtain ⟨t, S0, rfl, ht⟩ := r.top
  have hp : Plain m := plain_w (by rw [hm.2]; exact f2) (by rw [hm.2]; exact f3)
  have nb : ¬ opensB m := nob_of hm (.inr ⟨f4, f5⟩)
  have L := lay0_app l1 ha (layN_cat (layN_tok hc hend.nob ht hp) (b := m) rfl (layN_hd c2 nb ht l2))
  refine ⟨[], Dl ++ m :: Dr, L, by simp, fun _ => rfl, fun C hC => ?_⟩
  obtain rfl : C = [] := List.eq_nil_of_length_eq_zero hC.1
  rw [List.append_nil]
  exact ⟨secOk_cat s1 n1 (by rw [hm.2]; exact f1), fun N hN => par_op hk hs hm (p1 N hN) (p2 N hN)⟩

/-! ### a name with what it is given -/
theorem atom_atomH {E : Rel} {X R : List M} {d : PyData} (h : Atom E X d R) : ∃ m r, X = m :: r ∧ AtomH m = true := by
  cases h with
  | num h1 _ => exact ⟨_, _, rfl, by unfold AtomH M.sees; rw [h1]; rfl⟩
  | name h1 => exact ⟨_, _, rfl, by unfold AtomH M.sees; rw [h1, decide_eq_false (by decide +kernel : ¬ ("name" : Str) = "number")]; rfl⟩
  | nil h1 h2 => exact ⟨_, _, rfl, (atomH_of ⟨h1, h2⟩).trans (by decide +kernel)⟩
  | par h1 h2 _ _ _ => exact ⟨_, _, rfl, (atomH_of ⟨h1, h2⟩).trans (by decide +kernel)⟩
theorem lay0_first {S S' : List Int} {m : M} {rr D : List M} (l : Lay0 S (m :: rr) S' D) (g : m.w ≠ "=") : ∀ b r, D = b :: r → b.w ≠ "=" := fun b r e => by
  obtain ⟨S1, E1, E2, c, _, rfl⟩ := l
  cases c with
  | opn h1 _ =>
    injection e with e1 _
    rw [← e1]
    exact g
  | oth _ _ =>
    injection e with e1 _
    rw [← e1]
    exact g
  | @cls ext S h1 h2 =>
    intro hb
    cases ext with
    | nil =>
      injection e with e1 _
      rw [← e1] at hb
      exact g hb
    | cons x y =>
      injection e with e1 _
      rw [← e1] at hb
      revert hb
      show ¬ (("}" : Str) = "=")
      decide +kernel
/-- the args so far, behind the mark a -/
structure ArgsI (q k : Nat) (least lo : Int) (a : M) (ms : List M) (ds : List PyData) : Prop where
  last : ∃ z, (a :: ms).getLast? = some z ∧ EndTok z
  lays : ∀ S, Ready q least lo S → ∃ D, LayN S (some a) ms S D ∧ (∀ b r, D = b :: r → b.w ≠ "=") ∧ ∀ N, q ≤ N → ∀ c R rds R', Args (PEx 6 N) c R rds R' → Args (PEx 6 N) (c + ds.length) (D ++ R) (ds ++ rds) R'
theorem argsI_nil {q k : Nat} {least lo : Int} {a : M} (ha : EndTok a) : ArgsI q k least lo a [] [] :=
  ⟨⟨a, rfl, ha⟩, fun S _ => ⟨[], ⟨rfl, rfl⟩, by simp, fun N _ c R rds R' h => h⟩⟩
theorem argsI_snoc {q k : Nat} {least lo : Int} {a : M} {ms ms' : List M} {ds : List PyData} {d : PyData} (h : ArgsI q k least lo a ms ds) (h2 : Ex q k 8 least lo ms' d) (hf : ∀ m r, ms' = m :: r → m.w ≠ "=")
    (hc : ∃ z, (a :: ms).getLast? = some z ∧ Hd lo z ms') : ArgsI q k least lo a (ms ++ ms') (ds ++ [d]) := by
  obtain ⟨z, hz, hd⟩ := hc
  obtain ⟨z', hz', hend⟩ := h.last
  rw [hz] at hz'
  cases hz'
  obtain ⟨y, hy, hyend⟩ := h2.last
  refine ⟨⟨y, by rw [← List.cons_append]; exact last_app hy, hyend⟩, fun S r => ?_⟩
  obtain ⟨D, l1, f1, p1⟩ := h.lays S r
  obtain ⟨D2, l2, n2, _, p2⟩ := h2.strict (by omega) r
  obtain ⟨t, S0, rfl, ht⟩ := r.top
  have fst : ∀ b r, D2 = b :: r → b.w ≠ "=" := fun b r e => by
    obtain ⟨m, rr, rfl, _⟩ := hd
    exact lay0_first l2 (hf m rr rfl) b r e
  refine ⟨D ++ D2, layN_cat l1 hz (layN_hd hd hend.nob ht l2), fun b r e => ?_, fun N hN c R rds R' hA => ?_⟩
  · cases D with
    | nil => exact fst b r e
    | cons x y =>
      injection e with e1 _
      rw [← e1]
      exact f1 x y rfl
  · have at_ : Atom (PEx 6 N) (D2 ++ R) d R := p2 N hN R
    obtain ⟨m, rr, em, hm⟩ := atom_atomH at_
    have st : Args (PEx 6 N) (c + 1) (D2 ++ R) (d :: rds) R' := by
      rw [em] at at_ ⊢
      exact .step hm at_ hA
    have g := p1 N hN (c + 1) (D2 ++ R) (d :: rds) R' st
    have e1 : c + 1 + ds.length = c + (ds ++ [d]).length := by simp; omega
    rw [← e1]
    simpa using g
theorem ex_use {q k : Nat} {least lo : Int} {m : M} {ms : List M} {ds : List PyData} (hk : m.k = "name") (hw : m.w ≠ "=") (hn : ds.length ≤ 4) (h : ArgsI q k least lo m ms ds) : Ex q (k + 1) 7 least lo (m :: ms) (useD m.pl m.w ds) := by
  refine ⟨h.last, fun S r => ?_⟩
  obtain ⟨D, l, f, p⟩ := h.lays S r
  refine ⟨[], m :: D, lay0_app (ms := [m]) (a := m) (lay0_one (plain_k (by rw [hk]; decide +kernel))) rfl l, by simp, fun _ => rfl, fun C hC => ?_⟩
  obtain rfl : C = [] := List.eq_nil_of_length_eq_zero hC.1
  rw [List.append_nil]
  refine ⟨fun a b r e ha => ?_, fun N hN R hs => ?_⟩
  · injection e with _ e2
    exact f b r e2
  · have g := p N hN (4 - ds.length) R [] R (.stop hs)
    rw [show 4 - ds.length + ds.length = 4 by omega, List.append_nil] at g
    exact .name hk g
end K10
namespace K10
open PySem
theorem pex_of {k N need q : Nat} {D : List M} {d : PyData} (h1 : 1 ≤ k) (h6 : k ≤ 6) (hn : need ≤ 8) (h : ∀ N, q ≤ N → ParL k (PEx 6 N) need D d) (hN : q + 1 ≤ N) : ∀ R, StopE R → PEx 6 N (D ++ R) d R := by
  obtain ⟨n, rfl⟩ : ∃ n, N = n + 1 := ⟨N - 1, by omega⟩
  exact parL_down (b := 0) h1 h6 hn (Nat.zero_le _) (h n (by omega))
theorem tok_then {m : M} {R : List M} (h : isTok m "key" "then") : StopE (m :: R) := stop_tok h (by decide +kernel)
theorem tok_else {m : M} {R : List M} (h : isTok m "key" "else") : StopE (m :: R) := stop_tok h (by decide +kernel)
theorem tok_of {m : M} {R : List M} (h : isTok m "key" "of") : StopE (m :: R) := stop_tok h (by decide +kernel)
theorem tok_semi {m : M} {R : List M} (h : isTok m "lay" ";") : StopE (m :: R) := stop_tok h (by decide +kernel)
theorem tok_close {m : M} {R : List M} (h : isTok m "lay" "}") : StopE (m :: R) := stop_tok h (by decide +kernel)
theorem stop_cl {n : Nat} {C R : List M} (h : Cl n C) (hR : StopE R) : StopE (C ++ R) := by
  cases C with
  | nil => exact hR
  | cons x y => exact tok_close (h.2 x List.mem_cons_self)
/-! ### if: the part between then and else, told by its marks and the else's own -/
structure YesI (q : Nat) (least lo : Int) (t : M) (ms : List M) (e : M) (d : PyData) : Prop where
  lays : ∀ S, Ready q least lo S → ∃ D, LayN S (some t) (ms ++ [e]) S (D ++ [e]) ∧ ∀ N, q + 1 ≤ N → ∀ R, StopE R → PEx 6 N (D ++ R) d R
theorem yes_plain {q k : Nat} {least lo : Int} {t e : M} {ms : List M} {d : PyData} (h1 : 1 ≤ k) (h6 : k ≤ 6) (ht : isTok t "key" "then") (he : isTok e "key" "else") (h : Ex q k 1 least lo ms d) (c1 : Hd lo t ms) (c2 : ∃ a, ms.getLast? = some a ∧ Cont lo a e) : YesI q least lo t ms e d := by
  refine ⟨fun S r => ?_⟩
  obtain ⟨D, l, _, _, p⟩ := h.strict (Nat.le_refl 1) r
  obtain ⟨s, S0, rfl, hs⟩ := r.top
  obtain ⟨a, ha, hc⟩ := c2
  obtain ⟨a', ha', hend⟩ := h.last
  rw [ha] at ha'
  cases ha'
  have nt : ¬ opensB t := nob_of ht (.inr ⟨by decide +kernel, by decide +kernel⟩)
  exact ⟨D, layN_cat (layN_hd c1 nt hs l) (last_cons ha) (layN_tok hc hend.nob hs (plain_of he (.inl (by decide +kernel)))), fun N hN => pex_of h1 h6 (by omega) p hN⟩
/-- a let or a case there, else on the next line -/
theorem yes_block {q k : Nat} {least lo lo' : Int} {t e : M} {ms : List M} {d : PyData} (h1 : 1 ≤ k) (h6 : k ≤ 6) (ht : isTok t "key" "then") (he : isTok e "key" "else") (hlo : lo ≤ lo') (hl0 : lo ≤ least + 1) (h : Ex q k 0 (least + 1) lo' ms d) (c1 : Hd lo' t ms)
    (c2 : ∃ a, ms.getLast? = some a ∧ a.l < e.l) (c3 : e.c = least + 1) : YesI q least lo t ms e d := by
  refine ⟨fun S r => ?_⟩
  have r' : Ready q (least + 1) lo' S := ⟨by
      obtain ⟨s, S0, e, hs⟩ := r.top
      exact ⟨s, S0, e, by omega⟩, fun s hs => by have := r.most s hs; omega, r.room, by have := r.pos; omega⟩
  obtain ⟨ext, D, l, hx, _, p⟩ := h.lays S r'
  obtain ⟨s, S0, rfl, hs⟩ := r.top
  obtain ⟨a, ha, hc⟩ := c2
  obtain ⟨a', ha', hend⟩ := h.last
  rw [ha] at ha'
  cases ha'
  have nt : ¬ opensB t := nob_of ht (.inr ⟨by decide +kernel, by decide +kernel⟩)
  have sm : s ≤ least := r.most s List.mem_cons_self
  have pr : Pre (ext ++ s :: S0) (some a) e (s :: S0) (clos ext.length e ++ if s = e.c then [layM ";" e.l e.c] else []) := .line hend.nob hc (fun x hx' => by have := hx x hx'; omega) (by omega)
  rw [if_neg (by omega), List.append_nil] at pr
  have l2 : LayN (ext ++ s :: S0) (some a) [e] (s :: S0) (clos ext.length e ++ [e]) := layN_of pr (lay0_one (plain_of he (.inl (by decide +kernel))))
  refine ⟨D ++ clos ext.length e, ?_, fun N hN => pex_of h1 h6 (by omega) (p _ (cl_clos _ _)).2 hN⟩
  have := layN_cat (layN_hd c1 nt (by omega) l) (last_cons ha) l2
  simpa using this
theorem ex_if {q k : Nat} {least lo : Int} {i t e : M} {ma mb mc : List M} {a b c : PyData} (h1 : 1 ≤ k) (h6 : k ≤ 6) (hi : isTok i "key" "if") (ht : isTok t "key" "then") (he : isTok e "key" "else")
    (ha : Ex q k 1 least lo ma a) (hb : YesI q least lo t mb e b) (hc : Ex q k 0 least lo mc c) (c1 : Hd lo i ma) (c2 : ∃ z, ma.getLast? = some z ∧ Cont lo z t) (c3 : Hd lo e mc) : Ex (q + 1) (k + 1) 0 least lo (i :: (ma ++ t :: (mb ++ e :: mc))) (ifD i.pl a b c) := by
  obtain ⟨z, hz, hzend⟩ := hc.last
  refine ⟨⟨z, last_cons (last_app (last_cons (last_app (last_cons hz)))), hzend⟩, fun S r0 => ?_⟩
  have r := r0.mono (Nat.le_succ q)
  obtain ⟨Da, la, _, _, pa⟩ := ha.strict (Nat.le_refl 1) r
  obtain ⟨Db, lb, pb⟩ := hb.lays S r
  obtain ⟨ext, Dc, lc, hx, _, pc⟩ := hc.lays S r
  obtain ⟨s, S0, rfl, hs⟩ := r.top
  obtain ⟨y, hy, hyc⟩ := c2
  obtain ⟨y', hy', hyend⟩ := ha.last
  rw [hy] at hy'
  cases hy'
  have ni : ¬ opensB i := nob_of hi (.inr ⟨by decide +kernel, by decide +kernel⟩)
  have ne : ¬ opensB e := nob_of he (.inr ⟨by decide +kernel, by decide +kernel⟩)
  have A1 := layN_cat (layN_hd c1 ni hs la) (last_cons hy) (layN_tok hyc hyend.nob hs (plain_of ht (.inl (by decide +kernel))))
  have A2 := layN_cat A1 (b := t) (last_cons (last_app rfl)) lb
  have A3 := layN_cat A2 (b := e) (last_cons (last_app (last_app rfl))) (layN_hd c3 ne hs lc)
  have A4 := lay0_app (ms := [i]) (a := i) (lay0_one (plain_of hi (.inl (by decide +kernel)))) rfl A3
  refine ⟨ext, i :: (Da ++ t :: (Db ++ e :: Dc)), by simpa using A4, hx, fun z => absurd z (by omega), fun C hC => ⟨secOk_key rfl (by rw [hi.1]; decide +kernel), fun N hN R hR => ?_⟩⟩
  have g : ExprF (PEx 6 N) 6 (i :: (Da ++ t :: (Db ++ e :: ((Dc ++ C) ++ R)))) (ifD i.pl a b c) R :=
    .ite hi (pex_of h1 h6 (by omega) pa hN _ (tok_then ht)) ht (pb N hN _ (tok_else he)) he (pex_of h1 h6 (by omega) (pc C hC).2 hN R hR)
  simpa using g

/-! ### let -/
structure LetI (q : Nat) (least lo : Int) (ms : List M) (rows : List LRow) (col line : Int) : Prop where
  ne : ∃ a, ms.getLast? = some a
  lays : ∀ S, Ready (q + 1) least lo S → ∀ m : M, m.c = col → m.l = line → ∃ S1 D1 D2 a b D, Lay0 S ms S1 D1 ∧ Pre S1 ms.getLast? m (col :: S) D2 ∧ D1 ++ D2 = a :: b :: D ∧ isTok a "key" "let" ∧ isTok b "lay" "{" ∧
    ∀ N, q + 1 ≤ N → ∀ X rs R', RowL (PEx 6 N) X rs R' → RowL (PEx 6 N) (D ++ X) (rows ++ rs) R'
theorem letI_nil {q : Nat} {least lo col line : Int} {a : M} (ha : isTok a "key" "let") (hc : least < col) : LetI q least lo [a] [] col line := by
  refine ⟨⟨a, rfl⟩, fun S r m e1 e2 => ?_⟩
  subst e1
  exact ⟨S, [a], [layM "{" m.l m.c], a, layM "{" m.l m.c, [], lay0_one (plain_of ha (.inl (by decide +kernel))), .blk (fun b e => by cases e; exact ⟨ha.1, .inl ha.2⟩) (fun s hs => by have := r.most s hs; omega) (by have := r.pos; omega) (by have := r.room; omega), rfl, ha, ⟨rfl, rfl⟩, fun N hN X rs R' h => h⟩
theorem ready_in {q : Nat} {least lo col : Int} {S : List Int} (r : Ready (q + 1) least lo S) (hc : least < col) : Ready q col (col + 1) (col :: S) :=
  ⟨⟨col, S, rfl, by omega⟩, fun s hs => by
    rcases List.mem_cons.mp hs with e | e
    · omega
    · have := r.most s e
      omega, by have := r.room; rw [List.length_cons]; omega, by have := r.pos; omega⟩
theorem letI_snoc {q k : Nat} {least lo col line line' : Int} {ms mw : List M} {rows : List LRow} {x e : M} {w : PyData} (h1 : 1 ≤ k) (h6 : k ≤ 6) (hcol : least < col) (h : LetI q least lo ms rows col line) (hx : x.k = "name") (xc : x.c = col) (xl : x.l = line) (he : isTok e "sign" "=")
    (hw : Ex q k 0 col (col + 1) mw w) (c1 : Cont (col + 1) x e) (c2 : Hd (col + 1) e mw) (c3 : ∃ a, mw.getLast? = some a ∧ a.l < line') : LetI q least lo (ms ++ x :: e :: mw) (rows ++ [⟨x.pl, x.w, w⟩]) col line' := by
  obtain ⟨z, hz, hzl⟩ := c3
  obtain ⟨z', hz', hzend⟩ := hw.last
  rw [hz] at hz'
  cases hz'
  have hlast : (ms ++ x :: e :: mw).getLast? = some z := last_app (last_cons (last_cons hz))
  refine ⟨⟨z, hlast⟩, fun S r m e1 e2 => ?_⟩
  obtain ⟨S1, D1, D2, a, b, D, l1, pr, eD, ha, hb, p⟩ := h.lays S r x xc xl
  have r' := ready_in r hcol
  obtain ⟨ext, Dw, lw, hext, _, pw⟩ := hw.lays _ r'
  have nx : ¬ opensB x := fun q => by
    have q1 := q.1
    rw [hx] at q1
    revert q1
    decide +kernel
  have ne : ¬ opensB e := nob_of he (.inl (by decide +kernel))
  have L1 : LayN S1 ms.getLast? [x] (col :: S) (D2 ++ [x]) := layN_of pr (lay0_one (plain_k (by rw [hx]; decide +kernel)))
  have L2 : LayN (col :: S) (some x) [e] (col :: S) [e] := layN_tok c1 nx (by omega) (plain_of he (.inr ⟨by decide +kernel, by decide +kernel⟩))
  have L3 : LayN (col :: S) (some e) mw (ext ++ col :: S) Dw := layN_hd c2 ne (by omega) lw
  obtain ⟨y, hy⟩ := h.ne
  rw [hy] at L1
  have L4 := layN_cat L1 (b := x) (last_cons rfl) (layN_cat L2 (b := e) (last_cons rfl) L3)
  have L5 := lay0_app l1 hy L4
  have P : Pre (ext ++ col :: S) (some z) m (col :: S) (clos ext.length m ++ if col = m.c then [layM ";" m.l m.c] else []) := .line hzend.nob (by omega) (fun x hx => by have := hext x hx; omega) (by omega)
  rw [if_pos e1.symm] at P
  refine ⟨_, D1 ++ (D2 ++ x :: e :: Dw), clos ext.length m ++ [layM ";" m.l m.c], a, b, D ++ x :: e :: (Dw ++ (clos ext.length m ++ [layM ";" m.l m.c])), by simpa using L5, by rw [hlast]; exact P, ?_, ha, hb, fun N hN X rs R' hX => ?_⟩
  · have := congrArg (fun l => l ++ (x :: e :: (Dw ++ (clos ext.length m ++ [layM ";" m.l m.c])))) eD
    simpa using this
  · have st : RowL (PEx 6 N) (x :: e :: ((Dw ++ clos ext.length m) ++ (layM ";" m.l m.c :: X))) (⟨x.pl, x.w, w⟩ :: rs) R' :=
      .step ⟨x, e, _, rfl, hx, he.2⟩ (.mk hx he ⟨rfl, rfl⟩ (pex_of h1 h6 (by omega) (pw _ (cl_clos _ _)).2 hN _ (tok_semi ⟨rfl, rfl⟩))) hX
    have g := p N hN _ _ _ st
    simpa using g
theorem noNameEq_of {D R : List M} {c : M} (h : SecOk D) (hn : D ≠ []) (hc : c.w ≠ "=") : NoNameEq (D ++ c :: R) := by
  cases D with
  | nil => exact absurd rfl hn
  | cons x y =>
    cases y with
    | nil => exact ⟨x, c, R, rfl, fun z => hc z.2⟩
    | cons u v => exact ⟨x, u, v ++ c :: R, rfl, fun z => h x u v rfl z.1 z.2⟩
theorem cl_split {n : Nat} {C : List M} (h : Cl (n + 1) C) : ∃ C' c, C = C' ++ [c] ∧ Cl n C' ∧ isTok c "lay" "}" := by
  have hn : C ≠ [] := fun z => by
    have := h.1
    rw [z] at this
    cases this
  refine ⟨C.dropLast, C.getLast hn, (List.dropLast_concat_getLast hn).symm, ⟨by rw [List.length_dropLast, h.1]; rfl, fun m hm => h.2 m (List.dropLast_subset C hm)⟩, h.2 _ (List.getLast_mem hn)⟩
theorem rowL_inv {E : Rel} {X R' : List M} {rs : List LRow} (h : RowL E X rs R') (hn : rs ≠ []) : ∃ r rs' X1, rs = r :: rs' ∧ LetRow E X r X1 ∧ RowL E X1 rs' R' := by
  cases h with
  | stop _ => exact absurd rfl hn
  | step _ g1 g2 => exact ⟨_, _, _, rfl, g1, g2⟩
theorem ex_let {q k : Nat} {least lo col line : Int} {ms mb : List M} {rows : List LRow} {d : PyData} (h1 : 1 ≤ k) (h6 : k ≤ 6) (hcol : least < col) (h : LetI q least lo ms rows col line) (hr : rows ≠ []) (hr10 : rows.length ≤ 10) (hb : Ex q k 0 col (col + 1) mb d)
    (c : ∃ m r, mb = m :: r ∧ m.c = col ∧ m.l = line) : Ex (q + 1) (k + 1) 0 least lo (ms ++ mb) (letsD rows d) := by
  obtain ⟨z, hz, hzend⟩ := hb.last
  refine ⟨⟨z, last_app hz, hzend⟩, fun S r => ?_⟩
  obtain ⟨m, rr, rfl, mc, ml⟩ := c
  obtain ⟨S1, D1, D2, a, b, D, l1, pr, eD, ha, hbr, p⟩ := h.lays S r m mc ml
  obtain ⟨ext, Db, lb, hext, _, pb⟩ := hb.lays _ (ready_in r hcol)
  obtain ⟨y, hy⟩ := h.ne
  rw [hy] at pr
  have L := lay0_app l1 hy (layN_of pr lb)
  have eL : D1 ++ (D2 ++ Db) = a :: b :: (D ++ Db) := by
    have := congrArg (fun l => l ++ Db) eD
    simpa using this
  rw [eL] at L
  refine ⟨ext ++ [col], a :: b :: (D ++ Db), by simpa using L, fun x hx => ?_, fun z => absurd z (by omega), fun C hC => ⟨secOk_key rfl (by rw [ha.1]; decide +kernel), fun N hN R hR => ?_⟩⟩
  · rcases List.mem_append.mp hx with q | q
    · have := hext x q
      omega
    · rw [List.mem_singleton.mp q]
      exact hcol
  · rw [List.length_append] at hC
    obtain ⟨C', c, rfl, hC', hc⟩ := cl_split hC
    have st : RowL (PEx 6 N) ((Db ++ C') ++ c :: R) [] ((Db ++ C') ++ c :: R) := .stop (noNameEq_of (pb C' hC').1 (fun z => lay0_ne lb (by simp) (List.append_eq_nil_iff.mp z).1) (by rw [hc.2]; decide +kernel))
    have g := p N hN _ _ _ st
    have fin : PEx 6 N ((Db ++ C') ++ c :: R) d (c :: R) := pex_of h1 h6 (by omega) (pb C' hC').2 hN _ (tok_close hc)
    rw [List.append_nil] at g
    obtain ⟨r1, rs1, X1, e1, g1, g2⟩ := rowL_inv g hr
    rw [e1]
    have r := ExprF.lt (n := 6) (by rw [e1, List.length_cons] at hr10; omega) ha hbr g1 g2 fin hc
    simpa using r

/-! ### case -/
theorem ex_case {q k : Nat} {least lo col line line' : Int} {cs f b g h t co g2 : M} {ma me mb : List M} {da de db : PyData} (h1 : 1 ≤ k) (h6 : k ≤ 6) (hcol : least < col) (hcs : isTok cs "key" "case") (ha : Ex q k 1 least lo ma da) (ca : Hd lo cs ma) (hf : isTok f "key" "of") (cf : ∃ z, ma.getLast? = some z ∧ Cont lo z f)
    (hb : isTok b "sign" "[]") (bc : b.c = col) (hg : isTok g "sign" "->") (cg : Cont (col + 1) b g) (he : Ex q k 0 col (col + 1) me de) (ce : Hd (col + 1) g me) (hh : h.k = "name") (hc : h.c = col) (hl : ∃ z, me.getLast? = some z ∧ z.l < h.l)
    (hco : isTok co "sign" ":") (cco : Cont (col + 1) h co) (ht : t.k = "name") (ct : Cont (col + 1) co t) (hg2 : isTok g2 "sign" "->") (cg2 : Cont (col + 1) t g2) (hbd : Ex q k 0 col (col + 1) mb db) (cb : Hd (col + 1) g2 mb) :
    Ex (q + 1) (k + 1) 0 least lo (cs :: (ma ++ f :: b :: g :: (me ++ h :: co :: t :: g2 :: mb))) (caseD cs.pl da de h.w t.w db) := by
  obtain ⟨z, hz, hzend⟩ := hbd.last
  refine ⟨⟨z, last_cons (last_app (last_cons (last_cons (last_cons (last_app (last_cons (last_cons (last_cons (last_cons hz))))))))), hzend⟩, fun S r0 => ?_⟩
  have r := r0.mono (Nat.le_succ q)
  obtain ⟨Da, la, _, _, pa⟩ := ha.strict (Nat.le_refl 1) r
  have r' := ready_in r0 hcol
  obtain ⟨exe, De, le, hxe, _, pe⟩ := he.lays _ r'
  obtain ⟨exb, Db, lb, hxb, _, pb⟩ := hbd.lays _ r'
  obtain ⟨s, S0, eS, hs⟩ := r.top
  obtain ⟨y, hy, hyc⟩ := cf
  obtain ⟨y', hy', hyend⟩ := ha.last
  rw [hy] at hy'
  cases hy'
  obtain ⟨u, hu, hul⟩ := hl
  obtain ⟨u', hu', huend⟩ := he.last
  rw [hu] at hu'
  cases hu'
  have nc : ¬ opensB cs := nob_of hcs (.inr ⟨by decide +kernel, by decide +kernel⟩)
  have nb : ¬ opensB b := nob_of hb (.inl (by decide +kernel))
  have ng : ¬ opensB g := nob_of hg (.inl (by decide +kernel))
  have ng2 : ¬ opensB g2 := nob_of hg2 (.inl (by decide +kernel))
  have nco : ¬ opensB co := nob_of hco (.inl (by decide +kernel))
  have nn : ∀ {x : M}, x.k = "name" → ¬ opensB x := fun {x} hx q => by
    have q1 := q.1
    rw [hx] at q1
    revert q1
    decide +kernel
  have np : ∀ {x : M}, x.k = "name" → Plain x := fun {x} hx => plain_k (by rw [hx]; decide +kernel)
  have sg : ∀ {x : M} {w : Str}, isTok x "sign" w → w ≠ "(" → w ≠ ")" → Plain x := fun hx h1 h2 => plain_of hx (.inr ⟨h1, h2⟩)
  -- case, what, of
  have A1 : LayN S (some cs) (ma ++ [f]) S (Da ++ [f]) := by
    rw [eS] at la ⊢
    exact layN_cat (layN_hd ca nc hs la) (last_cons hy) (layN_tok hyc hyend.nob hs (plain_of hf (.inl (by decide +kernel))))
  -- the block: [] -> empty
  have pr : Pre S (some f) b (col :: S) [layM "{" b.l b.c] := by
    rw [← bc]
    exact .blk (fun x e => by cases e; exact ⟨hf.1, .inr hf.2⟩) (fun s hs => by have := r.most s hs; omega) (by have := r.pos; omega) (by have := r0.room; omega)
  have A2 : LayN S (some f) [b] (col :: S) ([layM "{" b.l b.c] ++ [b]) := layN_of pr (lay0_one (sg hb (by decide +kernel) (by decide +kernel)))
  have A3 : LayN (col :: S) (some b) [g] (col :: S) [g] := layN_tok cg nb (by omega) (sg hg (by decide +kernel) (by decide +kernel))
  have A4 : LayN (col :: S) (some g) me (exe ++ col :: S) De := layN_hd ce ng (by omega) le
  -- ; head : tail -> body
  have P : Pre (exe ++ col :: S) (some u) h (col :: S) (clos exe.length h ++ if col = h.c then [layM ";" h.l h.c] else []) := .line huend.nob hul (fun x hx => by have := hxe x hx; omega) (by omega)
  rw [if_pos hc.symm] at P
  have A5 : LayN (exe ++ col :: S) (some u) [h] (col :: S) ((clos exe.length h ++ [layM ";" h.l h.c]) ++ [h]) := layN_of P (lay0_one (np hh))
  have A6 : LayN (col :: S) (some h) [co] (col :: S) [co] := layN_tok cco (nn hh) (by omega) (sg hco (by decide +kernel) (by decide +kernel))
  have A7 : LayN (col :: S) (some co) [t] (col :: S) [t] := layN_tok ct nco (by omega) (np ht)
  have A8 : LayN (col :: S) (some t) [g2] (col :: S) [g2] := layN_tok cg2 (nn ht) (by omega) (sg hg2 (by decide +kernel) (by decide +kernel))
  have A9 : LayN (col :: S) (some g2) mb (exb ++ col :: S) Db := layN_hd cb ng2 (by omega) lb
  have B1 := layN_cat A5 (b := h) (last_cons rfl) (layN_cat A6 (b := co) (last_cons rfl) (layN_cat A7 (b := t) (last_cons rfl) (layN_cat A8 (b := g2) (last_cons rfl) A9)))
  have B2 := layN_cat A2 (b := b) (last_cons rfl) (layN_cat A3 (b := g) (last_cons rfl) (layN_cat A4 (b := u) (last_cons hu) B1))
  have B3 := lay0_app (ms := [cs]) (a := cs) (lay0_one (plain_of hcs (.inl (by decide +kernel)))) rfl (layN_cat A1 (b := f) (last_cons (last_app rfl)) B2)
  refine ⟨exb ++ [col], cs :: (Da ++ f :: layM "{" b.l b.c :: b :: g :: (De ++ (clos exe.length h ++ layM ";" h.l h.c :: h :: co :: t :: g2 :: Db))), by simpa using B3, fun x hx => ?_, fun z => absurd z (by omega), fun C hC => ⟨secOk_key rfl (by rw [hcs.1]; decide +kernel), fun N hN R hR => ?_⟩⟩
  · rcases List.mem_append.mp hx with q | q
    · have := hxb x q
      omega
    · rw [List.mem_singleton.mp q]
      exact hcol
  · rw [List.length_append] at hC
    obtain ⟨C', c, rfl, hC', hcl⟩ := cl_split hC
    have fin : PEx 6 N ((Db ++ C') ++ c :: R) db (c :: R) := pex_of h1 h6 (by omega) (pb C' hC').2 hN _ (tok_close hcl)
    have mid : PEx 6 N ((De ++ clos exe.length h) ++ (layM ";" h.l h.c :: h :: co :: t :: g2 :: ((Db ++ C') ++ c :: R))) de (layM ";" h.l h.c :: h :: co :: t :: g2 :: ((Db ++ C') ++ c :: R)) := pex_of h1 h6 (by omega) (pe _ (cl_clos _ _)).2 hN _ (tok_semi ⟨rfl, rfl⟩)
    have top : PEx 6 N (Da ++ (f :: layM "{" b.l b.c :: b :: g :: ((De ++ clos exe.length h) ++ (layM ";" h.l h.c :: h :: co :: t :: g2 :: ((Db ++ C') ++ c :: R))))) da (f :: layM "{" b.l b.c :: b :: g :: ((De ++ clos exe.length h) ++ (layM ";" h.l h.c :: h :: co :: t :: g2 :: ((Db ++ C') ++ c :: R)))) := pex_of h1 h6 (by omega) pa hN _ (tok_of hf)
    have r := ExprF.cas (n := 6) hcs top hf ⟨rfl, rfl⟩ hb hg mid ⟨rfl, rfl⟩ hh hco ht hg2 fin hcl
    simpa using r
end K10
namespace K10
open PySem
/-! ### defs -/
inductive DefsL (E : Rel) : Nat → List M → List PyData → List M → Prop where
  | stop {c : Nat} {R : List M} : Not (fun m => m.sees "lay" [";"]) R → DefsL E c R [] R
  | step {c : Nat} {s : M} {R R1 R2 : List M} {d : PyData} {ds : List PyData} : isTok s "lay" ";" → DefR E R d R1 → DefsL E c R1 ds R2 → DefsL E (c + 1) (s :: R) (d :: ds) R2
inductive ProgR (E : Rel) : List M → List PyData → Prop where
  | mk {o c : M} {R R1 R2 : List M} {d : PyData} {ds : List PyData} : isTok o "lay" "{" → DefR E R d R1 → DefsL E 7 R1 ds (c :: R2) → isTok c "lay" "}" → ProgR E (o :: R) (d :: ds)
def defD (p : PyData) (x : Str) (ps : List Str) (b : PyData) : PyData := .tuple [.str "def", p, .str x, .tuple (ps.map .str), b]
theorem map_w (ps : List M) : (ps.map fun p => PyData.str p.w) = (ps.map (·.w)).map .str := by simp
/-- the params' marks -/
structure ChainN (lo : Int) (a : M) (ps : List M) : Prop where
  names : ∀ p ∈ ps, p.k = "name"
  lays : ∀ s S, s < lo → LayN (s :: S) (some a) ps (s :: S) ps
theorem chainN_nil {lo : Int} {a : M} : ChainN lo a [] := ⟨by simp, fun _ _ _ => ⟨rfl, rfl⟩⟩
theorem name_nob {x : M} (h : x.k = "name") : ¬ opensB x := fun q => by
  have q1 := q.1
  rw [h] at q1
  revert q1
  decide +kernel
theorem chainN_last {lo : Int} {a z : M} {ps : List M} (h : ChainN lo a ps) (ha : a.k = "name") (hz : (a :: ps).getLast? = some z) : z.k = "name" := by
  have hm := List.mem_of_getLast? hz
  rcases List.mem_cons.mp hm with e | e
  · rw [e]; exact ha
  · exact h.names z e
theorem chainN_snoc {lo : Int} {a p : M} {ps : List M} (h : ChainN lo a ps) (ha : a.k = "name") (hp : p.k = "name") (hc : ∃ z, (a :: ps).getLast? = some z ∧ Cont lo z p) : ChainN lo a (ps ++ [p]) := by
  obtain ⟨z, hz, c⟩ := hc
  refine ⟨fun x hx => ?_, fun s S hs => layN_cat (h.lays s S hs) hz (layN_tok c (name_nob (chainN_last h ha hz)) hs (plain_k (by rw [hp]; decide +kernel)))⟩
  rcases List.mem_append.mp hx with q | q
  · exact h.names x q
  · rw [List.mem_singleton.mp q]
    exact hp
/-- a def's marks behind its name, over its block's column -/
theorem def_lay {q k : Nat} {col : Int} {x e : M} {ps mb : List M} {d : PyData} (h1 : 1 ≤ k) (h6 : k ≤ 6) (h0 : 0 ≤ col) (hq : q + 2 ≤ 24) (hx : x.k = "name") (hps : ChainN (col + 1) x ps) (hl : ps.length ≤ 4) (he : isTok e "sign" "=") (ce : ∃ z, (x :: ps).getLast? = some z ∧ Cont (col + 1) z e)
    (hb : Ex q k 0 col (col + 1) mb d) (cb : Hd (col + 1) e mb) : ∃ ext D, LayN [col] (some x) (ps ++ e :: mb) (ext ++ [col]) D ∧ (∀ y ∈ ext, col < y) ∧ ∀ C, Cl ext.length C → ∀ N, q + 1 ≤ N → ∀ X, StopE X → DefR (PEx 6 N) (x :: (D ++ (C ++ X))) (defD x.pl x.w (ps.map (·.w)) d) X := by
  obtain ⟨z, hz, hc⟩ := ce
  have r : Ready q col (col + 1) [col] := ⟨⟨col, [], rfl, by omega⟩, fun s hs => by rw [List.mem_singleton.mp hs]; exact Int.le_refl _, by show 1 + (q + 1) ≤ 24; omega, h0⟩
  obtain ⟨ext, D, l, hx', _, p⟩ := hb.lays _ r
  have L := layN_cat (hps.lays col [] (by omega)) hz (layN_cat (layN_tok hc (name_nob (chainN_last hps hx hz)) (by omega) (plain_of he (.inr ⟨by decide +kernel, by decide +kernel⟩))) (b := e) (last_cons rfl) (layN_hd cb (nob_of he (.inl (by decide +kernel))) (by omega) l))
  refine ⟨ext, ps ++ e :: D, by simpa using L, hx', fun C hC N hN X hX => ?_⟩
  have g : DefR (PEx 6 N) (x :: (ps ++ e :: ((D ++ C) ++ X))) (.tuple [.str "def", x.pl, .str x.w, .tuple (ps.map fun p => .str p.w), d]) X := .mk hx hps.names hl he (pex_of h1 h6 (by omega) (p C hC).2 hN X hX)
  rw [map_w] at g
  simpa [defD] using g
structure PgI (q : Nat) (col : Int) (ms : List M) (ds : List PyData) : Prop where
  last : ∃ z, ms.getLast? = some z ∧ EndTok z
  lays : ∃ ext b D d0 ds', LayN [] none ms (ext ++ [col]) (b :: D) ∧ isTok b "lay" "{" ∧ (∀ e ∈ ext, col < e) ∧ ds = d0 :: ds' ∧
    ∀ C, Cl ext.length C → ∀ N, q + 1 ≤ N → ∀ X, StopE X → ∀ c rds R', DefsL (PEx 6 N) c X rds R' → ∃ R1, DefR (PEx 6 N) (D ++ (C ++ X)) d0 R1 ∧ DefsL (PEx 6 N) (c + ds'.length) R1 (ds' ++ rds) R'
theorem pi_one {q k : Nat} {col : Int} {x e : M} {ps mb : List M} {d : PyData} (h1 : 1 ≤ k) (h6 : k ≤ 6) (h0 : 0 ≤ col) (hq : q + 2 ≤ 24) (hx : x.k = "name") (hxc : x.c = col) (hps : ChainN (col + 1) x ps) (hl : ps.length ≤ 4) (he : isTok e "sign" "=") (ce : ∃ z, (x :: ps).getLast? = some z ∧ Cont (col + 1) z e)
    (hb : Ex q k 0 col (col + 1) mb d) (cb : Hd (col + 1) e mb) : PgI q col (x :: (ps ++ e :: mb)) [defD x.pl x.w (ps.map (·.w)) d] := by
  obtain ⟨z, hz, hzend⟩ := hb.last
  refine ⟨⟨z, last_cons (last_app (last_cons hz)), hzend⟩, ?_⟩
  obtain ⟨ext, D, l, hx', p⟩ := def_lay h1 h6 h0 hq hx hps hl he ce hb cb
  subst hxc
  have pr : Pre [] none x [x.c] [layM "{" x.l x.c] := .blk (fun b e => by cases e) (by simp) (by omega) (by decide)
  have L := layN_app (b := some x) (layN_of pr (lay0_one (plain_k (by rw [hx]; decide +kernel)))) (fun z hz => by cases hz; rfl) (by simp) l
  exact ⟨ext, layM "{" x.l x.c, x :: D, _, [], by simpa using L, ⟨rfl, rfl⟩, hx', rfl, fun C hC N hN X hX c rds R' hD => ⟨X, p C hC N hN X hX, hD⟩⟩
theorem pi_snoc {q k : Nat} {col : Int} {ms : List M} {ds : List PyData} {x e : M} {ps mb : List M} {d : PyData} (h : PgI q col ms ds) (hlast : ∃ z, ms.getLast? = some z ∧ z.l < x.l) (h1 : 1 ≤ k) (h6 : k ≤ 6) (h0 : 0 ≤ col) (hq : q + 2 ≤ 24) (hx : x.k = "name") (hxc : x.c = col)
    (hps : ChainN (col + 1) x ps) (hl : ps.length ≤ 4) (he : isTok e "sign" "=") (ce : ∃ z, (x :: ps).getLast? = some z ∧ Cont (col + 1) z e)
    (hb : Ex q k 0 col (col + 1) mb d) (cb : Hd (col + 1) e mb) : PgI q col (ms ++ x :: (ps ++ e :: mb)) (ds ++ [defD x.pl x.w (ps.map (·.w)) d]) := by
  obtain ⟨z, hz, hzend⟩ := hb.last
  refine ⟨⟨z, last_app (last_cons (last_app (last_cons hz))), hzend⟩, ?_⟩
  obtain ⟨ext, D, l, hx', p⟩ := def_lay h1 h6 h0 hq hx hps hl he ce hb cb
  obtain ⟨y, hy, hyl⟩ := hlast
  obtain ⟨y', hy', hyend⟩ := h.last
  rw [hy] at hy'
  cases hy'
  obtain ⟨ext0, b0, D0, d0, ds', l0, hb0, hx0, rfl, p0⟩ := h.lays
  have P : Pre (ext0 ++ col :: []) (some y) x [col] (clos ext0.length x ++ if col = x.c then [layM ";" x.l x.c] else []) := .line hyend.nob hyl (fun v hv => by have := hx0 v hv; omega) (by omega)
  rw [if_pos hxc.symm] at P
  have L1 := layN_of P (lay0_one (plain_k (m := x) (by rw [hx]; decide +kernel)))
  have L2 := layN_app (b := some y) l0 (fun z hz => by rw [hy] at hz; exact hz) (fun e => by rw [e] at hy; cases hy) (layN_cat L1 (b := x) (last_cons rfl) l)
  refine ⟨ext, b0, D0 ++ (clos ext0.length x ++ layM ";" x.l x.c :: x :: D), d0, ds' ++ [defD x.pl x.w (ps.map (·.w)) d], by simpa using L2, hb0, hx', by simp, fun C hC N hN X hX c rds R' hD => ?_⟩
  have st : DefsL (PEx 6 N) (c + 1) (layM ";" x.l x.c :: x :: (D ++ (C ++ X))) (defD x.pl x.w (ps.map (·.w)) d :: rds) R' := .step ⟨rfl, rfl⟩ (p C hC N hN X hX) hD
  obtain ⟨R1, g1, g2⟩ := p0 (clos ext0.length x) (cl_clos _ _) N hN _ (tok_semi ⟨rfl, rfl⟩) _ _ _ st
  refine ⟨R1, by simpa using g1, ?_⟩
  have e1 : c + 1 + ds'.length = c + (ds' ++ [defD x.pl x.w (ps.map (·.w)) d]).length := by simp; omega
  rw [← e1]
  simpa using g2
theorem pi_end {q : Nat} {col : Int} {ms : List M} {ds : List PyData} (h : PgI q col ms ds) (h0 : 0 ≤ col) (hd : ds.length ≤ 8) : ∃ S D, LayN [] none ms S D ∧ D ≠ [] ∧ (∀ s ∈ S, s ≠ -1) ∧ ∀ C, Cl S.length C → ∀ N, q + 1 ≤ N → ProgR (PEx 6 N) (D ++ C) ds := by
  obtain ⟨ext, b, D, d0, ds', l, hb, hx, rfl, p⟩ := h.lays
  refine ⟨ext ++ [col], b :: D, l, by simp, fun s hs => ?_, fun C hC N hN => ?_⟩
  · rcases List.mem_append.mp hs with z | z
    · have := hx s z
      omega
    · rw [List.mem_singleton.mp z]
      omega
  · rw [List.length_append] at hC
    obtain ⟨C', c, rfl, hC', hc⟩ := cl_split hC
    have st : DefsL (PEx 6 N) (7 - ds'.length) [c] [] [c] := .stop ⟨c, [], rfl, (sees_of hc _ _).trans (by decide +kernel)⟩
    obtain ⟨R1, g1, g2⟩ := p C' hC' N hN [c] (tok_close hc) _ _ _ st
    rw [show 7 - ds'.length + ds'.length = 7 by rw [List.length_cons] at hd; omega, List.append_nil] at g2
    have e : (b :: D) ++ (C' ++ [c]) = b :: (D ++ (C' ++ [c])) := rfl
    rw [e]
    exact .mk hb g1 g2 hc
end K10
namespace K10
open PySem
open SX (S)
/-! ### words, rows -/
def numsS : List Str := ["0", "1", "2", "3", "7", "999999999", "12"]
def signsS : List Str := ["==", "->", "[]", "(", ")", "+", "-", "*", "<", "=", ":"]
def isLet (k : Str) : Prop := k = "name" ∨ k = "key"
/-- a mark's kind and word -/
inductive WordOk : Str → Str → Prop where
  | name {w : Str} : Nm w → WordOk "name" w
  | key {w : Str} : w ∈ keysS → WordOk "key" w
  | number {w : Str} : w ∈ numsS → WordOk "number" w
  | sign {w : Str} : w ∈ signsS → WordOk "sign" w
/-- a blank, or a word -/
inductive It where
  | sp
  | wd (k w : Str)
def It.c : It → List Nat
  | .sp => [32]
  | .wd _ w => w.cps.toList
def rowC (r : List It) : List Nat := r.flatMap It.c
def tk (l : Int) : Nat → List It → List M
  | _, [] => []
  | c, .sp :: r => tk l (c + 1) r
  | c, .wd k w :: r => ⟨k, w, l, (c : Int)⟩ :: tk l (c + w.length) r
theorem str_len (w : Str) : w.cps.toList.length = w.length := by simp [Str.length]
theorem rowC_app (a b : List It) : rowC (a ++ b) = rowC a ++ rowC b := List.flatMap_append
theorem rowC_sps : ∀ n : Nat, rowC (List.replicate n It.sp) = List.replicate n 32
  | 0 => rfl
  | n + 1 => by
    rw [List.replicate_succ, List.replicate_succ]
    show [32] ++ rowC (List.replicate n It.sp) = _
    rw [rowC_sps n] <;> rfl
theorem tk_app (l : Int) : ∀ (c : Nat) (a b : List It), tk l c (a ++ b) = tk l c a ++ tk l (c + (rowC a).length) b
  | c, [], b => rfl
  | c, .sp :: r, b => by
    show tk l (c + 1) (r ++ b) = tk l (c + 1) r ++ tk l (c + (rowC (.sp :: r)).length) b
    rw [tk_app l (c + 1) r b]
    have e : c + 1 + (rowC r).length = c + (rowC (.sp :: r)).length := by
      show c + 1 + (rowC r).length = c + ([32] ++ rowC r).length
      rw [List.length_append]
      show _ = c + (1 + _)
      omega
    rw [e]
  | c, .wd k w :: r, b => by
    show _ :: tk l (c + w.length) (r ++ b) = _ :: tk l (c + w.length) r ++ tk l (c + (rowC (.wd k w :: r)).length) b
    rw [tk_app l (c + w.length) r b]
    have e : c + w.length + (rowC r).length = c + (rowC (.wd k w :: r)).length := by
      show c + w.length + (rowC r).length = c + (w.cps.toList ++ rowC r).length
      rw [List.length_append, str_len]
      omega
    rw [e] <;> rfl
theorem tk_sps (l : Int) : ∀ (n c : Nat), tk l c (List.replicate n It.sp) = []
  | 0, _ => rfl
  | n + 1, c => by
    rw [List.replicate_succ]
    exact tk_sps l n (c + 1)
/-- one word straight behind another -/
def AdjW (k w k' w' : Str) : Prop := ¬ (isLet k ∧ isLet k') ∧ ¬ (k = "number" ∧ k' = "number") ∧ ¬ (w = "=" ∧ (w' = "=" ∨ w' = "=="))
def RowOk : List It → Prop
  | [] => True
  | [.sp] => True
  | [.wd k w] => WordOk k w
  | .sp :: r => RowOk r
  | .wd k w :: .sp :: r => WordOk k w ∧ RowOk (.sp :: r)
  | .wd k w :: .wd k' w' :: r => WordOk k w ∧ AdjW k w k' w' ∧ RowOk (.wd k' w' :: r)
/-- what may stand behind the row a -/
def Next (a : List It) (i : It) : Prop := ∀ k w, a.getLast? = some (.wd k w) → ∀ k' w', i = .wd k' w' → AdjW k w k' w'
theorem rowOk_snoc : ∀ {a : List It} {i : It}, RowOk a → (∀ k w, i = .wd k w → WordOk k w) → Next a i → RowOk (a ++ [i])
  | [], i, _, hi, _ => by
    cases i with
    | sp => trivial
    | wd k w => exact hi k w rfl
  | [.sp], i, _, hi, _ => by
    cases i with
    | sp => trivial
    | wd k w => exact hi k w rfl
  | [.wd k w], i, h, hi, hn => by
    cases i with
    | sp => exact ⟨h, trivial⟩
    | wd k' w' => exact ⟨h, hn k w rfl k' w' rfl, hi k' w' rfl⟩
  | .sp :: x :: r, i, h, hi, hn => by
    show RowOk ((x :: r) ++ [i])
    have h' : RowOk (x :: r) := by cases x <;> exact h
    exact rowOk_snoc h' hi fun k w e => hn k w (by rw [List.getLast?_cons_cons]; exact e)
  | .wd k w :: .sp :: r, i, h, hi, hn => by
    refine ⟨h.1, ?_⟩
    exact rowOk_snoc (a := .sp :: r) h.2 hi fun k w e => hn k w (by rw [List.getLast?_cons_cons]; exact e)
  | .wd k w :: .wd k' w' :: r, i, h, hi, hn => by
    refine ⟨h.1, h.2.1, ?_⟩
    exact rowOk_snoc (a := .wd k' w' :: r) h.2.2 hi fun k w e => hn k w (by rw [List.getLast?_cons_cons]; exact e)
theorem rowOk_sps : ∀ n : Nat, RowOk (List.replicate n It.sp)
  | 0 => trivial
  | 1 => trivial
  | n + 2 => rowOk_sps (n + 1)
theorem rowOk_addsp {a : List It} (h : RowOk a) : ∀ n : Nat, RowOk (a ++ List.replicate n It.sp)
  | 0 => by simpa using h
  | n + 1 => by
    rw [List.replicate_succ', ← List.append_assoc]
    exact rowOk_snoc (rowOk_addsp h n) (fun k w e => by cases e) (fun _ _ _ k' w' e => by cases e)

/-! ### rows of a text: its items, and what stands behind a # -/
abbrev Row := List It × List Nat
def rowT (r : Row) : List Nat := rowC r.1 ++ r.2
structure RowFit (r : Row) : Prop where
  ok : RowOk r.1
  rem : r.2 = [] ∨ ∃ t, r.2 = 35 :: t
  line : 10 ∉ r.2
def toksR : Int → List Row → List M
  | _, [] => []
  | l, r :: rs => tk l 0 r.1 ++ toksR (l + 1) rs
theorem toksR_app : ∀ (l : Int) (a b : List Row), toksR l (a ++ b) = toksR l a ++ toksR (l + (a.length : Int)) b
  | l, [], b => by simp [toksR]
  | l, r :: a, b => by
    show tk l 0 r.1 ++ toksR (l + 1) (a ++ b) = tk l 0 r.1 ++ toksR (l + 1) a ++ toksR (l + ((r :: a).length : Int)) b
    rw [toksR_app (l + 1) a b, List.append_assoc]
    have e : l + 1 + (a.length : Int) = l + ((r :: a).length : Int) := by rw [List.length_cons]; omega
    rw [e]
def textR (rs : List Row) : List Nat := TL.joinL [10] (rs.map rowT)
theorem joinL_snoc (s : List Nat) : ∀ (l : List (List Nat)) (x : List Nat), l ≠ [] → TL.joinL s (l ++ [x]) = TL.joinL s l ++ (s ++ x)
  | [], x, h => absurd rfl h
  | [a], x, _ => rfl
  | a :: b :: r, x, _ => by
    show a ++ (s ++ TL.joinL s (b :: r ++ [x])) = (a ++ (s ++ TL.joinL s (b :: r))) ++ (s ++ x)
    have e : TL.joinL s (b :: r ++ [x]) = TL.joinL s (b :: r) ++ (s ++ x) := joinL_snoc s (b :: r) x (by simp)
    rw [e]
    simp
theorem textR_snoc {rs : List Row} (r : Row) (h : rs ≠ []) : textR (rs ++ [r]) = textR rs ++ (10 :: rowT r) := by
  unfold textR
  rw [List.map_append]
  exact joinL_snoc [10] _ _ (by simpa using h)
theorem joinL_last (s : List Nat) : ∀ (l : List (List Nat)) (x y : List Nat), TL.joinL s (l ++ [x ++ y]) = TL.joinL s (l ++ [x]) ++ y
  | [], x, y => rfl
  | [a], x, y => by simp [TL.joinL]
  | a :: b :: r, x, y => by
    show a ++ (s ++ TL.joinL s (b :: r ++ [x ++ y])) = (a ++ (s ++ TL.joinL s (b :: r ++ [x]))) ++ y
    have e : TL.joinL s (b :: r ++ [x ++ y]) = TL.joinL s (b :: r ++ [x]) ++ y := joinL_last s (b :: r) x y
    rw [e]
    simp
/-- more behind the last row -/
theorem textR_more (rs : List Row) (a b : Row) (y : List Nat) (h : rowT b = rowT a ++ y) : textR (rs ++ [b]) = textR (rs ++ [a]) ++ y := by
  unfold textR
  rw [List.map_append, List.map_append]
  show TL.joinL [10] (rs.map rowT ++ [rowT b]) = TL.joinL [10] (rs.map rowT ++ [rowT a]) ++ y
  rw [h]
  exact joinL_last [10] _ _ _

/-! ### the pen -/
structure Pn where
  done : List Row
  cur : List It
  fresh : Bool
def Pn.rows (p : Pn) : List Row := p.done ++ [(p.cur, [])]
def Pn.text (p : Pn) : List Nat := textR p.rows
def Pn.line (p : Pn) : Int := (p.done.length : Int)
def Pn.coln (p : Pn) : Nat := (rowC p.cur).length
def Pn.toks (p : Pn) : List M := toksR 0 p.rows
structure Pn.Ok (p : Pn) : Prop where
  done : ∀ r ∈ p.done, RowFit r
  cur : RowOk p.cur
theorem Pn.Ok.rows {p : Pn} (h : p.Ok) : ∀ r ∈ p.rows, RowFit r := fun r hr => (List.mem_append.mp hr).elim (h.done r) fun e => by
  rw [List.mem_singleton.mp e]
  exact ⟨h.cur, .inl rfl, by simp⟩
/-- blanks, the flag -/
def Pn.blank (p : Pn) (n : Nat) (f : Bool) : Pn := ⟨p.done, p.cur ++ List.replicate n .sp, f⟩
/-- a line's end, a remark ahead of it -/
def Pn.newl (p : Pn) (rem : List Nat) : Pn := ⟨p.done ++ [(p.cur, rem)], [], p.fresh⟩
def Pn.word (p : Pn) (k w : Str) : Pn := ⟨p.done, p.cur ++ [.wd k w], false⟩
def Pn.flag (p : Pn) (f : Bool) : Pn := ⟨p.done, p.cur, f⟩
theorem Pn.Ok.blank {p : Pn} (h : p.Ok) (n : Nat) (f : Bool) : (p.blank n f).Ok := ⟨h.done, rowOk_addsp h.cur n⟩
theorem Pn.Ok.flag {p : Pn} (h : p.Ok) (f : Bool) : (p.flag f).Ok := ⟨h.done, h.cur⟩
theorem Pn.Ok.newl {p : Pn} (h : p.Ok) {rem : List Nat} (h1 : rem = [] ∨ ∃ t, rem = 35 :: t) (h2 : 10 ∉ rem) : (p.newl rem).Ok :=
  ⟨fun r hr => (List.mem_append.mp hr).elim (h.done r) fun e => by
    rw [List.mem_singleton.mp e]
    exact ⟨h.cur, h1, h2⟩, trivial⟩
theorem Pn.Ok.word {p : Pn} (h : p.Ok) {k w : Str} (hw : WordOk k w) (hn : Next p.cur (.wd k w)) : (p.word k w).Ok :=
  ⟨h.done, rowOk_snoc h.cur (fun k' w' e => by cases e; exact hw) hn⟩
theorem rowT_cur (a : List It) : rowT (a, []) = rowC a := List.append_nil _
theorem Pn.text_blank (p : Pn) (n : Nat) (f : Bool) : (p.blank n f).text = p.text ++ List.replicate n 32 :=
  textR_more p.done (p.cur, []) _ _ (by
    rw [rowT_cur, rowT_cur]
    show rowC (p.cur ++ List.replicate n .sp) = _
    rw [rowC_app, rowC_sps])
theorem Pn.text_word (p : Pn) (k w : Str) : (p.word k w).text = p.text ++ w.cps.toList :=
  textR_more p.done (p.cur, []) _ _ (by
    rw [rowT_cur, rowT_cur]
    show rowC (p.cur ++ [.wd k w]) = _
    rw [rowC_app]
    show _ ++ (w.cps.toList ++ []) = _
    rw [List.append_nil])
theorem Pn.text_newl (p : Pn) (rem : List Nat) : (p.newl rem).text = p.text ++ (rem ++ [10]) := by
  show textR ((p.done ++ [(p.cur, rem)]) ++ [([], [])]) = _
  rw [textR_snoc _ (by simp), textR_more p.done (p.cur, []) (p.cur, rem) rem (by rw [rowT_cur] <;> rfl)]
  show (p.text ++ rem) ++ (10 :: rowT ([], [])) = _
  rw [List.append_assoc] <;> rfl
theorem Pn.text_flag (p : Pn) (f : Bool) : (p.flag f).text = p.text := rfl
theorem Pn.toks_flag (p : Pn) (f : Bool) : (p.flag f).toks = p.toks := rfl
theorem Pn.toks_eq (p : Pn) : p.toks = toksR 0 p.done ++ tk p.line 0 p.cur := by
  unfold Pn.toks Pn.rows
  rw [toksR_app]
  show toksR 0 p.done ++ (tk (0 + (p.done.length : Int)) 0 p.cur ++ []) = _
  rw [List.append_nil, Int.zero_add] <;> rfl
theorem Pn.toks_blank (p : Pn) (n : Nat) (f : Bool) : (p.blank n f).toks = p.toks := by
  rw [Pn.toks_eq, Pn.toks_eq]
  show toksR 0 p.done ++ tk p.line 0 (p.cur ++ List.replicate n .sp) = _
  rw [tk_app, tk_sps, List.append_nil]
theorem Pn.toks_newl (p : Pn) (rem : List Nat) : (p.newl rem).toks = p.toks := by
  rw [Pn.toks_eq, Pn.toks_eq]
  show toksR 0 (p.done ++ [(p.cur, rem)]) ++ [] = _
  rw [toksR_app, List.append_nil]
  show toksR 0 p.done ++ (tk (0 + (p.done.length : Int)) 0 p.cur ++ []) = _
  rw [List.append_nil, Int.zero_add] <;> rfl
theorem Pn.toks_word (p : Pn) (k w : Str) : (p.word k w).toks = p.toks ++ [⟨k, w, p.line, (p.coln : Int)⟩] := by
  rw [Pn.toks_eq, Pn.toks_eq]
  show toksR 0 p.done ++ tk p.line 0 (p.cur ++ [.wd k w]) = _
  rw [tk_app, Nat.zero_add, List.append_assoc] <;> rfl
theorem Pn.line_blank (p : Pn) (n : Nat) (f : Bool) : (p.blank n f).line = p.line := rfl
theorem Pn.line_word (p : Pn) (k w : Str) : (p.word k w).line = p.line := rfl
theorem Pn.line_newl (p : Pn) (rem : List Nat) : (p.newl rem).line = p.line + 1 := by
  show ((p.done ++ [(p.cur, rem)]).length : Int) = _
  rw [List.length_append] <;> rfl
theorem Pn.coln_blank (p : Pn) (n : Nat) (f : Bool) : (p.blank n f).coln = p.coln + n := by
  show (rowC (p.cur ++ _)).length = _
  rw [rowC_app, rowC_sps, List.length_append, List.length_replicate] <;> rfl
theorem Pn.coln_word (p : Pn) (k w : Str) : (p.word k w).coln = p.coln + w.length := by
  show (rowC (p.cur ++ _)).length = _
  rw [rowC_app, List.length_append]
  show _ + (w.cps.toList ++ []).length = _
  rw [List.append_nil, str_len] <;> rfl
theorem Pn.coln_newl (p : Pn) (rem : List Nat) : (p.newl rem).coln = 0 := rfl
/-- the last mark, where a word ends the row -/
theorem Pn.last_cur {p : Pn} {k w : Str} (h : p.cur.getLast? = some (.wd k w)) : ∃ m, p.toks.getLast? = some m ∧ m.k = k ∧ m.w = w := by
  obtain ⟨a, e⟩ := List.getLast?_eq_some_iff.mp h
  rw [Pn.toks_eq, e, tk_app]
  exact ⟨⟨k, w, p.line, ((0 + (rowC a).length : Nat) : Int)⟩, by rw [← List.append_assoc, List.getLast?_append] <;> rfl, rfl, rfl⟩
end K10
namespace K10
open PySem
open SX (S)
/-! ### the signs of words -/
def lettersC : List Nat := [97, 98, 99, 100, 101, 102, 103, 104, 105, 106, 107, 108, 109, 110, 111, 112, 113, 114, 115, 116, 117, 118, 119, 120, 121, 122]
def figuresC : List Nat := [48, 49, 50, 51, 52, 53, 54, 55, 56, 57]
theorem letters_eq : ("abcdefghijklmnopqrstuvwxyz" : Str) = S lettersC := by decide +kernel
theorem figures_eq : ("0123456789" : Str) = S figuresC := by decide +kernel
theorem mem_letters {a : Nat} : a ∈ lettersC ↔ 97 ≤ a ∧ a ≤ 122 := by
  unfold lettersC
  simp only [List.mem_cons, List.not_mem_nil, or_false]
  omega
theorem mem_figures {a : Nat} : a ∈ figuresC ↔ 48 ≤ a ∧ a ≤ 57 := by
  unfold figuresC
  simp only [List.mem_cons, List.not_mem_nil, or_false]
  omega
theorem key_letters : ∀ w ∈ keysS, (∀ a ∈ w.cps.toList, 97 ≤ a ∧ a ≤ 122) ∧ 1 ≤ w.length ∧ w.length ≤ 8 := by decide +kernel
theorem num_figures : ∀ w ∈ numsS, (∀ a ∈ w.cps.toList, 48 ≤ a ∧ a ≤ 57) ∧ 1 ≤ w.length ∧ w.length ≤ 9 ∧ (1 < w.length → w.cps.toList.head? ≠ some 48) := by decide +kernel
theorem sign_signs : ∀ w ∈ signsS, (∀ a ∈ w.cps.toList, ¬ (97 ≤ a ∧ a ≤ 122) ∧ ¬ (48 ≤ a ∧ a ≤ 57) ∧ a ≠ 32 ∧ a ≠ 35 ∧ a ≠ 10) ∧ 1 ≤ w.length ∧ w.length ≤ 2 := by decide +kernel
theorem sign_head : ∀ w ∈ signsS, w.cps.toList.head? ≠ some 62 ∧ (w.cps.toList.head? = some 61 → w = "=" ∨ w = "==") := by decide +kernel
theorem let_word {k w : Str} (h : WordOk k w) (hk : isLet k) : (∀ a ∈ w.cps.toList, 97 ≤ a ∧ a ≤ 122) ∧ 1 ≤ w.length ∧ w.length ≤ 8 := by
  cases h with
  | name h => exact ⟨h.1, h.2.1, h.2.2.1⟩
  | key h => exact key_letters w h
  | number h => exact absurd hk (by unfold isLet; decide +kernel)
  | sign h => exact absurd hk (by unfold isLet; decide +kernel)
theorem word_len {k w : Str} (h : WordOk k w) : 1 ≤ w.length ∧ w.length ≤ 9 := by
  cases h with
  | name h => exact ⟨h.2.1, Nat.le_succ_of_le h.2.2.1⟩
  | key h => exact ⟨(key_letters w h).2.1, Nat.le_succ_of_le (key_letters w h).2.2⟩
  | number h => exact ⟨(num_figures w h).2.1, (num_figures w h).2.2.1⟩
  | sign h => exact ⟨(sign_signs w h).2.1, Nat.le_trans (sign_signs w h).2.2 (by decide)⟩
/-- a word's first sign -/
theorem word_first {k w : Str} (h : WordOk k w) : ∃ a r, w.cps.toList = a :: r := by
  have h1 := (word_len h).1
  rw [← str_len] at h1
  cases e : w.cps.toList with
  | nil =>
    rw [e] at h1
    cases h1
  | cons a r => exact ⟨a, r, rfl⟩
theorem word_sign {k w : Str} {a : Nat} (h : WordOk k w) (ha : a ∈ w.cps.toList) : a ≠ 32 ∧ a ≠ 35 ∧ a ≠ 10 := by
  cases h with
  | name h =>
    have := h.1 a ha
    omega
  | key h =>
    have := (key_letters w h).1 a ha
    omega
  | number h =>
    have := (num_figures w h).1 a ha
    omega
  | sign h => exact ((sign_signs w h).1 a ha).2.2
/-- what stands behind a word in its row -/
structure Behind (k w : Str) (post : List Nat) : Prop where
  lt : isLet k → ∀ a r, post = a :: r → ¬ (97 ≤ a ∧ a ≤ 122)
  num : k = "number" → ∀ a r, post = a :: r → ¬ (48 ≤ a ∧ a ≤ 57)
  eq : w = "=" → ∀ a r, post = a :: r → a ≠ 61
  mi : w = "-" → ∀ a r, post = a :: r → a ≠ 62
theorem behind_of {k w : Str} {post : List Nat} (h : ∀ a r, post = a :: r → ¬ (97 ≤ a ∧ a ≤ 122) ∧ ¬ (48 ≤ a ∧ a ≤ 57) ∧ a ≠ 61 ∧ a ≠ 62) : Behind k w post :=
  ⟨fun _ a r e => (h a r e).1, fun _ a r e => (h a r e).2.1, fun _ a r e => (h a r e).2.2.1, fun _ a r e => (h a r e).2.2.2⟩
theorem rowOk_tail {i : It} {r : List It} (h : RowOk (i :: r)) : RowOk r := by
  cases i with
  | sp => cases r with
    | nil => trivial
    | cons x y => cases x <;> exact h
  | wd k w => cases r with
    | nil => trivial
    | cons x y => cases x with
      | sp => exact h.2
      | wd k' w' => exact h.2.2
theorem rowOk_word {k w : Str} {r : List It} (h : RowOk (.wd k w :: r)) : WordOk k w := by
  cases r with
  | nil => exact h
  | cons x y => cases x <;> exact h.1
theorem rowOk_behind {k w : Str} {r : List It} {rem : List Nat} (h : RowOk (.wd k w :: r)) (hr : rem = [] ∨ ∃ t, rem = 35 :: t) : Behind k w (rowC r ++ rem) := by
  cases r with
  | nil =>
    rcases hr with rfl | ⟨t, rfl⟩
    · exact behind_of fun a r e => by cases e
    · exact behind_of fun a r e => by
        injection e with e1 _
        omega
  | cons x y =>
    cases x with
    | sp =>
      exact behind_of fun a r e => by
        injection e with e1 _
        omega
    | wd k' w' =>
      obtain ⟨_, ⟨a1, a2, a3⟩, h2⟩ := h
      have hw := rowOk_word h2
      obtain ⟨c, t, ec⟩ := word_first hw
      have first : ∀ a r, rowC (.wd k' w' :: y) ++ rem = a :: r → a = c := fun a r e => by
        have e' : (w'.cps.toList ++ rowC y) ++ rem = a :: r := e
        rw [ec] at e'
        injection e' with e1 _
        exact e1.symm
      have hc : c ∈ w'.cps.toList := by rw [ec]; exact List.mem_cons_self
      have hd : w'.cps.toList.head? = some c := by rw [ec] <;> rfl
      refine ⟨fun hk a r e z => ?_, fun hk a r e z => ?_, fun hw' a r e z => ?_, fun hw' a r e z => ?_⟩
      · rw [first a r e] at z
        cases hw with
        | name _ => exact a1 ⟨hk, .inl rfl⟩
        | key _ => exact a1 ⟨hk, .inr rfl⟩
        | number h => have := (num_figures w' h).1 c hc; omega
        | sign h => exact ((sign_signs w' h).1 c hc).1 z
      · rw [first a r e] at z
        cases hw with
        | name h => have := h.1 c hc; omega
        | key h => have := (key_letters w' h).1 c hc; omega
        | number h => exact a2 ⟨hk, rfl⟩
        | sign h => exact ((sign_signs w' h).1 c hc).2.1 z
      · rw [first a r e] at z
        cases hw with
        | name h => have := h.1 c hc; omega
        | key h => have := (key_letters w' h).1 c hc; omega
        | number h => have := (num_figures w' h).1 c hc; omega
        | sign h => exact a3 ⟨hw', (sign_head w' h).2 (by rw [hd, z])⟩
      · rw [first a r e] at z
        cases hw with
        | name h => have := h.1 c hc; omega
        | key h => have := (key_letters w' h).1 c hc; omega
        | number h => have := (num_figures w' h).1 c hc; omega
        | sign h => exact (sign_head w' h).1 (by rw [hd, z])
/-- a sign is the first of the signs that stand there -/
def sigAt (s : Str) (R : List Nat) : Bool := decide (R.take s.length = s.cps.toList)
theorem sig_hit (w : Str) (post : List Nat) : sigAt w (w.cps.toList ++ post) = true := by
  unfold sigAt
  rw [← str_len, List.take_left]
  exact decide_eq_true rfl
theorem sig_miss {w : Str} {post : List Nat} (hb : Behind "sign" w post) : ∀ (i j : Nat) (s : Str), signsS[j]? = some w → signsS[i]? = some s → i < j → sigAt s (w.cps.toList ++ post) = false := by
  intro i j s hj hi hij
  have two : ∀ (x y : Nat) (t : Str), w.cps.toList = [x] → t.cps.toList = [x, y] → (∀ a r, post = a :: r → a ≠ y) → sigAt t (w.cps.toList ++ post) = false := fun x y t e1 e2 e3 => by
    unfold sigAt
    have el : t.length = 2 := by rw [← str_len, e2] <;> rfl
    rw [e1, e2, el]
    refine decide_eq_false fun z => ?_
    cases post with
    | nil => cases z
    | cons a r =>
      have z' : x :: a :: [] = [x, y] := z
      injection z' with _ z2
      injection z2 with z3 _
      exact e3 a r rfl z3
  have one : ∀ (x : Nat) (t : Str) (u : List Nat), w.cps.toList = x :: u → (∀ y r, t.cps.toList = y :: r → y ≠ x) → t.cps.toList ≠ [] → sigAt t (w.cps.toList ++ post) = false := fun x t u e1 e2 e3 => by
    unfold sigAt
    refine decide_eq_false fun z => ?_
    cases ht : t.cps.toList with
    | nil => exact e3 ht
    | cons y r =>
      have el : t.length = r.length + 1 := by rw [← str_len, ht] <;> rfl
      rw [e1, ht, el] at z
      injection z with z1 _
      exact e2 y r ht z1.symm
  have pick : ∀ (x : Nat) (u : List Nat), w.cps.toList = x :: u → (∀ t ∈ signsS.take j, (∃ y, w.cps.toList = [x] ∧ t.cps.toList = [x, y] ∧ (∀ a r, post = a :: r → a ≠ y)) ∨ ((∀ y r, t.cps.toList = y :: r → y ≠ x) ∧ t.cps.toList ≠ [])) → sigAt s (w.cps.toList ++ post) = false := fun x u e h => by
    have hm : s ∈ signsS.take j := List.mem_iff_getElem?.mpr ⟨i, by rw [List.getElem?_take, if_pos hij]; exact hi⟩
    rcases h s hm with ⟨y, h1, h2, h3⟩ | ⟨h1, h2⟩
    · exact two x y s h1 h2 h3
    · exact one x s u e h1 h2
  have lt : ∀ (x : Nat) (t : Str), (match t.cps.toList with | [] => false | y :: _ => decide (y ≠ x)) = true → (∀ y r, t.cps.toList = y :: r → y ≠ x) ∧ t.cps.toList ≠ [] := fun x t h => by
    cases e : t.cps.toList with
    | nil =>
      rw [e] at h
      cases h
    | cons y r =>
      rw [e] at h
      exact ⟨fun y' r' e' => by
        injection e' with e1 _
        rw [← e1]
        exact of_decide_eq_true h, by simp⟩
  have jl : j < 11 := (List.getElem?_eq_some_iff.mp hj).1
  have cases_ : j = 0 ∨ j = 1 ∨ j = 2 ∨ j = 3 ∨ j = 4 ∨ j = 5 ∨ j = 6 ∨ j = 7 ∨ j = 8 ∨ j = 9 ∨ j = 10 := by omega
  have all_ : ∀ (x : Nat) (u : List Nat), w.cps.toList = x :: u → ((signsS.take j).all fun t => match t.cps.toList with | [] => false | y :: _ => decide (y ≠ x)) = true → sigAt s (w.cps.toList ++ post) = false := fun x u e h =>
    pick x u e fun t ht => .inr (lt x t (List.all_eq_true.mp h t ht))
  rcases cases_ with rfl | rfl | rfl | rfl | rfl | rfl | rfl | rfl | rfl | rfl | rfl
  · omega
  · cases (show ("->" : Str) = w from Option.some.inj hj); exact all_ 45 [62] (by decide +kernel) (by decide +kernel)
  · cases (show ("[]" : Str) = w from Option.some.inj hj); exact all_ 91 [93] (by decide +kernel) (by decide +kernel)
  · cases (show ("(" : Str) = w from Option.some.inj hj); exact all_ 40 [] (by decide +kernel) (by decide +kernel)
  · cases (show (")" : Str) = w from Option.some.inj hj); exact all_ 41 [] (by decide +kernel) (by decide +kernel)
  · cases (show ("+" : Str) = w from Option.some.inj hj); exact all_ 43 [] (by decide +kernel) (by decide +kernel)
  · cases (show ("-" : Str) = w from Option.some.inj hj)
    refine pick 45 [] (by decide +kernel) fun t ht => ?_
    have ht' : t ∈ [("==" : Str), "->", "[]", "(", ")", "+"] := ht
    simp only [List.mem_cons, List.not_mem_nil, or_false] at ht'
    rcases ht' with rfl | rfl | rfl | rfl | rfl | rfl
    · exact .inr (lt 45 _ (by decide +kernel))
    · exact .inl ⟨62, by decide +kernel, by decide +kernel, hb.mi rfl⟩
    · exact .inr (lt 45 _ (by decide +kernel))
    · exact .inr (lt 45 _ (by decide +kernel))
    · exact .inr (lt 45 _ (by decide +kernel))
    · exact .inr (lt 45 _ (by decide +kernel))
  · cases (show ("*" : Str) = w from Option.some.inj hj); exact all_ 42 [] (by decide +kernel) (by decide +kernel)
  · cases (show ("<" : Str) = w from Option.some.inj hj); exact all_ 60 [] (by decide +kernel) (by decide +kernel)
  · cases (show ("=" : Str) = w from Option.some.inj hj)
    refine pick 61 [] (by decide +kernel) fun t ht => ?_
    have ht' : t ∈ [("==" : Str), "->", "[]", "(", ")", "+", "-", "*", "<"] := ht
    simp only [List.mem_cons, List.not_mem_nil, or_false] at ht'
    rcases ht' with rfl | rfl | rfl | rfl | rfl | rfl | rfl | rfl | rfl
    · exact .inl ⟨61, by decide +kernel, by decide +kernel, hb.eq rfl⟩
    all_goals exact .inr (lt 61 _ (by decide +kernel))
  · cases (show (":" : Str) = w from Option.some.inj hj); exact all_ 58 [] (by decide +kernel) (by decide +kernel)
end K10
namespace K10
open PySem PySem.Spec PyProof.Rows L2
open SX (S)
abbrev FnP (K : PySem.W.Frag) (x qual : Str) (st : Stmt) (dvs : List V) (f : Addr) (fd : FuncData) : Prop := FunD K x qual (defArgs st) (defBody st) (defScope st) dvs [] f fd

/-! ### data in the heap: ints, texts, tuples -/
mutual
inductive TD (H : Hp) : V → PyData → Prop where
  | int (i : Int) : TD H (.int i) (.int i)
  | str (x : Str) : TD H (.str x) (.str x)
  | tup {a : Addr} {xs : List V} {ds : List PyData} : H a = some (.tup xs) → TDs H xs ds → TD H (.ref a) (.tuple ds)
inductive TDs (H : Hp) : List V → List PyData → Prop where
  | nil : TDs H [] []
  | cons {v : V} {vs : List V} {d : PyData} {ds : List PyData} : TD H v d → TDs H vs ds → TDs H (v :: vs) (d :: ds)
end
/-- tuples stay -/
def Tp (H H' : Hp) : Prop := ∀ b xs, H b = some (.tup xs) → H' b = some (.tup xs)
theorem Tp.refl (H : Hp) : Tp H H := fun _ _ h => h
theorem Tp.trans {H H1 H2 : Hp} (a : Tp H H1) (b : Tp H1 H2) : Tp H H2 := fun c xs h => b c xs (a c xs h)
mutual
theorem TD.mono {H H' : Hp} (t : Tp H H') : ∀ {v : V} {d : PyData}, TD H v d → TD H' v d
  | _, _, .int i => .int i
  | _, _, .str x => .str x
  | _, _, .tup h hs => .tup (t _ _ h) (TDs.mono t hs)
theorem TDs.mono {H H' : Hp} (t : Tp H H') : ∀ {vs : List V} {ds : List PyData}, TDs H vs ds → TDs H' vs ds
  | _, _, .nil => .nil
  | _, _, .cons h hs => .cons (TD.mono t h) (TDs.mono t hs)
end
mutual
theorem TD.dp {K : PySem.W.Frag} {H : Hp} : ∀ {v : V} {d : PyData}, TD H v d → Dp K H v d
  | _, _, .int i => .int i
  | _, _, .str x => .str x
  | _, _, .tup h hs => .tup (.inl (.inl h)) (TDs.dp hs)
theorem TDs.dp {K : PySem.W.Frag} {H : Hp} : ∀ {vs : List V} {ds : List PyData}, TDs H vs ds → DpAll K H vs ds
  | _, _, .nil => .nil
  | _, _, .cons h hs => .cons (TD.dp h) (TDs.dp hs)
end
theorem TDs.len {H : Hp} : ∀ {vs : List V} {ds : List PyData}, TDs H vs ds → vs.length = ds.length
  | _, _, .nil => rfl
  | _, _, .cons _ hs => congrArg Nat.succ hs.len
theorem TDs.get {H : Hp} : ∀ {vs : List V} {ds : List PyData} {i : Nat} {d : PyData}, TDs H vs ds → ds[i]? = some d → ∃ v, vs[i]? = some v ∧ TD H v d
  | _, _, _, _, .nil, h => by cases h
  | _, _, 0, _, .cons h _, e => ⟨_, rfl, by cases e; exact h⟩
  | _, _, i + 1, _, .cons _ hs, e => TDs.get (i := i) hs e
theorem TDs.getV {H : Hp} : ∀ {vs : List V} {ds : List PyData} {i : Nat} {v : V}, TDs H vs ds → vs[i]? = some v → ∃ d, ds[i]? = some d ∧ TD H v d
  | _, _, _, _, .nil, h => by cases h
  | _, _, 0, _, .cons h _, e => ⟨_, rfl, by cases e; exact h⟩
  | _, _, i + 1, _, .cons _ hs, e => TDs.getV (i := i) hs e
theorem TDs.snoc {H : Hp} : ∀ {vs : List V} {ds : List PyData} {v : V} {d : PyData}, TDs H vs ds → TD H v d → TDs H (vs ++ [v]) (ds ++ [d])
  | _, _, _, _, .nil, h => .cons h .nil
  | _, _, _, _, .cons h1 hs, h => .cons h1 (hs.snoc h)
theorem TDs.strs {H : Hp} : ∀ (l : List Str), TDs H (l.map V.str) (l.map .str)
  | [] => .nil
  | x :: l => .cons (.str x) (TDs.strs l)
theorem TD.tuple {H : Hp} {v : V} {ds : List PyData} (h : TD H v (.tuple ds)) : ∃ a xs, v = .ref a ∧ H a = some (.tup xs) ∧ TDs H xs ds := by
  cases h with
  | tup h1 h2 => exact ⟨_, _, rfl, h1, h2⟩
theorem TD.istr {H : Hp} {v : V} {x : Str} (h : TD H v (.str x)) : v = .str x := by cases h; rfl
theorem TD.iint {H : Hp} {v : V} {x : Int} (h : TD H v (.int x)) : v = .int x := by cases h; rfl

/-! ### what a call may change: lists at S -/
structure Fr (T : List Addr) (H H' : Hp) : Prop where
  keep : ∀ b o, H b = some o → b ∉ T → H' b = some o
  tups : Tp H H'
theorem Fr.refl {T : List Addr} (H : Hp) : Fr T H H := ⟨fun _ _ h _ => h, Tp.refl H⟩
theorem Fr.trans {T : List Addr} {H H1 H2 : Hp} (a : Fr T H H1) (b : Fr T H1 H2) : Fr T H H2 := ⟨fun c o h n => b.keep c o (a.keep c o h n) n, a.tups.trans b.tups⟩
theorem Fr.mono {T T' : List Addr} {H H' : Hp} (a : Fr T H H') (h : ∀ x ∈ T, x ∈ T') : Fr T' H H' := ⟨fun c o e n => a.keep c o e fun z => n (h c z), a.tups⟩
/-- a new object -/
theorem Fr.new {T : List Addr} {H : Hp} {p : Addr} {o : HO} (h : H p = none) : Fr T H (upd H p o) :=
  ⟨fun b u e _ => by rw [upd_ne (ne_of_none e h)]; exact e, fun b xs e => by rw [upd_ne (ne_of_none e h)]; exact e⟩
/-- a list is written -/
theorem Fr.wr {T : List Addr} {H : Hp} {p : Addr} {xs : List V} {o : HO} (h : H p = some (.lst xs)) (hp : p ∈ T) : Fr T H (upd H p o) :=
  ⟨fun b u e n => by rw [upd_ne (fun z => n (by rw [z]; exact hp))]; exact e, fun b ys e => by rw [upd_ne (ne_of e h (by intro z; cases z))]; exact e⟩
/-- a list that was not there before is written -/
theorem Fr.wrN {T : List Addr} {H H1 : Hp} {p : Addr} {xs : List V} {o : HO} (f : Fr T H H1) (h : H1 p = some (.lst xs)) (hp : H p = none) : Fr T H (upd H1 p o) :=
  ⟨fun b u e n => by rw [upd_ne (ne_of_none e hp)]; exact f.keep b u e n, fun b ys e => by rw [upd_ne (ne_of_none e hp)]; exact f.tups b ys e⟩
theorem Fr.free {T : List Addr} {H H' : Hp} (f : Fr T H H') {p : Addr} (h : H' p = none) (hp : p ∉ T) : H p = none := by
  cases q : H p with
  | none => rfl
  | some o =>
    rw [f.keep p o q hp] at h
    cases h
theorem Fr.sq {T : List Addr} {K : PySem.W.Frag} {H H' : Hp} {a : Addr} {xs : List V} (f : Fr T H H') (ha : a ∉ T) (h : SqL K H a xs) : SqL K H' a xs := by
  rcases h with (h | ⟨o, h⟩) | h
  · exact .inl (.inl (f.keep _ _ h ha))
  · exact .inl (.inr ⟨o, f.keep _ _ h ha⟩)
  · exact .inr h
theorem Fr.td {T : List Addr} {H H' : Hp} (f : Fr T H H') {v : V} {d : PyData} (h : TD H v d) : TD H' v d := h.mono f.tups
theorem Fr.at {T : List Addr} {H H' : Hp} (f : Fr T H H') {a : Addr} {o : HO} (h : H a = some o) (ha : a ∉ T) : H' a = some o := f.keep a o h ha
theorem mem1 {a : Addr} : a ∈ [a] := List.mem_singleton.mpr rfl
theorem nmem1 {a b : Addr} (h : b ≠ a) : b ∉ [a] := fun z => h (List.mem_singleton.mp z)
theorem nmem2 {a b c : Addr} (h : c ≠ a) (h2 : c ≠ b) : c ∉ [a, b] := fun z => (List.mem_cons.mp z).elim h fun z => h2 (List.mem_singleton.mp z)
theorem sz {n : Nat} (h : n ≤ 1000000) : n ≤ sizeLine := Nat.le_trans h (by decide)
theorem szl {n : Nat} (h : n < 1000000) : n < sizeLine := Nat.lt_of_lt_of_le h (by decide)

/-! ### defs called by their promises -/
structure Cal (P : Program) (w : World) (K : PySem.W.Frag) (mg : Str → Option Value) (base : Heap) (x : Str) (k : Nat) (ps : List Str) (sp : Sp) : Prop where
  ex : ∃ f fd, mg x = some (.ref f) ∧ PySem.W.keepIn K (.ref f) = true ∧ Binds K fd ps [] ∧ FnOk P w K mg base CX0 k f fd ps sp
theorem Cal.mono {P : Program} {w : World} {K : PySem.W.Frag} {mg : Str → Option Value} {base : Heap} {x : Str} {j k : Nat} {ps : List Str} {sp : Sp} (c : Cal P w K mg base x j ps sp) (h : j ≤ k) : Cal P w K mg base x k ps sp := by
  obtain ⟨f, fd, h1, h2, h3, h4⟩ := c.ex
  exact ⟨f, fd, h1, h2, h3, h4.mono h⟩
theorem Cal.imp {P : Program} {w : World} {K : PySem.W.Frag} {mg : Str → Option Value} {base : Heap} {x : Str} {k : Nat} {ps : List Str} {sp sp' : Sp} (c : Cal P w K mg base x k ps sp) (h : ∀ vs H Q E, sp' vs H Q E → sp vs H Q E) : Cal P w K mg base x k ps sp' := by
  obtain ⟨f, fd, h1, h2, h3, h4⟩ := c.ex
  exact ⟨f, fd, h1, h2, h3, h4.imp h⟩
section
variable {X : Cx} {x : Str} {k : Nat} {ps : List Str} {sp : Sp} {e : Expr} {es : List Expr} {p pos : Pos} {t : TA}
theorem pe_c (C : Cal X.prog X.w X.K X.mg X.base x k ps sp) (hr : Room k X.A) (hg : Gl X x) (ha : PA X (e :: es) t) (hdb : (x == ("__debug__" : Str)) = false := by decide) (he : starEach (e :: es) X.env = (false, eval e X.env) :: starEach es X.env := by rfl)
    (hpl : (backTo pos (starEach es X.env)).any (·.1) = false := by rfl) : PE X (.Call (.Name x p) (e :: es) [] pos) (tCall sp [] E0 t) := by
  obtain ⟨f, fd, h1, h2, h3, h4⟩ := C.ex
  exact pe_call h4 hr hg h1 h2 h3 .nil pass0 ha hdb he hpl
theorem pe_c0 (C : Cal X.prog X.w X.K X.mg X.base x k ps sp) (hr : Room k X.A) (hg : Gl X x) (hdb : (x == ("__debug__" : Str)) = false := by decide) : PE X (.Call (.Name x p) [] [] pos) (tCall sp [] E0 tNil) := by
  obtain ⟨f, fd, h1, h2, h3, h4⟩ := C.ex
  exact pe_call0 h4 hr hg h1 h2 h3 .nil pass0 hdb
end
/-- a method by its promise; dvs: the defaults that fill up -/
structure MCal (P : Program) (w : World) (K : PySem.W.Frag) (mg : Str → Option Value) (base : Heap) (C : Addr) (m : Str) (k : Nat) (ps : List Str) (dvs : List V) (sp : Sp) : Prop where
  ex : ∃ f fd ds, Meth K C m f ∧ Binds K fd ps ds ∧ Vals dvs ds ∧ FnOk P w K mg base CX0 k f fd ps sp
theorem MCal.mono {P : Program} {w : World} {K : PySem.W.Frag} {mg : Str → Option Value} {base : Heap} {C : Addr} {m : Str} {j k : Nat} {ps : List Str} {dvs : List V} {sp : Sp} (c : MCal P w K mg base C m j ps dvs sp) (h : j ≤ k) : MCal P w K mg base C m k ps dvs sp := by
  obtain ⟨f, fd, ds, h1, h2, h3, h4⟩ := c.ex
  exact ⟨f, fd, ds, h1, h2, h3, h4.mono h⟩
theorem MCal.imp {P : Program} {w : World} {K : PySem.W.Frag} {mg : Str → Option Value} {base : Heap} {C : Addr} {m : Str} {k : Nat} {ps : List Str} {dvs : List V} {sp sp' : Sp} (c : MCal P w K mg base C m k ps dvs sp) (h : ∀ vs H Q E, sp' vs H Q E → sp vs H Q E) : MCal P w K mg base C m k ps dvs sp' := by
  obtain ⟨f, fd, ds, h1, h2, h3, h4⟩ := c.ex
  exact ⟨f, fd, ds, h1, h2, h3, h4.imp h⟩
section
variable {X : Cx} {C : Addr} {m : Str} {k : Nat} {ps : List Str} {dvs : List V} {sp : Sp} {o e : Expr} {es : List Expr} {apos pos : Pos} {ta : TE} {t : TA}
theorem pe_m {pl : Sem Bool} (M : MCal X.prog X.w X.K X.mg X.base C m k ps dvs sp) (hr : Room k X.A) (c : Cls X.K C) (he : PE X o ta) (ha : PA X (e :: es) t) (hst : starEach (e :: es) X.env = (false, eval e X.env) :: starEach es X.env := by rfl) (hpl : (backTo pos (starEach es X.env)).any (·.1) = false := by rfl)
    (ht : eval (.Call (.Attribute o m apos) (e :: es) [] pos) X.env = (do
      let ov ← eval o X.env
      standAt apos.atName
      let (f, first) ← holding [ov] (getMethod ov m pl)
      callWith pos f first (backTo pos (starEach (e :: es) X.env)) (backToKw pos (keywordEach [] X.env))) := by rfl) : PE X (.Call (.Attribute o m apos) (e :: es) [] pos) (tMeth C m sp dvs E0 ta t) := by
  obtain ⟨f, fd, ds, h1, h2, h3, h4⟩ := M.ex
  exact pe_meth he c h1 h4 hr h2 h3 pass0 ha hst hpl ht
theorem pe_m0 {pl : Sem Bool} (M : MCal X.prog X.w X.K X.mg X.base C m k ps dvs sp) (hr : Room k X.A) (c : Cls X.K C) (he : PE X o ta)
    (ht : eval (.Call (.Attribute o m apos) [] [] pos) X.env = (do
      let ov ← eval o X.env
      standAt apos.atName
      let (f, first) ← holding [ov] (getMethod ov m pl)
      callWith pos f first (backTo pos (starEach [] X.env)) (backToKw pos (keywordEach [] X.env))) := by rfl) : PE X (.Call (.Attribute o m apos) [] [] pos) (tMeth C m sp dvs E0 ta tNil) := by
  obtain ⟨f, fd, ds, h1, h2, h3, h4⟩ := M.ex
  exact pe_meth0 he c h1 h4 hr h2 h3 pass0 ht
end
/-! ### the module's constants -/
def GV (mg : Str → Option Value) (x : Str) (v : V) : Prop := ∃ u, mg x = some u ∧ RelV v u
theorem pe_g {X : Cx} {x : Str} {v : V} {pos : Pos} (h : GV X.mg x v) (hg : Gl X x) (hd : (x == ("__debug__" : Str)) = false := by decide) : PE X (.Name x pos) (tC v) := by
  obtain ⟨u, h1, h2⟩ := h
  exact pe_glob hg h1 h2 hd
def keysW : List V := [.str "let", .str "if", .str "then", .str "else", .str "case", .str "of", .str "div", .str "mod", .str "and", .str "or"]
def signsW : List V := [.str "==", .str "->", .str "[]", .str "(", .str ")", .str "+", .str "-", .str "*", .str "<", .str "=", .str ":"]
/-- where take's default stands -/
def eB (K : PySem.W.Frag) : Addr := He.dflAt ("Reader", some "take") 0 K
structure Facts (K : PySem.W.Frag) (mg : Str → Option Value) (kA sA CL CR eA : Addr) : Prop where
  f_len : mg "len" = none
  f_list : mg "list" = none
  f_enumerate : mg "enumerate" = none
  f_max : mg "max" = none
  f_min : mg "min" = none
  f_reversed : mg "reversed" = none
  f_range : mg "range" = none
  f_int : mg "int" = none
  f_str : mg "str" = none
  f_tuple : mg "tuple" = none
  f_zip : mg "zip" = none
  g_KEYS : GV mg "KEYS" (.ref kA)
  g_SIGNS : GV mg "SIGNS" (.ref sA)
  g_LETTERS : GV mg "LETTERS" (.str "abcdefghijklmnopqrstuvwxyz")
  g_FIGURES : GV mg "FIGURES" (.str "0123456789")
  g_MOST_OPEN : GV mg "MOST_OPEN" (.int 24)
  g_BRACKET : GV mg "BRACKET" (.int (-1))
  g_DEEP : GV mg "DEEP" (.int 10)
  g_MOST_DEFS : GV mg "MOST_DEFS" (.int 8)
  g_MOST_PARTS : GV mg "MOST_PARTS" (.int 4)
  keys : ∀ H, SqT K H kA keysW
  signs : ∀ H, SqT K H sA signsW
  emp : ∀ H, SqT K H eA []
  emp2 : ∀ H, SqT K H (eB K) []
  g_Layout : mg "Layout" = some (.ref CL)
  g_Reader : mg "Reader" = some (.ref CR)
  cl_L : Cls K CL
  cl_R : Cls K CR
  nTold : NoAttr K CL "told"
  nStack : NoAttr K CL "stack"
  nRow : NoAttr K CR "row"
  nAt : NoAttr K CR "at"

/-! ### rules with the written part told -/
section
variable {X : Cx}
theorem ixL (K : PySem.W.Frag) (h : X.K = K := by rfl) : IxR X (rIxL K) := by subst h; exact ix_list
theorem ixT (K : PySem.W.Frag) (h : X.K = K := by rfl) : IxR X (rIxT K) := by subst h; exact ix_tup
theorem slL (K : PySem.W.Frag) (h : X.K = K := by rfl) : SlR X (rSlL K) := by subst h; exact sl_list
theorem slT (K : PySem.W.Frag) (h : X.K = K := by rfl) : SlR X (rSlT K) := by subst h; exact sl_tup
theorem opIn (K : PySem.W.Frag) (h : X.K = K := by rfl) : OpR X (compareOp .In) (rIn K false) := by subst h; exact op_in_seq
theorem opNin (K : PySem.W.Frag) (h : X.K = K := by rfl) : OpR X (compareOp .NotIn) (rIn K true) := by subst h; exact op_notIn_seq
theorem opEqD (K : PySem.W.Frag) (hu : X.A.units + 64 < cLine) (h : X.K = K := by rfl) : OpR X (compareOp .Eq) (rEqD K) := by subst h; exact op_eqD hu
theorem opNeD (K : PySem.W.Frag) (hu : X.A.units + 64 < cLine) (h : X.K = K := by rfl) : OpR X (compareOp .NotEq) (rNeD K) := by subst h; exact op_neD hu
theorem clLen (K : PySem.W.Frag) (h : X.K = K := by rfl) : CallR X (.builtin "len") (fun xs H Q => ∃ p ys, xs = [.ref p] ∧ (SqL K H p ys ∨ SqT K H p ys) ∧ Q (.int ys.length) H) := by subst h; exact call_len_seq
theorem clList (K : PySem.W.Frag) (h : X.K = K := by rfl) : CallR X (.type "list") (fun xs H Q => ∃ p ys, xs = [.ref p] ∧ (SqL K H p ys ∨ SqT K H p ys) ∧ ∀ l, H l = none → Q (.ref l) (upd H l (.lst ys))) := by subst h; exact call_list_of
theorem clTup (K : PySem.W.Frag) (h : X.K = K := by rfl) : CallR X (.type "tuple") (fun xs H Q => ∃ p ys, xs = [.ref p] ∧ ((SqL K H p ys ∧ ∀ l, H l = none → Q (.ref l) (upd H l (.tup ys))) ∨ (SqT K H p ys ∧ Q (.ref p) H))) := by subst h; exact call_tuple_of
theorem piL (K : PySem.W.Frag) {tg l : Expr} {tl : TE} (hl : PE X l tl) (h : X.K = K := by rfl) : PI X tg l (iList K tl) := by subst h; exact pi_list hl
theorem piT (K : PySem.W.Frag) {tg l : Expr} {tl : TE} (hl : PE X l tl) (h : X.K = K := by rfl) : PI X tg l (iTup K tl) := by subst h; exact pi_tup hl
theorem pgT (K : PySem.W.Frag) (n : Nat) {es : List Expr} {k : Nat} {t : TGs} {pos : Pos} (h : PGs X es t) (hc : X.calm = true := by rfl) (hK : X.K = K := by rfl)
    (hn : (assignEach es X.env).length = n := by rfl) (hst : (assignEach es X.env).findIdx? (·.1) = none := by rfl) : PG X (.Tuple es k pos) (gTup K n t) := by subst hK; exact pg_tup hc h hn hst
end
/-- a comprehension without tests: the element is kept -/
theorem yesI {A B : Hp → Prop} {σ : L2.St} {H : Hp} (h : A H) : tYes σ H (fun b H3 => if b = true then A H3 else B H3) := by
  show (if true = true then A H else B H)
  rw [if_pos rfl]
  exact h
/-! ### operators that the layer lacks -/
theorem fold_app : ∀ (n : Nat) (x : Array Nat) (a : Array Nat), ((List.replicate n x).foldl (· ++ ·) a).toList = a.toList ++ (List.replicate n x.toList).flatten
  | 0, x, a => by simp
  | n + 1, x, a => by
    rw [List.replicate_succ, List.foldl_cons, fold_app n x (a ++ x), List.replicate_succ, List.flatten_cons, Array.toList_append, List.append_assoc]
theorem txt_mul (z : Str) (n : Int) (h : 0 ≤ n) : Txt.mul z n = S (List.replicate n.toNat z.cps.toList).flatten := by
  refine TL.ext_tl ?_
  unfold Txt.mul
  split
  · have e : n.toNat = 0 := by omega
    rw [e] <;> rfl
  · split
    · rename_i h1 h2
      simp only [Bool.or_eq_true, beq_iff_eq] at h2
      rcases h2 with h2 | h2
      · subst h2
        show z.cps.toList = (List.replicate 1 z.cps.toList).flatten
        simp
      · have e : z.cps.toList = [] := List.eq_nil_of_length_eq_zero (by rw [str_len]; exact h2)
        show z.cps.toList = (List.replicate n.toNat z.cps.toList).flatten
        rw [e]
        simp
    · show ((List.replicate n.toNat z.cps).foldl (· ++ ·) #[]).toList = _
      rw [fold_app]
      rfl
def rMulS : R2 := fun x y H Q => ∃ z n, x = .str z ∧ y = .int n ∧ 0 ≤ n ∧ n ≤ 1000000 ∧ z.length ≤ 15 ∧ Q (.str (S (List.replicate n.toNat z.cps.toList).flatten)) H
theorem op_mulS {X : Cx} : OpR X (binaryOp .Mult) rMulS := by
  intro pins s σ H x y v u Q I rx ry h
  obtain ⟨z, n, rfl, rfl, h1, h2, h3, q⟩ := h
  obtain ⟨t, rfl⟩ := rx
  obtain ⟨t', rfl⟩ := ry
  refine SB.mul ⟨?_, fun h4 _ => ?_, fun h4 _ => ?_⟩ fun t' k => ⟨.str _, H, I.tok k, ⟨t', by rw [txt_mul z n h1]⟩, q⟩
  · rw [decide_eq_false (by omega), decide_eq_false (by omega)] <;> rfl
  · have h5 : (15 : Int) ≤ (2 ^ 63 - 1) / n := (Int.le_ediv_iff_mul_le (by omega)).mpr (by omega)
    omega
  · have h6 : z.length * n.toNat ≤ 15 * 1000000 := Nat.mul_le_mul h3 (by omega)
    exact decide_eq_false (by
      show ¬ z.length * n.toNat > sizeLine
      have : (15 * 1000000 : Nat) ≤ sizeLine := by decide
      omega)
end K10
namespace K10
open PySem PySem.Spec PyProof.Rows L2
open SX (S)
/-! ### the draws -/
def Dr (H : Hp) (d : Addr) : Prop := ∃ a b : Int, H d = some (.lst [.int a, .int b]) ∧ 0 ≤ b ∧ b < 2147483648
theorem Dr.fr {T : List Addr} {H H' : Hp} {d : Addr} (f : Fr T H H') (h : Dr H d) (hd : d ∉ T) : Dr H' d := by
  obtain ⟨a, b, e, h1, h2⟩ := h
  exact ⟨a, b, f.at e hd, h1, h2⟩
def spDraw : Sp := fun vs H Q _ => ∃ (d : Addr) (m : Int), vs = [.ref d, .int m] ∧ Dr H d ∧ 1 ≤ m ∧ m ≤ 1000 ∧ ∀ (r : Int) (H' : Hp), 0 ≤ r → r < m → Dr H' d → Fr [d] H H' → Q (.int r) H'
theorem at0 {a : V} {r : List V} : atI (a :: r) 0 = some a := atI_nat (j := 0) rfl
theorem at1 {a b : V} {r : List V} : atI (a :: b :: r) 1 = some b := atI_nat (j := 1) rfl
theorem at2 {a b c : V} {r : List V} : atI (a :: b :: c :: r) 2 = some c := atI_nat (j := 2) rfl
section
variable {P : Program} {w : World} {K : PySem.W.Frag} {mg : Str → Option Value} {base : Heap} {f : Addr} {fd : FuncData} {kA sA CL CR eA : Addr}
theorem sc_LawDraw : FnScope ["draws", "many", "found", "wide"] ["draws", "many"] (defScope sLawDraw) := ⟨rfl, rfl, rfl, by decide +kernel, rfl, by decide +kernel, by decide +kernel⟩
theorem ok_draw (F : FnP K "_law_draw" "_law_draw" sLawDraw [] f fd) : FnOk P w K mg base CX0 1 f fd ["draws", "many"] spDraw := by
  refine F.ok sc_LawDraw (fun vs H Q E h => ?_) (fun cdv A outer s H vs Q E hr h => ?_)
  · obtain ⟨d, m, rfl, _⟩ := h
    rfl
  obtain ⟨d, m, rfl, ⟨a, b, hd, b0, b1⟩, m1, m2, q⟩ := h
  refine ⟨_, (pss_cons (ps_if (pt_cmpR op_gt (pe_ix ix_list (pv 0) pe_int (fun _ _ => rfl)) pe_int (nomark _))
    (pss_cons (ps_set (i := 2) sc_LawDraw.nd rfl (.inl rfl) (pe_op op_mod (pe_ix ix_list (pv 0) pe_int (fun _ _ => rfl)) (pv 1)))
      (pss_cons (ps_asg (pe_op op_fdiv (pe_ix ix_list (pv 0) pe_int (fun _ _ => rfl)) (pv 1)) (pg_sub (pv 0) pe_int set_list))
      (pss_one (ps_ret (pv 2)))))
    pss_nil)
    (pss_cons (ps_set (i := 2) sc_LawDraw.nd rfl (.inl rfl) pe_int)
    (pss_cons (ps_set (i := 3) sc_LawDraw.nd rfl (.inl rfl) pe_int)
    (pss_cons (ps_while PassesOwn.never (pt_cmpR op_lt (pv 3) (pv 1) (nomark _))
    (pss_cons (ps_asg (pe_op op_mod (pe_op op_mul (pe_ix ix_list (pv 0) pe_int (fun _ _ => rfl)) pe_int) pe_int) (pg_sub (pv 0) pe_int set_list))
      (pss_cons (ps_set (i := 2) sc_LawDraw.nd rfl (.inl rfl) (pe_op op_add (pe_op op_mul (pv 2) pe_int) (pe_op op_fdiv (pe_op op_mod (pe_op op_mul (pe_ix ix_list (pv 0) pe_int (fun _ _ => rfl)) (pe_op op_add (pe_op op_fdiv (pe_ix ix_list (pv 0) pe_int (fun _ _ => rfl)) pe_int) pe_int)) pe_int) pe_int)))
      (pss_one (ps_set (i := 3) sc_LawDraw.nd rfl (.inl rfl) (pe_op op_mul (pv 3) pe_int))))))
    (pss_one (ps_ret (pe_op op_mod (pv 2) (pv 1)))))))).nox, ?_⟩
  -- if draws[0] > 0
  refine ⟨_, rfl, d, _, _, _, rfl, rfl, .of hd, at0, _, _, rfl, rfl, _, rfl, ite2 (fun _ => ?_) (fun _ => ?_)⟩
  · refine ⟨_, rfl, d, _, _, _, rfl, rfl, .of hd, at0, _, rfl, _, _, rfl, rfl, (by show (0 : Int) < m; omega), ?_⟩
    refine ⟨_, rfl, d, _, _, _, rfl, rfl, .of hd, at0, _, rfl, _, _, rfl, rfl, ⟨by omega, by omega⟩, _, rfl, d, _, _, 0, rfl, rfl, hd, rfl, ?_⟩
    exact ⟨_, rfl, q _ _ (Int.emod_nonneg _ (by omega)) (Int.emod_lt_of_pos _ (by omega)) ⟨_, b, upd_same, b0, b1⟩ (.wr hd mem1)⟩
  · refine while_by (fun σ H' => ∃ a' b' fo wi : Int, σ = [some (.ref d), some (.int m), some (.int fo), some (.int wi)] ∧ H' d = some (.lst [.int a', .int b']) ∧ 0 ≤ b' ∧ b' < 2147483648 ∧ Fr [d] H H' ∧ ((wi = 1 ∧ fo = 0) ∨ wi = 268435456))
      (fun (σ : L2.St) _ => match σ[3]? with | some (some (V.int i)) => (2 - i).toNat | _ => 0) ⟨a, b, 0, 1, rfl, hd, b0, b1, Fr.refl H, .inl ⟨rfl, rfl⟩⟩ ?_ (fun σ H Q Q' h z => ?_)
    · rintro σ H' ⟨a', b', fo, wi, rfl, hd', c0, c1, fr, hw⟩
      refine ⟨_, rfl, _, rfl, _, _, rfl, rfl, _, rfl, ite2 (fun c => ?_) (fun c => ?_)⟩
      · have c' : wi < m := of_decide_eq_true c
        obtain ⟨rfl, rfl⟩ : wi = 1 ∧ fo = 0 := by
          rcases hw with z | z
          · exact z
          · omega
        refine ⟨_, rfl, d, _, _, _, rfl, rfl, .of hd', at1, _, _, rfl, rfl, .inl ⟨by omega, by omega⟩, _, _, rfl, rfl, (by show (0 : Int) < 2147483647; decide), _, rfl, d, _, _, 1, rfl, rfl, hd', rfl, ?_⟩
        have e1 : 0 ≤ b' * 69621 % 2147483647 := Int.emod_nonneg _ (by decide)
        have e2 : b' * 69621 % 2147483647 < 2147483647 := Int.emod_lt_of_pos _ (by decide)
        have hn : upd H' d (.lst ([V.int a', V.int b'].set 1 ((fun i j => V.int (i % j)) (b' * 69621) 2147483647))) d = some (.lst [.int a', .int (b' * 69621 % 2147483647)]) := upd_same
        refine ⟨_, rfl, _, _, rfl, rfl, .inl ⟨by decide, by decide⟩, _, rfl, d, _, _, _, rfl, rfl, .of hn, at1, _, rfl, d, _, _, _, rfl, rfl, .of hn, at1, _, _, rfl, rfl, ⟨by decide, by decide⟩, _, _, rfl, rfl, _, _, rfl, rfl, .inl ⟨by omega, by omega⟩, _, _, rfl, rfl, (by show (0 : Int) < 2147483629; decide), _, _, rfl, rfl, ⟨by decide, by decide⟩, _, _, rfl, rfl, ?_⟩
        refine ⟨_, rfl, _, _, rfl, rfl, .inl ⟨by decide, by decide⟩, ?_⟩
        exact ⟨⟨a', _, _, _, rfl, hn, e1, by omega, fr.trans (.wr hd' mem1), .inr rfl⟩, by show (2 - (1 * 268435456 : Int)).toNat < (2 - (1 : Int)).toNat; decide⟩
      · exact ⟨_, rfl, _, rfl, _, _, rfl, rfl, (by show (0 : Int) < m; omega), q _ _ (Int.emod_nonneg _ (by omega)) (Int.emod_lt_of_pos _ (by omega)) ⟨a', b', hd', c0, c1⟩ fr⟩
    · obtain ⟨v, e1, v2, e2, i, j, e3, e4, k, e5, z⟩ := z
      exact ⟨v, e1, v2, e2, i, j, e3, e4, k, e5, h _ _ z⟩
end
end K10
namespace K10
open PySem PySem.Spec PyProof.Rows L2
open SX (S)
theorem getI {ns : List Int} {j : Nat} (h : j < ns.length) : atI (ns.map V.int) (j : Int) = some (.int (ns[j]'h)) := atI_nat (by rw [List.getElem?_map, List.getElem?_eq_getElem h] <;> rfl)
/-! ### _law_draws -/
def spDraws (K : PySem.W.Frag) : Sp := fun vs H Q _ => ∃ (a : Addr) (ns : List Int) (k : Nat), vs = [.ref a, .int (k : Int)] ∧ SqL K H a (ns.map V.int) ∧ ns.length ≤ 63 ∧ k ≤ 9 ∧ ∀ (d : Addr) (H' : Hp), H d = none → Dr H' d → Fr [] H H' → Q (.ref d) H'
section
variable {P : Program} {w : World} {K : PySem.W.Frag} {mg : Str → Option Value} {base : Heap} {f : Addr} {fd : FuncData} {kA sA CL CR eA : Addr}
theorem sc_LawDraws : FnScope ["script", "k", "cell"] ["script", "k"] (defScope sLawDraws) := ⟨rfl, rfl, rfl, by decide +kernel, rfl, by decide +kernel, by decide +kernel⟩
theorem pow60 : CPow 10 60 := ⟨by decide, by decide, by decide⟩
theorem ok_draws (T : Facts K mg kA sA CL CR eA) (F : FnP K "_law_draws" "_law_draws" sLawDraws [] f fd) : FnOk P w K mg base CX0 1 f fd ["script", "k"] (spDraws K) := by
  refine F.ok sc_LawDraws (fun vs H Q E h => ?_) (fun cdv A outer s H vs Q E hr h => ?_)
  · obtain ⟨a, ns, k, rfl, _⟩ := h
    rfl
  obtain ⟨a, ns, k, rfl, hS, h63, hk, q⟩ := h
  refine ⟨_, (pss_cons (ps_set (i := 2) sc_LawDraws.nd rfl (.inl rfl) (pe_op op_mul pe_int (pv 1)))
    (Evl.pss_cut (ps_if (pt_cmpR op_lt (pv 1) (pe_callB call_len_seq (by rfl) T.f_len PySem.boot_len (pa_cons (pv 0) pa_nil)) (nomark _))
    (pss_one (ps_set (i := 2) sc_LawDraws.nd rfl (.inl rfl) (pe_op op_mod (pe_ix ix_list (pv 0) (pv 1) (fun _ _ => rfl)) (pe_op op_mulW (pe_op op_mulW (pe_op op_mulW (pe_op op_mulW (pe_op op_pow pe_int pe_int) (pe_op op_pow pe_int pe_int)) (pe_op op_pow pe_int pe_int)) (pe_op op_pow pe_int pe_int)) (pe_op op_pow pe_int pe_int)))))
    (pss_one (ps_if (pt_cmpR op_gt (pe_callB call_len_seq (by rfl) T.f_len PySem.boot_len (pa_cons (pv 0) pa_nil)) pe_int (nomark _))
      (pss_one (ps_set (i := 2) sc_LawDraws.nd rfl (.inl rfl) (pe_op op_add (pe_op op_mod (pe_ix ix_list (pv 0) (pe_op op_mod (pv 1) (pe_callB call_len_seq (by rfl) T.f_len PySem.boot_len (pa_cons (pv 0) pa_nil))) (fun _ _ => rfl)) (pe_op op_pow pe_int pe_int)) (pe_op op_mul pe_int (pv 1)))))
      pss_nil)))
    (pss_one (ps_ret (pe_lst (pa_cons (pe_op op_mul (pv 2) (pe_callTy call_int1 (by rfl) T.f_int boot_int (pa_cons (pe_cmpR op_ge (pv 2) (pe_op op_pow pe_int pe_int) (nomark _)) pa_nil))) (pa_cons (pe_op op_add pe_int (pe_op op_mod (pe_op op_add (pe_op op_mul (pv 2) pe_int) (pe_op op_mul pe_int (pe_op op_add (pv 1) pe_int))) pe_int)) pa_nil))))))).nox, ?_⟩
  have hl : (ns.map V.int).length = ns.length := List.length_map _
  have big : ∀ x : Int, x.natAbs < 2 ^ 1000 → CMulW x (10 ^ (60 : Int).toNat) := fun x hx => wide_mul (a := 1000) (b := 300) hx (by decide +kernel) (by decide) (by decide) (by decide)
  refine ⟨_, rfl, _, _, rfl, rfl, .inl ⟨by decide, by decide⟩, ?_⟩
  -- cell: an int
  refine ⟨fun σ' H' => H' = H ∧ ∃ c : Int, σ' = [some (.ref a), some (.int (k : Int)), some (.int c)], ?_, ?_⟩
  · refine ⟨_, rfl, .ref a, rfl, a, _, rfl, .inl hS, _, _, rfl, rfl, _, rfl, ite2 (fun c => ?_) (fun c => ?_)⟩
    · have c' : (k : Int) < ((ns.map V.int).length : Int) := of_decide_eq_true c
      rw [hl] at c'
      refine ⟨_, rfl, _, rfl, a, _, _, _, rfl, rfl, hS, getI (j := k) (by omega), ?_⟩
      refine ⟨_, _, rfl, rfl, pow60, _, _, rfl, rfl, pow60, _, _, rfl, rfl, big _ (by decide +kernel), _, _, rfl, rfl, pow60, _, _, rfl, rfl, big _ (by decide +kernel), _, _, rfl, rfl, pow60, _, _, rfl, rfl, big _ (by decide +kernel), _, _, rfl, rfl, pow60, _, _, rfl, rfl, big _ (by decide +kernel), _, _, rfl, rfl, (by show (0 : Int) < 10 ^ Int.toNat 60 * 10 ^ Int.toNat 60 * 10 ^ Int.toNat 60 * 10 ^ Int.toNat 60 * 10 ^ Int.toNat 60; decide +kernel), ?_⟩
      exact ⟨rfl, _, rfl⟩
    · refine ⟨.ref a, rfl, a, _, rfl, .inl hS, _, _, rfl, rfl, _, rfl, ite2 (fun c => ?_) (fun c => ?_)⟩
      · have c' : (0 : Int) < ((ns.map V.int).length : Int) := of_decide_eq_true c
        rw [hl] at c'
        have hm : k % ns.length < ns.length := Nat.mod_lt _ (by omega)
        have e : ((k : Int) % ((ns.map V.int).length : Int)) = ((k % ns.length : Nat) : Int) := by rw [hl]; omega
        refine ⟨_, rfl, _, rfl, .ref a, rfl, a, _, rfl, .inl hS, _, _, rfl, rfl, (by show (0 : Int) < ((ns.map V.int).length : Int); rw [hl]; omega), a, _, _, _, rfl, rfl, hS, (by
          show atI (ns.map V.int) ((k : Int) % ((ns.map V.int).length : Int)) = some _
          rw [e]
          exact getI hm), ?_⟩
        exact ⟨_, _, rfl, rfl, ⟨by decide, by decide, by decide⟩, _, _, rfl, rfl, (by show (0 : Int) < 10 ^ Int.toNat 15; decide +kernel), _, rfl, _, _, rfl, rfl, .inl ⟨by decide, by decide⟩, _, _, rfl, rfl, rfl, _, rfl⟩
      · exact ⟨rfl, _, rfl⟩
  · rintro σ' H' ⟨rfl, c, rfl⟩
    refine ⟨_, rfl, _, rfl, _, _, rfl, rfl, ⟨by decide, by decide, by decide⟩, _, _, rfl, rfl, .inr ⟨_, rfl, _, _, rfl, rfl, .inr ⟨by split <;> decide, by split <;> decide⟩, ?_⟩⟩
    refine ⟨_, rfl, _, _, rfl, rfl, .inr ⟨by decide, by decide⟩, _, rfl, _, _, rfl, rfl, _, _, rfl, rfl, .inl ⟨by decide, by decide⟩, _, _, rfl, rfl, _, _, rfl, rfl, (by show (0 : Int) < 2147483646; decide), _, _, rfl, rfl, ?_⟩
    refine ⟨by show 2 ≤ sizeLine; decide, fun p hp => q p _ hp ⟨_, _, upd_same, ?_, ?_⟩ (.new hp)⟩
    · have := Int.emod_nonneg (c * 69621 + 86028121 * ((k : Int) + 1)) (show (2147483646 : Int) ≠ 0 by decide)
      omega
    · have := Int.emod_lt_of_pos (c * 69621 + 86028121 * ((k : Int) + 1)) (show (0 : Int) < 2147483646 by decide)
      omega

/-! ### _law_keys -/
def spKeys : Sp := fun vs H Q _ => vs = [] ∧ ∀ p, H p = none → Q (.ref p) (upd H p (.lst keysW))
theorem sc_LawKeys : FnScope [] [] (defScope sLawKeys) := ⟨rfl, rfl, rfl, by decide +kernel, rfl, by decide +kernel, by decide +kernel⟩
theorem ok_keys (F : FnP K "_law_keys" "_law_keys" sLawKeys [] f fd) : FnOk P w K mg base CX0 1 f fd [] spKeys := by
  refine F.ok sc_LawKeys (fun vs H Q E h => ?_) (fun cdv A outer s H vs Q E hr h => ?_)
  · rw [h.1]
    rfl
  obtain ⟨rfl, q⟩ := h
  refine ⟨_, (pss_one (ps_ret (pe_lst (pa_cons pe_str (pa_cons pe_str (pa_cons pe_str (pa_cons pe_str (pa_cons pe_str (pa_cons pe_str (pa_cons pe_str (pa_cons pe_str (pa_cons pe_str (pa_cons pe_str pa_nil))))))))))))).nox, ?_⟩
  exact ⟨by show 10 ≤ sizeLine; decide, fun p hp => q p hp⟩

/-! ### _law_place -/
def spPlace : Sp := fun vs H Q _ => ∃ (wy : Addr) (a b : Int) (r : List V), vs = [.ref wy] ∧ H wy = some (.lst (.int a :: .int b :: r)) ∧ ∀ (p : Addr) (H' : Hp) (a' l c : Int), H p = none → H' p = some (.tup [.int l, .int c]) → H' wy = some (.lst (.int a' :: .int b :: r)) → Fr [wy] H H' → Q (.ref p) H'
theorem sc_LawPlace : FnScope ["way"] ["way"] (defScope sLawPlace) := ⟨rfl, rfl, rfl, by decide +kernel, rfl, by decide +kernel, by decide +kernel⟩
theorem ok_place (F : FnP K "_law_place" "_law_place" sLawPlace [] f fd) : FnOk P w K mg base CX0 1 f fd ["way"] spPlace := by
  refine F.ok sc_LawPlace (fun vs H Q E h => ?_) (fun cdv A outer s H vs Q E hr h => ?_)
  · obtain ⟨wy, a, b, r, rfl, _⟩ := h
    rfl
  obtain ⟨wy, a, b, r, rfl, hw, q⟩ := h
  refine ⟨_, (pss_cons (ps_asg (pe_op op_add (pe_ix ix_list (pv 0) pe_int (fun _ _ => rfl)) (pe_ix ix_list (pv 0) pe_int (fun _ _ => rfl))) (pg_sub (pv 0) pe_int set_list))
    (pss_one (ps_ret (pe_tup (pa_cons (pe_op op_mod (pe_op op_fdiv (pe_ix ix_list (pv 0) pe_int (fun _ _ => rfl)) pe_int) pe_int) (pa_cons (pe_op op_mod (pe_ix ix_list (pv 0) pe_int (fun _ _ => rfl)) pe_int) pa_nil)))))).nox, ?_⟩
  refine ⟨_, rfl, wy, _, _, _, rfl, rfl, .of hw, at0, _, rfl, wy, _, _, _, rfl, rfl, .of hw, at1, _, _, rfl, rfl, _, rfl, wy, _, _, 0, rfl, rfl, hw, Evl.ixN_nat (j := 0) (Nat.succ_pos _), ?_⟩
  have hn : upd H wy (.lst ((V.int a :: V.int b :: r).set 0 ((fun i j => V.int (i + j)) a b))) wy = some (.lst (.int (a + b) :: .int b :: r)) := upd_same
  refine ⟨_, rfl, wy, _, _, _, rfl, rfl, .of hn, at0, _, _, rfl, rfl, ⟨by decide, by decide⟩, _, _, rfl, rfl, (by show (0 : Int) < 10000; decide), _, rfl, wy, _, _, _, rfl, rfl,   .of hn, at0, _, _, rfl, rfl, (by show (0 : Int) < 60; decide), by show 2 ≤ sizeLine; decide, fun p hp => ?_⟩
  have np : p ≠ wy := fun z => by
    rw [z, upd_same] at hp
    cases hp
  rw [upd_ne np] at hp
  exact q p _ (a + b) _ _ hp upd_same (by rw [upd_ne np.symm]; exact hn) ((Fr.wr hw mem1).trans (.new (by rw [upd_ne np]; exact hp)))
end
end K10
namespace K10
open PySem PySem.Spec PyProof.Rows L2
open SX (S)
theorem Fr.put {T : List Addr} {H H1 : Hp} {p : Addr} {o : HO} (f : Fr T H H1) (hp : H p = none) : Fr T H (upd H1 p o) :=
  ⟨fun b u e n => by rw [upd_ne (ne_of_none e hp)]; exact f.keep b u e n, fun b ys e => by rw [upd_ne (ne_of_none e hp)]; exact f.tups b ys e⟩
theorem Tr.le {a b : Nat} {d : PyData} (h : Tr a d) (hb : a ≤ b) : Tr b d := by
  induction b with
  | zero =>
    obtain rfl : a = 0 := by omega
    exact h
  | succ n ih =>
    by_cases e : a = n + 1
    · subst e
      exact h
    · exact (ih (by omega)).up
/-! ### what the makers of trees know -/
def KdOk (k : Str) : Prop := k = "n" ∨ k = "l"
def HeadAt (d w : Addr) (H : Hp) (v : V) : Prop := ∃ (t l : Addr) (x : Str) (ks : List Str) (kd : Str), v = .ref t ∧ H t = some (.tup [.str x, .ref l, .str kd]) ∧ H l = some (.lst (ks.map V.str)) ∧ l ≠ d ∧ l ≠ w ∧ Nm x ∧ ks.length ≤ 3 ∧ (∀ k ∈ ks, KdOk k) ∧ KdOk kd
structure G (d w pN pH : Addr) (ns : List Str) (hs : List V) (H : Hp) : Prop where
  dr : Dr H d
  dw : d ≠ w
  way : ∃ a b c e : Int, H w = some (.lst [.int a, .int b, .int c, .ref pN, .ref pH, .int e]) ∧ 0 ≤ e ∧ e ≤ 1000
  pn : H pN = some (.lst (ns.map V.str))
  nN : pN ≠ d ∧ pN ≠ w
  ns8 : ns.length = 8
  nsOk : ∀ x ∈ ns, Nm x
  nsNd : ns.Nodup
  ph : H pH = some (.lst hs)
  nH : pH ≠ d ∧ pH ≠ w
  hs4 : hs.length ≤ 4
  hd : ∀ v ∈ hs, HeadAt d w H v
theorem HeadAt.fr {d w : Addr} {H H' : Hp} {v : V} (h : HeadAt d w H v) (f : Fr [d, w] H H') : HeadAt d w H' v := by
  obtain ⟨t, l, x, ks, kd, h1, h2, h3, h4, h5, h6, h7⟩ := h
  exact ⟨t, l, x, ks, kd, h1, f.tups _ _ h2, f.at h3 (nmem2 h4 h5), h4, h5, h6, h7⟩
section
variable {d w pN pH : Addr} {ns : List Str} {hs : List V} {H H' : Hp}
theorem G.step (g : G d w pN pH ns hs H) (f : Fr [d, w] H H') (dr : Dr H' d) (hw : ∃ a b c e : Int, H' w = some (.lst [.int a, .int b, .int c, .ref pN, .ref pH, .int e]) ∧ 0 ≤ e ∧ e ≤ 1000) : G d w pN pH ns hs H' :=
  ⟨dr, g.dw, hw, f.at g.pn (nmem2 g.nN.1 g.nN.2), g.nN, g.ns8, g.nsOk, g.nsNd, f.at g.ph (nmem2 g.nH.1 g.nH.2), g.nH, g.hs4, fun v hv => (g.hd v hv).fr f⟩
/-- the draws alone may have changed -/
theorem G.drawn (g : G d w pN pH ns hs H) (f : Fr [d] H H') (dr : Dr H' d) : G d w pN pH ns hs H' := by
  obtain ⟨a, b, c, e, hw, he⟩ := g.way
  exact g.step (f.mono fun x hx => by rw [List.mem_singleton.mp hx]; exact List.mem_cons_self) dr ⟨a, b, c, e, f.at hw (nmem1 g.dw.symm), he⟩
theorem G.kept (g : G d w pN pH ns hs H) (f : Fr [] H H') : G d w pN pH ns hs H' := g.drawn (f.mono fun _ h => by cases h) (g.dr.fr f (by simp))
theorem fr_d (f : Fr [d] H H') : Fr [d, w] H H' := f.mono fun x hx => by rw [List.mem_singleton.mp hx]; exact List.mem_cons_self
theorem fr_w (f : Fr [w] H H') : Fr [d, w] H H' := f.mono fun x hx => by rw [List.mem_singleton.mp hx]; exact List.mem_cons_of_mem _ List.mem_cons_self
theorem fr_0 {T : List Addr} (f : Fr [] H H') : Fr T H H' := f.mono fun _ h => by cases h
/-- behind _law_place -/
theorem G.placed {b c : Int} {e a' : Int} (g : G d w pN pH ns hs H) (f : Fr [w] H H') (he : 0 ≤ e ∧ e ≤ 1000) (hw : H' w = some (.lst [.int a', .int b, .int c, .ref pN, .ref pH, .int e])) : G d w pN pH ns hs H' :=
  g.step (fr_w f) (g.dr.fr f (nmem1 g.dw)) ⟨a', b, c, e, hw, he⟩
end
/-- the locals with their kinds -/
def NearAt (d w : Addr) (n : Nat) (H : Hp) (v : V) : Prop := ∃ (l : Addr) (vs : List V), v = .ref l ∧ H l = some (.lst vs) ∧ l ≠ d ∧ l ≠ w ∧ vs.length ≤ n ∧ ∀ u ∈ vs, ∃ (a : Addr) (x k : Str), u = .ref a ∧ H a = some (.tup [.str x, .str k]) ∧ Nm x
theorem NearAt.fr {d w : Addr} {n : Nat} {H H' : Hp} {v : V} (h : NearAt d w n H v) (f : Fr [d, w] H H') : NearAt d w n H' v := by
  obtain ⟨l, vs, h1, h2, h3, h4, h5, h6⟩ := h
  refine ⟨l, vs, h1, f.at h2 (nmem2 h3 h4), h3, h4, h5, fun u hu => ?_⟩
  obtain ⟨a, x, k, e1, e2, e3⟩ := h6 u hu
  exact ⟨a, x, k, e1, f.tups _ _ e2, e3⟩
/-- what a maker of a tree of at most such a depth hands back -/
def Made (n : Nat) (d w pN pH : Addr) (ns : List Str) (hs : List V) (H : Hp) (Q : VK) : Prop := ∀ (r : V) (t : PyData) (H' : Hp), TD H' r t → Tr n t → G d w pN pH ns hs H' → Fr [d, w] H H' → Q r H'
def spLeaf : Sp := fun vs H Q _ => ∃ (d w pN pH : Addr) (ns : List Str) (hs : List V) (want : Str) (nr : V), vs = [.ref d, .ref w, .str want, nr] ∧ G d w pN pH ns hs H ∧ NearAt d w 100 H nr ∧ Made 1 d w pN pH ns hs H Q
/-- a dict of names -/
def Seen (kvs : List (Key × V)) : Prop := ∀ p ∈ kvs, ∃ x k : Str, p = (.inr x, .str k) ∧ Nm x
theorem Seen.put {kvs : List (Key × V)} {x k : Str} (h : Seen kvs) (hx : Nm x) : Seen (putK kvs (.inr x) (.str k)) := by
  unfold putK
  split
  · intro p hp
    obtain ⟨q, hq, rfl⟩ := List.mem_map.mp hp
    obtain ⟨y, k', rfl, hy⟩ := h q hq
    split
    · exact ⟨y, k, rfl, hy⟩
    · exact ⟨y, k', rfl, hy⟩
  · intro p hp
    rcases List.mem_append.mp hp with z | z
    · exact h p z
    · rw [List.mem_singleton.mp z]
      exact ⟨x, k, rfl, hx⟩
theorem put_len {kvs : List (Key × V)} {k : Key} {v : V} : (putK kvs k v).length ≤ kvs.length + 1 := by
  unfold putK
  split
  · rw [List.length_map]
    omega
  · rw [List.length_append]
    exact Nat.le_refl _
theorem Seen.get {kvs : List (Key × V)} {i : Nat} {k : Key} {v : V} (h : Seen kvs) (e : kvs[i]? = some (k, v)) : ∃ x y : Str, k = .inr x ∧ Nm x ∧ valV kvs (.inr x) = some (.str y) := by
  have hm := List.mem_of_getElem? e
  obtain ⟨x, k', e1, hx⟩ := h _ hm
  injection e1 with e1 e2
  subst e1
  have hs : (valV kvs (Sum.inr x : Key)).isSome = true := by
    rw [← valV_any]
    exact List.any_eq_true.mpr ⟨_, hm, by simp⟩
  cases q : valV kvs (Sum.inr x : Key) with
  | none =>
    rw [q] at hs
    cases hs
  | some u =>
    unfold valV at q
    obtain ⟨p, hp, rfl⟩ := Option.map_eq_some_iff.mp q
    obtain ⟨x', y, rfl, _⟩ := h p (List.mem_of_find?_eq_some hp)
    exact ⟨x, y, rfl, hx, q⟩
theorem numI_of {xs : List Int} {r : Int} (h0 : 0 ≤ r) (h1 : r < (xs.length : Int)) : ∃ v ∈ xs, atI (xs.map V.int) r = some (.int v) := by
  have hr : r.toNat < xs.length := by omega
  refine ⟨xs[r.toNat], List.getElem_mem hr, ?_⟩
  have e : ((r.toNat : Nat) : Int) = r := by omega
  have z := getI hr
  rw [e] at z
  exact z
theorem strI_of {xs : List Str} {r : Int} (h0 : 0 ≤ r) (h1 : r < (xs.length : Int)) : ∃ v ∈ xs, atI (xs.map V.str) r = some (.str v) := by
  have hr : r.toNat < xs.length := by omega
  refine ⟨xs[r.toNat], List.getElem_mem hr, ?_⟩
  have e : ((r.toNat : Nat) : Int) = r := by omega
  have z : atI (xs.map V.str) ((r.toNat : Nat) : Int) = some (.str xs[r.toNat]) := atI_nat (by rw [List.getElem?_map, List.getElem?_eq_getElem hr] <;> rfl)
  rw [e] at z
  exact z
theorem strOk_of {x : Str} (h : ∀ a ∈ x.cps.toList, a < 1114112) : PyData.strOk x = true := by
  unfold PyData.strOk
  rw [← Array.all_toList]
  exact List.all_eq_true.mpr fun a ha => decide_eq_true (h a ha)
theorem nm_strOk {x : Str} (h : Nm x) : PyData.strOk x = true := strOk_of fun a ha => by
  have := h.1 a ha
  omega
theorem shaped_strs (xs : List Str) (hx : ∀ x ∈ xs, PyData.strOk x = true) : SeqAt.shaped (.list (xs.map .str)) = true := by
  unfold SeqAt.shaped
  have h1 : ∀ l : List Str, (∀ x ∈ l, PyData.strOk x = true) → PyData.canLayAll0 (l.map .str) = true := fun l => by
    induction l with
    | nil => exact fun _ => rfl
    | cons x r ih =>
      intro h
      rw [List.map_cons]
      have i2 := ih fun y hy => h y (List.mem_cons_of_mem _ hy)
      simpa [PyData.canLayAll0, PyData.canLay0, h x List.mem_cons_self] using i2
  have h2 : ∀ l : List Str, PyData.depthAll (l.map .str) ≤ 1 := fun l => by
    induction l with
    | nil => simp [PyData.depthAll]
    | cons x r ih =>
      rw [List.map_cons]
      simp only [PyData.depthAll, PyData.depth]
      omega
  have h3 : (PyData.list (xs.map .str)).canLay0 = true := by simpa [PyData.canLay0] using h1 xs hx
  rw [h3]
  have h4 : (PyData.list (xs.map .str)).depth ≤ 64 := by
    simp only [PyData.depth]
    have := h2 xs
    omega
  rw [decide_eq_true h4] <;> rfl
theorem dp_strs {K : PySem.W.Frag} {H : Hp} (xs : List Str) : DpAll K H (xs.map V.str) (xs.map .str) := by
  induction xs with
  | nil => exact .nil
  | cons x r ih => exact .cons (.str x) ih
theorem eqv_strs_nil (xs : List Str) : PyData.eqv (.list (xs.map .str)) (.list []) = decide (xs = []) := by
  cases xs with
  | nil => rfl
  | cons x r => simp [PyData.eqv, PyData.eqvAll]
section
variable {P : Program} {w : World} {K : PySem.W.Frag} {mg : Str → Option Value} {base : Heap} {f : Addr} {fd : FuncData} {kA sA CL CR eA : Addr}
theorem sc_LawLeaf : FnScope ["draws", "way", "want", "near", "seen_d", "name", "kind", "some", "place"] ["draws", "way", "want", "near"] (defScope sLawLeaf) := ⟨rfl, rfl, rfl, by decide +kernel, rfl, by decide +kernel, by decide +kernel⟩
theorem ok_leaf (T : Facts K mg kA sA CL CR eA) (c_law_draw : Cal P w K mg base "_law_draw" 1 ["draws", "many"] spDraw) (c_law_place : Cal P w K mg base "_law_place" 1 ["way"] spPlace) (F : FnP K "_law_leaf" "_law_leaf" sLawLeaf [] f fd) : FnOk P w K mg base CX0 2 f fd ["draws", "way", "want", "near"] spLeaf := by
  refine F.ok sc_LawLeaf (fun vs H Q E h => ?_) (fun cdv A outer s H vs Q E hr h => ?_)
  · obtain ⟨d, wy, pN, pH, ns, hs, want, nr, rfl, _⟩ := h
    rfl
  obtain ⟨d, wy, pN, pH, ns, hs, want, nr, rfl, g, hn, q⟩ := h
  have hu := hu_of hr
  refine ⟨_, PSs.nox (pss_cons (ps_set (i := 4) sc_LawLeaf.nd rfl (.inr rfl) pe_dnewK)
    (pss_cons (ps_for PassesOwn.never rfl (pi_list (pv 3)) (pg_tup (by rfl) (pgs_cons (pg_name (i := 5) sc_LawLeaf.nd rfl (.inl rfl)) (pgs_cons (pg_name (i := 6) sc_LawLeaf.nd rfl (.inl rfl)) pgs_nil)))
    (pss_one (ps_dput hu (pv 4) (pv 5) (pv 6) rfl)))
    (pss_cons (ps_lock (ps_setLc (i := 7) (own := [("name", 5)]) (by rfl) sc_LawLeaf.nd rfl rfl (sw_true rfl rfl rfl (by decide +kernel)) (pi_keys (pv 4)) (blkOk_by (N := ["draws", "way", "want", "near", "seen_d", "name", "kind", "some", "place"]) (sc := defScope sLawLeaf) (by decide +kernel)) (fun _ _ _ _ _ => (pg_name (i := 5) sc_LawLeaf.nd rfl (.inl rfl))) (fun _ _ _ _ _ => (pts_one (pt_cmpR op_eq (pe_dget hu (pv 4) (pv 5) (fun _ _ => rfl)) (pv 2) (nomark _)))) (fun _ _ _ _ _ => (pv 5))))
    (pss_cons (ps_set (i := 8) sc_LawLeaf.nd rfl (.inl rfl) (pe_c c_law_place (hr.mono (by omega)) (by rfl) (pa_cons (pv 1) pa_nil)))
    (Evl.pss_cut (ps_if (PW.pt (pw_and (pt_cmpR (op_neD hr.units) (pv 7) (pe_lst pa_nil) (nomark _)) (pw_and1 (pt_cmpR op_gt (pe_c c_law_draw (hr.mono (by omega)) (by rfl) (pa_cons (pv 0) (pa_cons pe_int pa_nil))) pe_int (nomark _)))))
    (pss_one (ps_ret (pe_tup (pa_cons pe_str (pa_cons (pv 8) (pa_cons (pe_ix ix_list (pv 7) (pe_c c_law_draw (hr.mono (by omega)) (by rfl) (pa_cons (pv 0) (pa_cons (pe_callB call_len_seq (by rfl) T.f_len boot_len (pa_cons (pv 7) pa_nil)) pa_nil))) (fun _ _ => rfl)) (pa_cons (pe_tup pa_nil) pa_nil)))))))
    pss_nil)
    (pss_cons (ps_if (pt_cmpR op_eq (pv 2) pe_str (nomark _))
    (pss_one (ps_ret (pe_tup (pa_cons pe_str (pa_cons (pv 8) pa_nil)))))
    pss_nil)
    (pss_one (ps_ret (pe_tup (pa_cons pe_str (pa_cons (pv 8) (pa_cons (pe_ix ix_list (pe_lst (pa_cons pe_int (pa_cons pe_int (pa_cons pe_int (pa_cons pe_int (pa_cons pe_int (pa_cons (pe_op op_sub (pe_op op_pow pe_int pe_int) pe_int) (pa_cons pe_int (pa_cons pe_int pa_nil))))))))) (pe_c c_law_draw (hr.mono (by omega)) (by rfl) (pa_cons (pv 0) (pa_cons pe_int pa_nil))) (fun _ _ => rfl)) pa_nil)))))))))))), ?_⟩
  obtain ⟨l, us, rfl, hl, l1, l2, l3, l4⟩ := hn
  -- seen_d = {}
  intro e he
  have f1 : Fr [] H (upd H e (.dK [])) := .new he
  -- for name, kind in near
  refine ⟨_, rfl, l, rfl, ⟨_, .of (f1.at hl (by simp))⟩, for_list (K := K) (a := l) (xs := us) (fun i σ H' => ∃ (y5 y6 : Option V) (kvs : List (Key × V)), σ = [some (.ref d), some (.ref wy), some (.str want), some (.ref l), some (.ref e), y5, y6, none, none] ∧ H' e = some (.dK kvs) ∧ kvs.length ≤ i ∧ Seen kvs ∧ Fr [] H H')
    ⟨none, none, [], rfl, upd_same, Nat.le_refl _, (by intro p hp; cases hp), f1⟩ (fun i σ H' _ ⟨_, _, _, _, _, _, _, fr⟩ => .of (fr.at hl (by simp))) ?_ ?_⟩
  · rintro i x σ H' hi ⟨y5, y6, kvs, rfl, hd, hk, sn, fr⟩
    obtain ⟨a, xn, kn, rfl, ha, hx⟩ := l4 x (List.mem_of_getElem? hi)
    have il := (List.getElem?_eq_some_iff.mp hi).1
    refine ⟨a, _, rfl, .of (fr.tups _ _ ha), rfl, _, _, rfl, _, _, rfl, rfl, ?_⟩
    refine ⟨_, rfl, _, rfl, _, rfl, e, _, rfl, DPut.k (k := Sum.inr xn) hd (szl (by omega)), ?_⟩
    exact ⟨_, _, _, rfl, upd_same, Nat.le_trans put_len (by omega), sn.put hx, fr.put he⟩
  rintro σ H1 ⟨y5, y6, kvs, rfl, hd, hk, sn, fr⟩
  -- some = [..]
  refine ⟨e, _, hd, trivial, fun od => ⟨_, rfl, e, od, rfl, .inl ⟨kvs, upd_same, fun D hD => lc_it (walk_keys (d := e) (o := od) (kvs := kvs)) (fun i H' => ∃ acc : List Str, H' D = some (.lst (acc.map V.str)) ∧ (∀ x ∈ acc, Nm x) ∧ acc.length ≤ i ∧ H' e = some (.frz od (.dK kvs)) ∧ Fr [] H H') ?_ (fun i H' _ ⟨_, _, _, _, z, _⟩ => z) ?_ ?_⟩⟩⟩
  · have nD : D ≠ e := fun z => by
      rw [z, upd_same] at hD
      cases hD
    rw [upd_ne nD] at hD
    exact ⟨[], upd_same, by simp, Nat.le_refl _, by rw [upd_ne nD.symm, upd_same], (fr.put he).put (fr.free hD (by simp))⟩
  · have nD : D ≠ e := fun z => by
      rw [z, upd_same] at hD
      cases hD
    rintro i x H2 H3 hi ⟨acc, a1, a2, a3, a4, a5⟩ ⟨rfl, k, v, hkv, rfl⟩
    obtain ⟨xn, yn, rfl, hx, hv⟩ := sn.get hkv
    refine ⟨rfl, ?_⟩
    refine ⟨_, rfl, _, rfl, e, _, rfl, .inl ⟨kvs, Sum.inr xn, .inr ⟨od, a4⟩, rfl, hv.symm⟩, _, rfl, rfl, _, rfl, ite2 (fun _ => ?_) (fun _ => ?_)⟩
    · refine ⟨_, rfl, _, a1, by rw [List.length_map]; exact szl (by omega), acc ++ [xn], by rw [upd_same, List.map_append] <;> rfl, fun z hz => ?_, by rw [List.length_append]; exact Nat.succ_le_succ a3, by rw [upd_ne nD.symm]; exact a4, a5.put ?_⟩
      · rcases List.mem_append.mp hz with z1 | z1
        · exact a2 z z1
        · rw [List.mem_singleton.mp z1]
          exact hx
      · rw [upd_ne nD] at hD
        exact fr.free hD (by simp)
    · exact ⟨acc, a1, a2, by omega, a4, a5⟩
  rintro H2 ⟨acc, a1, a2, a3, a4, a5⟩
  refine ⟨a4, ?_⟩
  have nD : D ≠ e := fun z => by
    rw [z, a4] at a1
    cases a1
  have f2 : Fr [] H (upd H2 e (.dK kvs)) := a5.put he
  have h2D : (upd H2 e (.dK kvs)) D = some (.lst (acc.map V.str)) := by rw [upd_ne nD]; exact a1
  have hDn : H D = none := by
    rw [upd_ne nD] at hD
    exact fr.free hD (by simp)
  generalize upd H2 e (.dK kvs) = H3 at f2 h2D
  have g3 := g.kept f2
  obtain ⟨wa, wb, wc, we, hw3, hwe⟩ := g3.way
  -- place
  refine ⟨_, rfl, wy, wa, wb, _, rfl, hw3, fun p H4 a' pl pc hp0 hp hw4 f4 => ?_⟩
  have g4 := g3.placed f4 hwe hw4
  have f04 : Fr [d, wy] H H4 := (fr_0 f2).trans (fr_w f4)
  have nDw : D ≠ wy := fun z => by
    obtain ⟨a, b, c, e, h, _⟩ := g.way
    rw [z, h] at hDn
    cases hDn
  have nDd : D ≠ d := fun z => by
    obtain ⟨a, b, h, _⟩ := g.dr
    rw [z, h] at hDn
    cases hDn
  have h4D : H4 D = some (.lst (acc.map V.str)) := f4.at h2D (nmem1 nDw)
  -- if some != [] and _law_draw(draws, 4) > 0
  have pd : p ≠ d := fun z => by
    obtain ⟨a, b, h, _⟩ := g4.dr
    rw [z, h] at hp
    cases hp
  refine ⟨fun σ' H' => σ' = [some (.ref d), some (.ref wy), some (.str want), some (.ref l), some (.ref e), y5, y6, some (.ref D), some (.ref p)] ∧ G d wy pN pH ns hs H' ∧ H' p = some (.tup [.int pl, .int pc]) ∧ Fr [d, wy] H H', ?_, ?_⟩
  · refine ⟨_, rfl, by show 0 ≤ sizeLine; decide, fun z hz => ?_⟩
    have nz : ∀ b o, H4 b = some o → b ≠ z := fun b o h => ne_of_none h hz
    have f5 : Fr [] H4 (upd H4 z (.lst [])) := .new hz
    have h5D := f5.at h4D (by simp)
    refine ⟨.list (acc.map .str), .list [], .lst (.of h5D) (dp_strs acc), .lst (.of upd_same) .nil, shaped_strs acc fun x hx => nm_strOk (a2 x hx), rfl, _, rfl, ?_⟩
    rw [eqv_strs_nil]
    refine ite2 (fun c => ?_) (fun c => ?_)
    · have c' : acc ≠ [] := by simpa using c
      have lp : 1 ≤ acc.length := List.length_pos_iff.mpr c'
      have g5 := g4.kept f5
      refine ⟨_, rfl, d, _, rfl, g5.dr, by decide, by decide, fun r H6 r0 r1 dr6 f6 => ⟨_, _, rfl, rfl, _, rfl, ?_⟩⟩
      have g6 := g5.drawn f6 dr6
      refine ite2 (fun c2 => ?_) (fun c2 => ?_)
      · have h6D := f6.at h5D (nmem1 nDd)
        refine ⟨_, rfl, _, rfl, _, rfl, .ref D, rfl, D, _, rfl, .inl (.of h6D), d, _, rfl, g6.dr, by rw [List.length_map]; omega, by rw [List.length_map]; omega, fun r2 H7 q0 q1 dr7 f7 => ?_⟩
        have g7 := g6.drawn f7 dr7
        rw [List.length_map] at q1
        obtain ⟨x, hx, ex⟩ := strI_of (xs := acc) q0 q1
        have h7D := f7.at h6D (nmem1 nDd)
        refine ⟨D, _, _, _, rfl, rfl, .of h7D, ex, by show 0 ≤ sizeLine; decide, fun u hu => ?_⟩
        refine ⟨by show 4 ≤ sizeLine; decide, fun t ht => ?_⟩
        have fu : Fr [] H7 (upd H7 u (.tup [])) := .new hu
        have ft : Fr [] (upd H7 u (.tup [])) (upd (upd H7 u (.tup [])) t (.tup [.str "use", .ref p, .str x, .ref u])) := .new ht
        have hp7 : H7 p = some (.tup [.int pl, .int pc]) := f7.tups _ _ (f6.tups _ _ (f5.tups _ _ hp))
        refine q (.ref t) (useD (plD pl pc) x []) _ (.tup upd_same (.cons (.str _) (.cons (.tup (ft.tups _ _ (fu.tups _ _ hp7)) (.cons (.int _) (.cons (.int _) .nil))) (.cons (.str _) (.cons (.tup (ft.tups _ _ upd_same) .nil) .nil))))) (.use (a2 x hx) (by decide) (by simp)) (g7.kept (fu.trans ft)) ?_
        exact f04.trans ((fr_0 f5).trans ((fr_d f6).trans ((fr_d f7).trans (fr_0 (fu.trans ft)))))
      · exact ⟨rfl, g6, f6.tups _ _ (f5.tups _ _ hp), f04.trans ((fr_0 f5).trans (fr_d f6))⟩
    · exact ⟨rfl, g4.kept f5, f5.tups _ _ hp, f04.trans (fr_0 f5)⟩
  · rintro σ' H5 ⟨rfl, g5, hp5, f5⟩
    refine ⟨_, rfl, rfl, _, rfl, ite2 (fun c => ?_) (fun c => ?_)⟩
    · refine ⟨_, rfl, by show 2 ≤ sizeLine; decide, fun t ht => ?_⟩
      have ft : Fr [] H5 (upd H5 t (.tup [.str "nil", .ref p])) := .new ht
      exact q (.ref t) (nilD (plD pl pc)) _ (.tup upd_same (.cons (.str _) (.cons (.tup (ft.tups _ _ hp5) (.cons (.int _) (.cons (.int _) .nil))) .nil))) .nil (g5.kept ft) (f5.trans (fr_0 ft))
    · refine ⟨_, rfl, _, _, rfl, rfl, ⟨by decide, by decide, by decide⟩, _, _, rfl, rfl, by show 8 ≤ sizeLine; decide, fun z hz => ?_⟩
      have fz : Fr [] H5 (upd H5 z (.lst [.int 0, .int 1, .int 2, .int 3, .int 7, .int (10 ^ (9 : Int).toNat - 1), .int 12, .int 1])) := .new hz
      have g6 := g5.kept fz
      have zd : z ≠ d := fun y => by
        obtain ⟨a, b, h, _⟩ := g5.dr
        rw [y, h] at hz
        cases hz
      refine ⟨_, rfl, d, _, rfl, g6.dr, by decide, by decide, fun r H7 r0 r1 dr7 f7 => ?_⟩
      have g7 := g6.drawn f7 dr7
      have h7z : H7 z = some (.lst ([0, 1, 2, 3, 7, 999999999, 12, 1].map V.int)) := f7.at upd_same (nmem1 zd)
      obtain ⟨k, hk, ek⟩ := numI_of (xs := [0, 1, 2, 3, 7, 999999999, 12, 1]) r0 (by simpa using r1)
      refine ⟨z, _, _, _, rfl, rfl, .of h7z, ek, by show 3 ≤ sizeLine; decide, fun t ht => ?_⟩
      have ft : Fr [] H7 (upd H7 t (.tup [.str "num", .ref p, .int k])) := .new ht
      have hk' : k ∈ numsI := by
        simp only [List.mem_cons, List.not_mem_nil, or_false] at hk
        unfold numsI
        simp only [List.mem_cons, List.not_mem_nil, or_false]
        omega
      exact q (.ref t) (numD (plD pl pc) k) _ (.tup upd_same (.cons (.str _) (.cons (.tup (ft.tups _ _ (f7.tups _ _ (fz.tups _ _ hp5))) (.cons (.int _) (.cons (.int _) .nil))) (.cons (.int _) .nil)))) (.num hk') (g7.kept ft) (f5.trans ((fr_0 fz).trans ((fr_d f7).trans (fr_0 ft))))
end
end K10
namespace K10
open PySem PySem.Spec PyProof.Rows L2
open SX (S)
/-! ### codes -/
theorem S_codes (w : Str) : S w.cps.toList = w := by
  show (⟨w.cps.toList.toArray⟩ : Str) = w
  rw [Array.toArray_toList]
theorem S_inj {a b : List Nat} (h : S a = S b) : a = b := by
  have : (S a).cps.toList = (S b).cps.toList := by rw [h]
  exact this
theorem szC {n : Nat} (h : n ≤ 16770000) : n ≤ sizeLine := Nat.le_trans h (by decide)
theorem tw_in {p : Nat → Bool} : ∀ (l : List Nat) (k : Nat), k < (l.takeWhile p).length → ∃ c, l[k]? = some c ∧ p c = true
  | [], k, h => by simp at h
  | c :: l, k, h => by
    rw [List.takeWhile_cons] at h
    by_cases hc : p c = true
    · rw [if_pos hc] at h
      cases k with
      | zero => exact ⟨c, rfl, hc⟩
      | succ k =>
        obtain ⟨d, h1, h2⟩ := tw_in l k (Nat.lt_of_succ_lt_succ h)
        exact ⟨d, h1, h2⟩
    · rw [if_neg hc] at h
      simp at h
theorem tw_end {p : Nat → Bool} : ∀ l : List Nat, (l.takeWhile p).length = l.length ∨ ∃ c, l[(l.takeWhile p).length]? = some c ∧ p c = false
  | [] => .inl rfl
  | c :: l => by
    rw [List.takeWhile_cons]
    by_cases hc : p c = true
    · rw [if_pos hc]
      rcases tw_end l with h | ⟨d, h1, h2⟩
      · exact .inl (congrArg Nat.succ h)
      · exact .inr ⟨d, h1, h2⟩
    · rw [if_neg hc]
      exact .inr ⟨c, rfl, Bool.eq_false_iff.mpr hc⟩
theorem tw_all {p : Nat → Bool} : ∀ (a b : List Nat), (∀ x ∈ a, p x = true) → (∀ x r, b = x :: r → p x = false) → ((a ++ b).takeWhile p).length = a.length
  | [], [], _, _ => rfl
  | [], x :: b, _, h => by
    rw [List.nil_append, List.takeWhile_cons, h x b rfl]
    rfl
  | x :: a, b, h, h2 => by
    rw [List.cons_append, List.takeWhile_cons, if_pos (h x List.mem_cons_self)]
    exact congrArg Nat.succ (tw_all a b (fun y hy => h y (List.mem_cons_of_mem _ hy)) h2)
theorem cut_at (R : List Nat) (n m : Nat) (h : n ≤ R.length) : cutS (S R) (some (n : Int)) (some ((n : Int) + (m : Int))) = S ((R.drop n).take m) := by
  unfold cutS
  have e : ((n : Int) + (m : Int)) = ((n + m : Nat) : Int) := by omega
  rw [e, HT.sIx_nat, HT.sIx_nat, SX.S_len, Nat.min_eq_left h]
  show S ((R.drop n).take (min (n + m) R.length - n)) = _
  have hd : (R.drop n).length = R.length - n := List.length_drop ..
  by_cases hm : n + m ≤ R.length
  · rw [Nat.min_eq_left hm, Nat.add_sub_cancel_left]
  · rw [Nat.min_eq_right (by omega), List.take_of_length_le (by omega), List.take_of_length_le (by omega)]
/-! ### run_of -/
def runL (R z : List Nat) (n : Nat) : Nat := ((R.drop n).takeWhile fun c => decide (c ∈ z)).length
def spRun : Sp := fun vs H Q _ => ∃ (R z : List Nat) (zs : Str) (n : Nat), vs = [.str (S R), .int (n : Int), .str zs] ∧ zs.cps.toList = z ∧ n ≤ R.length ∧ R.length ≤ 16770000 ∧ Q (.int ((n : Int) + (runL R z n : Int))) H
section
variable {P : Program} {w : World} {K : PySem.W.Frag} {mg : Str → Option Value} {base : Heap} {f : Addr} {fd : FuncData} {kA sA CL CR eA : Addr}
theorem sc_RunOf : FnScope ["row", "at", "signs"] ["row", "at", "signs"] (defScope sRunOf) := ⟨rfl, rfl, rfl, by decide +kernel, rfl, by decide +kernel, by decide +kernel⟩
theorem ok_runof (T : Facts K mg kA sA CL CR eA) (F : FnP K "run_of" "run_of" sRunOf [] f fd) : FnOk P w K mg base CX0 1 f fd ["row", "at", "signs"] spRun := by
  refine F.ok sc_RunOf (fun vs H Q E h => ?_) (fun cdv A outer s H vs Q E hr h => ?_)
  · obtain ⟨R, z, zs, n, rfl, _⟩ := h
    rfl
  obtain ⟨R, z, zs, n, rfl, hz, hn, hR, q⟩ := h
  refine ⟨_, PSs.nox (pss_cons (ps_while PassesOwn.never (PW.pt (pw_and (pt_cmpR op_lt (pv 1) (pe_callB call_len_str (by rfl) T.f_len boot_len (pa_cons (pv 0) pa_nil)) (nomark _)) (pw_and1 (pt_cmpR op_in_sign (pe_ix ix_str (pv 0) (pv 1) (fun _ _ => rfl)) (pv 2) rfl))))
    (pss_one (ps_aug (i := 1) sc_RunOf.nd rfl (.inl rfl) pe_int ip_add)))
    (pss_one (ps_ret (pv 1)))), ?_⟩
  have hL : runL R z n ≤ R.length - n := by
    unfold runL
    rw [← List.length_drop]
    exact (List.takeWhile_sublist _).length_le
  refine ⟨fun m σ H' => H' = H ∧ ∃ k, k + m = runL R z n ∧ σ = [some (.str (S R)), some (.int ((n : Int) + (k : Int))), some (.str zs)], ⟨runL R z n, rfl, 0, Nat.zero_add _, by simp [L2.start]⟩, ?_⟩
  rintro m σ H' ⟨eH, k, hk, rfl⟩
  have eH' := eH.symm
  subst eH'
  have szR : (S R).length ≤ sizeLine := by rw [SX.S_len]; exact szC hR
  refine ⟨_, rfl, _, rfl, _, rfl, szR, _, _, rfl, rfl, _, rfl, ?_⟩
  rw [SX.S_len]
  cases m with
  | zero =>
    have ek : k = runL R z n := by omega
    have fin : Q (.int ((n : Int) + (k : Int))) H := by rw [ek]; exact q
    rcases tw_end (p := fun c => decide (c ∈ z)) (R.drop n) with h | ⟨c, h1, h2⟩
    · have : k = R.length - n := by
        rw [ek]
        unfold runL
        rw [h, List.length_drop]
      rw [decide_eq_false (by omega)]
      exact iteF (iteF ⟨_, rfl, fin⟩)
    · rw [List.getElem?_drop] at h1
      have hlt := (List.getElem?_eq_some_iff.mp h1).1
      have e2 : n + ((R.drop n).takeWhile fun c => decide (c ∈ z)).length = n + k := by rw [ek] <;> rfl
      rw [e2] at h1 hlt
      rw [decide_eq_true (by omega)]
      refine iteT ⟨_, rfl, _, rfl, _, _, c, rfl, rfl, szR, ?_, _, rfl, c, zs, rfl, rfl, _, rfl, ?_⟩
      · have e3 : ((n : Int) + (k : Int)) = ((n + k : Nat) : Int) := by omega
        rw [e3]
        exact atI_nat h1
      · rw [hz, h2]
        exact iteF ⟨_, rfl, fin⟩
  | succ m =>
    have hkl : k < runL R z n := by omega
    obtain ⟨c, h1, h2⟩ := tw_in (R.drop n) k hkl
    rw [List.getElem?_drop] at h1
    have hlt := (List.getElem?_eq_some_iff.mp h1).1
    rw [decide_eq_true (by omega)]
    refine iteT ⟨_, rfl, _, rfl, _, _, c, rfl, rfl, szR, ?_, _, rfl, c, zs, rfl, rfl, _, rfl, ?_⟩
    · have e3 : ((n : Int) + (k : Int)) = ((n + k : Nat) : Int) := by omega
      rw [e3]
      exact atI_nat h1
    · rw [hz, h2]
      refine iteT ⟨fun σ' H' => H' = H ∧ ∃ k', k' + m = runL R z n ∧ σ' = [some (.str (S R)), some (.int ((n : Int) + (k' : Int))), some (.str zs)], fun σ' H' h => ⟨m, Nat.lt_succ_self _, h⟩, ?_⟩
      refine ⟨_, rfl, _, _, rfl, rfl, rfl, k + 1, by omega, ?_⟩
      have e3 : (n : Int) + ((k + 1 : Nat) : Int) = (n : Int) + (k : Int) + 1 := by omega
      rw [e3] <;> rfl
end
end K10
namespace K10
open PySem PySem.Spec PyProof.Rows L2
open SX (S)
theorem NearAt.le {d w : Addr} {m n : Nat} {H : Hp} {v : V} (h : NearAt d w m H v) (hm : m ≤ n) : NearAt d w n H v := by
  obtain ⟨l, vs, h1, h2, h3, h4, h5, h6⟩ := h
  exact ⟨l, vs, h1, h2, h3, h4, Nat.le_trans h5 hm, h6⟩
def spTree (n : Nat) : Sp := fun vs H Q _ => ∃ (d w pN pH : Addr) (ns : List Str) (hs : List V) (want : Str) (nr : V) (z : Int) (m : Nat), vs = [.ref d, .ref w, .str want, nr, .int z] ∧ z = (n : Int) ∧ 1 ≤ n ∧ G d w pN pH ns hs H ∧ NearAt d w m H nr ∧ m + 2 * n ≤ 100 ∧ Made n d w pN pH ns hs H Q
/-- op's and call's: at least 2 deep -/
def spTree2 (n : Nat) : Sp := fun vs H Q _ => ∃ (d w pN pH : Addr) (ns : List Str) (hs : List V) (want : Str) (nr : V) (z : Int) (m : Nat), vs = [.ref d, .ref w, .str want, nr, .int z] ∧ z = (n : Int) + 1 ∧ 1 ≤ n ∧ G d w pN pH ns hs H ∧ NearAt d w m H nr ∧ m + 2 * n ≤ 100 ∧ Made (n + 1) d w pN pH ns hs H Q
section
variable {d w pN pH : Addr} {ns : List Str} {hs : List V} {H H' : Hp}
theorem G.new (g : G d w pN pH ns hs H) {z : Addr} (hz : H z = none) : z ≠ d ∧ z ≠ w := by
  obtain ⟨a, b, h, _⟩ := g.dr
  obtain ⟨a', b', c', e', h', _⟩ := g.way
  exact ⟨(ne_of_none h hz).symm, (ne_of_none h' hz).symm⟩
end
section
variable {P : Program} {w : World} {K : PySem.W.Frag} {mg : Str → Option Value} {base : Heap} {f : Addr} {fd : FuncData} {kA sA CL CR eA : Addr}
theorem sc_LawOp : FnScope ["draws", "way", "want", "near", "deep", "place", "sign", "sides", "left"] ["draws", "way", "want", "near", "deep"] (defScope sLawOp) := ⟨rfl, rfl, rfl, by decide +kernel, rfl, by decide +kernel, by decide +kernel⟩
theorem ok_op {n : Nat} (c_law_draw : Cal P w K mg base "_law_draw" 1 ["draws", "many"] spDraw) (c_law_place : Cal P w K mg base "_law_place" 1 ["way"] spPlace) (c_law_tree : Cal P w K mg base "_law_tree" (2 * n + 1) ["draws", "way", "want", "near", "deep"] (spTree n))
    (F : FnP K "_law_op" "_law_op" sLawOp [] f fd) : FnOk P w K mg base CX0 (2 * n + 1 + 1) f fd ["draws", "way", "want", "near", "deep"] (spTree2 n) := by
  refine F.ok sc_LawOp (fun vs H Q E h => ?_) (fun cdv A outer s H vs Q E hr h => ?_)
  · obtain ⟨d, wy, pN, pH, ns, hs, want, nr, z, m, rfl, _⟩ := h
    rfl
  obtain ⟨d, wy, pN, pH, ns, hs, want, nr, z, m, rfl, hz, hn1, g, hn, hm, q⟩ := h
  refine ⟨_, PSs.nox (pss_cons (ps_set (i := 5) sc_LawOp.nd rfl (.inl rfl) (pe_c c_law_place (hr.mono (by omega)) (by rfl) (pa_cons (pv 1) pa_nil)))
    (pss_cons (ps_set (i := 6) sc_LawOp.nd rfl (.inl rfl) pe_str)
    (pss_cons (ps_set (i := 7) sc_LawOp.nd rfl (.inl rfl) (pe_lst (pa_cons pe_str (pa_cons pe_str pa_nil))))
    (Evl.pss_cut (ps_if (pt_cmpR op_eq (pv 2) pe_str (nomark _))
    (pss_cons (ps_set (i := 6) sc_LawOp.nd rfl (.inl rfl) (pe_ix ix_list (pe_lst (pa_cons pe_str (pa_cons pe_str (pa_cons pe_str (pa_cons pe_str (pa_cons pe_str (pa_cons pe_str (pa_cons pe_str (pa_cons pe_str pa_nil))))))))) (pe_c c_law_draw (hr.mono (by omega)) (by rfl) (pa_cons (pv 0) (pa_cons pe_int pa_nil))) (fun _ _ => rfl)))
      (pss_cons (ps_set (i := 7) sc_LawOp.nd rfl (.inl rfl) (pe_lst (pa_cons pe_str (pa_cons pe_str pa_nil))))
      (pss_one (ps_if (PW.pt (pw_and (pt_cmpR op_eq (pv 6) pe_str (nomark _)) (pw_and1 (pt_cmpR op_eq (pe_c c_law_draw (hr.mono (by omega)) (by rfl) (pa_cons (pv 0) (pa_cons pe_int pa_nil))) pe_int (nomark _)))))
      (pss_one (ps_set (i := 7) sc_LawOp.nd rfl (.inl rfl) (pe_lst (pa_cons pe_str (pa_cons pe_str pa_nil)))))
      pss_nil))))
    pss_nil)
    (pss_cons (ps_set (i := 8) sc_LawOp.nd rfl (.inl rfl) (pe_c c_law_tree (hr.mono (by omega)) (by rfl) (pa_cons (pv 0) (pa_cons (pv 1) (pa_cons (pe_ix ix_list (pv 7) pe_int (fun _ _ => rfl)) (pa_cons (pv 3) (pa_cons (pe_op op_sub (pv 4) pe_int) pa_nil)))))))
    (pss_one (ps_ret (pe_tup (pa_cons pe_str (pa_cons (pv 5) (pa_cons (pv 6) (pa_cons (pv 8) (pa_cons (pe_c c_law_tree (hr.mono (by omega)) (by rfl) (pa_cons (pv 0) (pa_cons (pv 1) (pa_cons (pe_ix ix_list (pv 7) pe_int (fun _ _ => rfl)) (pa_cons (pv 3) (pa_cons (pe_op op_sub (pv 4) pe_int) pa_nil)))))) pa_nil))))))))))))), ?_⟩
  obtain ⟨wa, wb, wc, we, hw, hwe⟩ := g.way
  refine ⟨_, rfl, wy, wa, wb, _, rfl, hw, fun p H1 a' pl pc hp0 hp hw1 f1 => ?_⟩
  have g1 := g.placed f1 hwe hw1
  have f01 : Fr [d, wy] H H1 := fr_w f1
  -- sign, sides
  refine ⟨by show 2 ≤ sizeLine; decide, fun l hl => ?_⟩
  have f2 : Fr [] H1 (upd H1 l (.lst [.str "n", .str "l"])) := .new hl
  have g2 := g1.kept f2
  have h2p := f2.tups _ _ hp
  refine ⟨fun σ' H' => ∃ (s s0 s1 : Str) (sd : Addr), σ' = [some (.ref d), some (.ref wy), some (.str want), some nr, some (.int z), some (.ref p), some (.str s), some (.ref sd), none] ∧ s ∈ opsS ∧ H' sd = some (.lst [.str s0, .str s1]) ∧ sd ≠ d ∧ sd ≠ wy ∧ G d wy pN pH ns hs H' ∧ H' p = some (.tup [.int pl, .int pc]) ∧ Fr [d, wy] H H', ?_, ?_⟩
  · refine ⟨_, rfl, rfl, _, rfl, ite2 (fun c => ?_) (fun c => ?_)⟩
    · refine ⟨by show 8 ≤ sizeLine; decide, fun y hy => ?_⟩
      have f3 : Fr [] (upd H1 l (.lst [.str "n", .str "l"])) (upd (upd H1 l (.lst [.str "n", .str "l"])) y (.lst [.str "+", .str "-", .str "*", .str "div", .str "mod", .str "==", .str "<", .str "+"])) := .new hy
      have g3 := g2.kept f3
      have ny := g2.new hy
      refine ⟨_, rfl, d, _, rfl, g3.dr, by decide, by decide, fun r H4 r0 r1 dr4 f4 => ?_⟩
      have g4 := g3.drawn f4 dr4
      obtain ⟨v, hv, ev⟩ := strI_of (xs := ["+", "-", "*", "div", "mod", "==", "<", "+"]) r0 (by simpa using r1)
      have hv' : v ∈ opsS := by
        simp only [List.mem_cons, List.not_mem_nil, or_false] at hv
        unfold opsS
        simp only [List.mem_cons, List.not_mem_nil, or_false]
        rcases hv with h | h | h | h | h | h | h | h <;> simp [h]
      have h4y : H4 y = some (.lst ((["+", "-", "*", "div", "mod", "==", "<", "+"] : List Str).map V.str)) := f4.at upd_same (nmem1 ny.1)
      refine ⟨y, _, _, _, rfl, rfl, .of h4y, ev, by show 2 ≤ sizeLine; decide, fun l2 hl2 => ?_⟩
      have f5 : Fr [] H4 (upd H4 l2 (.lst [.str "n", .str "n"])) := .new hl2
      have g5 := g4.kept f5
      have n2 := g4.new hl2
      have h5p := f5.tups _ _ (f4.tups _ _ (f3.tups _ _ h2p))
      have fr5 : Fr [d, wy] H (upd H4 l2 (.lst [.str "n", .str "n"])) := f01.trans ((fr_0 f2).trans ((fr_0 f3).trans ((fr_d f4).trans (fr_0 f5))))
      refine ⟨_, rfl, rfl, _, rfl, ite2 (fun c2 => ?_) (fun c2 => ?_)⟩
      · refine ⟨_, rfl, d, _, rfl, g5.dr, by decide, by decide, fun r2 H6 q0 q1 dr6 f6 => ?_⟩
        have g6 := g5.drawn f6 dr6
        refine ⟨rfl, _, rfl, ite2 (fun c3 => ?_) (fun c3 => ?_)⟩
        · refine ⟨by show 2 ≤ sizeLine; decide, fun l3 hl3 => ?_⟩
          have f7 : Fr [] H6 (upd H6 l3 (.lst [.str "l", .str "l"])) := .new hl3
          have n3 := g6.new hl3
          exact ⟨v, "l", "l", l3, rfl, hv', upd_same, n3.1, n3.2, g6.kept f7, f7.tups _ _ (f6.tups _ _ h5p), fr5.trans ((fr_d f6).trans (fr_0 f7))⟩
        · exact ⟨v, "n", "n", l2, rfl, hv', f6.at upd_same (nmem1 n2.1), n2.1, n2.2, g6, f6.tups _ _ h5p, fr5.trans (fr_d f6)⟩
      · exact ⟨v, "n", "n", l2, rfl, hv', upd_same, n2.1, n2.2, g5, h5p, fr5⟩
    · have n1 := g1.new hl
      exact ⟨":", "n", "l", l, rfl, by decide +kernel, upd_same, n1.1, n1.2, g2, h2p, f01.trans (fr_0 f2)⟩
  · rintro σ' H2' ⟨sg, s0, s1, sd, rfl, hsg, hsd, n1, n2, g3, h3p, f3⟩
    refine ⟨_, rfl, _, rfl, _, rfl, sd, _, _, _, rfl, rfl, .of hsd, at0, _, rfl, _, rfl, _, _, rfl, rfl, d, wy, pN, pH, ns, hs, s0, nr, _, m, rfl, by omega, hn1, g3, hn.fr f3, hm, fun lv lt H4 lD lT g4 f4 => ?_⟩
    have hsd4 := f4.at hsd (nmem2 n1 n2)
    refine ⟨_, rfl, _, rfl, _, rfl, _, rfl, _, rfl, _, rfl, sd, _, _, _, rfl, rfl, .of hsd4, at1, _, rfl, _, rfl, _, _, rfl, rfl, d, wy, pN, pH, ns, hs, s1, nr, _, m, rfl, by omega, hn1, g4, (hn.fr f3).fr f4, hm, fun rv rt H5 rD rT g5 f5 => ?_⟩
    refine ⟨by show 5 ≤ sizeLine; decide, fun t ht => ?_⟩
    have ft : Fr [] H5 (upd H5 t (.tup [.str "op", .ref p, .str sg, lv, rv])) := .new ht
    exact q (.ref t) (opD (plD pl pc) sg lt rt) _ (.tup upd_same (.cons (.str _) (.cons (.tup (ft.tups _ _ (f5.tups _ _ (f4.tups _ _ h3p))) (.cons (.int _) (.cons (.int _) .nil))) (.cons (.str _) (.cons (ft.td (f5.td lD)) (.cons (ft.td rD) .nil)))))) (.op hsg lT rT) (g5.kept ft) (f3.trans (f4.trans (f5.trans (fr_0 ft))))
end
end K10
namespace K10
open PySem PySem.Spec PyProof.Rows L2
open SX (S)
theorem kd_strOk {k : Str} (h : KdOk k) : PyData.strOk k = true := by rcases h with rfl | rfl <;> decide +kernel
theorem canLay_strs : ∀ (l : List Str), (∀ x ∈ l, PyData.strOk x = true) → PyData.canLayAll0 (l.map .str) = true
  | [], _ => rfl
  | x :: r, h => by
    have i2 := canLay_strs r fun y hy => h y (List.mem_cons_of_mem _ hy)
    rw [List.map_cons]
    simpa [PyData.canLayAll0, PyData.canLay0, h x List.mem_cons_self] using i2
theorem depth_strs : ∀ l : List Str, PyData.depthAll (l.map .str) ≤ 1
  | [] => by simp [PyData.depthAll]
  | x :: r => by
    have := depth_strs r
    rw [List.map_cons]
    simp only [PyData.depthAll, PyData.depth]
    omega
/-- data that == takes -/
def Eqs (K : PySem.W.Frag) (H : Hp) (n : Nat) (v : V) : Prop := ∃ d, Dp K H v d ∧ d.canLay0 = true ∧ d.depth ≤ n
theorem head_eqs {K : PySem.W.Frag} {d w : Addr} {H : Hp} {v : V} (h : HeadAt d w H v) : Eqs K H 3 v := by
  obtain ⟨t, l, x, ks, kd, rfl, h2, h3, _, _, h6, _, h8, h9⟩ := h
  refine ⟨.tuple [.str x, .list (ks.map .str), .str kd], .tup (.of h2) (.cons (.str _) (.cons (.lst (.of h3) (dp_strs ks)) (.cons (.str _) .nil))), ?_, ?_⟩
  · have := canLay_strs ks fun k hk => kd_strOk (h8 k hk)
    simp [PyData.canLay0, PyData.canLayAll0, nm_strOk h6, kd_strOk h9, this]
  · have := depth_strs ks
    simp only [PyData.depth, PyData.depthAll]
    omega
theorem eqs_all {K : PySem.W.Frag} {H : Hp} {n : Nat} : ∀ {l : List V}, (∀ v ∈ l, Eqs K H n v) → ∃ ds, DpAll K H l ds ∧ PyData.canLayAll0 ds = true ∧ PyData.depthAll ds ≤ n ∧ ds.length = l.length
  | [], _ => ⟨[], .nil, rfl, by simp [PyData.depthAll], rfl⟩
  | v :: r, h => by
    obtain ⟨d, h1, h2, h3⟩ := h v List.mem_cons_self
    obtain ⟨ds, i1, i2, i3, i4⟩ := eqs_all fun u hu => h u (List.mem_cons_of_mem _ hu)
    refine ⟨d :: ds, .cons h1 i1, by simp [PyData.canLayAll0, h2, i2], ?_, congrArg Nat.succ i4⟩
    simp only [PyData.depthAll]
    omega
theorem shaped_of {d : PyData} (h1 : d.canLay0 = true) (h2 : d.depth ≤ 64) : SeqAt.shaped d = true := by
  unfold SeqAt.shaped
  rw [h1, decide_eq_true h2] <;> rfl
theorem eqv_nil (ds : List PyData) : PyData.eqv (.list ds) (.list []) = decide (ds = []) := by
  cases ds with
  | nil => rfl
  | cons x r => simp [PyData.eqv, PyData.eqvAll]
/-- a list of such against [] -/
theorem eqs_list {K : PySem.W.Frag} {H : Hp} {n : Nat} {a : Addr} {l : List V} (h : H a = some (.lst l)) (hn : n ≤ 60) (hl : ∀ v ∈ l, Eqs K H n v) : ∃ d, Dp K H (.ref a) d ∧ SeqAt.shaped d = true ∧ PyData.eqv d (.list []) = decide (l = []) := by
  obtain ⟨ds, h1, h2, h3, h4⟩ := eqs_all hl
  refine ⟨.list ds, .lst (.of h) h1, shaped_of (by simpa [PyData.canLay0] using h2) (by simp only [PyData.depth]; omega), ?_⟩
  rw [eqv_nil]
  cases l with
  | nil =>
    rw [List.eq_nil_of_length_eq_zero h4]
    rfl
  | cons x r => cases ds with
    | nil => cases h4
    | cons y z => simp
theorem flat_strs : ∀ l : List Str, (l.map V.str).all flatV = true
  | [] => rfl
  | x :: r => by
    rw [List.map_cons, List.all_cons, flat_strs r] <;> rfl
theorem Tp.wr {H : Hp} {p : Addr} {xs : List V} {o : HO} (h : H p = some (.lst xs)) : Tp H (upd H p o) := fun b ys e => by
  rw [upd_ne (ne_of e h (by intro z; cases z))]
  exact e
theorem G.put {d w pN pH : Addr} {ns : List Str} {hs : List V} {H H' : Hp} {z : Addr} {o : HO} (g : G d w pN pH ns hs H) (f : Fr [d, w] H H') (g' : G d w pN pH ns hs H') (hz : H z = none) : G d w pN pH ns hs (upd H' z o) := by
  have n := g.new hz
  obtain ⟨a, b, e, h1, h2⟩ := g'.dr
  obtain ⟨a', b', c', e', h', h3⟩ := g'.way
  exact g.step (f.put hz) ⟨a, b, by rw [upd_ne n.1.symm]; exact e, h1, h2⟩ ⟨a', b', c', e', by rw [upd_ne n.2.symm]; exact h', h3⟩
section
variable {P : Program} {w : World} {K : PySem.W.Frag} {mg : Str → Option Value} {base : Heap} {f : Addr} {fd : FuncData} {kA sA CL CR eA : Addr}
theorem sc_LawCall : FnScope ["draws", "way", "want", "near", "deep", "hidden", "some", "head", "place", "name", "kind"] ["draws", "way", "want", "near", "deep"] (defScope sLawCall) := ⟨rfl, rfl, rfl, by decide +kernel, rfl, by decide +kernel, by decide +kernel⟩
theorem ok_call {n : Nat} (T : Facts K mg kA sA CL CR eA) (c_law_draw : Cal P w K mg base "_law_draw" 1 ["draws", "many"] spDraw) (c_law_place : Cal P w K mg base "_law_place" 1 ["way"] spPlace) (c_law_leaf : Cal P w K mg base "_law_leaf" 2 ["draws", "way", "want", "near"] spLeaf)
    (c_law_tree : Cal P w K mg base "_law_tree" (2 * n + 1) ["draws", "way", "want", "near", "deep"] (spTree n)) (F : FnP K "_law_call" "_law_call" sLawCall [] f fd) (hn2 : 1 ≤ n) : FnOk P w K mg base CX0 (2 * n + 1 + 1) f fd ["draws", "way", "want", "near", "deep"] (spTree2 n) := by
  refine F.ok sc_LawCall (fun vs H Q E h => ?_) (fun cdv A outer s H vs Q E hr h => ?_)
  · obtain ⟨d, wy, pN, pH, ns, hs, want, nr, z, m, rfl, _⟩ := h
    rfl
  obtain ⟨d, wy, pN, pH, ns, hs, want, nr, z, m, rfl, hz, hn1, g, hn, hm, q⟩ := h
  refine ⟨_, PSs.nox (pss_cons (ps_set (i := 5) sc_LawCall.nd rfl (.inr rfl) (pe_lc (own := [("name", 9), ("kind", 10)]) (by rfl) sc_LawCall.nd (piL K (pv 3)) (blkOk_by (N := ["draws", "way", "want", "near", "deep", "hidden", "some", "head", "place", "name", "kind"]) (sc := defScope sLawCall) (by decide +kernel)) (fun _ _ _ _ _ => (pgT K 2 (pgs_cons (pg_name (i := 9) sc_LawCall.nd rfl (.inl rfl)) (pgs_cons (pg_name (i := 10) sc_LawCall.nd rfl (.inl rfl)) pgs_nil)))) (fun _ _ _ _ _ => pts_nil) (fun _ _ _ _ _ => (pv 9))))
    (pss_cons (ps_setLc (i := 6) (own := [("head", 7)]) (by rfl) sc_LawCall.nd rfl rfl (sw_true rfl rfl rfl (by decide +kernel)) (piL K (pe_ix (ixL K) (pv 1) pe_int (fun _ _ => rfl))) (blkOk_by (N := ["draws", "way", "want", "near", "deep", "hidden", "some", "head", "place", "name", "kind"]) (sc := defScope sLawCall) (by decide +kernel)) (fun _ _ _ _ _ => (pg_name (i := 7) sc_LawCall.nd rfl (.inl rfl))) (fun _ _ _ _ _ => (pts_one (PW.pt (pw_and (pt_cmpR op_eq (pe_ix (ixT K) (pv 7) pe_int (fun _ _ => rfl)) (pv 2) (nomark _)) (pw_and1 (pt_cmpR (opNin K) (pe_ix (ixT K) (pv 7) pe_int (fun _ _ => rfl)) (pv 5) (by rfl))))))) (fun _ _ _ _ _ => (pv 7)))
    (pss_cons (ps_if (pt_cmpR (opEqD K hr.units) (pv 6) (pe_lst pa_nil) (nomark _))
    (pss_one (ps_ret (pe_c c_law_leaf (hr.mono (by omega)) (by rfl) (pa_cons (pv 0) (pa_cons (pv 1) (pa_cons (pv 2) (pa_cons (pv 3) pa_nil)))))))
    pss_nil)
    (pss_cons (ps_set (i := 7) sc_LawCall.nd rfl (.inl rfl) (pe_ix (ixL K) (pv 6) (pe_c c_law_draw (hr.mono (by omega)) (by rfl) (pa_cons (pv 0) (pa_cons (pe_callB (clLen K) (by rfl) T.f_len boot_len (pa_cons (pv 6) pa_nil)) pa_nil))) (fun _ _ => rfl)))
    (pss_cons (ps_set (i := 8) sc_LawCall.nd rfl (.inl rfl) (pe_c c_law_place (hr.mono (by omega)) (by rfl) (pa_cons (pv 1) pa_nil)))
    (pss_one (ps_ret (pe_tup (pa_cons pe_str (pa_cons (pv 8) (pa_cons (pe_ix (ixT K) (pv 7) pe_int (fun _ _ => rfl)) (pa_cons (pe_callTy (clTup K) (by rfl) T.f_tuple boot_tuple (pa_cons (pe_lc (own := [("kind", 10)]) (by rfl) sc_LawCall.nd (piL K (pe_ix (ixT K) (pv 7) pe_int (fun _ _ => rfl))) (blkOk_by (N := ["draws", "way", "want", "near", "deep", "hidden", "some", "head", "place", "name", "kind"]) (sc := defScope sLawCall) (by decide +kernel)) (fun _ _ _ _ _ => (pg_name (i := 10) sc_LawCall.nd rfl (.inl rfl))) (fun _ _ _ _ _ => pts_nil) (fun _ _ _ _ _ => (pe_c c_law_tree (hr.mono (by omega)) (by rfl) (pa_cons (pv 0) (pa_cons (pv 1) (pa_cons (pv 10) (pa_cons (pv 3) (pa_cons (pe_op op_sub (pv 4) pe_int) pa_nil)))))))) pa_nil)) pa_nil)))))))))))), ?_⟩
  obtain ⟨l, us, rfl, hl, l1, l2, l3, l4⟩ := id hn
  -- hidden = [name for name, kind in near]
  refine ⟨_, rfl, l, rfl, ⟨_, .of hl⟩, fun D hD => lc_it (walk_list (K := K) (a := l) (xs := us)) (fun i H' => ∃ acc : List Str, H' D = some (.lst (acc.map V.str)) ∧ acc.length ≤ i ∧ Fr [] H H') ⟨[], upd_same, Nat.le_refl _, .new hD⟩ (fun i H' _ ⟨_, _, _, fr⟩ => .of (fr.at hl (by simp))) ?_ ?_⟩
  · rintro i x H2 H3 hi ⟨acc, a1, a2, a3⟩ ⟨rfl, hx⟩
    obtain ⟨a, xn, kn, rfl, ha, hxn⟩ := l4 x (List.mem_of_getElem? hx)
    refine ⟨a, _, rfl, .of (a3.tups _ _ ha), rfl, _, _, rfl, _, _, rfl, rfl, rfl, ?_⟩
    refine yesI ?_
    exact ⟨_, rfl, _, a1, by rw [List.length_map]; exact szl (by omega), acc ++ [xn], by rw [upd_same, List.map_append] <;> rfl, by rw [List.length_append]; exact Nat.succ_le_succ a2, a3.put hD⟩
  rintro H1 ⟨hid, b1, b2, f1⟩
  have g1 := g.kept f1
  obtain ⟨wa, wb, wc, we, hw, hwe⟩ := g1.way
  -- some = [..]
  refine ⟨_, rfl, wy, _, _, _, rfl, rfl, .of hw, atI_nat (j := 4) rfl, pH, rfl, ⟨_, .of g1.ph⟩, fun D2 hD2 => lc_it (walk_list (K := K) (a := pH) (xs := hs)) (fun i H' => ∃ acc : List V, H' D2 = some (.lst acc) ∧ acc.length ≤ i ∧ (∀ v ∈ acc, v ∈ hs) ∧ Fr [] H1 H') ⟨[], upd_same, Nat.le_refl _, by simp, .new hD2⟩ (fun i H' _ ⟨_, _, _, _, fr⟩ => .of (fr.at g1.ph (by simp))) ?_ ?_⟩
  · rintro i x H2 H3 hi ⟨acc, a1, a2, a3, a4⟩ ⟨rfl, hx⟩
    have hxm := List.mem_of_getElem? hx
    obtain ⟨t, lk, xn, ks, kd, rfl, h2, h3, _⟩ := g1.hd x hxm
    have h2' := a4.tups _ _ h2
    refine ⟨rfl, ?_⟩
    refine ⟨_, rfl, t, _, _, _, rfl, rfl, .of h2', at2, _, rfl, rfl, _, rfl, ite2 (fun c => ?_) (fun c => ?_)⟩
    · refine ⟨_, rfl, t, _, _, _, rfl, rfl, .of h2', at0, _, rfl, D, _, rfl, .inl (.of (a4.at b1 (by simp))), rfl, flat_strs hid, _, rfl, ite2 (fun c2 => ?_) (fun c2 => ?_)⟩
      · refine ⟨_, rfl, _, a1, szl (by have := g1.hs4; omega), acc ++ [.ref t], upd_same, by rw [List.length_append]; exact Nat.succ_le_succ a2, fun v hv => ?_, a4.put hD2⟩
        rcases List.mem_append.mp hv with z | z
        · exact a3 v z
        · rw [List.mem_singleton.mp z]
          exact hxm
      · exact ⟨acc, a1, by omega, a3, a4⟩
    · exact iteF ⟨acc, a1, by omega, a3, a4⟩
  rintro H2 ⟨acc, c1, c2, c3, f2⟩
  have g2 := g1.kept f2
  have nD := g1.new hD2
  have f02 : Fr [] H H2 := f1.trans f2
  -- if some == []
  refine ⟨_, rfl, by show 0 ≤ sizeLine; decide, fun y hy => ?_⟩
  have f3 : Fr [] H2 (upd H2 y (.lst [])) := .new hy
  have g3 := g2.kept f3
  have h3D := f3.at c1 (by simp)
  obtain ⟨dd, e1, e2, e3⟩ := eqs_list (K := K) h3D (by omega) fun v hv => head_eqs (g3.hd v (c3 v hv))
  refine ⟨dd, .list [], e1, .lst (.of upd_same) .nil, e2, rfl, _, rfl, ?_⟩
  rw [e3]
  have f03 := f02.trans f3
  refine ite2 (fun c => ?_) (fun c => ?_)
  · refine ⟨_, rfl, _, rfl, _, rfl, _, rfl, d, wy, pN, pH, ns, hs, want, _, rfl, g3, (hn.fr (fr_0 f03)).le (by omega), fun r t H4 rD rT g4 f4 => ?_⟩
    exact q r t H4 rD (rT.le (by omega)) g4 ((fr_0 f03).trans f4)
  have c' : acc ≠ [] := by simpa using c
  have lp : 1 ≤ acc.length := List.length_pos_iff.mpr c'
  -- head = some[..]
  refine ⟨_, rfl, _, rfl, .ref D2, rfl, D2, _, rfl, .inl (.of h3D), d, _, rfl, g3.dr, by omega, by have := g3.hs4; omega, fun r H4 r0 r1 dr4 f4 => ?_⟩
  have g4 := g3.drawn f4 dr4
  have hr1 : r.toNat < acc.length := by omega
  have ha : atI acc r = some acc[r.toNat] := by
    have e : ((r.toNat : Nat) : Int) = r := by omega
    have z : atI acc ((r.toNat : Nat) : Int) = some acc[r.toNat] := atI_nat (List.getElem?_eq_getElem hr1)
    rw [e] at z
    exact z
  have hmem := c3 _ (List.getElem_mem hr1)
  refine ⟨D2, _, _, _, rfl, rfl, .of (f4.at h3D (nmem1 nD.1)), ha, ?_⟩
  obtain ⟨t, lk, xn, ks, kd, ev, h2, h3, k1, k2, k3, k4, k5, k6⟩ := g4.hd _ hmem
  rw [ev]
  -- place
  obtain ⟨wa, wb, wc, we, hw4, hwe4⟩ := g4.way
  refine ⟨_, rfl, wy, wa, wb, _, rfl, hw4, fun p H5 a' pl pc hp0 hp hw5 f5 => ?_⟩
  have g5 := g4.placed f5 hwe4 hw5
  have h25 := f5.tups _ _ h2
  have f05 : Fr [d, wy] H H5 := (fr_0 f03).trans ((fr_d f4).trans (fr_w f5))
  refine ⟨_, rfl, _, rfl, t, _, _, _, rfl, rfl, .of h25, at0, _, rfl, t, _, _, _, rfl, rfl, .of h25, at1, lk, rfl, ⟨_, .of (f5.at h3 (nmem1 k2))⟩, fun D3 hD3 => ?_⟩
  have nD3 := g5.new hD3
  have h5k := f5.at h3 (nmem1 k2)
  refine lc_it (walk_list (K := K) (a := lk) (xs := ks.map V.str)) (fun i H' => ∃ (as : List V) (ts : List PyData), H' D3 = some (.lst as) ∧ TDs H' as ts ∧ (∀ a ∈ ts, Tr n a) ∧ as.length = i ∧ G d wy pN pH ns hs H' ∧ Fr [d, wy] H5 H') ⟨[], [], upd_same, .nil, by simp, rfl, g5.kept (.new hD3), .new hD3⟩ (fun i H' _ ⟨_, _, _, _, _, _, _, fr⟩ => .of (fr.at h5k (nmem2 k1 k2))) ?_ ?_
  · rintro i x H6 H7 hi ⟨as, ts, a1, a2, a3, a4, a5, a6⟩ ⟨rfl, hx⟩
    rw [List.length_map] at hi
    rw [List.getElem?_map, List.getElem?_eq_getElem hi] at hx
    cases hx
    refine ⟨rfl, ?_⟩
    refine yesI ?_
    refine ⟨_, rfl, _, rfl, _, rfl, _, rfl, _, rfl, _, _, rfl, rfl, d, wy, pN, pH, ns, hs, _, _, _, m, rfl, by omega, hn1, a5, hn.fr (f05.trans a6), hm, fun r t' H8 rD rT g8 f8 => ?_⟩
    have h8D := f8.at a1 (nmem2 nD3.1 nD3.2)
    refine ⟨as, h8D, szl (by omega), as ++ [r], ts ++ [t'], upd_same, ((a2.mono f8.tups).snoc rD).mono (Tp.wr h8D), fun a ha => ?_, by rw [List.length_append, a4] <;> rfl, g5.put (a6.trans f8) g8 hD3, (a6.trans f8).put hD3⟩
    rcases List.mem_append.mp ha with y | y
    · exact a3 a y
    · rw [List.mem_singleton.mp y]
      exact rT
  rintro H6 ⟨as, ts, a1, a2, a3, a4, g6, f6⟩
  rw [List.length_map] at a4
  refine ⟨D3, _, rfl, .inl ⟨.of a1, fun u hu => ?_⟩⟩
  refine ⟨by show 4 ≤ sizeLine; decide, fun y hy => ?_⟩
  have fu : Fr [] H6 (upd H6 u (.tup as)) := .new hu
  have fy : Fr [] (upd H6 u (.tup as)) (upd (upd H6 u (.tup as)) y (.tup [.str "use", .ref p, .str xn, .ref u])) := .new hy
  have fuy := fu.trans fy
  exact q (.ref y) (useD (plD pl pc) xn ts) _ (.tup upd_same (.cons (.str _) (.cons (.tup (fuy.tups _ _ (f6.tups _ _ hp)) (.cons (.int _) (.cons (.int _) .nil))) (.cons (.str _) (.cons (.tup (fy.tups _ _ upd_same) (a2.mono fuy.tups)) .nil)))))
    (.use k3 (by have := a2.len; omega) a3) (g6.kept fuy) (f05.trans (f6.trans (fr_0 fuy)))
end
end K10
namespace K10
open PySem PySem.Spec PyProof.Rows L2
open SX (S)
theorem ans_or2 {t u : TT} {σ : L2.St} {H : Hp} {a b : Bool} (h1 : Ans t σ H a) (h2 : Ans u σ H b) : Ans (tOr t u) σ H (a || b) := by
  cases a with
  | true => exact ans_or1 h1
  | false => exact ans_or h1 h2
theorem or3_cps {t u v : TT} {σ : L2.St} {H : Hp} {Q : Bool → Hp → Prop} (a b c : Bool) (h1 : ∀ R : Bool → Hp → Prop, R a H → t σ H R) (h2 : ∀ R : Bool → Hp → Prop, R b H → u σ H R) (h3 : ∀ R : Bool → Hp → Prop, R c H → v σ H R) (h : Q (a || (b || c)) H) : tOr t (tOr u v) σ H Q :=
  ans_or2 h1 (ans_or2 h2 h3) Q h
theorem if_or3 {t u v : TT} {t1 t2 t3 : TS} {D : Ends} {σ : L2.St} {H : Hp} (a b c : Bool) (h1 : ∀ R : Bool → Hp → Prop, R a H → t σ H R) (h2 : ∀ R : Bool → Hp → Prop, R b H → u σ H R) (h3 : ∀ R : Bool → Hp → Prop, R c H → v σ H R)
    (hT : (a || (b || c)) = true → t1 { D with nx := t3 D } σ H) (hF : ¬ (a || (b || c)) = true → t2 { D with nx := t3 D } σ H) : tSeq (tIfS (tOr t (tOr u v)) t1 t2) t3 D σ H :=
  or3_cps a b c h1 h2 h3 (ite2 hT hF)
theorem near_cat {d w : Addr} {m : Nat} {H H' : Hp} {p : Addr} {vs : List V} {us : List V} (f : Fr [d, w] H H') (l3 : vs.length ≤ m) (l4 : ∀ u ∈ vs, ∃ (a : Addr) (x k : Str), u = .ref a ∧ H a = some (.tup [.str x, .str k]) ∧ Nm x)
    (hp : H' p = some (.lst (vs ++ us))) (n1 : p ≠ d) (n2 : p ≠ w) (hu : ∀ u ∈ us, ∃ (a : Addr) (x k : Str), u = .ref a ∧ H' a = some (.tup [.str x, .str k]) ∧ Nm x) (hz : us.length ≤ 2) : NearAt d w (m + 2) H' (.ref p) := by
  refine ⟨p, vs ++ us, rfl, hp, n1, n2, by rw [List.length_append]; omega, fun u hm => ?_⟩
  rcases List.mem_append.mp hm with z | z
  · obtain ⟨a, x, k, e1, e2, e3⟩ := l4 u z
    exact ⟨a, x, k, e1, f.tups _ _ e2, e3⟩
  · exact hu u z
section
variable {P : Program} {w : World} {K : PySem.W.Frag} {mg : Str → Option Value} {base : Heap} {f : Addr} {fd : FuncData} {kA sA CL CR eA : Addr}
theorem sc_LawTree : FnScope ["draws", "way", "want", "near", "deep", "form", "place", "test", "yes", "first", "name", "kind", "worth", "tail", "what", "empty", "body"] ["draws", "way", "want", "near", "deep"] (defScope sLawTree) := ⟨rfl, rfl, rfl, by decide +kernel, rfl, by decide +kernel, by decide +kernel⟩
theorem ok_tree {n : Nat} (T : Facts K mg kA sA CL CR eA) (c_law_draw : Cal P w K mg base "_law_draw" 1 ["draws", "many"] spDraw) (c_law_place : Cal P w K mg base "_law_place" 1 ["way"] spPlace) (c_law_leaf : Cal P w K mg base "_law_leaf" 2 ["draws", "way", "want", "near"] spLeaf)
    (c_law_op : Cal P w K mg base "_law_op" (2 * n + 2) ["draws", "way", "want", "near", "deep"] (spTree2 n)) (c_law_call : Cal P w K mg base "_law_call" (2 * n + 2) ["draws", "way", "want", "near", "deep"] (spTree2 n))
    (c_law_tree : Cal P w K mg base "_law_tree" (2 * n + 1) ["draws", "way", "want", "near", "deep"] (spTree n)) (F : FnP K "_law_tree" "_law_tree" sLawTree [] f fd) : FnOk P w K mg base CX0 (2 * n + 2 + 1) f fd ["draws", "way", "want", "near", "deep"] (spTree (n + 1)) := by
  refine F.ok sc_LawTree (fun vs H Q E h => ?_) (fun cdv A outer s H vs Q E hr h => ?_)
  · obtain ⟨d, wy, pN, pH, ns, hs, want, nr, z, m, rfl, _⟩ := h
    rfl
  obtain ⟨d, wy, pN, pH, ns, hs, want, nr, z, m, rfl, hz, hn1, g, hn, hm, q⟩ := h
  refine ⟨_, PSs.nox (pss_cons (ps_asg (pe_op op_sub (pe_ix (ixL K) (pv 1) pe_int (fun _ _ => rfl)) pe_int) (pg_sub (pv 1) pe_int set_list))
    (Evl.pss_cut (ps_if (PW.pt (pw_and (pt_cmpR op_gt (pe_ix (ixL K) (pv 1) pe_int (fun _ _ => rfl)) pe_int (nomark _)) (pw_and1 (pt_cmpR op_eq (pe_c c_law_draw (hr.mono (by omega)) (by rfl) (pa_cons (pv 0) (pa_cons (pe_ix (ixL K) (pv 1) pe_int (fun _ _ => rfl)) pa_nil))) pe_int (nomark _)))))
    (pss_one (ps_set (i := 2) sc_LawTree.nd rfl (.inl rfl) (pe_ix (ixL K) (pe_lst (pa_cons pe_str (pa_cons pe_str pa_nil))) (pe_callTy call_int1 (by rfl) T.f_int boot_int (pa_cons (pe_cmpR op_eq (pv 2) pe_str (nomark _)) pa_nil)) (fun _ _ => rfl))))
    pss_nil)
    (pss_cons (ps_set (i := 5) sc_LawTree.nd rfl (.inl rfl) (pe_c c_law_draw (hr.mono (by omega)) (by rfl) (pa_cons (pv 0) (pa_cons pe_int pa_nil))))
    (pss_cons (ps_if (PW.pt (pw_or (pt_cmpR op_lt (pv 4) pe_int (nomark _)) (pw_or (pt_cmpR op_lt (pe_ix (ixL K) (pv 1) pe_int (fun _ _ => rfl)) pe_int (nomark _)) (pw_or1 (pt_cmpR op_eq (pv 5) pe_int (nomark _))))))
    (pss_one (ps_ret (pe_c c_law_leaf (hr.mono (by omega)) (by rfl) (pa_cons (pv 0) (pa_cons (pv 1) (pa_cons (pv 2) (pa_cons (pv 3) pa_nil)))))))
    pss_nil)
    (pss_cons (ps_if (pt_cmpR op_lt (pv 5) pe_int (nomark _))
    (pss_one (ps_ret (pe_c c_law_op (hr.mono (by omega)) (by rfl) (pa_cons (pv 0) (pa_cons (pv 1) (pa_cons (pv 2) (pa_cons (pv 3) (pa_cons (pv 4) pa_nil))))))))
    pss_nil)
    (pss_cons (ps_if (pt_cmpR op_lt (pv 5) pe_int (nomark _))
    (pss_one (ps_ret (pe_c c_law_call (hr.mono (by omega)) (by rfl) (pa_cons (pv 0) (pa_cons (pv 1) (pa_cons (pv 2) (pa_cons (pv 3) (pa_cons (pv 4) pa_nil))))))))
    pss_nil)
    (pss_cons (ps_set (i := 6) sc_LawTree.nd rfl (.inl rfl) (pe_c c_law_place (hr.mono (by omega)) (by rfl) (pa_cons (pv 1) pa_nil)))
    (pss_cons (ps_if (pt_cmpR op_eq (pv 5) pe_int (nomark _))
    (pss_cons (ps_set (i := 7) sc_LawTree.nd rfl (.inl rfl) (pe_c c_law_tree (hr.mono (by omega)) (by rfl) (pa_cons (pv 0) (pa_cons (pv 1) (pa_cons pe_str (pa_cons (pv 3) (pa_cons (pe_op op_sub (pv 4) pe_int) pa_nil)))))))
      (pss_cons (ps_set (i := 8) sc_LawTree.nd rfl (.inl rfl) (pe_c c_law_tree (hr.mono (by omega)) (by rfl) (pa_cons (pv 0) (pa_cons (pv 1) (pa_cons (pv 2) (pa_cons (pv 3) (pa_cons (pe_op op_sub (pv 4) pe_int) pa_nil)))))))
      (pss_one (ps_ret (pe_tup (pa_cons pe_str (pa_cons (pv 6) (pa_cons (pv 7) (pa_cons (pv 8) (pa_cons (pe_c c_law_tree (hr.mono (by omega)) (by rfl) (pa_cons (pv 0) (pa_cons (pv 1) (pa_cons (pv 2) (pa_cons (pv 3) (pa_cons (pe_op op_sub (pv 4) pe_int) pa_nil)))))) pa_nil))))))))))
    pss_nil)
    (pss_cons (ps_set (i := 9) sc_LawTree.nd rfl (.inl rfl) (pe_c c_law_draw (hr.mono (by omega)) (by rfl) (pa_cons (pv 0) (pa_cons (pe_callB (clLen K) (by rfl) T.f_len boot_len (pa_cons (pe_ix (ixL K) (pv 1) pe_int (fun _ _ => rfl)) pa_nil)) pa_nil))))
    (pss_cons (ps_set (i := 10) sc_LawTree.nd rfl (.inl rfl) (pe_ix (ixL K) (pe_ix (ixL K) (pv 1) pe_int (fun _ _ => rfl)) (pv 9) (fun _ _ => rfl)))
    (pss_cons (ps_if (pt_cmpR op_eq (pv 5) pe_int (nomark _))
    (pss_cons (ps_set (i := 11) sc_LawTree.nd rfl (.inl rfl) (pe_ix (ixL K) (pe_lst (pa_cons pe_str (pa_cons pe_str pa_nil))) (pe_c c_law_draw (hr.mono (by omega)) (by rfl) (pa_cons (pv 0) (pa_cons pe_int pa_nil))) (fun _ _ => rfl)))
      (pss_cons (ps_set (i := 12) sc_LawTree.nd rfl (.inl rfl) (pe_c c_law_tree (hr.mono (by omega)) (by rfl) (pa_cons (pv 0) (pa_cons (pv 1) (pa_cons (pv 11) (pa_cons (pv 3) (pa_cons (pe_op op_sub (pv 4) pe_int) pa_nil)))))))
      (pss_one (ps_ret (pe_tup (pa_cons pe_str (pa_cons (pv 6) (pa_cons (pv 10) (pa_cons (pv 12) (pa_cons (pe_c c_law_tree (hr.mono (by omega)) (by rfl) (pa_cons (pv 0) (pa_cons (pv 1) (pa_cons (pv 2) (pa_cons (pe_op op_cat (pv 3) (pe_lst (pa_cons (pe_tup (pa_cons (pv 10) (pa_cons (pv 11) pa_nil))) pa_nil))) (pa_cons (pe_op op_sub (pv 4) pe_int) pa_nil)))))) pa_nil))))))))))
    pss_nil)
    (pss_cons (ps_set (i := 13) sc_LawTree.nd rfl (.inl rfl) (pe_ix (ixL K) (pe_ix (ixL K) (pv 1) pe_int (fun _ _ => rfl)) (pe_op op_mod (pe_op op_add (pe_op op_add (pv 9) pe_int) (pe_c c_law_draw (hr.mono (by omega)) (by rfl) (pa_cons (pv 0) (pa_cons (pe_op op_sub (pe_callB (clLen K) (by rfl) T.f_len boot_len (pa_cons (pe_ix (ixL K) (pv 1) pe_int (fun _ _ => rfl)) pa_nil)) pe_int) pa_nil)))) (pe_callB (clLen K) (by rfl) T.f_len boot_len (pa_cons (pe_ix (ixL K) (pv 1) pe_int (fun _ _ => rfl)) pa_nil))) (fun _ _ => rfl)))
    (pss_cons (ps_set (i := 14) sc_LawTree.nd rfl (.inl rfl) (pe_c c_law_tree (hr.mono (by omega)) (by rfl) (pa_cons (pv 0) (pa_cons (pv 1) (pa_cons pe_str (pa_cons (pv 3) (pa_cons (pe_op op_sub (pv 4) pe_int) pa_nil)))))))
    (pss_cons (ps_set (i := 15) sc_LawTree.nd rfl (.inl rfl) (pe_c c_law_tree (hr.mono (by omega)) (by rfl) (pa_cons (pv 0) (pa_cons (pv 1) (pa_cons (pv 2) (pa_cons (pv 3) (pa_cons (pe_op op_sub (pv 4) pe_int) pa_nil)))))))
    (pss_cons (ps_set (i := 16) sc_LawTree.nd rfl (.inl rfl) (pe_c c_law_tree (hr.mono (by omega)) (by rfl) (pa_cons (pv 0) (pa_cons (pv 1) (pa_cons (pv 2) (pa_cons (pe_op op_cat (pv 3) (pe_lst (pa_cons (pe_tup (pa_cons (pv 10) (pa_cons pe_str pa_nil))) (pa_cons (pe_tup (pa_cons (pv 13) (pa_cons pe_str pa_nil))) pa_nil)))) (pa_cons (pe_op op_sub (pv 4) pe_int) pa_nil)))))))
    (pss_one (ps_ret (pe_tup (pa_cons pe_str (pa_cons (pv 6) (pa_cons (pv 14) (pa_cons (pv 15) (pa_cons (pv 10) (pa_cons (pv 13) (pa_cons (pv 16) pa_nil))))))))))))))))))))))))), ?_⟩
  obtain ⟨wa, wb, wc, we, hw, hwe⟩ := g.way
  -- way[2] = way[2] - 1
  refine ⟨_, rfl, wy, _, _, _, rfl, rfl, .of hw, at2, _, _, rfl, rfl, _, rfl, wy, _, _, 2, rfl, rfl, hw, rfl, ?_⟩
  have hw1 : upd H wy (.lst ([V.int wa, V.int wb, V.int wc, V.ref pN, V.ref pH, V.int we].set 2 ((fun i j => V.int (i - j)) wc 1))) wy = some (.lst [.int wa, .int wb, .int (wc - 1), .ref pN, .ref pH, .int we]) := upd_same
  have f1w : Fr [wy] H (upd H wy (.lst ([V.int wa, V.int wb, V.int wc, V.ref pN, V.ref pH, V.int we].set 2 ((fun i j => V.int (i - j)) wc 1)))) := .wr hw mem1
  generalize upd H wy (.lst ([V.int wa, V.int wb, V.int wc, V.ref pN, V.ref pH, V.int we].set 2 ((fun i j => V.int (i - j)) wc 1))) = H1 at hw1 f1w
  have f1 : Fr [d, wy] H H1 := fr_w f1w
  have g1 : G d wy pN pH ns hs H1 := g.step f1 (g.dr.fr f1w (nmem1 g.dw)) ⟨_, _, _, _, hw1, hwe⟩
  -- if way[5] > 0 and ..: the other kind
  refine ⟨fun σ' H' => ∃ want' : Str, σ' = [some (.ref d), some (.ref wy), some (.str want'), some nr, some (.int z), none, none, none, none, none, none, none, none, none, none, none, none] ∧ G d wy pN pH ns hs H' ∧ Fr [d, wy] H H', ?_, ?_⟩
  · refine ⟨_, rfl, wy, _, _, _, rfl, rfl, .of hw1, atI_nat (j := 5) rfl, _, _, rfl, rfl, _, rfl, ite2 (fun c => ?_) (fun c => iteF ⟨want, rfl, g1, f1⟩)⟩
    have c' : 0 < we := of_decide_eq_true c
    refine ⟨_, rfl, _, rfl, wy, _, _, _, rfl, rfl, .of hw1, atI_nat (j := 5) rfl, d, _, rfl, g1.dr, by omega, hwe.2, fun r H2 r0 r1 dr2 f2 => ?_⟩
    have g2 := g1.drawn f2 dr2
    refine ⟨rfl, _, rfl, ite2 (fun c2 => ?_) (fun c2 => ⟨want, rfl, g2, f1.trans (fr_d f2)⟩)⟩
    refine ⟨by show 2 ≤ sizeLine; decide, fun l hl => ?_⟩
    have f3 : Fr [] H2 (upd H2 l (.lst [.str "n", .str "l"])) := .new hl
    refine ⟨_, rfl, rfl, .inr ⟨_, rfl, ?_⟩⟩
    have hl3 : upd H2 l (.lst [.str "n", .str "l"]) l = some (.lst [.str "n", .str "l"]) := upd_same
    by_cases hq : V.str want = V.str "n"
    · rw [decide_eq_true hq]
      exact ⟨l, _, _, _, rfl, rfl, .of hl3, at1, "l", rfl, g2.kept f3, (f1.trans (fr_d f2)).trans (fr_0 f3)⟩
    · rw [decide_eq_false hq]
      exact ⟨l, _, _, _, rfl, rfl, .of hl3, at0, "n", rfl, g2.kept f3, (f1.trans (fr_d f2)).trans (fr_0 f3)⟩
  rintro σ' H2 ⟨want', rfl, g2, f2⟩
  -- form
  refine ⟨_, rfl, d, _, rfl, g2.dr, by decide, by decide, fun form H3 r0 r1 dr3 f3 => ?_⟩
  have g3 := g2.drawn f3 dr3
  have f03 : Fr [d, wy] H H3 := f2.trans (fr_d f3)
  obtain ⟨va, vb, vc, ve, hw3, hve⟩ := g3.way
  dsimp only [gName]
  refine if_or3 (decide (z < 2)) (decide (vc < 1)) (decide (V.int form = V.int 0)) (fun R r => ⟨_, rfl, _, _, rfl, rfl, _, rfl, r⟩) (fun R r => ⟨_, rfl, wy, _, _, _, rfl, rfl, .of hw3, at2, _, _, rfl, rfl, _, rfl, r⟩) (fun R r => ⟨_, rfl, rfl, _, rfl, r⟩) (fun c => ?_) (fun c => ?_)
  · refine ⟨_, rfl, _, rfl, _, rfl, _, rfl, d, wy, pN, pH, ns, hs, want', nr, rfl, g3, (hn.fr f03).le (by omega), fun r t H4 rD rT g4 f4 => ?_⟩
    exact q r t H4 rD (rT.le (by omega)) g4 (f03.trans f4)
  have hz2 : ¬ z < 2 := fun h => c (by rw [decide_eq_true h] <;> rfl)
  have hn0 : 1 ≤ n := by omega
  have hn' := hn.fr f03
  -- form < 4
  refine ⟨_, rfl, _, _, rfl, rfl, _, rfl, ite2 (fun c => ?_) (fun c4 => ?_)⟩
  · refine ⟨_, rfl, _, rfl, _, rfl, _, rfl, _, rfl, d, wy, pN, pH, ns, hs, want', nr, z, m, rfl, by omega, hn0, g3, hn', by omega, fun r t H4 rD rT g4 f4 => ?_⟩
    exact q r t H4 rD rT g4 (f03.trans f4)
  refine ⟨_, rfl, _, _, rfl, rfl, _, rfl, ite2 (fun c => ?_) (fun c6 => ?_)⟩
  · refine ⟨_, rfl, _, rfl, _, rfl, _, rfl, _, rfl, d, wy, pN, pH, ns, hs, want', nr, z, m, rfl, by omega, hn0, g3, hn', by omega, fun r t H4 rD rT g4 f4 => ?_⟩
    exact q r t H4 rD rT g4 (f03.trans f4)
  -- place
  refine ⟨_, rfl, wy, va, vb, _, rfl, hw3, fun p H4 a' pl pc hp0 hp hw4 f4 => ?_⟩
  have g4 := g3.placed f4 hve hw4
  have f04 : Fr [d, wy] H H4 := f03.trans (fr_w f4)
  -- form == 6
  refine ⟨_, rfl, rfl, _, rfl, ite2 (fun c => ?_) (fun c7 => ?_)⟩
  · refine ⟨_, rfl, _, rfl, _, rfl, _, rfl, _, _, rfl, rfl, d, wy, pN, pH, ns, hs, _, nr, _, m, rfl, by omega, hn0, g4, hn.fr f04, by omega, fun v1 t1 H5 D1 T1 g5 f5 => ?_⟩
    have f05 := f04.trans f5
    refine ⟨_, rfl, _, rfl, _, rfl, _, rfl, _, rfl, _, _, rfl, rfl, d, wy, pN, pH, ns, hs, _, nr, _, m, rfl, by omega, hn0, g5, hn.fr f05, by omega, fun v2 t2 H6 D2 T2 g6 f6 => ?_⟩
    have f06 := f05.trans f6
    refine ⟨_, rfl, _, rfl, _, rfl, _, rfl, _, rfl, _, rfl, _, rfl, _, rfl, _, _, rfl, rfl, d, wy, pN, pH, ns, hs, _, nr, _, m, rfl, by omega, hn0, g6, hn.fr f06, by omega, fun v3 t3 H7 D3 T3 g7 f7 => ?_⟩
    refine ⟨by show 5 ≤ sizeLine; decide, fun y hy => ?_⟩
    have fy : Fr [] H7 (upd H7 y (.tup [.str "if", .ref p, v1, v2, v3])) := .new hy
    have hp7 := f7.tups _ _ (f6.tups _ _ (f5.tups _ _ hp))
    exact q (.ref y) (ifD (plD pl pc) t1 t2 t3) _ (.tup upd_same (.cons (.str _) (.cons (.tup (fy.tups _ _ hp7) (.cons (.int _) (.cons (.int _) .nil))) (.cons (fy.td (f7.td (f6.td D1))) (.cons (fy.td (f7.td D2)) (.cons (fy.td D3) .nil)))))) (.ite T1 T2 T3) (g7.kept fy) (f06.trans (f7.trans (fr_0 fy)))
  -- first, name
  obtain ⟨xa, xb, xc, xe, hw4', hxe⟩ := g4.way
  have hl8 : (ns.map V.str).length = 8 := by rw [List.length_map, g.ns8]
  refine ⟨_, rfl, _, rfl, wy, _, _, _, rfl, rfl, .of hw4', atI_nat (j := 3) rfl, pN, _, rfl, .inl (.of g4.pn), d, _, rfl, g4.dr, by omega, by omega, fun fi H5 r0' r1' dr5 f5 => ?_⟩
  have g5 := g4.drawn f5 dr5
  have f05 : Fr [d, wy] H H5 := f04.trans (fr_d f5)
  have hp5 := f5.tups _ _ hp
  have hw5 : H5 wy = some (.lst [.int xa, .int xb, .int xc, .ref pN, .ref pH, .int xe]) := f5.at hw4' (nmem1 g.dw.symm)
  rw [hl8] at r1'
  obtain ⟨x, hx, ex⟩ := strI_of (xs := ns) r0' (by rw [g.ns8]; exact r1')
  refine ⟨_, rfl, wy, _, _, _, rfl, rfl, .of hw5, atI_nat (j := 3) rfl, _, rfl, pN, _, _, _, rfl, rfl, .of g5.pn, ex, ?_⟩
  -- form == 7
  refine ⟨_, rfl, rfl, _, rfl, ite2 (fun c => ?_) (fun c8 => ?_)⟩
  · refine ⟨by show 2 ≤ sizeLine; decide, fun l hl => ?_⟩
    have f6 : Fr [] H5 (upd H5 l (.lst [.str "n", .str "l"])) := .new hl
    have g6 := g5.kept f6
    have nl := g5.new hl
    refine ⟨_, rfl, d, _, rfl, g6.dr, by decide, by decide, fun ki H7 k0 k1 dr7 f7 => ?_⟩
    have g7 := g6.drawn f7 dr7
    obtain ⟨kd, hkd, ek⟩ := strI_of (xs := ["n", "l"]) k0 (by simpa using k1)
    have h7l : H7 l = some (.lst ((["n", "l"] : List Str).map V.str)) := f7.at upd_same (nmem1 nl.1)
    refine ⟨l, _, _, _, rfl, rfl, .of h7l, ek, ?_⟩
    have f07 : Fr [d, wy] H H7 := f05.trans ((fr_0 f6).trans (fr_d f7))
    refine ⟨_, rfl, _, rfl, _, rfl, _, rfl, _, rfl, _, _, rfl, rfl, d, wy, pN, pH, ns, hs, _, nr, _, m, rfl, by omega, hn0, g7, hn.fr f07, by omega, fun v1 t1 H8 D1 T1 g8 f8 => ?_⟩
    have f08 := f07.trans f8
    obtain ⟨nl', us, rfl, hus, u1, u2, u3, u4⟩ := id hn
    refine ⟨_, rfl, _, rfl, _, rfl, _, rfl, _, rfl, _, rfl, _, rfl, _, rfl, _, rfl, by show 2 ≤ sizeLine; decide, fun a ha => ?_⟩
    have f9 : Fr [] H8 (upd H8 a (.tup [.str x, .str kd])) := .new ha
    refine ⟨by show 1 ≤ sizeLine; decide, fun b hb => ?_⟩
    have f10 : Fr [] (upd H8 a (.tup [.str x, .str kd])) (upd (upd H8 a (.tup [.str x, .str kd])) b (.lst [.ref a])) := .new hb
    have hus8 : (upd (upd H8 a (.tup [.str x, .str kd])) b (.lst [.ref a])) nl' = some (.lst us) := f10.at (f9.at (f08.at hus (nmem2 u1 u2)) (by simp)) (by simp)
    refine ⟨nl', b, _, _, rfl, rfl, hus8, upd_same, sz (by show us.length + 1 ≤ 1000000; omega), fun e he => ?_⟩
    have f11 : Fr [] (upd (upd H8 a (.tup [.str x, .str kd])) b (.lst [.ref a])) (upd (upd (upd H8 a (.tup [.str x, .str kd])) b (.lst [.ref a])) e (.lst (us ++ [.ref a]))) := .new he
    have f811 := f9.trans (f10.trans f11)
    have g11 := g8.kept f811
    have ne := (g8.kept (f9.trans f10)).new he
    have f011 := f08.trans (fr_0 f811)
    refine ⟨_, rfl, _, _, rfl, rfl, d, wy, pN, pH, ns, hs, _, _, _, m + 2, rfl, by omega, hn0, g11, near_cat f011 u3 u4 upd_same ne.1 ne.2 (fun u hu => ?_) (Nat.le_succ 1), by omega, fun v2 t2 H12 D2 T2 g12 f12 => ?_⟩
    · rw [List.mem_singleton.mp hu]
      exact ⟨a, x, kd, rfl, f11.tups _ _ (f10.tups _ _ upd_same), g.nsOk x hx⟩
    refine ⟨by show 5 ≤ sizeLine; decide, fun y hy => ?_⟩
    have fy : Fr [] H12 (upd H12 y (.tup [.str "let", .ref p, .str x, v1, v2])) := .new hy
    have hp12 := f12.tups _ _ (f811.tups _ _ (f8.tups _ _ (f7.tups _ _ (f6.tups _ _ hp5))))
    exact q (.ref y) (letD (plD pl pc) x t1 t2) _ (.tup upd_same (.cons (.str _) (.cons (.tup (fy.tups _ _ hp12) (.cons (.int _) (.cons (.int _) .nil))) (.cons (.str _) (.cons (fy.td (f12.td ((D1).mono f811.tups))) (.cons (fy.td D2) .nil)))))) (.lt (g.nsOk x hx) T1 T2) (g12.kept fy) (f011.trans (f12.trans (fr_0 fy)))
  -- tail
  refine ⟨_, rfl, wy, _, _, _, rfl, rfl, .of hw5, atI_nat (j := 3) rfl, _, rfl, _, _, rfl, rfl, _, rfl, _, rfl, wy, _, _, _, rfl, rfl, .of hw5, atI_nat (j := 3) rfl, pN, _, rfl, .inl (.of g5.pn), _, _, rfl, rfl, d, _, rfl, g5.dr, by omega, by omega, fun ti H6 q0 q1 dr6 f6 => ?_⟩
  have g6 := g5.drawn f6 dr6
  have f06 : Fr [d, wy] H H6 := f05.trans (fr_d f6)
  have hw6 := f6.at hw5 (nmem1 g.dw.symm)
  refine ⟨_, _, rfl, rfl, _, rfl, wy, _, _, _, rfl, rfl, .of hw6, atI_nat (j := 3) rfl, pN, _, rfl, .inl (.of g6.pn), _, _, rfl, rfl, (by show (0 : Int) < ((ns.map V.str).length : Int); omega), ?_⟩
  have e0 : 0 ≤ (fi + 1 + ti) % ((ns.map V.str).length : Int) := Int.emod_nonneg _ (by omega)
  have e1 : (fi + 1 + ti) % ((ns.map V.str).length : Int) < (ns.length : Int) := by
    have := Int.emod_lt_of_pos (fi + 1 + ti) (show (0 : Int) < ((ns.map V.str).length : Int) by omega)
    rw [List.length_map] at this ⊢
    exact this
  obtain ⟨y, hy, ey⟩ := strI_of (xs := ns) e0 e1
  refine ⟨pN, _, _, _, rfl, rfl, .of g6.pn, ey, ?_⟩
  -- what, empty
  refine ⟨_, rfl, _, rfl, _, rfl, _, rfl, _, _, rfl, rfl, d, wy, pN, pH, ns, hs, _, nr, _, m, rfl, by omega, hn0, g6, hn.fr f06, by omega, fun v1 t1 H7 D1 T1 g7 f7 => ?_⟩
  have f07 := f06.trans f7
  refine ⟨_, rfl, _, rfl, _, rfl, _, rfl, _, rfl, _, _, rfl, rfl, d, wy, pN, pH, ns, hs, _, nr, _, m, rfl, by omega, hn0, g7, hn.fr f07, by omega, fun v2 t2 H8 D2 T2 g8 f8 => ?_⟩
  have f08 := f07.trans f8
  obtain ⟨nl', us, rfl, hus, u1, u2, u3, u4⟩ := id hn
  refine ⟨_, rfl, _, rfl, _, rfl, _, rfl, _, rfl, by show 2 ≤ sizeLine; decide, fun a ha => ?_⟩
  have f9 : Fr [] H8 (upd H8 a (.tup [.str x, .str "n"])) := .new ha
  refine ⟨_, rfl, by show 2 ≤ sizeLine; decide, fun a2 ha2 => ?_⟩
  have f9' : Fr [] (upd H8 a (.tup [.str x, .str "n"])) (upd (upd H8 a (.tup [.str x, .str "n"])) a2 (.tup [.str y, .str "l"])) := .new ha2
  have ea : (upd (upd H8 a (.tup [.str x, .str "n"])) a2 (.tup [.str y, .str "l"])) a = some (.tup [.str x, .str "n"]) := f9'.tups _ _ upd_same
  have ea2 : (upd (upd H8 a (.tup [.str x, .str "n"])) a2 (.tup [.str y, .str "l"])) a2 = some (.tup [.str y, .str "l"]) := upd_same
  have f9b := f9.trans f9'
  generalize upd (upd H8 a (.tup [.str x, .str "n"])) a2 (.tup [.str y, .str "l"]) = H9 at f9b ea ea2
  refine ⟨by show 2 ≤ sizeLine; decide, fun b hb => ?_⟩
  have f10 : Fr [] H9 (upd H9 b (.lst [.ref a, .ref a2])) := .new hb
  have hus8 : (upd H9 b (.lst [.ref a, .ref a2])) nl' = some (.lst us) := f10.at (f9b.at (f08.at hus (nmem2 u1 u2)) (by simp)) (by simp)
  refine ⟨nl', b, _, _, rfl, rfl, hus8, upd_same, sz (by show us.length + 2 ≤ 1000000; omega), fun e he => ?_⟩
  have f11 : Fr [] (upd H9 b (.lst [.ref a, .ref a2])) (upd (upd H9 b (.lst [.ref a, .ref a2])) e (.lst (us ++ [.ref a, .ref a2]))) := .new he
  have f911 := f10.trans f11
  have f811 := f9b.trans f911
  have g11 := g8.kept f811
  have ne := (g8.kept (f9b.trans f10)).new he
  have f011 := f08.trans (fr_0 f811)
  refine ⟨_, rfl, _, _, rfl, rfl, d, wy, pN, pH, ns, hs, _, _, _, m + 2, rfl, by omega, hn0, g11, near_cat f011 u3 u4 upd_same ne.1 ne.2 (fun u hu => ?_) (Nat.le_refl 2), by omega, fun v3 t3 H12 D3 T3 g12 f12 => ?_⟩
  · rcases List.mem_cons.mp hu with z1 | z1
    · rw [z1]
      exact ⟨a, x, "n", rfl, f911.tups _ _ ea, g.nsOk x hx⟩
    · rw [List.mem_singleton.mp z1]
      exact ⟨a2, y, "l", rfl, f911.tups _ _ ea2, g.nsOk y hy⟩
  refine ⟨_, rfl, _, rfl, _, rfl, _, rfl, _, rfl, _, rfl, by show 7 ≤ sizeLine; decide, fun o ho => ?_⟩
  have fo : Fr [] H12 (upd H12 o (.tup [.str "case", .ref p, v1, v2, .str x, .str y, v3])) := .new ho
  have hp12 := f12.tups _ _ (f811.tups _ _ (f8.tups _ _ (f7.tups _ _ (f6.tups _ _ hp5))))
  exact q (.ref o) (caseD (plD pl pc) t1 t2 x y t3) _ (.tup upd_same (.cons (.str _) (.cons (.tup (fo.tups _ _ hp12) (.cons (.int _) (.cons (.int _) .nil))) (.cons (fo.td (f12.td ((f8.td D1).mono f811.tups))) (.cons (fo.td (f12.td (D2.mono f811.tups))) (.cons (.str _) (.cons (.str _) (.cons (fo.td D3) .nil)))))))) (.cas (g.nsOk x hx) (g.nsOk y hy) T1 T2 T3) (g12.kept fo) (f011.trans (f12.trans (fr_0 fo)))
end
end K10
namespace K10
open PySem PySem.Spec PyProof.Rows L2
open SX (S)
/-! ### how many stay -/
theorem sub_len : ∀ {l m : List Str}, l.Nodup → (∀ x ∈ l, x ∈ m) → l.length ≤ m.length
  | [], m, _, _ => Nat.zero_le _
  | a :: l, m, hd, h => by
    have ha : a ∈ m := h a List.mem_cons_self
    have h2 : ∀ x ∈ l, x ∈ m.erase a := fun x hx => by
      have nx : x ≠ a := fun e => (List.nodup_cons.mp hd).1 (by rw [← e]; exact hx)
      exact (List.mem_erase_of_ne nx).mpr (h x (List.mem_cons_of_mem _ hx))
    have ih := sub_len (List.nodup_cons.mp hd).2 h2
    rw [List.length_erase_of_mem ha] at ih
    have : 1 ≤ m.length := List.length_pos_of_mem ha
    rw [List.length_cons]
    omega
theorem filter_two (p : Str → Bool) : ∀ l : List Str, (l.filter p).length + (l.filter fun x => !p x).length = l.length
  | [] => rfl
  | a :: l => by
    have ih := filter_two p l
    cases h : p a <;> simp [List.filter_cons, h] <;> omega
theorem filter_len {l m : List Str} {p : Str → Bool} (hd : l.Nodup) (h : ∀ x ∈ l, p x = false → x ∈ m) : l.length ≤ (l.filter p).length + m.length := by
  have h1 := filter_two p l
  have h2 : (l.filter fun x => !p x).length ≤ m.length := sub_len (List.Pairwise.filter _ hd) fun x hx => by
    obtain ⟨h3, h4⟩ := List.mem_filter.mp hx
    exact h x h3 (by simpa using h4)
  omega
def keepF (nm : List Str) (x : Str) (y : Str) : Bool := !inV (.str y) (nm.map V.str) && !decide (V.str y = V.str x)
theorem inV_strs (y : Str) (nm : List Str) : inV (.str y) (nm.map V.str) = decide (y ∈ nm) := by
  unfold inV
  rw [List.any_map]
  cases h : decide (y ∈ nm) with
  | true =>
    refine List.any_eq_true.mpr ⟨y, of_decide_eq_true h, ?_⟩
    show (y == y) = true
    exact beq_self_eq_true y
  | false =>
    refine List.any_eq_false.mpr fun z hz e => ?_
    have e' : (z == y) = true := e
    rw [eq_of_beq e'] at hz
    exact of_decide_eq_false h hz
theorem fresh_len {ns nm : List Str} {x : Str} (hd : ns.Nodup) (h8 : ns.length = 8) (h3 : nm.length ≤ 3) : 2 ≤ (ns.filter (keepF nm x)).length := by
  have := filter_len (m := x :: nm) (p := keepF nm x) hd fun y _ hy => by
    unfold keepF at hy
    rw [inV_strs] at hy
    by_cases e1 : y ∈ nm
    · exact List.mem_cons_of_mem _ e1
    · rw [decide_eq_false e1] at hy
      by_cases e2 : V.str y = V.str x
      · injection e2 with e2
        rw [e2]
        exact List.mem_cons_self
      · rw [decide_eq_false e2] at hy
        cases hy
  rw [List.length_cons] at this
  omega
theorem take_filter {p : Str → Bool} {l : List Str} {i : Nat} {y : Str} (h : l[i]? = some y) : (l.take (i + 1)).filter p = (l.take i).filter p ++ if p y = true then [y] else [] := by
  rw [List.take_add_one, h, List.filter_append]
  cases hp : p y <;> simp [hp]
def spLoop : Sp := fun vs H Q _ => ∃ (d w pN pH t l kl : Addr) (ns : List Str) (hs : List V) (x : Str) (ks : List Str) (kd : Str) (nm : List Str), vs = [.ref d, .ref w, .ref t, .ref l] ∧ G d w pN pH ns hs H ∧
  H t = some (.tup [.str x, .ref kl, .str kd]) ∧ H kl = some (.lst (ks.map V.str)) ∧ kl ≠ d ∧ kl ≠ w ∧ Nm x ∧ H l = some (.lst (nm.map V.str)) ∧ l ≠ d ∧ l ≠ w ∧ nm.length = ks.length ∧ 1 ≤ nm.length ∧ nm.length ≤ 3 ∧ (∀ y ∈ nm, Nm y) ∧ Made 5 d w pN pH ns hs H Q
theorem sIx_neg1 {n d : Nat} (h : 1 ≤ n) : HT.sIx n d (some (-1)) = n - 1 := by
  show (if (-1 : Int) < 0 then ((-1 : Int) + (n : Int)).toNat else min (-1 : Int).toNat n) = n - 1
  rw [if_pos (by decide)]
  omega
theorem cut_last (xs : List V) (h : 1 ≤ xs.length) : cutV xs none (some (-1)) = xs.dropLast := by
  unfold cutV
  rw [HT.sIx_none, sIx_neg1 h, List.dropLast_eq_take]
  rfl
theorem TDs.dropLast {H : Hp} : ∀ {vs : List V} {ds : List PyData}, TDs H vs ds → TDs H vs.dropLast ds.dropLast
  | _, _, .nil => .nil
  | _, _, .cons h .nil => .nil
  | _, _, .cons h (.cons h2 t) => .cons h (TDs.dropLast (.cons h2 t))
theorem TDs.set0 {H : Hp} {v : V} {d : PyData} (hv : TD H v d) : ∀ {vs : List V} {ds : List PyData}, TDs H vs ds → TDs H (vs.set 0 v) (ds.set 0 d)
  | _, _, .nil => .nil
  | _, _, .cons _ t => .cons hv t
theorem tr_set0 {n : Nat} {ts : List PyData} {d : PyData} (h : ∀ t ∈ ts, Tr n t) (hd : Tr n d) : ∀ t ∈ ts.set 0 d, Tr n t := by
  cases ts with
  | nil => simp
  | cons a r =>
    intro t ht
    rcases List.mem_cons.mp ht with e | e
    · rw [e]
      exact hd
    · exact h t (List.mem_cons_of_mem _ e)
/-- the parts of a list of at least one -/
theorem tds_first {H : Hp} {n : Nat} {vs : List V} {ts : List PyData} (h : TDs H vs ts) (ht : ∀ t ∈ ts, Tr n t) (h1 : 1 ≤ vs.length) : ∃ v d, atI vs 0 = some v ∧ vs[0]? = some v ∧ TD H v d ∧ Tr n d := by
  cases h with
  | nil => cases h1
  | cons g1 g2 => exact ⟨_, _, at0, rfl, g1, ht _ List.mem_cons_self⟩
theorem tds_last {H : Hp} {n : Nat} {vs : List V} {ts : List PyData} (h : TDs H vs ts) (ht : ∀ t ∈ ts, Tr n t) (h1 : 1 ≤ vs.length) : ∃ v d, atI vs (-1) = some v ∧ TD H v d ∧ Tr n d := by
  have l := h.len
  obtain ⟨v, e1⟩ : ∃ v, vs[vs.length - 1]? = some v := ⟨_, List.getElem?_eq_getElem (by omega)⟩
  obtain ⟨d, e2, e3⟩ := h.getV e1
  refine ⟨v, d, ?_, e3, ht d (List.mem_of_getElem? e2)⟩
  unfold atI ixN
  rw [if_neg (by decide), if_pos (by omega)]
  show vs[((-1 : Int) + (vs.length : Int)).toNat]? = some v
  rw [show ((-1 : Int) + (vs.length : Int)).toNat = vs.length - 1 by omega]
  exact e1
section
variable {P : Program} {w : World} {K : PySem.W.Frag} {mg : Str → Option Value} {base : Heap} {f : Addr} {fd : FuncData} {kA sA CL CR eA : Addr}
theorem sc_LawLoop : FnScope ["draws", "way", "head", "names", "fresh", "seen_d", "place", "one", "rest", "sign", "body", "again", "empty", "name"] ["draws", "way", "head", "names"] (defScope sLawLoop) := ⟨rfl, rfl, rfl, by decide +kernel, rfl, by decide +kernel, by decide +kernel⟩
theorem ok_loop (T : Facts K mg kA sA CL CR eA) (c_law_draw : Cal P w K mg base "_law_draw" 1 ["draws", "many"] spDraw) (c_law_place : Cal P w K mg base "_law_place" 1 ["way"] spPlace) (c_law_leaf : Cal P w K mg base "_law_leaf" 2 ["draws", "way", "want", "near"] spLeaf)
    (F : FnP K "_law_loop" "_law_loop" sLawLoop [] f fd) : FnOk P w K mg base CX0 3 f fd ["draws", "way", "head", "names"] spLoop := by
  refine F.ok sc_LawLoop (fun vs H Q E h => ?_) (fun cdv A outer s H vs Q E hr h => ?_)
  · obtain ⟨d, wy, pN, pH, t, l, kl, ns, hs, x, ks, kd, nm, rfl, _⟩ := h
    rfl
  obtain ⟨d, wy, pN, pH, t, l, kl, ns, hs, x, ks, kd, nm, rfl, g, ht, hkl, kd1, kd2, hx, hl, l1, l2, hlen, hn1, hn3, hnm, q⟩ := h
  refine ⟨_, PSs.nox (pss_cons (ps_setLc (i := 4) (own := [("name", 13)]) (by rfl) sc_LawLoop.nd rfl rfl (sw_true rfl rfl rfl (by decide +kernel)) (piL K (pe_ix (ixL K) (pv 1) pe_int (fun _ _ => rfl))) (blkOk_by (N := ["draws", "way", "head", "names", "fresh", "seen_d", "place", "one", "rest", "sign", "body", "again", "empty", "name"]) (sc := defScope sLawLoop) (by decide +kernel)) (fun _ _ _ _ _ => (pg_name (i := 13) sc_LawLoop.nd rfl (.inl rfl))) (fun _ _ _ _ _ => (pts_one (PW.pt (pw_and (pt_cmpR (opNin K) (pv 13) (pv 3) (by rfl)) (pw_and1 (pt_cmpR op_ne (pv 13) (pe_ix (ixT K) (pv 2) pe_int (fun _ _ => rfl)) (nomark _))))))) (fun _ _ _ _ _ => (pv 13)))
    (pss_cons (ps_setLc (i := 5) (own := [("name", 13)]) (by rfl) sc_LawLoop.nd rfl rfl (sw_true rfl rfl rfl (by decide +kernel)) (piL K (pv 3)) (blkOk_by (N := ["draws", "way", "head", "names", "fresh", "seen_d", "place", "one", "rest", "sign", "body", "again", "empty", "name"]) (sc := defScope sLawLoop) (by decide +kernel)) (fun _ _ _ _ _ => (pg_name (i := 13) sc_LawLoop.nd rfl (.inl rfl))) (fun _ _ _ _ _ => pts_nil) (fun _ _ _ _ _ => (pe_tup (pa_cons pe_str (pa_cons (pe_c c_law_place (hr.mono (by omega)) (by rfl) (pa_cons (pv 1) pa_nil)) (pa_cons (pv 13) (pa_cons (pe_tup pa_nil) pa_nil)))))))
    (pss_cons (ps_set (i := 6) sc_LawLoop.nd rfl (.inl rfl) (pe_c c_law_place (hr.mono (by omega)) (by rfl) (pa_cons (pv 1) pa_nil)))
    (pss_cons (ps_set (i := 7) sc_LawLoop.nd rfl (.inl rfl) (pe_tup (pa_cons pe_str (pa_cons (pe_c c_law_place (hr.mono (by omega)) (by rfl) (pa_cons (pv 1) pa_nil)) (pa_cons (pe_ix (ixL K) (pv 4) pe_int (fun _ _ => rfl)) (pa_cons (pe_tup pa_nil) pa_nil))))))
    (pss_cons (ps_set (i := 8) sc_LawLoop.nd rfl (.inl rfl) (pe_op op_cat (pe_slice (slL K) (pv 5) po_none (po_some (pe_un un_neg pe_int))) (pe_lst (pa_cons (pe_tup (pa_cons pe_str (pa_cons (pe_c c_law_place (hr.mono (by omega)) (by rfl) (pa_cons (pv 1) pa_nil)) (pa_cons (pe_ix (ixL K) (pv 4) pe_int (fun _ _ => rfl)) (pa_cons (pe_tup pa_nil) pa_nil))))) pa_nil))))
    (Evl.pss_cut (ps_if (PW.pt (pw_and (pt_cmpR op_gt (pe_callB (clLen K) (by rfl) T.f_len boot_len (pa_cons (pv 3) pa_nil)) pe_int (nomark _)) (pw_and (pt_cmpR op_eq (pe_ix (ixL K) (pe_ix (ixT K) (pv 2) pe_int (fun _ _ => rfl)) pe_int (fun _ _ => rfl)) (pe_ix (ixT K) (pv 2) pe_int (fun _ _ => rfl)) (nomark _)) (pw_and1 (pt_cmpR op_eq (pe_c c_law_draw (hr.mono (by omega)) (by rfl) (pa_cons (pv 0) (pa_cons pe_int pa_nil))) pe_int (nomark _))))))
    (pss_cons (ps_set (i := 9) sc_LawLoop.nd rfl (.inl rfl) (pe_ix (ixL K) (pe_lst (pa_cons pe_str (pa_cons pe_str (pa_cons pe_str pa_nil)))) (pe_op op_mul (pe_callTy call_int1 (by rfl) T.f_int boot_int (pa_cons (pe_cmpR op_eq (pe_ix (ixT K) (pv 2) pe_int (fun _ _ => rfl)) pe_str (nomark _)) pa_nil)) (pe_op op_add pe_int (pe_c c_law_draw (hr.mono (by omega)) (by rfl) (pa_cons (pv 0) (pa_cons pe_int pa_nil))))) (fun _ _ => rfl)))
      (pss_cons (ps_asg (pe_tup (pa_cons pe_str (pa_cons (pe_c c_law_place (hr.mono (by omega)) (by rfl) (pa_cons (pv 1) pa_nil)) (pa_cons (pv 9) (pa_cons (pv 7) (pa_cons (pe_ix (ixL K) (pv 8) pe_int (fun _ _ => rfl)) pa_nil)))))) (pg_sub (pv 8) pe_int set_list))
      (pss_cons (ps_set (i := 10) sc_LawLoop.nd rfl (.inl rfl) (pe_tup (pa_cons pe_str (pa_cons (pe_c c_law_place (hr.mono (by omega)) (by rfl) (pa_cons (pv 1) pa_nil)) (pa_cons (pe_ix (ixT K) (pv 2) pe_int (fun _ _ => rfl)) (pa_cons (pe_callTy (clTup K) (by rfl) T.f_tuple boot_tuple (pa_cons (pv 8) pa_nil)) pa_nil))))))
      (pss_one (ps_ret (pe_tup (pa_cons pe_str (pa_cons (pv 6) (pa_cons (pe_ix (ixL K) (pv 5) (pe_un un_neg pe_int) (fun _ _ => rfl)) (pa_cons (pe_ix (ixL K) (pv 5) pe_int (fun _ _ => rfl)) (pa_cons (pe_ix (ixL K) (pv 4) pe_int (fun _ _ => rfl)) (pa_cons (pe_ix (ixL K) (pv 4) pe_int (fun _ _ => rfl)) (pa_cons (pv 10) pa_nil)))))))))))))
    pss_nil)
    (pss_cons (ps_set (i := 11) sc_LawLoop.nd rfl (.inl rfl) (pe_tup (pa_cons pe_str (pa_cons (pe_c c_law_place (hr.mono (by omega)) (by rfl) (pa_cons (pv 1) pa_nil)) (pa_cons (pe_ix (ixT K) (pv 2) pe_int (fun _ _ => rfl)) (pa_cons (pe_callTy (clTup K) (by rfl) T.f_tuple boot_tuple (pa_cons (pv 8) pa_nil)) pa_nil))))))
    (pss_cons (ps_set (i := 9) sc_LawLoop.nd rfl (.inl rfl) (pe_ix (ixL K) (pe_lst (pa_cons pe_str (pa_cons pe_str (pa_cons pe_str (pa_cons pe_str pa_nil))))) (pe_op op_mul (pe_callTy call_int1 (by rfl) T.f_int boot_int (pa_cons (pe_cmpR op_eq (pe_ix (ixT K) (pv 2) pe_int (fun _ _ => rfl)) pe_str (nomark _)) pa_nil)) (pe_op op_add pe_int (pe_c c_law_draw (hr.mono (by omega)) (by rfl) (pa_cons (pv 0) (pa_cons pe_int pa_nil))))) (fun _ _ => rfl)))
    (pss_cons (ps_set (i := 12) sc_LawLoop.nd rfl (.inl rfl) (pe_c c_law_leaf (hr.mono (by omega)) (by rfl) (pa_cons (pv 0) (pa_cons (pv 1) (pa_cons (pe_ix (ixT K) (pv 2) pe_int (fun _ _ => rfl)) (pa_cons (pe_lst pa_nil) pa_nil))))))
    (pss_one (ps_ret (pe_tup (pa_cons pe_str (pa_cons (pv 6) (pa_cons (pe_ix (ixL K) (pv 5) (pe_un un_neg pe_int) (fun _ _ => rfl)) (pa_cons (pv 12) (pa_cons (pe_ix (ixL K) (pv 4) pe_int (fun _ _ => rfl)) (pa_cons (pe_ix (ixL K) (pv 4) pe_int (fun _ _ => rfl)) (pa_cons (pe_tup (pa_cons pe_str (pa_cons (pe_c c_law_place (hr.mono (by omega)) (by rfl) (pa_cons (pv 1) pa_nil)) (pa_cons (pv 9) (pa_cons (pv 7) (pa_cons (pv 11) pa_nil)))))) pa_nil))))))))))))))))))), ?_⟩
  obtain ⟨wa, wb, wc, we, hw, hwe⟩ := g.way
  -- fresh
  refine ⟨_, rfl, wy, _, _, _, rfl, rfl, .of hw, atI_nat (j := 3) rfl, pN, rfl, ⟨_, .of g.pn⟩, fun D1 hD1 => lc_it (walk_list (K := K) (a := pN) (xs := ns.map V.str)) (fun i H' => H' D1 = some (.lst (((ns.take i).filter (keepF nm x)).map V.str)) ∧ Fr [] H H') ⟨upd_same, .new hD1⟩ (fun i H' _ ⟨_, fr⟩ => .of (fr.at g.pn (by simp))) ?_ ?_⟩
  · rintro i y H2 H3 hi ⟨a1, a2⟩ ⟨rfl, hy⟩
    rw [List.length_map] at hi
    rw [List.getElem?_map, List.getElem?_eq_getElem hi] at hy
    cases hy
    have ei : ns[i]? = some ns[i] := List.getElem?_eq_getElem hi
    have lz : ((ns.take i).filter (keepF nm x)).length < 1000000 := by
      have h1 := List.length_filter_le (keepF nm x) (ns.take i)
      rw [List.length_take] at h1
      have := g.ns8
      omega
    refine ⟨rfl, ?_⟩
    refine ⟨_, rfl, _, rfl, l, _, rfl, .inl (.of (a2.at hl (by simp))), rfl, flat_strs nm, _, rfl, ite2 (fun c => ?_) (fun c => ?_)⟩
    · have c1 : (!inV (.str ns[i]) (nm.map V.str)) = true := c
      refine ⟨_, rfl, _, rfl, t, _, _, _, rfl, rfl, .of (a2.tups _ _ ht), at0, rfl, _, rfl, ite2 (fun c2 => ?_) (fun c2 => ?_)⟩
      · have e : keepF nm x ns[i] = true := by
          unfold keepF
          rw [c1, c2] <;> rfl
        refine ⟨_, rfl, _, a1, by rw [List.length_map]; exact szl lz, ?_, a2.put hD1⟩
        rw [upd_same, take_filter ei, if_pos e, List.map_append] <;> rfl
      · have e : ¬ keepF nm x ns[i] = true := fun z => by
          unfold keepF at z
          rw [c1] at z
          exact c2 z
        refine ⟨?_, a2⟩
        rw [take_filter ei, if_neg e, List.append_nil]
        exact a1
    · have e : ¬ keepF nm x ns[i] = true := fun z => by
        unfold keepF at z
        exact c (Bool.and_eq_true_iff.mp z).1
      refine iteF ⟨?_, a2⟩
      rw [take_filter ei, if_neg e, List.append_nil]
      exact a1
  rintro H1 ⟨a1, f1⟩
  rw [List.length_map, List.take_length] at a1
  have frl := fresh_len (x := x) g.nsNd g.ns8 hn3
  have frn : ∀ y ∈ ns.filter (keepF nm x), Nm y := fun y hy => g.nsOk y (List.mem_filter.mp hy).1
  obtain ⟨y0, y1, yr, ey⟩ : ∃ y0 y1 yr, ns.filter (keepF nm x) = y0 :: y1 :: yr := by
    cases h : ns.filter (keepF nm x) with
    | nil =>
      rw [h] at frl
      cases frl
    | cons a b => cases b with
      | nil =>
        rw [h] at frl
        exact absurd frl (by simp)
      | cons c d => exact ⟨a, c, d, rfl⟩
  rw [ey] at a1 frn
  have hy0 : Nm y0 := frn y0 List.mem_cons_self
  have hy1 : Nm y1 := frn y1 (List.mem_cons_of_mem _ List.mem_cons_self)
  have g1 := g.kept f1
  have nD1 := g.new hD1
  have f01 : Fr [d, wy] H H1 := fr_0 f1
  -- seen_d
  refine ⟨_, rfl, l, rfl, ⟨_, .of (f1.at hl (by simp))⟩, fun D2 hD2 => lc_it (walk_list (K := K) (a := l) (xs := nm.map V.str)) (fun i H' => ∃ (as : List V) (ts : List PyData), H' D2 = some (.lst as) ∧ TDs H' as ts ∧ (∀ t ∈ ts, Tr 1 t) ∧ as.length = i ∧ G d wy pN pH ns hs H' ∧ Fr [d, wy] H1 H') ⟨[], [], upd_same, .nil, by simp, rfl, g1.kept (.new hD2), .new hD2⟩ (fun i H' _ ⟨_, _, _, _, _, _, _, fr⟩ => .of (fr.at (f1.at hl (by simp)) (nmem2 l1 l2))) ?_ ?_⟩
  · rintro i y H2 H3 hi ⟨as, ts, b1, b2, b3, b4, b5, b6⟩ ⟨rfl, hy⟩
    rw [List.length_map] at hi
    rw [List.getElem?_map, List.getElem?_eq_getElem hi] at hy
    cases hy
    have nD2 := g1.new hD2
    refine ⟨rfl, ?_⟩
    refine yesI ?_
    obtain ⟨wa, wb, wc, we, hw, hwe⟩ := b5.way
    refine ⟨_, rfl, wy, _, _, _, rfl, hw, fun p H4 a' pl pc hp0 hp hw4 fw4 => ?_⟩
    have g4 := b5.placed fw4 hwe hw4
    have f4 : Fr [d, wy] H3 H4 := fr_w fw4
    refine ⟨_, rfl, by show 0 ≤ sizeLine; decide, fun u hu => ⟨by show 4 ≤ sizeLine; decide, fun z hz => ?_⟩⟩
    have f5 : Fr [] H4 (upd H4 u (.tup [])) := .new hu
    have f6 : Fr [] (upd H4 u (.tup [])) (upd (upd H4 u (.tup [])) z (.tup [.str "use", .ref p, .str nm[i], .ref u])) := .new hz
    have f46 := f5.trans f6
    have b1' := f46.at (f4.at b1 (nmem2 nD2.1 nD2.2)) (by simp)
    have fr := (b6.trans f4).trans (fr_0 f46)
    refine ⟨as, b1', szl (by omega), as ++ [.ref z], ts ++ [useD (plD pl pc) nm[i] []], upd_same, (((b2.mono f4.tups).mono f46.tups).snoc ?_).mono (Tp.wr b1'), fun t ht => ?_, by rw [List.length_append, b4] <;> rfl, g1.put fr (g4.kept f46) hD2, fr.put hD2⟩
    · exact .tup upd_same (.cons (.str _) (.cons (.tup (f46.tups _ _ hp) (.cons (.int _) (.cons (.int _) .nil))) (.cons (.str _) (.cons (.tup (f6.tups _ _ upd_same) .nil) .nil))))
    · rcases List.mem_append.mp ht with e | e
      · exact b3 t e
      · rw [List.mem_singleton.mp e]
        exact .use (hnm _ (List.getElem_mem hi)) (by decide) (by simp)
  rintro H2 ⟨as, ts, b1, b2, b3, b4, g2, f2⟩
  rw [List.length_map] at b4
  have nD2 := g1.new hD2
  have f02 : Fr [d, wy] H H2 := f01.trans f2
  have a2 : H2 D1 = some (.lst (V.str y0 :: V.str y1 :: yr.map V.str)) := f2.at a1 (nmem2 nD1.1 nD1.2)
  -- place, one
  obtain ⟨wa, wb, wc, we, hw, hwe⟩ := g2.way
  refine ⟨_, rfl, wy, _, _, _, rfl, hw, fun p H3 a' pl pc hp0 hp hw3 fw3 => ?_⟩
  have g3 := g2.placed fw3 hwe hw3
  have f3 : Fr [d, wy] H2 H3 := fr_w fw3
  obtain ⟨wa, wb, wc, we, hw, hwe⟩ := g3.way
  have a3 := f3.at a2 (nmem2 nD1.1 nD1.2)
  refine ⟨_, rfl, wy, _, _, _, rfl, hw, fun p2 H4 a2' pl2 pc2 hp20 hp2 hw4 fw4 => ?_⟩
  have g4 := g3.placed fw4 hwe hw4
  have f4 : Fr [d, wy] H3 H4 := fr_w fw4
  have a4 := f4.at a3 (nmem2 nD1.1 nD1.2)
  refine ⟨_, rfl, D1, _, _, _, rfl, rfl, .of a4, at0, by show 0 ≤ sizeLine; decide, fun u1 hu1 => ⟨by show 4 ≤ sizeLine; decide, fun o1 ho1 => ?_⟩⟩
  have f5a : Fr [] H4 (upd H4 u1 (.tup [])) := .new hu1
  have f5b : Fr [] (upd H4 u1 (.tup [])) (upd (upd H4 u1 (.tup [])) o1 (.tup [.str "use", .ref p2, .str y0, .ref u1])) := .new ho1
  have f5 := f5a.trans f5b
  have one : TD (upd (upd H4 u1 (.tup [])) o1 (.tup [.str "use", .ref p2, .str y0, .ref u1])) (.ref o1) (useD (plD pl2 pc2) y0 []) := .tup upd_same (.cons (.str _) (.cons (.tup (f5.tups _ _ hp2) (.cons (.int _) (.cons (.int _) .nil))) (.cons (.str _) (.cons (.tup (f5b.tups _ _ upd_same) .nil) .nil))))
  generalize upd (upd H4 u1 (.tup [])) o1 (.tup [.str "use", .ref p2, .str y0, .ref u1]) = H5 at f5 one
  have g5 := g4.kept f5
  have f25 : Fr [d, wy] H2 H5 := f3.trans (f4.trans (fr_0 f5))
  have b5 := f25.at b1 (nmem2 nD2.1 nD2.2)
  -- rest
  refine ⟨_, rfl, _, rfl, _, rfl, D2, as, rfl, .of b5, fun c1 hc1 => ?_⟩
  rw [cut_last as (by omega)]
  have f6 : Fr [] H5 (upd H5 c1 (.lst as.dropLast)) := .new hc1
  have g6 := g5.kept f6
  have hc6 : upd H5 c1 (.lst as.dropLast) c1 = some (.lst as.dropLast) := upd_same
  have nc1 := g5.new hc1
  obtain ⟨wa, wb, wc, we, hw, hwe⟩ := g6.way
  refine ⟨_, rfl, wy, _, _, _, rfl, hw, fun p3 H7 a3' pl3 pc3 hp30 hp3 hw7 fw7 => ?_⟩
  have g7 := g6.placed fw7 hwe hw7
  have f7 : Fr [d, wy] (upd H5 c1 (.lst as.dropLast)) H7 := fr_w fw7
  have f27 : Fr [d, wy] H2 H7 := f25.trans ((fr_0 f6).trans f7)
  have a7 := f27.at a2 (nmem2 nD1.1 nD1.2)
  have hc7 := f7.at hc6 (nmem2 nc1.1 nc1.2)
  refine ⟨_, rfl, D1, _, _, _, rfl, rfl, .of a7, at1, by show 0 ≤ sizeLine; decide, fun u2 hu2 => ⟨by show 4 ≤ sizeLine; decide, fun o2 ho2 => ?_⟩⟩
  have f8a : Fr [] H7 (upd H7 u2 (.tup [])) := .new hu2
  have f8b : Fr [] (upd H7 u2 (.tup [])) (upd (upd H7 u2 (.tup [])) o2 (.tup [.str "use", .ref p3, .str y1, .ref u2])) := .new ho2
  have f8 := f8a.trans f8b
  have two : TD (upd (upd H7 u2 (.tup [])) o2 (.tup [.str "use", .ref p3, .str y1, .ref u2])) (.ref o2) (useD (plD pl3 pc3) y1 []) := .tup upd_same (.cons (.str _) (.cons (.tup (f8.tups _ _ hp3) (.cons (.int _) (.cons (.int _) .nil))) (.cons (.str _) (.cons (.tup (f8b.tups _ _ upd_same) .nil) .nil))))
  generalize upd (upd H7 u2 (.tup [])) o2 (.tup [.str "use", .ref p3, .str y1, .ref u2]) = H8 at f8 two
  have g8 := g7.kept f8
  refine ⟨by show 1 ≤ sizeLine; decide, fun c2 hc2 => ?_⟩
  have f9 : Fr [] H8 (upd H8 c2 (.lst [.ref o2])) := .new hc2
  have hc9 : upd H8 c2 (.lst [.ref o2]) c1 = some (.lst as.dropLast) := f9.at (f8.at hc7 (by simp)) (by simp)
  refine ⟨c1, c2, _, _, rfl, rfl, hc9, upd_same, sz (by rw [List.length_dropLast]; show _ + 1 ≤ 1000000; omega), fun c3 hc3 => ?_⟩
  have f10 : Fr [] (upd H8 c2 (.lst [.ref o2])) (upd (upd H8 c2 (.lst [.ref o2])) c3 (.lst (as.dropLast ++ [.ref o2]))) := .new hc3
  have g9 := g8.kept f9
  have nc3 := g9.new hc3
  have f810 := f9.trans f10
  have hc10 : (upd (upd H8 c2 (.lst [.ref o2])) c3 (.lst (as.dropLast ++ [.ref o2]))) c3 = some (.lst (as.dropLast ++ [.ref o2])) := upd_same
  have two10 := f810.td two
  generalize (upd (upd H8 c2 (.lst [.ref o2])) c3 (.lst (as.dropLast ++ [.ref o2]))) = H10 at f10 f810 hc10 two10
  have g10 := g8.kept f810
  have f210 : Fr [d, wy] H2 H10 := f27.trans (fr_0 (f8.trans f810))
  have f510 : Fr [d, wy] H5 H10 := (fr_0 f6).trans (f7.trans (fr_0 (f8.trans f810)))
  have one10 := f510.td one
  have b10 := f210.at b1 (nmem2 nD2.1 nD2.2)
  have a10 := f210.at a2 (nmem2 nD1.1 nD1.2)
  have as10 := b2.mono f210.tups
  have f010 : Fr [d, wy] H H10 := f02.trans f210
  have hp10 : H10 p = some (.tup [.int pl, .int pc]) := f510.tups _ _ (f5.tups _ _ (f4.tups _ _ hp))
  have ht10 := f010.tups _ _ ht
  have hkl10 := f010.at hkl (nmem2 kd1 kd2)
  have hl10 := f010.at hl (nmem2 l1 l2)
  have rest10 : TDs H10 (as.dropLast ++ [.ref o2]) (ts.dropLast ++ [useD (plD pl3 pc3) y1 []]) := as10.dropLast.snoc two10
  have restT : ∀ t ∈ ts.dropLast ++ [useD (plD pl3 pc3) y1 []], Tr 1 t := fun t ht => by
    rcases List.mem_append.mp ht with e | e
    · exact b3 t (List.dropLast_subset _ e)
    · rw [List.mem_singleton.mp e]
      exact .use hy1 (by decide) (by simp)
  have rlen : (ts.dropLast ++ [useD (plD pl3 pc3) y1 []]).length = nm.length := by
    have := b2.len
    rw [List.length_append, List.length_dropLast]
    show _ + 1 = _
    omega
  have rlenV : (as.dropLast ++ [V.ref o2]).length = nm.length := by rw [rest10.len, rlen]
  generalize as.dropLast ++ [V.ref o2] = rs at hc10 rest10 rlenV
  generalize ts.dropLast ++ [useD (plD pl3 pc3) y1 []] = rt at rest10 restT rlen
  have oneT : Tr 1 (useD (plD pl2 pc2) y0 []) := .use hy0 (by decide) (by simp)
  obtain ⟨vl, dl, el, tdl, trl⟩ := tds_last as10 b3 (by omega)
  obtain ⟨vf, df, ef, _, tdf, trf⟩ := tds_first as10 b3 (by omega)
  have klen : (ks.map V.str).length = nm.length := by rw [List.length_map, hlen]
  -- the if
  refine ⟨fun σ' H' => σ' = [some (.ref d), some (.ref wy), some (.ref t), some (.ref l), some (.ref D1), some (.ref D2), some (.ref p), some (.ref o1), some (.ref c3), none, none, none, none, none] ∧ G d wy pN pH ns hs H' ∧ Fr [d, wy] H10 H', ?_, ?_⟩
  · refine ⟨_, rfl, l, _, rfl, .inl (.of hl10), _, _, rfl, rfl, _, rfl, ite2 (fun c => ?_) (fun c => iteF ⟨rfl, g10, Fr.refl _⟩)⟩
    obtain ⟨k0, ek0⟩ : ∃ k0 : Str, atI (ks.map V.str) 0 = some (.str k0) := by
      cases ks with
      | nil =>
        rw [List.length_nil] at hlen
        omega
      | cons a b => exact ⟨a, at0⟩
    refine ⟨_, rfl, t, _, _, _, rfl, rfl, .of ht10, at1, kl, _, _, _, rfl, rfl, .of hkl10, ek0, _, rfl, t, _, _, _, rfl, rfl, .of ht10, at2, rfl, _, rfl, ite2 (fun c2 => ?_) (fun c2 => iteF ⟨rfl, g10, Fr.refl _⟩)⟩
    refine ⟨_, rfl, d, _, rfl, g10.dr, by decide, by decide, fun r H11 r0 r1 dr11 f11 => ?_⟩
    have g11 := g10.drawn f11 dr11
    refine ⟨rfl, _, rfl, ite2 (fun c3' => ?_) (fun c3' => ⟨rfl, g11, fr_d f11⟩)⟩
    -- sign
    refine ⟨by show 3 ≤ sizeLine; decide, fun s1 hs1 => ?_⟩
    have f12 : Fr [] H11 (upd H11 s1 (.lst [.str ":", .str "+", .str "-"])) := .new hs1
    have g12 := g11.kept f12
    have ns1 := g11.new hs1
    have f1012 : Fr [d, wy] H10 (upd H11 s1 (.lst [.str ":", .str "+", .str "-"])) := (fr_d f11).trans (fr_0 f12)
    refine ⟨_, rfl, t, _, _, _, rfl, rfl, .of (f1012.tups _ _ ht10), at2, rfl, .inr ⟨_, rfl, ?_⟩⟩
    refine ⟨_, rfl, d, _, rfl, g12.dr, by decide, by decide, fun r' H13 q0 q1 dr13 f13 => ?_⟩
    have g13 := g12.drawn f13 dr13
    have hs13 : H13 s1 = some (.lst (([":", "+", "-"] : List Str).map V.str)) := f13.at upd_same (nmem1 ns1.1)
    refine ⟨_, _, rfl, rfl, _, _, rfl, rfl, .inl ⟨by split <;> decide, by split <;> decide⟩, ?_⟩
    obtain ⟨sg, hsg, esg⟩ := strI_of (xs := [":", "+", "-"]) (r := (if decide (V.str kd = V.str "n") = true then 1 else 0) * (1 + r')) (by split <;> omega) (by show _ < (3 : Int); split <;> omega)
    have hsg' : sg ∈ opsS := by
      simp only [List.mem_cons, List.not_mem_nil, or_false] at hsg
      rcases hsg with rfl | rfl | rfl <;> decide +kernel
    refine ⟨s1, _, _, _, rfl, rfl, .of hs13, esg, ?_⟩
    have f1013 : Fr [d, wy] H10 H13 := f1012.trans (fr_d f13)
    -- rest[0] = ..
    obtain ⟨wa, wb, wc, we, hw, hwe⟩ := g13.way
    refine ⟨_, rfl, wy, _, _, _, rfl, hw, fun p4 H14 a4' pl4 pc4 hp40 hp4 hw14 fw14 => ?_⟩
    have g14 := g13.placed fw14 hwe hw14
    have f14 : Fr [d, wy] H13 H14 := fr_w fw14
    have f1014 : Fr [d, wy] H10 H14 := f1013.trans f14
    have hc14 := f1014.at hc10 (nmem2 nc3.1 nc3.2)
    have rest14 := rest10.mono f1014.tups
    obtain ⟨v0, d0, ev0, ev0', td0, tr0⟩ := tds_first rest14 restT (by omega)
    refine ⟨_, rfl, _, rfl, _, rfl, c3, _, _, _, rfl, rfl, .of hc14, ev0, by show 5 ≤ sizeLine; decide, fun o4 ho4 => ?_⟩
    have f15 : Fr [] H14 (upd H14 o4 (.tup [.str "op", .ref p4, .str sg, .ref o1, v0])) := .new ho4
    have op15 : TD (upd H14 o4 (.tup [.str "op", .ref p4, .str sg, .ref o1, v0])) (.ref o4) (opD (plD pl4 pc4) sg (useD (plD pl2 pc2) y0 []) d0) := .tup upd_same (.cons (.str _) (.cons (.tup (f15.tups _ _ hp4) (.cons (.int _) (.cons (.int _) .nil))) (.cons (.str _) (.cons (f15.td (f1014.td one10)) (.cons (f15.td td0) .nil)))))
    have opT : Tr 2 (opD (plD pl4 pc4) sg (useD (plD pl2 pc2) y0 []) d0) := .op hsg' oneT tr0
    generalize upd H14 o4 (.tup [.str "op", .ref p4, .str sg, .ref o1, v0]) = H15 at f15 op15
    have g15 := g14.kept f15
    have hc15 := f15.at hc14 (by simp)
    refine ⟨_, rfl, c3, _, _, 0, rfl, rfl, hc15, Evl.ixN_nat (j := 0) (by omega), ?_⟩
    have f1015 : Fr [d, wy] H10 H15 := f1014.trans (fr_0 f15)
    have fn15 : Fr [d, wy] H2 H15 := f210.trans f1015
    have rest16 : TDs (upd H15 c3 (.lst (rs.set 0 (.ref o4)))) (rs.set 0 (.ref o4)) (rt.set 0 (opD (plD pl4 pc4) sg (useD (plD pl2 pc2) y0 []) d0)) := (TDs.set0 op15 (rest14.mono f15.tups)).mono (Tp.wr hc15)
    have rest16T : ∀ t ∈ rt.set 0 (opD (plD pl4 pc4) sg (useD (plD pl2 pc2) y0 []) d0), Tr 2 t := tr_set0 (fun t ht => (restT t ht).up) opT
    have hc2n : H2 c3 = none := by
      have h1 := (fr_0 (T := [d, wy]) f9).free hc3 (nmem2 nc3.1 nc3.2)
      have h2 := (fr_0 (T := [d, wy]) f8).free h1 (nmem2 nc3.1 nc3.2)
      exact f27.free h2 (nmem2 nc3.1 nc3.2)
    have g16 := g2.put (o := .lst (rs.set 0 (.ref o4))) fn15 g15 hc2n
    have f216 : Fr [d, wy] H2 (upd H15 c3 (.lst (rs.set 0 (.ref o4)))) := fn15.put hc2n
    have t16 : Tp H15 (upd H15 c3 (.lst (rs.set 0 (.ref o4)))) := Tp.wr hc15
    have hc16 : upd H15 c3 (.lst (rs.set 0 (.ref o4))) c3 = some (.lst (rs.set 0 (.ref o4))) := upd_same
    have hp16 := t16 _ _ (f1015.tups _ _ hp10)
    generalize upd H15 c3 (.lst (rs.set 0 (.ref o4))) = H16 at rest16 g16 f216 t16 hc16 hp16
    have ht16 := (f02.trans f216).tups _ _ ht
    -- body
    obtain ⟨wa, wb, wc, we, hw, hwe⟩ := g16.way
    refine ⟨_, rfl, wy, _, _, _, rfl, hw, fun p5 H17 a5' pl5 pc5 hp50 hp5 hw17 fw17 => ?_⟩
    have g17 := g16.placed fw17 hwe hw17
    have f17 : Fr [d, wy] H16 H17 := fr_w fw17
    refine ⟨_, rfl, t, _, _, _, rfl, rfl, .of (f17.tups _ _ ht16), at0, _, rfl, c3, _, rfl, .inl ⟨.of (f17.at hc16 (nmem2 nc3.1 nc3.2)), fun u5 hu5 => ⟨by show 4 ≤ sizeLine; decide, fun o5 ho5 => ?_⟩⟩⟩
    have f18a : Fr [] H17 (upd H17 u5 (.tup (rs.set 0 (.ref o4)))) := .new hu5
    have f18b : Fr [] (upd H17 u5 (.tup (rs.set 0 (.ref o4)))) (upd (upd H17 u5 (.tup (rs.set 0 (.ref o4)))) o5 (.tup [.str "use", .ref p5, .str x, .ref u5])) := .new ho5
    have f18 := f18a.trans f18b
    have bd : TD (upd (upd H17 u5 (.tup (rs.set 0 (.ref o4)))) o5 (.tup [.str "use", .ref p5, .str x, .ref u5])) (.ref o5) (useD (plD pl5 pc5) x (rt.set 0 (opD (plD pl4 pc4) sg (useD (plD pl2 pc2) y0 []) d0))) :=
      .tup upd_same (.cons (.str _) (.cons (.tup (f18.tups _ _ hp5) (.cons (.int _) (.cons (.int _) .nil))) (.cons (.str _) (.cons (.tup (f18b.tups _ _ upd_same) ((rest16.mono f17.tups).mono f18.tups)) .nil))))
    have bdT : Tr 3 (useD (plD pl5 pc5) x (rt.set 0 (opD (plD pl4 pc4) sg (useD (plD pl2 pc2) y0 []) d0))) := .use hx (by rw [List.length_set]; omega) rest16T
    generalize upd (upd H17 u5 (.tup (rs.set 0 (.ref o4)))) o5 (.tup [.str "use", .ref p5, .str x, .ref u5]) = H18 at f18 bd
    have g18 := g17.kept f18
    have f218 : Fr [d, wy] H2 H18 := f216.trans (f17.trans (fr_0 f18))
    have b18 := f218.at b1 (nmem2 nD2.1 nD2.2)
    have a18 := f218.at a2 (nmem2 nD1.1 nD1.2)
    have t1018 : Tp H10 H18 := fun b xs e => f18.tups _ _ (f17.tups _ _ (t16 _ _ (f1015.tups _ _ e)))
    refine ⟨_, rfl, _, rfl, _, rfl, D2, _, _, _, rfl, rfl, .of b18, el, _, rfl, D2, _, _, _, rfl, rfl, .of b18, ef, _, rfl, D1, _, _, _, rfl, rfl, .of a18, at0, _, rfl, D1, _, _, _, rfl, rfl, .of a18, at1, _, rfl, by show 7 ≤ sizeLine; decide, fun o6 ho6 => ?_⟩
    have fo : Fr [] H18 (upd H18 o6 (.tup [.str "case", .ref p, vl, vf, .str y0, .str y1, .ref o5])) := .new ho6
    refine q (.ref o6) (caseD (plD pl pc) dl df y0 y1 _) _ (.tup upd_same (.cons (.str _) (.cons (.tup (fo.tups _ _ (t1018 _ _ hp10)) (.cons (.int _) (.cons (.int _) .nil))) (.cons (fo.td (tdl.mono t1018)) (.cons (fo.td (tdf.mono t1018)) (.cons (.str _) (.cons (.str _) (.cons (fo.td bd) .nil)))))))) ?_ (g18.kept fo) (f02.trans (f218.trans (fr_0 fo)))
    exact Tr.up (.cas hy0 hy1 (trl.le (by decide)) (trf.le (by decide)) bdT)
  rintro σ' H11 ⟨rfl, g11, f11⟩
  have f211 : Fr [d, wy] H2 H11 := f210.trans f11
  -- again
  obtain ⟨wa, wb, wc, we, hw, hwe⟩ := g11.way
  refine ⟨_, rfl, wy, _, _, _, rfl, hw, fun p5 H12 a5' pl5 pc5 hp50 hp5 hw12 fw12 => ?_⟩
  have g12 := g11.placed fw12 hwe hw12
  have f12 : Fr [d, wy] H11 H12 := fr_w fw12
  have f1012 : Fr [d, wy] H10 H12 := f11.trans f12
  refine ⟨_, rfl, t, _, _, _, rfl, rfl, .of (f1012.tups _ _ ht10), at0, _, rfl, c3, _, rfl, .inl ⟨.of (f1012.at hc10 (nmem2 nc3.1 nc3.2)), fun u5 hu5 => ⟨by show 4 ≤ sizeLine; decide, fun o5 ho5 => ?_⟩⟩⟩
  have f13a : Fr [] H12 (upd H12 u5 (.tup rs)) := .new hu5
  have f13b : Fr [] (upd H12 u5 (.tup rs)) (upd (upd H12 u5 (.tup rs)) o5 (.tup [.str "use", .ref p5, .str x, .ref u5])) := .new ho5
  have f13 := f13a.trans f13b
  have ag : TD (upd (upd H12 u5 (.tup rs)) o5 (.tup [.str "use", .ref p5, .str x, .ref u5])) (.ref o5) (useD (plD pl5 pc5) x rt) :=
    .tup upd_same (.cons (.str _) (.cons (.tup (f13.tups _ _ hp5) (.cons (.int _) (.cons (.int _) .nil))) (.cons (.str _) (.cons (.tup (f13b.tups _ _ upd_same) ((rest10.mono f1012.tups).mono f13.tups)) .nil))))
  have agT : Tr 2 (useD (plD pl5 pc5) x rt) := .use hx (by omega) restT
  generalize upd (upd H12 u5 (.tup rs)) o5 (.tup [.str "use", .ref p5, .str x, .ref u5]) = H13 at f13 ag
  have g13 := g12.kept f13
  have f1013 : Fr [d, wy] H10 H13 := f1012.trans (fr_0 f13)
  -- sign
  refine ⟨by show 4 ≤ sizeLine; decide, fun s1 hs1 => ?_⟩
  have f14 : Fr [] H13 (upd H13 s1 (.lst [.str ":", .str "+", .str "-", .str "*"])) := .new hs1
  have g14 := g13.kept f14
  have ns1 := g13.new hs1
  refine ⟨_, rfl, t, _, _, _, rfl, rfl, .of (f14.tups _ _ (f1013.tups _ _ ht10)), at2, rfl, .inr ⟨_, rfl, ?_⟩⟩
  refine ⟨_, rfl, d, _, rfl, g14.dr, by decide, by decide, fun r' H15 q0 q1 dr15 f15 => ?_⟩
  have g15 := g14.drawn f15 dr15
  have hs15 : H15 s1 = some (.lst (([":", "+", "-", "*"] : List Str).map V.str)) := f15.at upd_same (nmem1 ns1.1)
  refine ⟨_, _, rfl, rfl, _, _, rfl, rfl, .inl ⟨by split <;> decide, by split <;> decide⟩, ?_⟩
  obtain ⟨sg, hsg, esg⟩ := strI_of (xs := [":", "+", "-", "*"]) (r := (if decide (V.str kd = V.str "n") = true then 1 else 0) * (1 + r')) (by split <;> omega) (by show _ < (4 : Int); split <;> omega)
  have hsg' : sg ∈ opsS := by
    simp only [List.mem_cons, List.not_mem_nil, or_false] at hsg
    rcases hsg with rfl | rfl | rfl | rfl <;> decide +kernel
  refine ⟨s1, _, _, _, rfl, rfl, .of hs15, esg, ?_⟩
  have f1315 : Fr [d, wy] H13 H15 := (fr_0 f14).trans (fr_d f15)
  have f1015 : Fr [d, wy] H10 H15 := f1013.trans f1315
  -- empty
  refine ⟨_, rfl, _, rfl, _, rfl, t, _, _, _, rfl, rfl, .of (f1015.tups _ _ ht10), at2, by show 0 ≤ sizeLine; decide, fun e1 he1 => ?_⟩
  have f16 : Fr [] H15 (upd H15 e1 (.lst [])) := .new he1
  have g16 := g15.kept f16
  have ne1 := g15.new he1
  refine ⟨d, wy, pN, pH, ns, hs, _, _, rfl, g16, ⟨e1, [], rfl, upd_same, ne1.1, ne1.2, by simp, by simp⟩, fun re te H17 tde tre g17 f17 => ?_⟩
  have f1017 : Fr [d, wy] H10 H17 := f1015.trans ((fr_0 f16).trans f17)
  have f217 : Fr [d, wy] H2 H17 := f210.trans f1017
  have b17 := f217.at b1 (nmem2 nD2.1 nD2.2)
  have a17 := f217.at a2 (nmem2 nD1.1 nD1.2)
  -- the case
  refine ⟨_, rfl, _, rfl, _, rfl, D2, _, _, _, rfl, rfl, .of b17, el, _, rfl, _, rfl, D1, _, _, _, rfl, rfl, .of a17, at0, _, rfl, D1, _, _, _, rfl, rfl, .of a17, at1, ?_⟩
  obtain ⟨wa, wb, wc, we, hw, hwe⟩ := g17.way
  refine ⟨_, rfl, wy, _, _, _, rfl, hw, fun p6 H18 a6' pl6 pc6 hp60 hp6 hw18 fw18 => ?_⟩
  have g18 := g17.placed fw18 hwe hw18
  have f18 : Fr [d, wy] H17 H18 := fr_w fw18
  have f1018 := f1017.trans f18
  refine ⟨_, rfl, _, rfl, _, rfl, by show 5 ≤ sizeLine; decide, fun o4 ho4 => ?_⟩
  have f19 : Fr [] H18 (upd H18 o4 (.tup [.str "op", .ref p6, .str sg, .ref o1, .ref o5])) := .new ho4
  have ag18 : TD H18 (.ref o5) (useD (plD pl5 pc5) x rt) := f18.td (f17.td (f16.td (f1315.td ag)))
  have op19 : TD (upd H18 o4 (.tup [.str "op", .ref p6, .str sg, .ref o1, .ref o5])) (.ref o4) (opD (plD pl6 pc6) sg (useD (plD pl2 pc2) y0 []) (useD (plD pl5 pc5) x rt)) := .tup upd_same (.cons (.str _) (.cons (.tup (f19.tups _ _ hp6) (.cons (.int _) (.cons (.int _) .nil))) (.cons (.str _) (.cons (f19.td (f1018.td one10)) (.cons (f19.td ag18) .nil)))))
  have opT : Tr 3 (opD (plD pl6 pc6) sg (useD (plD pl2 pc2) y0 []) (useD (plD pl5 pc5) x rt)) := .op hsg' oneT.up agT
  refine ⟨by show 7 ≤ sizeLine; decide, fun o6 ho6 => ?_⟩
  have fo : Fr [] (upd H18 o4 (.tup [.str "op", .ref p6, .str sg, .ref o1, .ref o5])) (upd (upd H18 o4 (.tup [.str "op", .ref p6, .str sg, .ref o1, .ref o5])) o6 (.tup [.str "case", .ref p, vl, re, .str y0, .str y1, .ref o4])) := .new ho6
  have f1819 := f19.trans fo
  refine q (.ref o6) (caseD (plD pl pc) dl te y0 y1 _) _ (.tup upd_same (.cons (.str _) (.cons (.tup (f1819.tups _ _ (f1018.tups _ _ hp10)) (.cons (.int _) (.cons (.int _) .nil))) (.cons (f1819.td (f1018.td tdl)) (.cons (f1819.td (f18.td tde)) (.cons (.str _) (.cons (.str _) (.cons (fo.td op19) .nil)))))))) ?_ (g18.kept f1819) (f02.trans (f210.trans (f1018.trans (fr_0 f1819))))
  exact Tr.up (.cas hy0 hy1 (trl.le (by decide)) (tre.le (by decide)) opT)
end
end K10
namespace K10
open PySem PySem.Spec PyProof.Rows L2
open SX (S)
def spMark : Sp := fun vs H Q _ => ∃ (pre post : List Nat) (k w : Str) (at_ l : Int), vs = [.str (S (pre ++ (w.cps.toList ++ post))), .int at_, .int l] ∧ at_ = (pre.length : Int) ∧ WordOk k w ∧ Behind k w post ∧ (pre ++ (w.cps.toList ++ post)).length ≤ 16770000 ∧
  ∀ (p : Addr) (H' : Hp), H' p = some (.tup [.str k, .str w, .int l, .int at_]) → Fr [] H H' → Q (.ref p) H'
theorem key_nm {w : Str} (h : Nm w) : decide (w ∈ keysS) = false := decide_eq_false h.2.2.2
section
variable {P : Program} {w : World} {K : PySem.W.Frag} {mg : Str → Option Value} {base : Heap} {f : Addr} {fd : FuncData} {kA sA CL CR eA : Addr}
theorem sc_MarkAt : FnScope ["row", "at", "line", "word", "sign"] ["row", "at", "line"] (defScope sMarkAt) := ⟨rfl, rfl, rfl, by decide +kernel, rfl, by decide +kernel, by decide +kernel⟩
theorem ok_markat (T : Facts K mg kA sA CL CR eA) (c_run_of : Cal P w K mg base "run_of" 1 ["row", "at", "signs"] spRun) (F : FnP K "mark_at" "mark_at" sMarkAt [] f fd) : FnOk P w K mg base CX0 2 f fd ["row", "at", "line"] spMark := by
  refine F.ok sc_MarkAt (fun vs H Q E h => ?_) (fun cdv A outer s H vs Q E hr h => ?_)
  · obtain ⟨pre, post, k, w, at_, l, rfl, _⟩ := h
    rfl
  obtain ⟨pre, post, k, wd, at_, l, rfl, rfl, hw, hb, hR, q⟩ := h
  refine ⟨_, PSs.nox (pss_cons (ps_set (i := 3) sc_MarkAt.nd rfl (.inl rfl) (pe_slice sl_str (pv 0) (po_some (pv 1)) (po_some (pe_c c_run_of (hr.mono (by omega)) (by rfl) (pa_cons (pv 0) (pa_cons (pv 1) (pa_cons (pe_g T.g_LETTERS (by rfl)) pa_nil)))))))
    (pss_cons (ps_if (pt_cmpR op_ne (pv 3) pe_str (nomark _))
    (pss_cons (ps_if (pt_cmpR op_gt (pe_callB call_len_str (by rfl) T.f_len boot_len (pa_cons (pv 3) pa_nil)) pe_int (nomark _))
      (pss_one ps_never)
      pss_nil)
      (pss_one (ps_ret (pe_tup (pa_cons (pe_ifExp (pt_cmpR (opIn K) (pv 3) (pe_g T.g_KEYS (by rfl)) (by rfl)) pe_str pe_str) (pa_cons (pv 3) (pa_cons (pv 2) (pa_cons (pv 1) pa_nil))))))))
    pss_nil)
    (pss_cons (ps_set (i := 3) sc_MarkAt.nd rfl (.inl rfl) (pe_slice sl_str (pv 0) (po_some (pv 1)) (po_some (pe_c c_run_of (hr.mono (by omega)) (by rfl) (pa_cons (pv 0) (pa_cons (pv 1) (pa_cons (pe_g T.g_FIGURES (by rfl)) pa_nil)))))))
    (pss_cons (ps_if (pt_cmpR op_ne (pv 3) pe_str (nomark _))
    (pss_cons (ps_if (PW.pt (pw_or (pt_cmpR op_gt (pe_callB call_len_str (by rfl) T.f_len boot_len (pa_cons (pv 3) pa_nil)) pe_int (nomark _)) (pw_or1 (PW.pt (pw_and (pt_cmpR op_gt (pe_callB call_len_str (by rfl) T.f_len boot_len (pa_cons (pv 3) pa_nil)) pe_int (nomark _)) (pw_and1 (pt_cmpR op_eq (pe_ix ix_str (pv 3) pe_int (fun _ _ => rfl)) pe_str (nomark _))))))))
      (pss_one ps_never)
      pss_nil)
      (pss_one (ps_ret (pe_tup (pa_cons pe_str (pa_cons (pv 3) (pa_cons (pv 2) (pa_cons (pv 1) pa_nil))))))))
    pss_nil)
    (pss_cons (ps_for PassesOwn.never rfl (piT K (pe_g T.g_SIGNS (by rfl))) (pg_name (i := 4) sc_MarkAt.nd rfl (.inl rfl))
    (pss_one (ps_if (pt_cmpR op_eq (pe_slice sl_str (pv 0) (po_some (pv 1)) (po_some (pe_op op_add (pv 1) (pe_callB call_len_str (by rfl) T.f_len boot_len (pa_cons (pv 4) pa_nil))))) (pv 4) (nomark _))
      (pss_one (ps_ret (pe_tup (pa_cons pe_str (pa_cons (pv 4) (pa_cons (pv 2) (pa_cons (pv 1) pa_nil)))))))
      pss_nil)))
    (pss_one ps_never)))))), ?_⟩
  have es : ("" : Str) = S [] := by decide +kernel
  have le : ("abcdefghijklmnopqrstuvwxyz" : Str).cps.toList = lettersC := by rw [letters_eq] <;> rfl
  have fe : ("0123456789" : Str).cps.toList = figuresC := by rw [figures_eq] <;> rfl
  have hn : pre.length ≤ (pre ++ (wd.cps.toList ++ post)).length := by rw [List.length_append]; omega
  have szR : (S (pre ++ (wd.cps.toList ++ post))).length ≤ sizeLine := by rw [SX.S_len]; exact szC hR
  have hdrop : (pre ++ (wd.cps.toList ++ post)).drop pre.length = wd.cps.toList ++ post := List.drop_left
  have wl := word_len hw
  obtain ⟨b0, r0, eb⟩ := word_first hw
  have cut : ∀ m : Nat, cutS (S (pre ++ (wd.cps.toList ++ post))) (some (pre.length : Int)) (some ((pre.length : Int) + (m : Int))) = S ((wd.cps.toList ++ post).take m) := fun m => by rw [cut_at _ _ _ hn, hdrop]
  have take_w : S ((wd.cps.toList ++ post).take wd.cps.toList.length) = wd := by rw [List.take_left, S_codes]
  have wne : decide (V.str wd = V.str "") = false := by
    refine decide_eq_false fun z => ?_
    injection z with z
    rw [z, es, SX.S_len] at wl
    exact absurd wl.1 (by decide)
  have ene : decide (V.str (S []) = V.str "") = true := by rw [es]; exact decide_eq_true rfl
  -- letters
  refine ⟨_, rfl, _, rfl, _, rfl, _, rfl, _, rfl, _, lettersC, _, pre.length, rfl, le, hn, hR, _, rfl, _, rfl, szR, ?_⟩
  rw [cut]
  by_cases hlet : isLet k
  · obtain ⟨a1, a2, a3⟩ := let_word hw hlet
    have hrun : runL (pre ++ (wd.cps.toList ++ post)) lettersC pre.length = wd.cps.toList.length := by
      unfold runL
      rw [hdrop]
      exact tw_all _ _ (fun x hx => decide_eq_true (mem_letters.mpr (a1 x hx))) fun x r e => decide_eq_false fun z => hb.lt hlet x r e (mem_letters.mp z)
    rw [hrun, take_w]
    refine ⟨_, rfl, rfl, _, rfl, ?_⟩
    rw [wne]
    refine iteT ?_
    refine ⟨_, rfl, _, rfl, szC (by omega), _, _, rfl, rfl, _, rfl, ?_⟩
    rw [decide_eq_false (by omega)]
    refine iteF ?_
    refine ⟨_, rfl, kA, _, rfl, .inr (T.keys H), rfl, by decide +kernel, _, rfl, ?_⟩
    rw [if_neg (by decide : ¬ false = true)]
    have hin : inV (.str wd) keysW = decide (wd ∈ keysS) := inV_strs wd keysS
    rw [hin]
    cases hw with
    | name h =>
      rw [key_nm h]
      exact iteF ⟨_, rfl, _, rfl, _, rfl, by show 4 ≤ sizeLine; decide, fun p hp => q p _ upd_same (.new hp)⟩
    | key h =>
      rw [decide_eq_true h]
      exact iteT ⟨_, rfl, _, rfl, _, rfl, by show 4 ≤ sizeLine; decide, fun p hp => q p _ upd_same (.new hp)⟩
    | number h => exact absurd hlet (by show ¬ (("number" : Str) = "name" ∨ ("number" : Str) = "key"); decide +kernel)
    | sign h => exact absurd hlet (by show ¬ (("sign" : Str) = "name" ∨ ("sign" : Str) = "key"); decide +kernel)
  · have nolet : ¬ (97 ≤ b0 ∧ b0 ≤ 122) := fun z => by
      have hm : b0 ∈ wd.cps.toList := by rw [eb]; exact List.mem_cons_self
      cases hw with
      | name _ => exact hlet (.inl rfl)
      | key _ => exact hlet (.inr rfl)
      | number h => have := (num_figures wd h).1 b0 hm; omega
      | sign h => exact ((sign_signs wd h).1 b0 hm).1 z
    have hrun : runL (pre ++ (wd.cps.toList ++ post)) lettersC pre.length = 0 := by
      unfold runL
      rw [hdrop, eb]
      exact tw_all [] _ (by simp) fun x r e => decide_eq_false fun z => by
        injection e with e1 _
        rw [← e1] at z
        exact nolet (mem_letters.mp z)
    rw [hrun]
    refine ⟨_, rfl, rfl, _, rfl, ?_⟩
    have e0 : (wd.cps.toList ++ post).take 0 = [] := rfl
    rw [e0, ene]
    refine iteF ?_
    -- figures
    refine ⟨_, rfl, _, rfl, _, rfl, _, rfl, _, rfl, _, figuresC, _, pre.length, rfl, fe, hn, hR, _, rfl, _, rfl, szR, ?_⟩
    rw [cut]
    by_cases hnum : k = "number"
    · have hnw : wd ∈ numsS := by
        cases hw with
        | name _ => exact absurd hnum (by decide +kernel)
        | key _ => exact absurd hnum (by decide +kernel)
        | number h => exact h
        | sign _ => exact absurd hnum (by decide +kernel)
      obtain ⟨a1, a2, a3, a4⟩ := num_figures wd hnw
      have hrun : runL (pre ++ (wd.cps.toList ++ post)) figuresC pre.length = wd.cps.toList.length := by
        unfold runL
        rw [hdrop]
        exact tw_all _ _ (fun x hx => decide_eq_true (mem_figures.mpr (a1 x hx))) fun x r e => decide_eq_false fun z => hb.num hnum x r e (mem_figures.mp z)
      rw [hrun, take_w]
      refine ⟨_, rfl, rfl, _, rfl, ?_⟩
      rw [wne]
      refine iteT ?_
      refine ⟨_, rfl, _, rfl, szC (by omega), _, _, rfl, rfl, _, rfl, ?_⟩
      rw [decide_eq_false (by omega)]
      refine iteF ?_
      refine ⟨_, rfl, _, rfl, szC (by omega), _, _, rfl, rfl, _, rfl, ite2 (fun h1 => ?_) (fun _ => iteF ?_)⟩
      · have h1' : (1 : Int) < (wd.length : Int) := of_decide_eq_true h1
        have h48 : b0 ≠ 48 := fun z => a4 (by omega) (by rw [eb, z] <;> rfl)
        have ez : ("0" : Str) = ⟨#[48]⟩ := by decide +kernel
        refine ⟨_, rfl, _, _, b0, rfl, rfl, szC (by omega), by rw [eb]; exact atI_nat (j := 0) rfl, rfl, _, rfl, ?_⟩
        rw [ez, decide_eq_false (by intro h; injection h with h; injection h with h; injection h with h; injection h with h; exact h48 h)]
        refine iteF ?_
        subst hnum
        exact ⟨_, rfl, _, rfl, _, rfl, by show 4 ≤ sizeLine; decide, fun p hp => q p _ upd_same (.new hp)⟩
      · subst hnum
        exact ⟨_, rfl, _, rfl, _, rfl, by show 4 ≤ sizeLine; decide, fun p hp => q p _ upd_same (.new hp)⟩
    · have hsg : wd ∈ signsS ∧ k = "sign" := by
        cases hw with
        | name _ => exact absurd (.inl rfl) hlet
        | key _ => exact absurd (.inr rfl) hlet
        | number _ => exact absurd rfl hnum
        | sign h => exact ⟨h, rfl⟩
      obtain ⟨hsg, rfl⟩ := hsg
      have hm : b0 ∈ wd.cps.toList := by rw [eb]; exact List.mem_cons_self
      have hrun : runL (pre ++ (wd.cps.toList ++ post)) figuresC pre.length = 0 := by
        unfold runL
        rw [hdrop, eb]
        exact tw_all [] _ (by simp) fun x r e => decide_eq_false fun z => by
          injection e with e1 _
          rw [← e1] at z
          exact ((sign_signs wd hsg).1 b0 hm).2.1 (mem_figures.mp z)
      rw [hrun]
      refine ⟨_, rfl, rfl, _, rfl, ?_⟩
      rw [e0, ene]
      refine iteF ?_
      obtain ⟨j, hj⟩ := List.mem_iff_getElem?.mp hsg
      have hj11 : j < signsS.length := (List.getElem?_eq_some_iff.mp hj).1
      have sgW : signsW = signsS.map V.str := rfl
      refine ⟨sA, rfl, ⟨_, T.signs H⟩, for_it (walk_tup (xs := signsW)) (fun i σ H' => H' = H ∧ i ≤ j ∧ ∃ y4, σ = [some (.str (S (pre ++ (wd.cps.toList ++ post)))), some (.int (pre.length : Int)), some (.int l), some (.str (S [])), y4]) ⟨rfl, Nat.zero_le _, none, rfl⟩ (fun i σ H' _ h => T.signs H') ?_ ?_⟩
      · rintro i x σ H1 H1' hi ⟨rfl, hij, y4, rfl⟩ ⟨rfl, hx⟩
        rw [sgW, List.getElem?_map] at hx
        obtain ⟨s, hs, rfl⟩ := Option.map_eq_some_iff.mp hx
        have hsm := List.mem_of_getElem? hs
        have sl := (sign_signs s hsm).2
        refine ⟨_, rfl, _, rfl, _, rfl, _, rfl, _, rfl, _, rfl, szC (by omega), _, _, rfl, rfl, _, rfl, _, rfl, szR, _, rfl, rfl, _, rfl, ?_⟩
        rw [cut]
        have eqd : decide (V.str (S ((wd.cps.toList ++ post).take s.length)) = V.str s) = sigAt s (wd.cps.toList ++ post) := by
          unfold sigAt
          by_cases h : (wd.cps.toList ++ post).take s.length = s.cps.toList
          · rw [decide_eq_true h, h, S_codes]
            exact decide_eq_true rfl
          · rw [decide_eq_false h]
            refine decide_eq_false fun z => h ?_
            injection z with z
            rw [← S_codes s] at z
            have := S_inj z
            rw [S_codes] at this
            exact this
        rw [eqd]
        by_cases e : i = j
        · subst e
          rw [hj] at hs
          cases hs
          rw [sig_hit]
          exact iteT ⟨_, rfl, _, rfl, _, rfl, by show 4 ≤ sizeLine; decide, fun p hp => q p _ upd_same (.new hp)⟩
        · rw [sig_miss hb i j s hj hs (by omega)]
          exact iteF ⟨rfl, by omega, _, rfl⟩
      · rintro σ H1 ⟨_, hj', _⟩
        have : signsW.length = signsS.length := rfl
        omega
end
end K10
namespace K10
open PySem PySem.Spec PyProof.Rows L2
open SX (S)
/-! ### the drawn names -/
def letC (i : Int) : Nat := lettersC.getD i.toNat 0
def baseF (st mo : List Nat) (fi sp : Int) (k : Nat) : List Nat := st ++ [letC ((fi + sp * (k : Int)) % 26)] ++ (List.replicate ((k : Int) % 2).toNat mo).flatten
def nmF (st mo : List Nat) (fi sp : Int) (k : Nat) : Str := S (baseF st mo fi sp k ++ (List.replicate (if decide (S (baseF st mo fi sp k) ∈ keysS) = true then 1 else 0) [113]).flatten)
def IsL (l : List Nat) : Prop := ∀ a ∈ l, 97 ≤ a ∧ a ≤ 122
theorem letC_ok {i : Int} (h0 : 0 ≤ i) (h1 : i < 26) : 97 ≤ letC i ∧ letC i ≤ 122 := by
  have h : i.toNat < lettersC.length := by show i.toNat < 26; omega
  unfold letC
  rw [List.getD_eq_getElem?_getD, List.getElem?_eq_getElem h]
  exact mem_letters.mp (List.getElem_mem h)
theorem isL_app {a b : List Nat} (h : IsL a) (h2 : IsL b) : IsL (a ++ b) := fun x hx => (List.mem_append.mp hx).elim (h x) (h2 x)
theorem isL_rep {a : List Nat} (h : IsL a) : ∀ n : Nat, IsL (List.replicate n a).flatten
  | 0 => by intro x hx; cases hx
  | n + 1 => by
    rw [List.replicate_succ, List.flatten_cons]
    exact isL_app h (isL_rep h n)
theorem base_isL {st mo : List Nat} {fi sp : Int} (h1 : IsL st) (h2 : IsL mo) (k : Nat) : IsL (baseF st mo fi sp k) := by
  unfold baseF
  refine isL_app (isL_app h1 fun a ha => ?_) (isL_rep h2 _)
  rw [List.mem_singleton.mp ha]
  exact letC_ok (Int.emod_nonneg _ (by decide)) (Int.emod_lt_of_pos _ (by decide))
theorem base_len {st mo : List Nat} {fi sp : Int} (h2 : mo.length ≤ 1) (k : Nat) : 1 + st.length ≤ (baseF st mo fi sp k).length ∧ (baseF st mo fi sp k).length ≤ st.length + 2 := by
  unfold baseF
  have e : ((k : Int) % 2).toNat = 0 ∨ ((k : Int) % 2).toNat = 1 := by omega
  rcases e with e | e
  · rw [e]
    simp
    omega
  · rw [e]
    simp
    omega
theorem keys_short : ∀ x ∈ keysS, x.cps.toList.length ≤ 4 := by decide +kernel
theorem keys_q : ∀ x ∈ keysS, S (x.cps.toList ++ [113]) ∉ keysS := by decide +kernel
theorem nm_ok {st mo : List Nat} {fi sp : Int} (h1 : IsL st) (h2 : IsL mo) (h3 : st.length ≤ 6) (h4 : mo.length ≤ 1) (k : Nat) : Nm (nmF st mo fi sp k) := by
  have hb := base_isL (fi := fi) (sp := sp) h1 h2 k
  have hl := base_len (st := st) (fi := fi) (sp := sp) h4 k
  unfold nmF
  by_cases c : S (baseF st mo fi sp k) ∈ keysS
  · rw [decide_eq_true c, if_pos rfl]
    have hs := keys_short _ c
    have hq := keys_q _ c
    have hs' : (baseF st mo fi sp k).length ≤ 4 := hs
    refine ⟨fun a ha => ?_, ?_, ?_, ?_⟩
    · have ha' : a ∈ baseF st mo fi sp k ++ (List.replicate 1 [113]).flatten := ha
      rcases List.mem_append.mp ha' with z | z
      · exact hb a z
      · have z' : a = 113 := by simpa using z
        omega
    · show 1 ≤ (S _).length
      rw [SX.S_len, List.length_append]
      omega
    · show (S _).length ≤ 8
      rw [SX.S_len, List.length_append]
      show _ + 1 ≤ 8
      omega
    · exact hq
  · rw [decide_eq_false c, if_neg (by decide)]
    show Nm (S (baseF st mo fi sp k ++ []))
    rw [List.append_nil]
    refine ⟨hb, ?_, ?_, c⟩
    · show 1 ≤ (S _).length
      rw [SX.S_len]
      omega
    · show (S _).length ≤ 8
      rw [SX.S_len]
      omega
def stepsI : List Int := [1, 3, 5, 7, 25, 23]
theorem let_apart : ∀ sp ∈ stepsI, ∀ f ∈ List.range 26, ∀ i ∈ List.range 8, ∀ j ∈ List.range 8, i ≠ j → letC (((f : Int) + sp * (i : Int)) % 26) ≠ letC (((f : Int) + sp * (j : Int)) % 26) := by decide +kernel
theorem nmF_at {st mo : List Nat} {fi sp : Int} (k : Nat) : (nmF st mo fi sp k).cps.toList[st.length]? = some (letC ((fi + sp * (k : Int)) % 26)) := by
  unfold nmF baseF
  show ((st ++ [_] ++ _) ++ _)[st.length]? = _
  rw [List.append_assoc, List.append_assoc, List.getElem?_append_right (Nat.le_refl _), Nat.sub_self] <;> rfl
theorem nmF_inj {st mo : List Nat} {fi sp : Int} (hs : sp ∈ stepsI) (h0 : 0 ≤ fi) (h1 : fi < 26) {i j : Nat} (hi : i < 8) (hj : j < 8) (h : i ≠ j) : nmF st mo fi sp i ≠ nmF st mo fi sp j := fun e => by
  have a := nmF_at (st := st) (mo := mo) (fi := fi) (sp := sp) i
  rw [e, nmF_at] at a
  have e2 : ((fi.toNat : Nat) : Int) = fi := by omega
  have z := let_apart sp hs fi.toNat (List.mem_range.mpr (by omega)) i (List.mem_range.mpr hi) j (List.mem_range.mpr hj) h
  rw [e2] at z
  exact z (Option.some.inj a).symm
theorem names_nodup {st mo : List Nat} {fi sp : Int} (hs : sp ∈ stepsI) (h0 : 0 ≤ fi) (h1 : fi < 26) : ((List.range 8).map (nmF st mo fi sp)).Nodup := by
  have key : ∀ l : List Nat, l.Nodup → (∀ x ∈ l, x < 8) → (l.map (nmF st mo fi sp)).Nodup := fun l => by
    induction l with
    | nil => intro _ _; exact List.nodup_nil
    | cons a r ih =>
      intro hd hl
      rw [List.map_cons]
      refine List.nodup_cons.mpr ⟨fun hm => ?_, ih (List.nodup_cons.mp hd).2 fun x hx => hl x (List.mem_cons_of_mem _ hx)⟩
      obtain ⟨b, hb, e⟩ := List.mem_map.mp hm
      have nb : b ≠ a := fun z => (List.nodup_cons.mp hd).1 (by rw [← z]; exact hb)
      exact nmF_inj hs h0 h1 (hl b (List.mem_cons_of_mem _ hb)) (hl a List.mem_cons_self) nb e
  exact key _ List.nodup_range fun x hx => List.mem_range.mp hx
theorem join_single : ∀ cs : List Nat, TL.joinL [] (cs.map fun c => [c]) = cs
  | [] => rfl
  | [a] => rfl
  | a :: b :: r => by
    have ih := join_single (b :: r)
    show [a] ++ ([] ++ TL.joinL [] ((b :: r).map fun c => [c])) = a :: b :: r
    rw [ih] <;> rfl
theorem join_strs (cs : List Nat) : Txt.join ("" : Str) (cs.map fun c => S [c]) = S cs := by
  have e : ("" : Str) = S [] := by decide +kernel
  have e2 : (cs.map fun c => S [c]) = (cs.map fun c => [c]).map S := by rw [List.map_map] <;> rfl
  rw [e, e2, SX.join_S, join_single]
def NamesOk (ns : List Str) : Prop := ns.length = 8 ∧ (∀ x ∈ ns, Nm x) ∧ ns.Nodup
def spNames : Sp := fun vs H Q _ => ∃ (d : Addr), vs = [.ref d, .int 8] ∧ Dr H d ∧ ∀ (p : Addr) (H' : Hp) (ns : List Str), H p = none → H' p = some (.lst (ns.map V.str)) → NamesOk ns → Dr H' d → Fr [d] H H' → Q (.ref p) H'
theorem letI_of {r : Int} (h0 : 0 ≤ r) (h1 : r < 26) : atI (("abcdefghijklmnopqrstuvwxyz" : Str).cps.toList) r = some (letC r) := by
  rw [letters_eq]
  have hr : r.toNat < lettersC.length := by show r.toNat < 26; omega
  have e : ((r.toNat : Nat) : Int) = r := by omega
  have z : atI lettersC ((r.toNat : Nat) : Int) = some lettersC[r.toNat] := atI_nat (List.getElem?_eq_getElem hr)
  rw [e] at z
  have z2 : letC r = lettersC[r.toNat] := by
    unfold letC
    rw [List.getD_eq_getElem?_getD, List.getElem?_eq_getElem hr] <;> rfl
  rw [z2]
  exact z
theorem Dr.ne {H : Hp} {d p : Addr} (h : Dr H d) (hp : H p = none) : p ≠ d := by
  obtain ⟨a, b, e, _⟩ := h
  exact (ne_of_none e hp).symm
section
variable {P : Program} {w : World} {K : PySem.W.Frag} {mg : Str → Option Value} {base : Heap} {f : Addr} {fd : FuncData} {kA sA CL CR eA : Addr}
theorem sc_LawNames : FnScope ["draws", "many", "letters", "stem", "first", "step", "more", "names", "k", "name"] ["draws", "many"] (defScope sLawNames) := ⟨rfl, rfl, rfl, by decide +kernel, rfl, by decide +kernel, by decide +kernel⟩
theorem ok_names (T : Facts K mg kA sA CL CR eA) (c_law_draw : Cal P w K mg base "_law_draw" 1 ["draws", "many"] spDraw) (c_law_keys : Cal P w K mg base "_law_keys" 1 [] spKeys) (F : FnP K "_law_names" "_law_names" sLawNames [] f fd) : FnOk P w K mg base CX0 2 f fd ["draws", "many"] spNames := by
  refine F.ok sc_LawNames (fun vs H Q E h => ?_) (fun cdv A outer s H vs Q E hr h => ?_)
  · obtain ⟨d, rfl, _⟩ := h
    rfl
  obtain ⟨d, rfl, dr, q⟩ := h
  refine ⟨_, PSs.nox (pss_cons (ps_set (i := 2) sc_LawNames.nd rfl (.inr rfl) pe_str)
    (pss_cons (ps_set (i := 3) sc_LawNames.nd rfl (.inl rfl) (pe_join pe_str (pe_lc (own := [("k", 8)]) (by rfl) sc_LawNames.nd (pi_range1 (by rfl) T.f_range (pa_cons (pe_ix (ixL K) (pe_lst (pa_cons pe_int (pa_cons pe_int (pa_cons pe_int (pa_cons pe_int pa_nil))))) (pe_c c_law_draw (hr.mono (by omega)) (by rfl) (pa_cons (pv 0) (pa_cons pe_int pa_nil))) (fun _ _ => rfl)) pa_nil)) (blkOk_by (N := ["draws", "many", "letters", "stem", "first", "step", "more", "names", "k", "name"]) (sc := defScope sLawNames) (by decide +kernel)) (fun _ _ _ _ _ => (pg_name (i := 8) sc_LawNames.nd rfl (.inl rfl))) (fun _ _ _ _ _ => pts_nil) (fun _ _ _ _ _ => (pe_ix ix_str (pv 2) (pe_c c_law_draw (hr.mono (by omega)) (by rfl) (pa_cons (pv 0) (pa_cons pe_int pa_nil))) (fun _ _ => rfl))))))
    (pss_cons (ps_set (i := 4) sc_LawNames.nd rfl (.inl rfl) (pe_c c_law_draw (hr.mono (by omega)) (by rfl) (pa_cons (pv 0) (pa_cons pe_int pa_nil))))
    (pss_cons (ps_set (i := 5) sc_LawNames.nd rfl (.inl rfl) (pe_ix (ixL K) (pe_lst (pa_cons pe_int (pa_cons pe_int (pa_cons pe_int (pa_cons pe_int (pa_cons pe_int (pa_cons pe_int pa_nil))))))) (pe_c c_law_draw (hr.mono (by omega)) (by rfl) (pa_cons (pv 0) (pa_cons pe_int pa_nil))) (fun _ _ => rfl)))
    (pss_cons (ps_set (i := 6) sc_LawNames.nd rfl (.inl rfl) (pe_ix (ixL K) (pe_lst (pa_cons pe_str (pa_cons pe_str (pa_cons (pe_ix ix_str (pv 2) (pv 4) (fun _ _ => rfl)) pa_nil)))) (pe_c c_law_draw (hr.mono (by omega)) (by rfl) (pa_cons (pv 0) (pa_cons pe_int pa_nil))) (fun _ _ => rfl)))
    (pss_cons (ps_set (i := 7) sc_LawNames.nd rfl (.inl rfl) (pe_lst pa_nil))
    (pss_cons (ps_for PassesOwn.never rfl (pi_range1 (by rfl) T.f_range (pa_cons (pv 1) pa_nil)) (pg_name (i := 8) sc_LawNames.nd rfl (.inl rfl))
    (pss_cons (ps_set (i := 9) sc_LawNames.nd rfl (.inl rfl) (pe_op op_add_str (pe_op op_add_str (pv 3) (pe_ix ix_str (pv 2) (pe_op op_mod (pe_op op_add (pv 4) (pe_op op_mul (pv 5) (pv 8))) pe_int) (fun _ _ => rfl))) (pe_op op_mulS (pv 6) (pe_op op_mod (pv 8) pe_int))))
      (pss_one (ps_expr (pe_bm PySem.F.plainAttrs_list PySem.F.slot_list_append PySem.F.type_list_append mt_append (pv 7) (pa_cons (pe_op op_add_str (pv 9) (pe_op op_mulS pe_str (pe_callTy call_int1 (by rfl) T.f_int boot_int (pa_cons (pe_cmpR (opIn K) (pv 9) (pe_c0 c_law_keys (hr.mono (by omega)) (by rfl)) (by rfl)) pa_nil)))) pa_nil))))))
    (pss_one (ps_ret (pv 7)))))))))), ?_⟩
  have zl : ("abcdefghijklmnopqrstuvwxyz" : Str).length ≤ sizeLine := by rw [letters_eq]; decide
  -- stem
  refine ⟨⟨_, rfl⟩, by show 4 ≤ sizeLine; decide, fun p1 hp1 => ?_⟩
  have f1 : Fr [] H (upd H p1 (.lst [.int 0, .int 1, .int 2, .int 6])) := .new hp1
  have dr1 := dr.fr f1 (by simp)
  refine ⟨_, rfl, d, _, rfl, dr1, by decide, by decide, fun r H2 r0 r1 dr2 f2 => ?_⟩
  have h2 : H2 p1 = some (.lst (([0, 1, 2, 6] : List Int).map V.int)) := f2.at upd_same (nmem1 (dr.ne hp1))
  obtain ⟨m, hm, em⟩ := numI_of (xs := [0, 1, 2, 6]) r0 (by simpa using r1)
  have hm' : 0 ≤ m ∧ m ≤ 6 := by
    simp only [List.mem_cons, List.not_mem_nil, or_false] at hm
    omega
  have f02 : Fr [d] H H2 := (fr_0 f1).trans f2
  refine ⟨p1, _, _, _, rfl, rfl, .of h2, em, m, rfl, by omega, by omega, fun D hD => lc_it (walk_range (lo := 0) (n := m.toNat)) (fun i H' => ∃ cs : List Nat, H' D = some (.lst (cs.map fun c => V.str (S [c]))) ∧ IsL cs ∧ cs.length = i ∧ Dr H' d ∧ Fr [d] H2 H') ⟨[], upd_same, (by intro x hx; cases hx), rfl, dr2.fr (T := []) (.new hD) (by simp), .new hD⟩ (fun _ _ _ _ => trivial) ?_ ?_⟩
  · rintro i x H3 H4 hi ⟨cs, a1, a2, a3, a4, a5⟩ ⟨rfl, rfl⟩
    refine ⟨rfl, ?_⟩
    refine yesI ?_
    refine ⟨_, rfl, _, rfl, d, _, rfl, a4, by decide, by decide, fun r' H5 q0 q1 dr5 f5 => ?_⟩
    have a1' := f5.at a1 (nmem1 (dr2.ne hD))
    have a1'' : H5 D = some (.lst (cs.map fun c => V.str (S [c]))) := a1'
    refine ⟨_, _, _, rfl, rfl, zl, letI_of q0 q1, _, a1'', szl (by rw [List.length_map]; omega), cs ++ [letC r'], by rw [upd_same, List.map_append] <;> rfl, isL_app a2 fun a ha => ?_, by rw [List.length_append, a3] <;> rfl, ?_, (a5.trans f5).put hD⟩
    · rw [List.mem_singleton.mp ha]
      exact letC_ok q0 q1
    · obtain ⟨x, y, e, h1, h2⟩ := dr5
      exact ⟨x, y, by rw [upd_ne (dr2.ne hD).symm]; exact e, h1, h2⟩
  rintro H3 ⟨st, a1, a2, a3, dr3, f3⟩
  have st6 : st.length ≤ 6 := by omega
  have a1' : H3 D = some (.lst ((st.map fun c => S [c]).map V.str)) := by rw [a1, List.map_map] <;> rfl
  refine ⟨_, D, st.map fun c => S [c], rfl, rfl, .inl (.of a1'), ?_, ?_⟩
  · have e : ((st.map fun c => S [c]).map (·.length)).sum ≤ 6 := by
      have : ∀ l : List Nat, ((l.map fun c => S [c]).map (·.length)).sum = l.length := fun l => by
        induction l with
        | nil => rfl
        | cons a r ih =>
          rw [List.map_cons, List.map_cons, List.sum_cons, ih, List.length_cons, SX.S_len]
          show 1 + r.length = r.length + 1
          omega
      rw [this]
      exact st6
    have e2 : ("" : Str).length = 0 := by decide +kernel
    rw [e2]
    omega
  rw [join_strs]
  have f03 := f02.trans f3
  -- first, step, more
  refine ⟨_, rfl, d, _, rfl, dr3, by decide, by decide, fun fi H4 i0 i1 dr4 f4 => ?_⟩
  refine ⟨by show 6 ≤ sizeLine; decide, fun p5 hp5 => ?_⟩
  have f5 : Fr [] H4 (upd H4 p5 (.lst [.int 1, .int 3, .int 5, .int 7, .int 25, .int 23])) := .new hp5
  have dr5 := dr4.fr f5 (by simp)
  refine ⟨_, rfl, d, _, rfl, dr5, by decide, by decide, fun r6 H6 s0 s1 dr6 f6 => ?_⟩
  have h6 : H6 p5 = some (.lst (stepsI.map V.int)) := f6.at upd_same (nmem1 (dr4.ne hp5))
  obtain ⟨sp, hsp, esp⟩ := numI_of (xs := stepsI) s0 (by exact s1)
  have hsp' : 1 ≤ sp ∧ sp ≤ 25 := by
    unfold stepsI at hsp
    simp only [List.mem_cons, List.not_mem_nil, or_false] at hsp
    omega
  refine ⟨p5, _, _, _, rfl, rfl, .of h6, esp, ?_⟩
  refine ⟨_, rfl, _, rfl, _, _, _, rfl, rfl, zl, letI_of i0 i1, by show 3 ≤ sizeLine; decide, fun p7 hp7 => ?_⟩
  have f7 : Fr [] H6 (upd H6 p7 (.lst [.str "", .str "z", .str ⟨#[letC fi]⟩])) := .new hp7
  have dr7 := dr6.fr f7 (by simp)
  refine ⟨_, rfl, d, _, rfl, dr7, by decide, by decide, fun r8 H8 t0 t1 dr8 f8 => ?_⟩
  have e0 : ("" : Str) = S [] := by decide +kernel
  have ez : ("z" : Str) = S [122] := by decide +kernel
  have h8 : H8 p7 = some (.lst ((([[], [122], [letC fi]] : List (List Nat)).map S).map V.str)) := by
    have z := f8.at upd_same (nmem1 (dr6.ne hp7))
    rw [z, e0, ez] <;> rfl
  obtain ⟨moS, hmo, emo⟩ := strI_of (xs := ([[], [122], [letC fi]] : List (List Nat)).map S) t0 (by exact t1)
  obtain ⟨mo, hmo', rfl⟩ := List.mem_map.mp hmo
  have hmL : IsL mo ∧ mo.length ≤ 1 := by
    simp only [List.mem_cons, List.not_mem_nil, or_false] at hmo'
    rcases hmo' with rfl | rfl | rfl
    · exact ⟨(by intro a ha; cases ha), by decide⟩
    · exact ⟨by intro a ha; rw [List.mem_singleton.mp ha]; decide, by decide⟩
    · exact ⟨by intro a ha; rw [List.mem_singleton.mp ha]; exact letC_ok i0 i1, Nat.le_refl 1⟩
  refine ⟨p7, _, _, _, rfl, rfl, .of h8, emo, ?_⟩
  have f08 : Fr [d] H H8 := f03.trans (f4.trans ((fr_0 f5).trans (f6.trans ((fr_0 f7).trans f8))))
  -- names
  refine ⟨by show 0 ≤ sizeLine; decide, fun p9 hp9 => ?_⟩
  have f9 : Fr [] H8 (upd H8 p9 (.lst [])) := .new hp9
  have hp9n : H p9 = none := f08.free hp9 (nmem1 (dr8.ne hp9))
  refine ⟨_, rfl, 8, rfl, by decide, by decide, for_range (n := 8) (fun i σ H' => ∃ y8 y9, σ = [some (.ref d), some (.int 8), some (.str "abcdefghijklmnopqrstuvwxyz"), some (.str (S st)), some (.int fi), some (.int sp), some (.str (S mo)), some (.ref p9), y8, y9] ∧ H' p9 = some (.lst (((List.range i).map (nmF st mo fi sp)).map V.str)) ∧ Dr H' d ∧ Fr [d] H H') ⟨none, none, rfl, upd_same, dr8.fr f9 (by simp), f08.trans (fr_0 f9)⟩ ?_ ?_⟩
  · rintro i σ H10 hi ⟨y8, y9, rfl, b1, b2, b3⟩
    have hk : (0 : Int) + (i : Int) = (i : Int) := Int.zero_add _
    rw [hk]
    have m0 := Int.emod_nonneg (fi + sp * (i : Int)) (show (26 : Int) ≠ 0 by decide)
    have m1 := Int.emod_lt_of_pos (fi + sp * (i : Int)) (show (0 : Int) < 26 by decide)
    refine ⟨_, rfl, _, rfl, _, rfl, _, rfl, _, rfl, _, _, rfl, rfl, .inl ⟨by omega, by omega⟩, _, _, rfl, rfl, _, _, rfl, rfl, (by show (0 : Int) < 26; decide), _, _, _, rfl, rfl, zl, letI_of m0 m1, _, _, rfl, rfl, ?_, ?_⟩
    · rw [SX.S_len]
      exact sz (by show st.length + 1 ≤ 1000000; omega)
    refine ⟨_, rfl, _, rfl, _, _, rfl, rfl, (by show (0 : Int) < 2; decide), S mo, (i : Int) % 2, rfl, rfl, by omega, by omega, by rw [SX.S_len]; omega, ?_⟩
    have ec : (⟨#[letC ((fi + sp * (i : Int)) % 26)]⟩ : Str) = S [letC ((fi + sp * (i : Int)) % 26)] := rfl
    rw [ec]
    have eb : (S st ++ S [letC ((fi + sp * (i : Int)) % 26)]) ++ S (List.replicate ((i : Int) % 2).toNat (S mo).cps.toList).flatten = S (baseF st mo fi sp i) := by
      rw [SX.S_cat, SX.S_cat] <;> rfl
    have bl := base_len (st := st) (fi := fi) (sp := sp) hmL.2 i
    refine ⟨_, _, rfl, rfl, ?_, ?_⟩
    · rw [SX.S_cat, SX.S_len, SX.S_len]
      have : (baseF st mo fi sp i).length = (st ++ [letC ((fi + sp * (i : Int)) % 26)]).length + (List.replicate ((i : Int) % 2).toNat (S mo).cps.toList).flatten.length := by
        unfold baseF
        rw [List.length_append]
      exact sz (by omega)
    rw [eb]
    refine ⟨_, rfl, .inl ⟨rfl, _, .of b1⟩, _, rfl, _, rfl, rfl, fun pk hpk => ?_⟩
    have fk : Fr [] H10 (upd H10 pk (.lst keysW)) := .new hpk
    refine ⟨pk, _, rfl, .inl (.of upd_same), rfl, rfl, .inr ⟨_, rfl, ?_⟩⟩
    have ein : inV (.str (S (baseF st mo fi sp i))) keysW = decide (S (baseF st mo fi sp i) ∈ keysS) := inV_strs _ keysS
    rw [if_neg (by decide : ¬ false = true), ein]
    have eq1 : ("q" : Str) = S [113] := by decide +kernel
    rw [eq1]
    refine ⟨S [113], _, rfl, rfl, by split <;> decide, by split <;> decide, by rw [SX.S_len]; decide, _, _, rfl, rfl, ?_, ?_⟩
    · rw [SX.S_len, SX.S_len]
      exact sz (by split <;> simp <;> omega)
    have b1' := fk.at b1 (by simp)
    refine ⟨p9, _, _, rfl, rfl, b1', szl (by rw [List.length_map, List.length_map, List.length_range]; omega), ?_⟩
    refine ⟨_, _, rfl, ?_, ?_, ?_⟩
    · rw [upd_same, List.range_succ, List.map_append, List.map_append, SX.S_cat]
      have et : (if decide (S (baseF st mo fi sp i) ∈ keysS) = true then (1 : Int) else 0).toNat = (if decide (S (baseF st mo fi sp i) ∈ keysS) = true then 1 else 0) := by split <;> rfl
      rw [et] <;> rfl
    · obtain ⟨x, y, e, h1, h2⟩ := b2
      have nd : d ≠ p9 := (dr8.ne hp9).symm
      exact ⟨x, y, by rw [upd_ne nd]; exact fk.at e (by simp), h1, h2⟩
    · exact (b3.trans (fr_0 fk)).put hp9n
  rintro σ H10 ⟨y8, y9, rfl, b1, b2, b3⟩
  exact ⟨_, rfl, q p9 H10 _ hp9n b1 ⟨by rw [List.length_map, List.length_range], fun x hx => by
    obtain ⟨k, _, rfl⟩ := List.mem_map.mp hx
    exact nm_ok a2 hmL.1 st6 hmL.2 k, names_nodup hsp i0 i1⟩ b2 b3⟩
end
end K10
namespace K10
open PySem PySem.Spec PyProof.Rows L2
theorem zip_no_len : typeLookup (.type "zip") "__len__" = pure none := am_miss_of_fast (by decide +kernel)
theorem zip_no_hint : typeLookup (.type "zip") "__length_hint__" = pure none := am_miss_of_fast (by decide +kernel)
structure ZSt (h : Heap) (z TI TO i1 i2 a b S : Addr) (i : Nat) (xs ys : Array Value) : Prop where
  hTI : IsPair h TI (.ref i1) (.ref i2)
  h1 : h.IsListIter i1 a i
  h2 : h.IsListIter i2 b i
  l1 : h.IsList a xs
  l2 : h.IsList b ys
  zz : (IsZip h z TI TO .none ∧ ∃ a b, IsPair h TO a b) ∨ ∃ T f oT, IsZipHeld h z TI TO T f ∧ h.get? T = some oT ∧ T ≠ z ∧ T ≠ i1 ∧ T ≠ i2 ∧ T ≠ S
theorem ZSt.keep {h h' : Heap} {z TI TO i1 i2 a b S : Addr} {i : Nat} {xs ys : Array Value} (x : ZSt h z TI TO i1 i2 a b S i xs ys) (n : z ≠ S ∧ TI ≠ S ∧ TO ≠ S ∧ i1 ≠ S ∧ i2 ≠ S ∧ a ≠ S ∧ b ≠ S) (hk : ∀ c o, c ≠ S → h.get? c = some o → h'.get? c = some o) : ZSt h' z TI TO i1 i2 a b S i xs ys := by
  obtain ⟨hTI, h1, h2, hl1, hl2, hz⟩ := x
  obtain ⟨n1, n2, n3, n4, n5, n6, n7⟩ := n
  refine ⟨hk _ _ n2 hTI, h1.at fun o e => hk _ o n4 e, h2.at fun o e => hk _ o n5 e, hl1.at fun o e => hk _ o n6 e, hl2.at fun o e => hk _ o n7 e, ?_⟩
  rcases hz with ⟨hz, a, b, hTO⟩ | ⟨T, f, oT, hz, hT, r1, r2, r3, r4⟩
  · exact .inl ⟨hk _ _ n1 hz, a, b, hk _ _ n3 hTO⟩
  · exact .inr ⟨T, f, oT, hk _ _ n1 hz, hk _ _ r4 hT, r1, r2, r3, r4⟩
section
variable {prog : Program} {w : World} {A : Around} {E : Value → Shared → Prop} {s : Shared} {z TI TO i1 i2 a b S : Addr} {i : Nat} {xs ys : Array Value}
theorem zst_item {x y : Value} {Q : Option Value → Shared → Prop} (D : ZipApart z TI TO i1 i2 a b) (st : ZSt s.heap z TI TO i1 i2 a b S i xs ys) (hS : S < s.heap.objs.size) (hx : xs[i]? = some x) (hy : ys[i]? = some y)
    (hQ : ∀ h', ZSt h' z TI TO i1 i2 a b S (i + 1) xs ys → IsPair h' s.heap.objs.size x y → (∀ c o, c ≠ z → c ≠ TO → c ≠ i1 → c ≠ i2 → s.heap.get? c = some o → h'.get? c = some o) → Q (some (.ref s.heap.objs.size)) { s with heap := h' }) :
    wpAny (model prog w) A (pyNext (.ref z)) Q E s := by
  obtain ⟨hTI, h1, h2, hl1, hl2, hz⟩ := st
  have lt : ∀ {c o}, s.heap.get? c = some o → s.heap.objs.size ≠ c := fun e => Nat.ne_of_gt (Heap.lt_size e)
  have n1 : s.heap.objs.size ≠ i1 := let ⟨_, e, _⟩ := h1; lt e
  have n2 : s.heap.objs.size ≠ i2 := let ⟨_, e, _⟩ := h2; lt e
  rcases hz with ⟨hz, a', b', hTO⟩ | ⟨T, f, oT, hz, hT, r1, r2, r3, r4⟩
  · refine wpAny_pyNext_zip_item D hz hTI hTO h1 h2 hl1 hl2 hx hy fun h' a1 a2 a3 a4 a5 a6 hk => ?_
    exact hQ h' ⟨hk _ _ D.TIz D.TITO D.TIi1 D.TIi2 hTI, a3, a4, hl1.at fun o e => hk _ o D.l1z D.l1TO D.l1i1 D.l1i2 e, hl2.at fun o e => hk _ o D.l2z D.l2TO D.l2i1 D.l2i2 e, .inr ⟨s.heap.objs.size, false, _, a1, a5, lt hz, n1, n2, Nat.ne_of_gt hS⟩⟩ a5 hk
  · refine wpAny_pyNext_zip_item_held D hz hT hTI h1 h2 hl1 hl2 hx hy fun h' a1 a3 a4 a5 a6 hk => ?_
    exact hQ h' ⟨hk _ _ D.TIz D.TIi1 D.TIi2 hTI, a3, a4, hl1.at fun o e => hk _ o D.l1z D.l1i1 D.l1i2 e, hl2.at fun o e => hk _ o D.l2z D.l2i1 D.l2i2 e, .inr ⟨T, true, oT, a1, hk _ _ r1 r2 r3 hT, r1, r2, r3, r4⟩⟩ a5 fun c o c1 _ c3 c4 e => hk c o c1 c3 c4 e
theorem zst_done {Q : Option Value → Shared → Prop} (hh : A.handled = none) (D : ZipApart z TI TO i1 i2 a b) (st : ZSt s.heap z TI TO i1 i2 a b S i xs ys) (hend : xs[i]? = none ∨ ys[i]? = none)
    (hQ : ∀ h', (∀ c o, c ≠ z → c ≠ TO → c ≠ i1 → c ≠ i2 → s.heap.get? c = some o → h'.get? c = some o) → Q none { s with heap := h' }) :
    wpAny (model prog w) A (pyNext (.ref z)) Q E s := by
  obtain ⟨hTI, h1, h2, hl1, hl2, hz⟩ := st
  rcases hz with ⟨hz, a', b', hTO⟩ | ⟨T, f, oT, hz, hT, r1, r2, r3, r4⟩
  · exact wpAny_pyNext_zip_end hh D hz hTI hTO h1 h2 hl1 hl2 hend fun h' hk => hQ h' hk
  · exact wpAny_pyNext_zip_end_held hh D hz hT hTI h1 h2 hl1 hl2 hend fun h' hk => hQ h' fun c o c1 _ c3 c4 e => hk c o c1 c3 c4 e
end
open PySem.W (KdxG)
section
variable {prog : Program} {w : World} {K : Type} [DecidableEq K] {knd : KeyKind prog w K} {A : Around} {s : Shared} {R : Result → Shared → Prop} {kvs : List (K × Value)} {z TI TO i1 i2 a b S : Addr} {xs ys : Array Value}
def ZLow (z TO i1 i2 S : Addr) : Prop := z < S ∧ TO < S ∧ i1 < S ∧ i2 < S
theorem zl_loop (hh : A.handled = none) (D : ZipApart z TI TO i1 i2 a b) (L : ZLow z TO i1 i2 S) (hTI : TI ≠ S) (ha : a ≠ S) (hb : b ≠ S) (hn : kvs.length ≤ sizeLine) (res : Value) {h₁ : Heap}
    (hp : ∀ (i : Nat) (p : K × Value), kvs[i]? = some p → ∃ u, xs[i]? = some u ∧ knd.is p.1 u = true ∧ ys[i]? = some p.2) (hend : xs[kvs.length]? = none ∨ ys[kvs.length]? = none)
    (hR : ∀ h' tk acc c as, (∀ b o, b ≠ S → b ≠ z → b ≠ TO → b ≠ i1 → b ≠ i2 → h₁.get? b = some o → h'.get? b = some o) → h'.get? S = some { cls := .type "list", dict := none, data := .seq acc c, slots := #[] } → as.length = kvs.length → KdxG knd kvs S h' as →
      acc.toList = as.map Value.ref → R (.ok (.ret res)) { s with heap := h', toks := tk }) :
    ∀ (k i : Nat) (h : Heap) (tk c : Nat) (acc : Array Value) (as : List Addr), kvs.length - i = k → i ≤ kvs.length → ZSt h z TI TO i1 i2 a b S i xs ys → (∀ b o, b ≠ S → b ≠ z → b ≠ TO → b ≠ i1 → b ≠ i2 → h₁.get? b = some o → h.get? b = some o) →
      h.get? S = some { cls := .type "list", dict := none, data := .seq acc c, slots := #[] } → acc.toList = as.map Value.ref → as.length = i → KdxG knd kvs S h as →
      codeAny (model prog w) A (.builtin "list.extend.loop" ⟨[.ref S, .ref z, res], []⟩) R { s with heap := h, toks := tk } := by
  obtain ⟨L1, L2, L3, L4⟩ := L
  have nS : ∀ {c : Addr}, c < S → S ≠ c := fun h => Nat.ne_of_gt h
  intro k
  induction k with
  | zero =>
    intro i h tk c acc as hk hi hst hkeep hS hacc hal hG
    have hin : i = kvs.length := by omega
    refine codeAny_builtin PySem.F.entry_extend_loop ?_
    rw [Around.under_plainId PySem.F.plain_extend_loop _]
    show wpAny _ A.in1 (pyNext (.ref z) >>= _) _ _ _
    refine wpAny_bind (zst_done (s := { s with heap := h, toks := tk }) (A := A.in1) hh D hst (by rw [hin]; exact hend) fun h' he => ?_)
    refine wpAny_pure (hR h' tk acc c as (fun b o h1 h2 h3 h4 h5 e => he b o h2 h3 h4 h5 (hkeep b o h1 h2 h3 h4 h5 e)) (he S _ (nS L1) (nS L2) (nS L3) (nS L4) hS) (by omega) ⟨hG.rise, hG.above, fun j a hj => ?_⟩ hacc)
    obtain ⟨key, kk, x, e1, e2, e3⟩ := hG.pairs j a hj
    have hb := hG.above a (List.mem_of_getElem? hj)
    exact ⟨key, kk, x, e1, e2, he a _ (Nat.ne_of_gt (Nat.lt_trans L1 hb)) (Nat.ne_of_gt (Nat.lt_trans L2 hb)) (Nat.ne_of_gt (Nat.lt_trans L3 hb)) (Nat.ne_of_gt (Nat.lt_trans L4 hb)) e3⟩
  | succ k ih =>
    intro i h tk c acc as hk hi hst hkeep hS hacc hal hG
    have hlt : i < kvs.length := by omega
    obtain ⟨⟨kk, x⟩, hx⟩ : ∃ p, kvs[i]? = some p := ⟨kvs[i], List.getElem?_eq_getElem hlt⟩
    obtain ⟨key, ex, hkey, ey⟩ := hp i _ hx
    have hsz : acc.size = i := by rw [← Array.length_toList, hacc, List.length_map, hal]
    have hSl : S < h.objs.size := Heap.lt_size hS
    refine codeAny_builtin PySem.F.entry_extend_loop ?_
    rw [Around.under_plainId PySem.F.plain_extend_loop _]
    show wpAny _ A.in1 (pyNext (.ref z) >>= _) _ _ _
    refine wpAny_bind (zst_item (s := { s with heap := h, toks := tk }) D hst hSl ex ey fun h' hst' ht hkp => ?_)
    dsimp only at ht hkp ⊢
    have hS' := hkp S _ (nS L1) (nS L2) (nS L3) (nS L4) hS
    have up : ∀ b o, b ≠ S → h'.get? b = some o → (h'.update S (Obj.mapSeq (·.push (Value.ref h.objs.size)))).get? b = some o := fun b o hb e => (Heap.get?_update_other _ _ (Ne.symm hb)).trans e
    show wpAny _ A.in1 (updateSeq S (·.push (Value.ref h.objs.size)) >>= _) _ _ _
    refine wpAny_bind ?_
    refine wpAny_updateSeq hS' rfl (wpAny_pure ⟨plainId_quiet PySem.F.plain_extend_loop _, ih (i + 1) _ tk _ (acc.push (Value.ref h.objs.size)) (as ++ [h.objs.size]) (by omega) hlt (hst'.keep ⟨Nat.ne_of_lt L1, hTI, Nat.ne_of_lt L2, Nat.ne_of_lt L3, Nat.ne_of_lt L4, ha, hb⟩ up)
      (fun b o h1 h2 h3 h4 h5 e => up b o h1 (hkp b o h2 h3 h4 h5 (hkeep b o h1 h2 h3 h4 h5 e))) (Heap.get?_update_self _ hS' rfl) (by rw [Array.toList_push, hacc, List.map_append]; rfl) (by rw [List.length_append, hal]; rfl) ⟨?_, ?_, ?_⟩⟩) (by rw [hsz]; omega) (by show (acc.push (Value.ref h.objs.size)).size ≤ sizeLine + 1; rw [Array.size_push, hsz]; omega)
    · refine List.pairwise_append.mpr ⟨hG.rise, List.pairwise_singleton _ _, fun a ha b hb => ?_⟩
      rw [List.mem_singleton.mp hb]
      exact hG.there ha
    · intro a ha
      rcases List.mem_append.mp ha with ha | ha
      · exact hG.above a ha
      · rw [List.mem_singleton.mp ha]; exact hSl
    · intro j b hj
      rcases Nat.lt_trichotomy j as.length with h1 | h1 | h1
      · rw [List.getElem?_append_left h1] at hj
        obtain ⟨key', k', x', e1, e2, e3⟩ := hG.pairs j b hj
        have hb := hG.above b (List.mem_of_getElem? hj)
        exact ⟨key', k', x', e1, e2, up b _ (Nat.ne_of_gt hb) (hkp b _ (Nat.ne_of_gt (Nat.lt_trans L1 hb)) (Nat.ne_of_gt (Nat.lt_trans L2 hb)) (Nat.ne_of_gt (Nat.lt_trans L3 hb)) (Nat.ne_of_gt (Nat.lt_trans L4 hb)) e3)⟩
      · subst h1
        have hb : h.objs.size = b := by simpa using hj
        subst hb
        exact ⟨key, kk, x, by rw [hal]; exact hx, hkey, up _ _ (Nat.ne_of_gt hSl) ht⟩
      · have hnone : (as ++ [h.objs.size])[j]? = none := List.getElem?_eq_none (by rw [List.length_append, List.length_singleton]; omega)
        rw [hnone] at hj; cases hj
end
section
variable {prog : Program} {w : World} {K : Type} [DecidableEq K] {knd : KeyKind prog w K} {A : Around} {E : Value → Shared → Prop} {s : Shared} {kvs : List (K × Value)} {z TI TO i1 i2 a b : Addr} {xs ys : Array Value}
theorem zl_extend {R : Result → Shared → Prop} {S : Addr} (hh : A.handled = none) (D : ZipApart z TI TO i1 i2 a b) (L : ZLow z TO i1 i2 S) (hTI : TI ≠ S) (ha : a ≠ S) (hb : b ≠ S) (st : ZSt s.heap z TI TO i1 i2 a b S 0 xs ys) (hn : kvs.length ≤ sizeLine) (res : Value)
    (hp : ∀ (i : Nat) (p : K × Value), kvs[i]? = some p → ∃ u, xs[i]? = some u ∧ knd.is p.1 u = true ∧ ys[i]? = some p.2) (hend : xs[kvs.length]? = none ∨ ys[kvs.length]? = none) (c₀ : Nat) (hS : s.heap.get? S = some { cls := .type "list", data := .seq #[] c₀ })
    (hz : IsZip s.heap z TI TO .none)
    (hR : ∀ h' tk acc c as, (∀ b o, b ≠ S → b ≠ z → b ≠ TO → b ≠ i1 → b ≠ i2 → s.heap.get? b = some o → h'.get? b = some o) → h'.get? S = some { cls := .type "list", dict := none, data := .seq acc c, slots := #[] } → as.length = kvs.length → KdxG knd kvs S h' as →
      acc.toList = as.map Value.ref → R (.ok (.ret res)) { s with heap := h', toks := tk }) :
    wpAny (model prog w) A.in1 (Builtin.List.listExtendWith (.ref S) (.ref z) res)
      (fun fin s' => match fin with | .done f => R (.ok f) s' | .again c' => c'.quiet = true ∧ codeAny (model prog w) A c' R s') (fun e s' => R (.error e) s') s := by
  have hT : s.TypeIs (.ref z) "zip" := ⟨_, hz, rfl⟩
  have hSz : S ≠ z := Nat.ne_of_gt L.1
  unfold Builtin.List.listExtendWith
  refine wpAny_bind (wpAny_typeOf hT ?_)
  have h1 : Builtin.List.listSameRef (.ref S) (.ref z) = false := by simp [Builtin.List.listSameRef, hSz]
  have h2 : (Value.type "zip" == Value.type "list") = false := by decide
  have h3 : (Value.type "zip" == Value.type "tuple") = false := by decide
  simp only [h1, h2, h3, Bool.or_false, Bool.false_eq_true, if_false]
  refine wpAny_bind (wpAny_pyIter_zip hz ?_)
  refine wpAny_bind (wpAny_holding ?_)
  unfold Builtin.List.listLengthHint
  refine wpAny_bind (wpAny_specialOf hT zip_no_len ?_)
  show wpAny _ A.in1 (specialOf (Value.ref z) (Str.ofString "__length_hint__") >>= _) _ _ _
  refine wpAny_bind (wpAny_specialOf hT zip_no_hint ?_)
  refine wpAny_pure ?_
  show wpAny _ A.in1 (rule "list.extend.makes-room" >>= fun _ => Builtin.List.listTouch (.ref S) >>= fun _ =>
    again (.builtin "list.extend.loop" ⟨[.ref S, .ref z, res], []⟩)) _ _ _
  refine wpAny_bind (wpAny_rule ?_)
  refine wpAny_bind ?_
  show wpAny _ A.in1 (updateSeq S (·.push .none) >>= fun _ => updateSeq S (·.pop)) _ _ _
  refine wpAny_bind (wpAny_updateSeq hS rfl ?_)
  have hS₂ := Heap.get?_update_self (Obj.mapSeq (·.push Value.none)) hS rfl
  refine wpAny_updateSeq (hz := by seq_fits) hS₂ rfl ?_
  have hS₃ := Heap.get?_update_self (Obj.mapSeq (·.pop)) hS₂ rfl
  have oth : ∀ b o, b ≠ S → s.heap.get? b = some o → ((s.heap.update S (Obj.mapSeq (·.push Value.none))).update S (Obj.mapSeq (·.pop))).get? b = some o :=
    fun b o hb e => (Heap.get?_update_other _ _ (Ne.symm hb)).trans ((Heap.get?_update_other _ _ (Ne.symm hb)).trans e)
  refine wpAny_pure ⟨plainId_quiet PySem.F.plain_extend_loop _, zl_loop (knd := knd) (kvs := kvs) (s := s) (h₁ := s.heap) hh D L hTI ha hb hn res hp hend hR kvs.length 0 _ s.toks _ #[] [] (Nat.sub_zero _) (Nat.zero_le _)
    (st.keep ⟨Nat.ne_of_lt L.1, hTI, Nat.ne_of_lt L.2.1, Nat.ne_of_lt L.2.2.1, Nat.ne_of_lt L.2.2.2, ha, hb⟩ oth) (fun b o hb _ _ _ _ e => oth b o hb e) hS₃ rfl rfl ⟨List.Pairwise.nil, (fun _ ha => nomatch ha), (fun j a hj => by simp at hj)⟩⟩
theorem zl_call {Q : Value → Shared → Prop} (hh : A.handled = none) (D : ZipApart z TI TO i1 i2 a b) (hz : IsZip s.heap z TI TO .none) (hTI : IsPair s.heap TI (.ref i1) (.ref i2)) (hTO : ∃ x y, IsPair s.heap TO x y) (h1 : s.heap.IsListIter i1 a 0) (h2 : s.heap.IsListIter i2 b 0) (l1 : s.heap.IsList a xs) (l2 : s.heap.IsList b ys) (hn : kvs.length ≤ sizeLine)
    (hp : ∀ (i : Nat) (p : K × Value), kvs[i]? = some p → ∃ u, xs[i]? = some u ∧ knd.is p.1 u = true ∧ ys[i]? = some p.2) (hend : xs[kvs.length]? = none ∨ ys[kvs.length]? = none)
    (hQ : ∀ h' tk acc c as, (∀ b o, b ≠ z → b ≠ TO → b ≠ i1 → b ≠ i2 → s.heap.get? b = some o → h'.get? b = some o) → h'.get? s.heap.objs.size = some { cls := .type "list", dict := none, data := .seq acc c, slots := #[] } → as.length = kvs.length → KdxG knd kvs s.heap.objs.size h' as →
      acc.toList = as.map Value.ref → Q (.ref s.heap.objs.size) { s with heap := h', toks := tk }) :
    wpAny (model prog w) A (call (.type "list") [.ref z]) Q E s := by
  refine callType_codes (Q₁ := fun obj s₁ => obj = .ref s.heap.objs.size ∧ s₁ = { s with heap := s.heap.push { cls := .type "list", data := .seq #[] } }) PySem.F.called_list (PySem.F.typeCall_list_1 _) PySem.F.entry_list_init
    (code_list_new _ ⟨rfl, rfl⟩) fun obj s₁ h₁ => ?_
  obtain ⟨rfl, rfl⟩ := h₁
  have hS : (s.heap.push { cls := .type "list", data := .seq #[] }).get? s.heap.objs.size = some { cls := .type "list", data := .seq #[] } := Heap.get?_push_size _ rfl
  have lz : z < s.heap.objs.size := Heap.lt_size hz
  have lTI : TI < s.heap.objs.size := Heap.lt_size hTI
  obtain ⟨x0, y0, hTO⟩ := hTO
  have lTO : TO < s.heap.objs.size := Heap.lt_size hTO
  have li1 : i1 < s.heap.objs.size := let ⟨_, e, _⟩ := h1; Heap.lt_size e
  have li2 : i2 < s.heap.objs.size := let ⟨_, e, _⟩ := h2; Heap.lt_size e
  have la : a < s.heap.objs.size := let ⟨_, e, _⟩ := l1; Heap.lt_size e
  have lb : b < s.heap.objs.size := let ⟨_, e, _⟩ := l2; Heap.lt_size e
  refine ⟨⟨_, hS, rfl⟩, PySem.F.args_list_init_2 _ _, ?_⟩
  show wpAny _ _ (do let old ← Builtin.List.listItems (.ref s.heap.objs.size); Builtin.List.listUpdate (.ref s.heap.objs.size) (fun _ => #[]); letGo old.toList.reverse; Builtin.List.listExtendWith (.ref s.heap.objs.size) (.ref z) .none) _ _ _
  refine wpAny_bind ?_
  unfold Builtin.List.listItems
  refine wpAny_bind (wpAny_seqItems hS rfl (wpAny_pure ?_))
  show wpAny _ _ (updateSeq s.heap.objs.size (fun _ => #[]) >>= fun _ => letGo (#[] : Array Value).toList.reverse >>= fun _ => Builtin.List.listExtendWith (.ref s.heap.objs.size) (.ref z) .none) _ _ _
  refine wpAny_bind (wpAny_updateSeq hS rfl ?_)
  have hS₂ := Heap.get?_update_self (Obj.mapSeq (fun _ => (#[] : Array Value))) hS rfl
  have oth : ∀ b o, b ≠ s.heap.objs.size → s.heap.get? b = some o → ((s.heap.push { cls := .type "list", data := .seq #[] }).update s.heap.objs.size (Obj.mapSeq (fun _ => (#[] : Array Value)))).get? b = some o :=
    fun b o hb e => (Heap.get?_update_other _ _ (Ne.symm hb)).trans (Heap.get?_push_of_some _ e)
  refine wpAny_bind (wpAny_letGo ?_)
  have n : z ≠ s.heap.objs.size ∧ TI ≠ s.heap.objs.size ∧ TO ≠ s.heap.objs.size ∧ i1 ≠ s.heap.objs.size ∧ i2 ≠ s.heap.objs.size ∧ a ≠ s.heap.objs.size ∧ b ≠ s.heap.objs.size := ⟨Nat.ne_of_lt lz, Nat.ne_of_lt lTI, Nat.ne_of_lt lTO, Nat.ne_of_lt li1, Nat.ne_of_lt li2, Nat.ne_of_lt la, Nat.ne_of_lt lb⟩
  have st0 : ZSt s.heap z TI TO i1 i2 a b s.heap.objs.size 0 xs ys := ⟨hTI, h1, h2, l1, l2, .inl ⟨hz, x0, y0, hTO⟩⟩
  refine zl_extend (knd := knd) (kvs := kvs) (A := A.in1) hh D ⟨lz, lTO, li1, li2⟩ n.2.1 n.2.2.2.2.2.1 n.2.2.2.2.2.2 (st0.keep n oth) hn .none hp hend _ hS₂ (oth _ _ n.1 hz) fun h' tk acc c as hk hS' hl hG hacc => ?_
  exact ⟨rfl, hQ h' tk acc c as (fun b o h1 h2 h3 h4 e => hk b o (Nat.ne_of_lt (Heap.lt_size e)) h1 h2 h3 h4 (oth b o (Nat.ne_of_lt (Heap.lt_size e)) e)) hS' hl hG hacc⟩
end
theorem laid_at {X : Cx} {pins : List (Addr × Obj)} {σ : L2.St} {H : Hp} {s : Shared} {h' : Heap} {tk : Nat} {kvs : List (Key × V)} {vs : List (Key × Value)} {acc : Array Value} {c : Nat} {as : List Addr} {Z : Addr} (I : Inv X pins σ H s) (hZ : s.heap.objs.size ≤ Z) (hz : kvs.length ≤ sizeLine) (kv : KV kvs vs)
    (hk : ∀ b o, s.heap.get? b = some o → h'.get? b = some o) (hS : h'.get? Z = some { cls := .type "list", dict := none, data := .seq acc c, slots := #[] }) (hl : as.length = vs.length) (hG : PySem.W.KdxG (mixKind X.prog X.w) vs Z h' as) (hacc : acc.toList = as.map Value.ref) :
    ∃ H' : Hp, (∀ b o, H b = some o → H' b = some o) ∧ H Z = none ∧ H' Z = some (.lst (as.map V.ref)) ∧ Paired (fun (t : Addr) (q : Key × V) => H' t = some (.tup [kV q.1, q.2])) as kvs ∧ Inv X pins σ H' { s with heap := h', toks := tk } := by
  have lk : kvs.length = vs.length := Paired.length kv
  have hSn : Z ∉ as := fun z => Nat.lt_irrefl _ (hG.above _ z)
  have nd : as.Nodup := List.Pairwise.imp (fun {a b} (h : a < b) => Nat.ne_of_lt h) hG.rise
  have new : ∀ t ∈ as, H t = none := fun t ht => I.hok.fresh (Nat.le_trans hZ (Nat.le_of_lt (hG.above t ht)))
  have newS : H Z = none := I.hok.fresh hZ
  have atP := LiI.putT_at as kvs (upd H Z (.lst (as.map V.ref))) (by omega) nd
  have off : ∀ b, b ∉ as → b ≠ Z → LiI.putT (upd H Z (.lst (as.map V.ref))) as kvs b = H b := fun b h1 h2 => by rw [LiI.putT_off as kvs _ h1, upd_ne h2]
  have low : ∀ b o, s.heap.get? b = some o → b ∉ as ∧ b ≠ Z := fun b o e => ⟨fun z => absurd (Heap.lt_size e) (Nat.not_lt.mpr (Nat.le_trans hZ (Nat.le_of_lt (hG.above b z)))), Nat.ne_of_lt (Nat.lt_of_lt_of_le (Heap.lt_size e) hZ)⟩
  have kp : ∀ b u, H b = some u → (LiI.putT (upd H Z (.lst (as.map V.ref))) as kvs) b = some u := fun b u e => by
    rw [off b (fun z => by rw [new b z] at e; cases e) (fun z => by rw [z, newS] at e; cases e)]
    exact e
  have eS : LiI.putT (upd H Z (.lst (as.map V.ref))) as kvs Z = some (.lst (as.map V.ref)) := by rw [LiI.putT_off as kvs _ hSn, upd_same]
  refine ⟨LiI.putT (upd H Z (.lst (as.map V.ref))) as kvs, kp, newS, eS, atP, ?_⟩
  refine I.call' (ch := []) rfl ⟨fun b o q _ _ _ => hk b o q, fun b o q _ _ _ => ⟨o.slots, hk b o q⟩, fun b o q n _ => ?_, fun b o q _ => ⟨o, hk b o q⟩, fun b xs q => kp b _ q, fun b o u q => kp b _ q, fun b ps q => ⟨#[], by rw [kp b _ q]; simp⟩⟩ (fun b u q => ?_) I.bare fun b z => by simp at z
  · obtain ⟨z1, z2⟩ := low b o q
    rw [off b z1 z2]
    exact n
  · by_cases hb : b ∈ as
    · obtain ⟨j, pk, e1, e2, e3⟩ := LiI.paired_ix atP hb
      rw [e3] at q
      cases q
      obtain ⟨key, k, x, f1, f2, f3⟩ := hG.pairs j b e1
      obtain ⟨qv, g1, g2, g3⟩ := LiI.paired_get kv e2
      rw [f1] at g1
      cases g1
      have rk : RelV (kV pk.1) key := by
        rw [g2]
        exact relV_key (show keyIs k key = true from f2)
      exact ⟨by show 2 ≤ sizeLine; decide, [key, x], .cons rk (.cons g3 .nil), ⟨_, f3, rfl, _, rfl⟩⟩
    · by_cases hb2 : b = Z
      · rw [hb2] at q ⊢
        rw [eS] at q
        cases q
        refine ⟨by rw [List.length_map]; omega, acc.toList, c, by rw [hacc]; exact LiI.vals_refs as, ?_⟩
        rw [Array.toArray_toList]
        exact hS
      · rw [off b hb hb2] at q
        exact (I.hok b u q).stay (fun d v _ y => hk d v y) (fun d y => kp d _ y) fun d xs y => kp d _ y
theorem kv_zip : ∀ {xs : List Str} {ys : List V} {its : List Value}, Vals ys its → KV ((xs.map (fun x => (.inr x : Key))).zip ys) ((xs.map (fun x => (.inr x : Key))).zip its)
  | [], _, _, _ => .nil
  | _ :: _, _, _, .nil => .nil
  | _ :: _, _, _, .cons r rr => .cons ⟨rfl, r⟩ (kv_zip rr)
theorem keys_zip {P : Program} {w : World} : ∀ {xs : List Str} {its its2 : List Value} (i : Nat) (p : Key × Value), Vals (xs.map V.str) its → ((xs.map (fun x => (.inr x : Key))).zip its2)[i]? = some p → ∃ u, its.toArray[i]? = some u ∧ (mixKind P w).is p.1 u = true ∧ its2.toArray[i]? = some p.2
  | [], _, _, i, p, _, h => by simp at h
  | _ :: _, _, [], i, p, _, h => by simp at h
  | x :: xs, [], y :: its2, i, p, hv, h => by cases hv
  | x :: xs, v :: its, y :: its2, i, p, hv, h => by
    have hv' : Paired RelV (V.str x :: xs.map V.str) (v :: its) := hv
    cases hv' with
    | cons r rr =>
      cases i with
      | zero =>
        have e : ((.inr x : Key), y) = p := Option.some.inj h
        subst e
        obtain ⟨t, rfl⟩ := r
        exact ⟨_, rfl, by show keyIs (.inr x) (Value.str x t) = true; simp [keyIs, Value.isStrOf], rfl⟩
      | succ i =>
        obtain ⟨u, h1, h2, h3⟩ := keys_zip (P := P) (w := w) i p rr h
        exact ⟨u, by simpa using h1, h2, by simpa using h3⟩
theorem szK {a b : Nat} (h : a = b) (hb : b ≤ 1000) : a ≤ sizeLine := by
  rw [h]
  exact Nat.le_trans hb (by decide)
/-! ### the rule -/
def tListZip (K : PySem.W.Frag) (ta : TA) : TE := fun σ H Q => ta σ H fun vs H1 => ∃ (a b : Addr) (xs : List Str) (ys : List V), vs = [.ref a, .ref b] ∧ SqL K H1 a (xs.map V.str) ∧ SqL K H1 b ys ∧ xs.length = ys.length ∧ xs.length ≤ 1000 ∧
  ∀ (H' : Hp) (p : Addr) (ts : List Addr), (∀ b o, H1 b = some o → H' b = some o) → H1 p = none → H' p = some (.lst (ts.map V.ref)) → Paired (fun (t : Addr) (q : Key × V) => H' t = some (.tup [kV q.1, q.2])) ts ((xs.map (fun x => (.inr x : Key))).zip ys) → Q (.ref p) H'
theorem pe_listZip {X : Cx} {K : PySem.W.Frag} {e e2 : Expr} {ta : TA} {p p2 cpos pos : Pos} (hK : X.K = K) (hc : X.calm = true) (hg : Gl X "list") (hm : X.mg "list" = none) (hg2 : Gl X "zip") (hm2 : X.mg "zip" = none) (ha : PA X [e, e2] ta)
    (hv : bootBuiltins "list" = some (.type "list"))
    (hs2 : starEach [e, e2] X.env = (false, eval e X.env) :: starEach [e2] X.env := by rfl) (hpl2 : (backTo cpos (starEach [e2] X.env)).any (·.1) = false := by rfl)
    (hs : starEach [.Call (.Name "zip" p2) [e, e2] [] cpos] X.env = (false, eval (.Call (.Name "zip" p2) [e, e2] [] cpos) X.env) :: starEach [] X.env := by rfl) :
    PE X (.Call (.Name "list" p) [.Call (.Name "zip" p2) [e, e2] [] cpos] [] pos) (tListZip K ta) := by
  subst hK
  refine ⟨fun pins s σ H Q I hq => ?_⟩
  refine wpAny_Call_Name_kw (ld_blt I hg hm hv ?_)
  refine PyProof.Rows.callWith_type1 ?_ hs rfl
  rw [hs]
  show wpAny _ _ (spliced ((false, eval (.Call (.Name "zip" p2) [e, e2] [] cpos) X.env) :: backTo pos (starEach [] X.env))) _ _ s
  refine Calls.spliced_cons ?_
  refine Call_ (ld_blt I hg2 hm2 PyProof.Rows.boot_zip (PyProof.Rows.callWith_type1 (thn (ha.run cpos pins s σ H _ I hq) fun us s1 ⟨vs, H1, I1, r1, q1⟩ => ?_) hs2 hpl2))
  obtain ⟨a, b, xs, ys, ex, qx, qy, hl, hz, q⟩ := q1
  subst ex
  cases r1 with
  | cons r rr =>
    cases rr with
    | cons r' rr =>
      cases rr
      cases r
      cases r'
      obtain ⟨its, rv, p1, _⟩ := I1.list qx
      obtain ⟨its2, rv2, p2, _⟩ := I1.list qy
      refine call_zip_2 p1.isList p2.isList fun h' hz' hTI hTO h1 h2 hsz hk => ?_
      refine Calls.spliced_nil ?_
      have I2 : Inv X pins σ H1 { s1 with heap := h' } := I1.kept (t' := s1.toks) hk
      have D := PySem.W.ktu_apart s1.heap.objs.size a b p1.lt p2.lt
      have ll := rv.length
      have ll2 := rv2.length
      rw [List.length_map] at ll
      let kvs : List (Key × V) := (xs.map (fun x => (.inr x : Key))).zip ys
      let vs : List (Key × Value) := (xs.map (fun x => (.inr x : Key))).zip its2
      have kl : kvs.length = xs.length := by
        show ((xs.map (fun x => (.inr x : Key))).zip ys).length = _
        rw [List.length_zip, List.length_map]
        omega
      have vl : vs.length = xs.length := by
        show ((xs.map (fun x => (.inr x : Key))).zip its2).length = _
        rw [List.length_zip, List.length_map]
        omega
      have kv : KV kvs vs := kv_zip rv2
      refine zl_call (knd := mixKind X.prog X.w) (kvs := vs) (I1.ok.hd hc) D hz' hTI ⟨_, _, hTO⟩ h1 h2 (p1.isList.at fun o e => hk _ o e) (p2.isList.at fun o e => hk _ o e) (szK vl hz) (fun i p hp => keys_zip i p rv hp) (.inl ?_) fun h'' tk acc c as hk2 hS hl2 hG hacc => ?_
      · rw [vl, ll]
        exact Array.getElem?_eq_none (by simp)
      · have up : ∀ b o, s1.heap.get? b = some o → h''.get? b = some o := fun b o e => hk2 b o (Nat.ne_of_lt (Nat.lt_of_lt_of_le (Heap.lt_size e) (by omega))) (Nat.ne_of_lt (Nat.lt_of_lt_of_le (Heap.lt_size e) (by omega))) (Nat.ne_of_lt (Heap.lt_size e)) (Nat.ne_of_lt (Nat.lt_of_lt_of_le (Heap.lt_size e) (by omega))) (hk b o e)
        obtain ⟨H', k1, k2, k5, k6, J⟩ := laid_at (tk := tk) I1 (show s1.heap.objs.size ≤ h'.objs.size by omega) (szK kl hz) kv up hS hl2 hG hacc
        exact ⟨.ref _, H', J, rfl, q H' _ as k1 k2 k5 k6⟩
end K10
namespace K10
open PySem PySem.Spec PyProof.Rows L2
open SX (S)
theorem for_enumL {K : PySem.W.Frag} {a : Addr} {xs : List V} {g : TG} {tb : TS} {D : Ends} {σ : L2.St} {H : Hp} (Pv : Nat → L2.St → Hp → Prop) (h0 : Pv 0 σ H) (hq : ∀ i σ H, Pv i σ H → SqL K H a xs)
    (hs : ∀ (i : Nat) (x : V) (T : Addr) (σ : L2.St) (H : Hp), xs[i]? = some x → Pv i σ H → H T = none → g (.ref T) σ (upd H T (.tup [.int (i : Nat), x])) fun σ2 H2 => tb { D with nx := Pv (i + 1), ct := Pv (i + 1), bk := D.nx } σ2 H2) (hd : ∀ σ H, Pv xs.length σ H → D.nx σ H) :
    ∃ W : Nat → Nat → L2.St → Hp → Prop, (∃ m, W 0 m σ H) ∧ ∀ i m σ H, W i m σ H →
      ((Ite K a).stop i H ∧ D.nx σ H) ∨ ((Ite K a).go i H ∧ ∃ N : L2.St → Hp → Prop, (∀ σ' H', N σ' H' → ∃ m', m' < m ∧ W (i + 1) m' σ' H') ∧ ∀ v H', (Ite K a).yld i H v H' → g v σ H' fun σ2 H2 => tb { D with nx := N, ct := N, bk := D.nx } σ2 H2) := by
  refine ⟨fun i m σ H => m = xs.length - i ∧ i ≤ xs.length ∧ Pv i σ H, ⟨xs.length, rfl, Nat.zero_le _, h0⟩, ?_⟩
  rintro i m σ H ⟨rfl, hi, p⟩
  have qx := hq i σ H p
  by_cases hlt : i < xs.length
  · have hx : xs[i]? = some xs[i] := List.getElem?_eq_getElem hlt
    refine .inr ⟨⟨xs, _, qx, hx⟩, Pv (i + 1), fun σ' H' p' => ⟨xs.length - (i + 1), by omega, rfl, hlt, p'⟩, fun v H' y => ?_⟩
    obtain ⟨T, x', rfl, hT, rfl, f1⟩ := y
    exact hs i x' T σ H (f1 xs qx) p hT
  · have e : i = xs.length := by omega
    subst e
    exact .inl ⟨⟨xs, qx, Nat.le_refl _⟩, hd σ H p⟩
theorem Fr.drop {T T' : List Addr} {H H1 H2 : Hp} (f : Fr T H H1) (g : Fr T' H1 H2) (h : ∀ x ∈ T', x ∈ T ∨ H x = none) : Fr T H H2 :=
  ⟨fun b o e n => g.keep b o (f.keep b o e n) fun z => (h b z).elim n fun z2 => (by rw [z2] at e; cases e), f.tups.trans g.tups⟩
theorem cut_strs (ks : List Str) (lo hi : Option Int) : ∃ l : List Str, cutV (ks.map V.str) lo hi = l.map V.str ∧ (∀ x ∈ l, x ∈ ks) := by
  refine ⟨(ks.drop (HT.sIx (ks.map V.str).length 0 lo)).take (HT.sIx (ks.map V.str).length (ks.map V.str).length hi - HT.sIx (ks.map V.str).length 0 lo), ?_, fun x hx => List.mem_of_mem_drop (List.mem_of_mem_take hx)⟩
  unfold cutV
  rw [List.map_take, List.map_drop]
theorem cut_mem {xs : List V} {lo hi : Option Int} {v : V} (h : v ∈ cutV xs lo hi) : v ∈ xs := List.mem_of_mem_drop (List.mem_of_mem_take h)
theorem eqv_strs_one (xs : List Str) (y : Str) (h : PyData.eqv (.list (xs.map .str)) (.list [.str y]) = true) : xs ≠ [] := by
  rintro rfl
  simp [PyData.eqv, PyData.eqvAll] at h
def DefIn (d : PyData) : Prop := ∃ (l c : Int) (x : Str) (ps : List Str) (b : PyData), d = defD (plD l c) x ps b ∧ Nm x ∧ ps.length ≤ 3 ∧ (∀ p ∈ ps, Nm p) ∧ Tr 5 b
def spProgram : Sp := fun vs H Q _ => ∃ (d : Addr) (size : Int), vs = [.ref d, .int size, .int 5] ∧ Dr H d ∧ ∀ (p hA : Addr) (pv : V) (ds : List PyData) (H' : Hp), H' p = some (.tup [pv, .ref hA]) → TD H' pv (.tuple ds) → 1 ≤ ds.length → ds.length ≤ 4 → (∀ x ∈ ds, DefIn x) → Dr H' d → Fr [d] H H' → Q (.ref p) H'
theorem kdI_of {r : Int} (h0 : 0 ≤ r) (h1 : r < 2) : ∃ k, KdOk k ∧ atI ([.str "n", .str "l"] : List V) r = some (.str k) := by
  obtain ⟨k, hk, e⟩ := strI_of (xs := ["n", "l"]) h0 h1
  refine ⟨k, ?_, e⟩
  simp only [List.mem_cons, List.not_mem_nil, or_false] at hk
  exact hk
theorem Dr.put {H : Hp} {d p : Addr} {o : HO} (h : Dr H d) (hp : p ≠ d) : Dr (upd H p o) d := by
  obtain ⟨a, b, e, h1, h2⟩ := h
  exact ⟨a, b, by rw [upd_ne hp.symm]; exact e, h1, h2⟩
theorem HeadAt.mono {d w : Addr} {H H' : Hp} {v : V} (h : HeadAt d w H v) (f : ∀ b o, H b = some o → b ≠ d → b ≠ w → H' b = some o) (t : Tp H H') : HeadAt d w H' v := by
  obtain ⟨t', l, x, ks, kd, h1, h2, h3, h4, h5, h6, h7⟩ := h
  exact ⟨t', l, x, ks, kd, h1, t _ _ h2, f _ _ h3 h4 h5, h4, h5, h6, h7⟩
def HeadZ (d w z : Addr) (H : Hp) (v : V) : Prop := ∃ (t l : Addr) (x : Str) (ks : List Str) (kd : Str), v = .ref t ∧ H t = some (.tup [.str x, .ref l, .str kd]) ∧ H l = some (.lst (ks.map V.str)) ∧ l ≠ d ∧ l ≠ w ∧ Nm x ∧ ks.length ≤ 3 ∧ (∀ k ∈ ks, KdOk k) ∧ KdOk kd ∧ l ≠ z
theorem HeadZ.at {d w z : Addr} {H : Hp} {v : V} (h : HeadZ d w z H v) : HeadAt d w H v := by
  obtain ⟨t, l, x, ks, kd, h1, h2, h3, h4, h5, h6, h7, h8, h9, _⟩ := h
  exact ⟨t, l, x, ks, kd, h1, h2, h3, h4, h5, h6, h7, h8, h9⟩
theorem HeadZ.put {d w z : Addr} {H H1 : Hp} {v : V} {o : HO} (h : HeadZ d w z H v) (f : Fr [d] H H1) (tp : Tp H1 (upd H1 z o)) : HeadZ d w z (upd H1 z o) v := by
  obtain ⟨t, l, x, ks, kd, h1, h2, h3, h4, h5, h6, h7, h8, h9, h10⟩ := h
  exact ⟨t, l, x, ks, kd, h1, tp _ _ (f.tups _ _ h2), by rw [upd_ne h10]; exact f.at h3 (nmem1 h4), h4, h5, h6, h7, h8, h9, h10⟩
theorem ne_new {H : Hp} {a p : Addr} {o : HO} (h : H a = some o) (hp : H p = none) : a ≠ p := fun z => by
  rw [z, hp] at h
  cases h
/-! ### the body of a def that is no loop -/
theorem prog_else {K : PySem.W.Frag} {d wy pN pK hA pr t D kl : Addr} {ns : List Str} {hs' : List V} {size stp k al fi : Int} {x : Str} {ks nm : List Str} {kd : Str} {v13 y14 : Option V} {H : Hp} {D0 : Ends}
    (g : G d wy pN pK ns hs' H) (ht : H t = some (.tup [.str x, .ref kl, .str kd])) (hkl : H kl = some (.lst (ks.map V.str))) (hD : H D = some (.lst (nm.map V.str))) (hlen : nm.length = ks.length) (h3 : nm.length ≤ 3) (hnm : ∀ y ∈ nm, Nm y)
    (q : ∀ r bt H', TD H' r bt → Tr 5 bt → G d wy pN pK ns hs' H' → Fr [d, wy] H H' → D0.nx [some (.ref d), some (.int size), some (.int 5), some (.ref pN), some (.int stp), some (.ref wy), some (.ref hA), some (.int k), some (.ref D), some (.int al), some (.ref pr), some (.ref t), some (.int fi), v13, some r, none] H') :
    tAsg (tCall (spTree 5) [] E0 (tCons (tVar 0) (tCons (tVar 5) (tCons (tOp (rIxT K) (tVar 11) (tC (.int 2))) (tCons (tListZip K (tCons (tVar 8) (tCons (tOp (rIxT K) (tVar 11) (tC (.int 1))) tNil))) (tCons (tVar 2) tNil)))))) (gName 14) D0
      [some (.ref d), some (.int size), some (.int 5), some (.ref pN), some (.int stp), some (.ref wy), some (.ref hA), some (.int k), some (.ref D), some (.int al), some (.ref pr), some (.ref t), some (.int fi), v13, y14, none] H := by
  refine ⟨_, rfl, _, rfl, _, rfl, t, _, _, _, rfl, rfl, .of ht, at2, ?_⟩
  refine ⟨_, rfl, _, rfl, t, _, _, _, rfl, rfl, .of ht, at1, D, kl, nm, _, rfl, .of hD, .of hkl, by rw [List.length_map]; exact hlen, by omega, fun H' p ts k1 hp0 hp hpr => ?_⟩
  have f1 : Fr [] H H' := ⟨fun b o e _ => k1 b o e, fun b xs e => k1 b _ e⟩
  have np := g.new hp0
  have lt : ts.length = ((nm.map (fun x => (.inr x : Key))).zip (ks.map V.str)).length := Paired.length hpr
  rw [List.length_zip, List.length_map, List.length_map] at lt
  refine ⟨_, rfl, d, wy, pN, pK, ns, hs', _, _, _, 3, rfl, rfl, by decide, g.kept f1, ⟨p, _, rfl, hp, np.1, np.2, by rw [List.length_map]; omega, fun u hu => ?_⟩, by decide, fun r bt H2 td tr g2 f2 => q r bt H2 td tr g2 ((fr_0 f1).trans f2)⟩
  obtain ⟨T, hT, rfl⟩ := List.mem_map.mp hu
  obtain ⟨j, pk, e1, e2, e3⟩ := LiI.paired_ix hpr hT
  have hm := List.mem_of_getElem? e2
  obtain ⟨k0, v0⟩ := pk
  have m1 := List.of_mem_zip hm
  obtain ⟨y, hy, rfl⟩ := List.mem_map.mp m1.1
  obtain ⟨kk, hkk, rfl⟩ := List.mem_map.mp m1.2
  exact ⟨T, y, kk, rfl, e3, hnm y hy⟩
section
variable {P : Program} {w : World} {K : PySem.W.Frag} {mg : Str → Option Value} {base : Heap} {f : Addr} {fd : FuncData} {kA sA CL CR eA : Addr}
theorem sc_LawProgram : FnScope ["draws", "size", "deep", "names", "step", "way", "heads", "k", "params", "alone", "program", "head", "first", "place", "body", "j"] ["draws", "size", "deep"] (defScope sLawProgram) := ⟨rfl, rfl, rfl, by decide +kernel, rfl, by decide +kernel, by decide +kernel⟩
theorem ok_program (T : Facts K mg kA sA CL CR eA) (c_law_draw : Cal P w K mg base "_law_draw" 1 ["draws", "many"] spDraw) (c_law_place : Cal P w K mg base "_law_place" 1 ["way"] spPlace) (c_law_names : Cal P w K mg base "_law_names" 2 ["draws", "many"] spNames)
    (c_law_loop : Cal P w K mg base "_law_loop" 3 ["draws", "way", "head", "names"] spLoop) (c_law_tree : Cal P w K mg base "_law_tree" 11 ["draws", "way", "want", "near", "deep"] (spTree 5)) (F : FnP K "_law_program" "_law_program" sLawProgram [] f fd) : FnOk P w K mg base CX0 12 f fd ["draws", "size", "deep"] spProgram := by
  refine F.ok sc_LawProgram (fun vs H Q E h => ?_) (fun cdv A outer s H vs Q E hr h => ?_)
  · obtain ⟨d, sz, rfl, _⟩ := h
    rfl
  obtain ⟨d, size, rfl, dr, q⟩ := h
  refine ⟨_, PSs.nox (pss_cons (ps_set (i := 3) sc_LawProgram.nd rfl (.inr rfl) (pe_c c_law_names (hr.mono (by omega)) (by rfl) (pa_cons (pv 0) (pa_cons pe_int pa_nil))))
    (pss_cons (ps_set (i := 4) sc_LawProgram.nd rfl (.inl rfl) (pe_ix (ixL K) (pe_lst (pa_cons pe_int (pa_cons pe_int (pa_cons pe_int (pa_cons pe_int (pa_cons pe_int (pa_cons pe_int pa_nil))))))) (pe_c c_law_draw (hr.mono (by omega)) (by rfl) (pa_cons (pv 0) (pa_cons pe_int pa_nil))) (fun _ _ => rfl)))
    (pss_cons (ps_set (i := 5) sc_LawProgram.nd rfl (.inl rfl) (pe_lst (pa_cons (pe_c c_law_draw (hr.mono (by omega)) (by rfl) (pa_cons (pv 0) (pa_cons pe_int pa_nil))) (pa_cons (pv 4) (pa_cons pe_int (pa_cons (pv 3) (pa_cons (pe_lst pa_nil) (pa_cons (pe_ix (ixL K) (pe_lst (pa_cons pe_int (pa_cons pe_int (pa_cons pe_int pa_nil)))) (pe_c c_law_draw (hr.mono (by omega)) (by rfl) (pa_cons (pv 0) (pa_cons pe_int pa_nil))) (fun _ _ => rfl)) pa_nil))))))))
    (pss_cons (ps_set (i := 6) sc_LawProgram.nd rfl (.inl rfl) (pe_lst pa_nil))
    (pss_cons (ps_for PassesOwn.never rfl (pi_range1 (by rfl) T.f_range (pa_cons (pe_op op_add pe_int (pe_c c_law_draw (hr.mono (by omega)) (by rfl) (pa_cons (pv 0) (pa_cons pe_int pa_nil)))) pa_nil)) (pg_name (i := 7) sc_LawProgram.nd rfl (.inl rfl))
    (pss_cons (ps_setLc (i := 8) (own := [("j", 15)]) (by rfl) sc_LawProgram.nd rfl rfl (sw_true rfl rfl rfl (by decide +kernel)) (pi_range1 (by rfl) T.f_range (pa_cons (pe_c c_law_draw (hr.mono (by omega)) (by rfl) (pa_cons (pv 0) (pa_cons pe_int pa_nil))) pa_nil)) (blkOk_by (N := ["draws", "size", "deep", "names", "step", "way", "heads", "k", "params", "alone", "program", "head", "first", "place", "body", "j"]) (sc := defScope sLawProgram) (by decide +kernel)) (fun _ _ _ _ _ => (pg_name (i := 15) sc_LawProgram.nd rfl (.inl rfl))) (fun _ _ _ _ _ => pts_nil) (fun _ _ _ _ _ => (pe_ix (ixL K) (pe_lst (pa_cons pe_str (pa_cons pe_str pa_nil))) (pe_c c_law_draw (hr.mono (by omega)) (by rfl) (pa_cons (pv 0) (pa_cons pe_int pa_nil))) (fun _ _ => rfl))))
      (pss_one (ps_expr (pe_bm PySem.F.plainAttrs_list PySem.F.slot_list_append PySem.F.type_list_append mt_append (pv 6) (pa_cons (pe_tup (pa_cons (pe_ix (ixL K) (pv 3) (pv 7) (fun _ _ => rfl)) (pa_cons (pv 8) (pa_cons (pe_ix (ixL K) (pe_lst (pa_cons pe_str (pa_cons pe_str pa_nil))) (pe_c c_law_draw (hr.mono (by omega)) (by rfl) (pa_cons (pv 0) (pa_cons pe_int pa_nil))) (fun _ _ => rfl)) pa_nil)))) pa_nil))))))
    (pss_cons (ps_set (i := 9) sc_LawProgram.nd rfl (.inl rfl) (pe_c c_law_draw (hr.mono (by omega)) (by rfl) (pa_cons (pv 0) (pa_cons pe_int pa_nil))))
    (pss_cons (ps_set (i := 10) sc_LawProgram.nd rfl (.inl rfl) (pe_lst pa_nil))
    (pss_cons (ps_for PassesOwn.never rfl (pi_enum (by rfl) T.f_enumerate (pa_cons (pv 6) pa_nil)) (pgT K 2 (pgs_cons (pg_name (i := 7) sc_LawProgram.nd rfl (.inl rfl)) (pgs_cons (pg_name (i := 11) sc_LawProgram.nd rfl (.inl rfl)) pgs_nil)))
    (pss_cons (ps_set (i := 12) sc_LawProgram.nd rfl (.inr rfl) (pe_c c_law_draw (hr.mono (by omega)) (by rfl) (pa_cons (pv 0) (pa_cons pe_int pa_nil))))
      (pss_cons (ps_setLc (i := 8) (own := [("j", 15)]) (by rfl) sc_LawProgram.nd rfl rfl (sw_true rfl rfl rfl (by decide +kernel)) (pi_range1 (by rfl) T.f_range (pa_cons (pe_callB (clLen K) (by rfl) T.f_len boot_len (pa_cons (pe_ix (ixT K) (pv 11) pe_int (fun _ _ => rfl)) pa_nil)) pa_nil)) (blkOk_by (N := ["draws", "size", "deep", "names", "step", "way", "heads", "k", "params", "alone", "program", "head", "first", "place", "body", "j"]) (sc := defScope sLawProgram) (by decide +kernel)) (fun _ _ _ _ _ => (pg_name (i := 15) sc_LawProgram.nd rfl (.inl rfl))) (fun _ _ _ _ _ => pts_nil) (fun _ _ _ _ _ => (pe_ix (ixL K) (pv 3) (pe_op op_mod (pe_op op_add (pv 12) (pv 15)) pe_int) (fun _ _ => rfl))))
      (Evl.pss_cut (ps_asg (pe_ifExp (pt_cmpR op_gt (pv 9) pe_int (nomark _)) (pe_slice (slL K) (pv 6) po_none (po_some (pv 7))) (pv 6)) (pg_sub (pv 5) pe_int set_list))
      (pss_cons (ps_asg (pe_op op_fdiv (pv 1) (pe_callB (clLen K) (by rfl) T.f_len boot_len (pa_cons (pv 6) pa_nil))) (pg_sub (pv 5) pe_int set_list))
      (pss_cons (ps_set (i := 13) sc_LawProgram.nd rfl (.inl rfl) (pe_c c_law_place (hr.mono (by omega)) (by rfl) (pa_cons (pv 5) pa_nil)))
      (Evl.pss_cut (ps_if (PW.pt (pw_and (pt_cmpR (opEqD K hr.units) (pe_slice (slL K) (pe_ix (ixT K) (pv 11) pe_int (fun _ _ => rfl)) (po_some (pe_un un_neg pe_int)) po_none) (pe_lst (pa_cons pe_str pa_nil)) (nomark _)) (pw_and (pt_cmpR (opNin K) (pe_ix (ixT K) (pv 11) pe_int (fun _ _ => rfl)) (pv 8) (by rfl)) (pw_and1 (pt_cmpR op_eq (pe_c c_law_draw (hr.mono (by omega)) (by rfl) (pa_cons (pv 0) (pa_cons pe_int pa_nil))) pe_int (nomark _))))))
      (pss_one (ps_set (i := 14) sc_LawProgram.nd rfl (.inl rfl) (pe_c c_law_loop (hr.mono (by omega)) (by rfl) (pa_cons (pv 0) (pa_cons (pv 5) (pa_cons (pv 11) (pa_cons (pv 8) pa_nil)))))))
      (pss_one (ps_set (i := 14) sc_LawProgram.nd rfl (.inl rfl) (pe_c c_law_tree (hr.mono (by omega)) (by rfl) (pa_cons (pv 0) (pa_cons (pv 5) (pa_cons (pe_ix (ixT K) (pv 11) pe_int (fun _ _ => rfl)) (pa_cons (pe_listZip (K := K) rfl rfl (by rfl) T.f_list (by rfl) T.f_zip (pa_cons (pv 8) (pa_cons (pe_ix (ixT K) (pv 11) pe_int (fun _ _ => rfl)) pa_nil)) boot_list) (pa_cons (pv 2) pa_nil)))))))))
      (pss_one (ps_expr (pe_bm PySem.F.plainAttrs_list PySem.F.slot_list_append PySem.F.type_list_append mt_append (pv 10) (pa_cons (pe_tup (pa_cons pe_str (pa_cons (pv 13) (pa_cons (pe_ix (ixT K) (pv 11) pe_int (fun _ _ => rfl)) (pa_cons (pe_callTy (clTup K) (by rfl) T.f_tuple boot_tuple (pa_cons (pv 8) pa_nil)) (pa_cons (pv 14) pa_nil)))))) pa_nil)))))))))))
    (pss_one (ps_ret (pe_tup (pa_cons (pe_callTy (clTup K) (by rfl) T.f_tuple boot_tuple (pa_cons (pv 10) pa_nil)) (pa_cons (pv 6) pa_nil))))))))))))), ?_⟩
  -- names
  refine ⟨_, rfl, d, rfl, dr, fun pN H1 ns hpN0 hpN nsOk dr1 f1 => ?_⟩
  have nN := dr.ne hpN0
  -- step
  refine ⟨by show 6 ≤ sizeLine; decide, fun p2 hp2 => ?_⟩
  have f2 : Fr [] H1 (upd H1 p2 (.lst [.int 1, .int 7, .int 61, .int 13, .int 1, .int 0])) := .new hp2
  have dr2 := dr1.fr f2 (by simp)
  refine ⟨_, rfl, d, _, rfl, dr2, by decide, by decide, fun r3 H3 u0 u1 dr3 f3 => ?_⟩
  have h3 : H3 p2 = some (.lst (([1, 7, 61, 13, 1, 0] : List Int).map V.int)) := f3.at upd_same (nmem1 (dr1.ne hp2))
  obtain ⟨stp, _, estp⟩ := numI_of (xs := [1, 7, 61, 13, 1, 0]) u0 (by exact u1)
  refine ⟨p2, _, _, _, rfl, rfl, .of h3, estp, ?_⟩
  have f03 : Fr [d] H H3 := f1.trans ((fr_0 f2).trans f3)
  -- way
  refine ⟨_, rfl, d, _, rfl, dr3, by decide, by decide, fun r4 H4 v0 v1 dr4 f4 => ?_⟩
  refine ⟨_, rfl, _, rfl, by show 0 ≤ sizeLine; decide, fun p5 hp5 => ?_⟩
  have f5 : Fr [] H4 (upd H4 p5 (.lst [])) := .new hp5
  have dr5 := dr4.fr f5 (by simp)
  have h5 : upd H4 p5 (.lst []) p5 = some (.lst []) := upd_same
  generalize upd H4 p5 (.lst []) = H5 at f5 dr5 h5
  refine ⟨by show 3 ≤ sizeLine; decide, fun p6 hp6 => ?_⟩
  have f6 : Fr [] H5 (upd H5 p6 (.lst [.int 9, .int 40, .int 0])) := .new hp6
  have dr6 := dr5.fr f6 (by simp)
  refine ⟨_, rfl, d, _, rfl, dr6, by decide, by decide, fun r7 H7 w0 w1 dr7 f7 => ?_⟩
  have h7 : H7 p6 = some (.lst (([9, 40, 0] : List Int).map V.int)) := f7.at upd_same (nmem1 (dr5.ne hp6))
  obtain ⟨ev, hev, eev⟩ := numI_of (xs := [9, 40, 0]) w0 (by exact w1)
  have hev' : 0 ≤ ev ∧ ev ≤ 1000 := by
    simp only [List.mem_cons, List.not_mem_nil, or_false] at hev
    omega
  refine ⟨p6, _, _, _, rfl, rfl, .of h7, eev, by show 6 ≤ sizeLine; decide, fun wy hwy => ?_⟩
  have f37 : Fr [d] H3 H7 := f4.trans ((fr_0 f5).trans ((fr_0 f6).trans f7))
  have f17 : Fr [d] H1 H7 := (fr_0 f2).trans (f3.trans f37)
  have hp7 := f17.at hpN (nmem1 nN)
  have h57 : H7 p5 = some (.lst []) := ((fr_0 f6).trans f7).at h5 (nmem1 (dr4.ne hp5))
  have nwy := dr7.ne hwy
  have np5 := dr4.ne hp5
  have f8 : Fr [] H7 (upd H7 wy (.lst [.int r4, .int stp, .int 0, .ref pN, .ref p5, .int ev])) := .new hwy
  have h8 : upd H7 wy (.lst [.int r4, .int stp, .int 0, .ref pN, .ref p5, .int ev]) wy = some (.lst [.int r4, .int stp, .int 0, .ref pN, .ref p5, .int ev]) := upd_same
  have dr8 := dr7.fr f8 (by simp)
  have hp8 := f8.at hp7 (by simp)
  have h58 := f8.at h57 (by simp)
  have nNw : pN ≠ wy := ne_new hp7 hwy
  have n5w : p5 ≠ wy := ne_new h57 hwy
  have f08 : Fr [d] H (upd H7 wy (.lst [.int r4, .int stp, .int 0, .ref pN, .ref p5, .int ev])) := f03.trans (f37.trans (fr_0 f8))
  generalize upd H7 wy (.lst [.int r4, .int stp, .int 0, .ref pN, .ref p5, .int ev]) = H8 at f8 h8 dr8 hp8 h58 f08
  have hwyn : H wy = none := (f03.trans f37).free hwy (nmem1 nwy)
  -- heads
  refine ⟨by show 0 ≤ sizeLine; decide, fun hA hhA => ?_⟩
  have f9 : Fr [] H8 (upd H8 hA (.lst [])) := .new hhA
  have nA := dr8.ne hhA
  have nAw : hA ≠ wy := fun z => ne_new h8 hhA z.symm
  have nNA : pN ≠ hA := ne_new hp8 hhA
  have n5A : p5 ≠ hA := ne_new h58 hhA
  have h99 : upd H8 hA (.lst []) hA = some (.lst []) := upd_same
  have dr9 := dr8.fr f9 (by simp)
  have hp9 := f9.at hp8 (by simp)
  have h59 := f9.at h58 (by simp)
  have h89 := f9.at h8 (by simp)
  have f09 := f08.trans (fr_0 f9)
  have hAn : H hA = none := f08.free hhA (nmem1 nA)
  generalize upd H8 hA (.lst []) = H9 at h99 dr9 hp9 h59 h89 f09
  refine ⟨_, rfl, d, _, rfl, dr9, by decide, by decide, fun r10 H10 x0 x1 dr10 f10 => ?_⟩
  refine ⟨_, _, rfl, rfl, _, rfl, by omega, by omega, for_range (n := (1 + r10).toNat) (fun i σ H' => ∃ (y7 y8 : Option V) (hs : List V), σ = [some (.ref d), some (.int size), some (.int 5), some (.ref pN), some (.int stp), some (.ref wy), some (.ref hA), y7, y8, none, none, none, none, none, none, none] ∧ H' hA = some (.lst hs) ∧ hs.length = i ∧ (∀ v ∈ hs, HeadZ d wy hA H' v) ∧ H' wy = some (.lst [.int r4, .int stp, .int 0, .ref pN, .ref p5, .int ev]) ∧ H' pN = some (.lst (ns.map V.str)) ∧ Dr H' d ∧ Fr [d] H H')
    ⟨none, none, [], rfl, f10.at h99 (nmem1 nA), rfl, by simp, f10.at h89 (nmem1 nwy), f10.at hp9 (nmem1 nN), dr10, f09.trans f10⟩ ?_ ?_⟩
  · rintro i σ H11 hi ⟨y7, y8, hs, rfl, b1, b2, b3, b4, b5, b6, b7⟩
    have hi4 : i < 4 := by omega
    -- params
    refine ⟨_, rfl, d, _, rfl, b6, by decide, by decide, fun r12 H12 z0 z1 dr12 f12 => ?_⟩
    refine ⟨_, rfl, by omega, by omega, fun D hD => lc_it (walk_range (lo := 0) (n := r12.toNat)) (fun i H' => ∃ ks : List Str, H' D = some (.lst (ks.map V.str)) ∧ (∀ k ∈ ks, KdOk k) ∧ ks.length = i ∧ Dr H' d ∧ Fr [d] H12 H') ⟨[], upd_same, by simp, rfl, dr12.fr (T := []) (.new hD) (by simp), .new hD⟩ (fun _ _ _ _ => trivial) ?_ ?_⟩
    · rintro j x H13 H14 hj ⟨ks, a1, a2, a3, a4, a5⟩ ⟨rfl, rfl⟩
      refine ⟨rfl, ?_⟩
      refine yesI ?_
      refine ⟨by show 2 ≤ sizeLine; decide, fun p15 hp15 => ?_⟩
      have f15 : Fr [] H14 (upd H14 p15 (.lst [.str "n", .str "l"])) := .new hp15
      refine ⟨_, rfl, d, _, rfl, a4.fr f15 (by simp), by decide, by decide, fun r16 H16 q0 q1 dr16 f16 => ?_⟩
      obtain ⟨k, hk, ek⟩ := kdI_of q0 q1
      have h16 : H16 p15 = some (.lst [.str "n", .str "l"]) := f16.at upd_same (nmem1 (a4.ne hp15))
      have f116 := (fr_0 f15).trans f16
      have a1' := f116.at a1 (nmem1 (dr12.ne hD))
      refine ⟨p15, _, _, _, rfl, rfl, .of h16, ek, _, a1', szl (by rw [List.length_map]; omega), ks ++ [k], by rw [upd_same, List.map_append] <;> rfl, fun z hz => ?_, by rw [List.length_append, a3] <;> rfl, ?_, (a5.trans f116).put hD⟩
      · rcases List.mem_append.mp hz with z1 | z1
        · exact a2 z z1
        · rw [List.mem_singleton.mp z1]
          exact hk
      · exact dr16.put (dr12.ne hD)
    rintro H13 ⟨ks, a1, a2, a3, dr13, f13⟩
    have ks3 : ks.length ≤ 3 := by omega
    have nD := dr12.ne hD
    have f1113 : Fr [d] H11 H13 := f12.trans f13
    have b2' := f1113.at b1 (nmem1 nA)
    have b5' := f1113.at b5 (nmem1 nN)
    have b4' := f1113.at b4 (nmem1 nwy)
    have nDwy : wy ≠ D := ne_new (f12.at b4 (nmem1 nwy)) hD
    have nDA : hA ≠ D := ne_new (f12.at b1 (nmem1 nA)) hD
    have nDN : pN ≠ D := ne_new (f12.at b5 (nmem1 nN)) hD
    obtain ⟨xn, hxn, exn⟩ := strI_of (xs := ns) (r := 0 + (i : Int)) (by omega) (by rw [nsOk.1]; omega)
    refine ⟨_, rfl, .inl ⟨rfl, _, .of b2'⟩, _, rfl, _, rfl, pN, _, _, _, rfl, rfl, .of b5', exn, _, rfl, by show 2 ≤ sizeLine; decide, fun p15 hp15 => ?_⟩
    have f15 : Fr [] H13 (upd H13 p15 (.lst [.str "n", .str "l"])) := .new hp15
    refine ⟨_, rfl, d, _, rfl, dr13.fr f15 (by simp), by decide, by decide, fun r16 H16 q0 q1 dr16 f16 => ?_⟩
    obtain ⟨kd, hkd, ekd⟩ := kdI_of q0 q1
    have h16 : H16 p15 = some (.lst [.str "n", .str "l"]) := f16.at upd_same (nmem1 (dr13.ne hp15))
    have f1316 : Fr [d] H13 H16 := (fr_0 f15).trans f16
    refine ⟨p15, _, _, _, rfl, rfl, .of h16, ekd, by show 3 ≤ sizeLine; decide, fun t ht => ?_⟩
    have f17 : Fr [] H16 (upd H16 t (.tup [.str xn, .ref D, .str kd])) := .new ht
    have h17 : upd H16 t (.tup [.str xn, .ref D, .str kd]) t = some (.tup [.str xn, .ref D, .str kd]) := upd_same
    have f1317 : Fr [d] H13 (upd H16 t (.tup [.str xn, .ref D, .str kd])) := f1316.trans (fr_0 f17)
    have dr17 := dr16.fr f17 (by simp)
    generalize upd H16 t (.tup [.str xn, .ref D, .str kd]) = H17 at f17 h17 f1317 dr17
    have c2 := f1317.at b2' (nmem1 nA)
    refine ⟨hA, _, _, rfl, rfl, c2, szl (by omega), ?_⟩
    have f1117 := f1113.trans f1317
    have tp : Tp H17 (upd H17 hA (.lst (hs ++ [.ref t]))) := Tp.wr c2
    refine ⟨_, _, hs ++ [.ref t], rfl, upd_same, by rw [List.length_append, b2] <;> rfl, fun v hv => ?_, by rw [upd_ne nAw.symm]; exact f1317.at b4' (nmem1 nwy), by rw [upd_ne nNA]; exact f1317.at b5' (nmem1 nN), dr17.put nA, (b7.trans f1117).put hAn⟩
    rcases List.mem_append.mp hv with hv | hv
    · exact (b3 v hv).put f1117 tp
    · rw [List.mem_singleton.mp hv]
      exact ⟨t, D, xn, ks, kd, rfl, tp _ _ h17, by rw [upd_ne nDA.symm]; exact f1317.at a1 (nmem1 nD), nD, nDwy.symm, nsOk.2.1 xn hxn, ks3, a2, hkd, nDA.symm⟩
  rintro σ H11 ⟨y7, y8, hs, rfl, b1, b2, b3, b4, b5, b6, b7⟩
  have hs4 : 1 ≤ hs.length ∧ hs.length ≤ 4 := by omega
  refine ⟨_, rfl, d, _, rfl, b6, by decide, by decide, fun al H12 a0 a1 dr12 f12 => ?_⟩
  refine ⟨by show 0 ≤ sizeLine; decide, fun pr hpr => ?_⟩
  have f13 : Fr [] H12 (upd H12 pr (.lst [])) := .new hpr
  have h13 : upd H12 pr (.lst []) pr = some (.lst []) := upd_same
  have dr13 := dr12.fr f13 (by simp)
  have npr := dr12.ne hpr
  have f1113 : Fr [d] H11 (upd H12 pr (.lst [])) := f12.trans (fr_0 f13)
  have nAp : hA ≠ pr := ne_new (f12.at b1 (nmem1 nA)) hpr
  have nWp : wy ≠ pr := ne_new (f12.at b4 (nmem1 nwy)) hpr
  have nNp : pN ≠ pr := ne_new (f12.at b5 (nmem1 nN)) hpr
  have hprn : H11 pr = none := f12.free hpr (nmem1 npr)
  have f013 := b7.trans f1113
  generalize upd H12 pr (.lst []) = H13 at h13 dr13 f1113 f013
  have hprn0 : H pr = none := b7.free hprn (nmem1 npr)
  refine ⟨_, rfl, hA, hs, rfl, .of (f1113.at b1 (nmem1 nA)), for_enumL (K := K) (a := hA) (xs := hs) (fun i σ H' => ∃ (y7 y8 y11 y12 y13 y14 : Option V) (ps : List V) (ds : List PyData) (a b c : Int) (x4 : V) (ev : Int), σ = [some (.ref d), some (.int size), some (.int 5), some (.ref pN), some (.int stp), some (.ref wy), some (.ref hA), y7, y8, some (.int al), some (.ref pr), y11, y12, y13, y14, none] ∧ H' pr = some (.lst ps) ∧ TDs H' ps ds ∧ ds.length = i ∧ (∀ x ∈ ds, DefIn x) ∧
      H' wy = some (.lst [.int a, .int b, .int c, .ref pN, x4, .int ev]) ∧ (0 ≤ ev ∧ ev ≤ 1000) ∧ Dr H' d ∧ Fr [d, wy] H11 H')
    ⟨_, _, none, none, none, none, [], [], _, _, _, _, _, rfl, h13, .nil, rfl, by simp, f1113.at b4 (nmem1 nwy), hev', dr13, fr_d f1113⟩ (fun i σ H' ⟨_, _, _, _, _, _, _, _, _, _, _, _, _, _, _, _, _, _, _, _, _, fr⟩ => .of (fr.at b1 (nmem2 nA nAw))) ?_ ?_⟩
  · rintro i hv T σ H14 hi ⟨y7, y8, y11, y12, y13, y14, ps, ds, wa, wb, wc, x4, ev, rfl, c1, c2, c3, c4, c5, hev', c6, c7⟩ hT
    have hvm := List.mem_of_getElem? hi
    have hi4 : i < hs.length := (List.getElem?_eq_some_iff.mp hi).1
    obtain ⟨t, kl, x, ks, kd, rfl, e1, e2, kd1, kd2, hx, k3, kOk, hkd⟩ := (b3 _ hvm).at
    -- the pair
    have f15 : Fr [] H14 (upd H14 T (.tup [.int (i : Nat), .ref t])) := .new hT
    have h15 : upd H14 T (.tup [.int (i : Nat), .ref t]) T = some (.tup [.int (i : Nat), .ref t]) := upd_same
    have dr15 := c6.fr f15 (by simp)
    have w15 := f15.at c5 (by simp)
    have f1115 := c7.trans (fr_0 f15)
    have pr15 := f15.at c1 (by simp)
    have td15 := c2.mono f15.tups
    generalize upd H14 T (.tup [.int (i : Nat), .ref t]) = H15 at h15 dr15 w15 f1115 pr15 td15
    refine ⟨T, _, rfl, .of h15, rfl, _, _, rfl, _, _, rfl, rfl, ?_⟩
    -- first
    refine ⟨_, rfl, d, _, rfl, dr15, by decide, by decide, fun fi H16 i0 i1 dr16 f16 => ?_⟩
    have f1116 := f1115.trans (fr_d f16)
    have t16 := f1116.tups _ _ e1
    have kl16 := f1116.at e2 (nmem2 kd1 kd2)
    -- params
    refine ⟨_, rfl, t, _, _, _, rfl, rfl, .of t16, at1, kl, _, rfl, .inl (.of kl16), _, rfl, by omega, by rw [List.length_map]; omega, fun D hD => lc_it (walk_range (lo := 0) (n := _)) (fun j H' => ∃ nm : List Str, H' D = some (.lst (nm.map V.str)) ∧ (∀ y ∈ nm, Nm y) ∧ nm.length = j ∧ Fr [] H16 H') ⟨[], upd_same, by simp, rfl, .new hD⟩ (fun _ _ _ _ => trivial) ?_ ?_⟩
    · rintro j x' H17 H18 hj ⟨nm, g1, g2, g3, g4⟩ ⟨rfl, rfl⟩
      refine ⟨rfl, ?_⟩
      refine yesI ?_
      have m0 := Int.emod_nonneg (fi + (0 + (j : Int))) (show (8 : Int) ≠ 0 by decide)
      have m1 := Int.emod_lt_of_pos (fi + (0 + (j : Int))) (show (0 : Int) < 8 by decide)
      obtain ⟨xn, hxn, exn⟩ := strI_of (xs := ns) (r := (fi + (0 + (j : Int))) % 8) m0 (by rw [nsOk.1]; omega)
      have pn18 := g4.at (f1116.at b5 (nmem2 nN nNw)) (by simp)
      have jl : j < ks.length := by
        rw [List.length_map] at hj
        omega
      refine ⟨_, rfl, _, rfl, _, rfl, _, _, rfl, rfl, _, _, rfl, rfl, (by show (0 : Int) < 8; decide), pN, _, _, _, rfl, rfl, .of pn18, exn, _, g1, szl (by rw [List.length_map]; omega), nm ++ [xn], by rw [upd_same, List.map_append] <;> rfl, fun z hz => ?_, by rw [List.length_append, g3] <;> rfl, g4.put hD⟩
      rcases List.mem_append.mp hz with z1 | z1
      · exact g2 z z1
      · rw [List.mem_singleton.mp z1]
        exact nsOk.2.1 xn hxn
    rintro H17 ⟨nm, g1, g2, g3, g4⟩
    have nml : nm.length = ks.length := by
      rw [g3, List.length_map]
      omega
    have nD := dr16.ne hD
    have w16 := f16.at w15 (nmem1 nwy)
    have w17 := g4.at w16 (by simp)
    have pr17 := g4.at (f16.at pr15 (nmem1 npr)) (by simp)
    have dr17 := dr16.fr g4 (by simp)
    have f1117 := f1116.trans (fr_0 g4)
    have nDw : D ≠ wy := fun z => ne_new w16 hD z.symm
    have D11 : H11 D = none := f1116.free hD (nmem2 nD nDw)
    have td17 := td15.mono (f16.tups.trans g4.tups)
    -- way[4]
    refine ⟨fun σ' H' => ∃ (pK : Addr) (hs' : List V), σ' = [some (.ref d), some (.int size), some (.int 5), some (.ref pN), some (.int stp), some (.ref wy), some (.ref hA), some (.int (i : Nat)), some (.ref D), some (.int al), some (.ref pr), some (.ref t), some (.int fi), y13, y14, none] ∧
      H' wy = some (.lst [.int wa, .int wb, .int wc, .ref pN, .ref pK, .int ev]) ∧ H' pK = some (.lst hs') ∧ pK ≠ d ∧ pK ≠ wy ∧ hs'.length ≤ 4 ∧ (∀ v ∈ hs', v ∈ hs) ∧ Dr H' d ∧ Fr [wy] H17 H', ?_, ?_⟩
    · refine ⟨_, rfl, _, _, rfl, rfl, _, rfl, ite2 (fun _ => ?_) (fun _ => ?_)⟩
      · have hA17 := f1117.at b1 (nmem2 nA nAw)
        refine ⟨_, rfl, _, rfl, _, rfl, hA, _, rfl, .of hA17, fun pK hpK => ?_⟩
        have f18 : Fr [] H17 (upd H17 pK (.lst (cutV hs none (some ((i : Nat) : Int))))) := .new hpK
        have w18 := f18.at w17 (by simp)
        refine ⟨_, rfl, wy, _, _, 4, rfl, rfl, w18, Evl.ixN_nat (j := 4) (by simp), ?_⟩
        refine ⟨pK, _, rfl, upd_same, by rw [upd_ne (ne_new w17 hpK).symm]; exact upd_same, dr17.ne hpK, (ne_new w17 hpK).symm, Nat.le_trans (cutV_length _ _ _) hs4.2, fun v hv => cut_mem hv, (dr17.fr f18 (by simp)).put nwy, (fr_0 f18).trans (.wr w18 mem1)⟩
      · have hA17 := f1117.at b1 (nmem2 nA nAw)
        refine ⟨_, rfl, _, rfl, wy, _, _, 4, rfl, rfl, w17, Evl.ixN_nat (j := 4) (by simp), ?_⟩
        exact ⟨hA, hs, rfl, upd_same, by rw [upd_ne nAw]; exact hA17, nA, nAw, hs4.2, fun v hv => hv, dr17.put nwy, .wr w17 mem1⟩
    rintro σ' H18 ⟨pK, hs', rfl, w18, hk18, nK, nKw, hk4, hkm, dr18, f18⟩
    have f1118 : Fr [d, wy] H11 H18 := f1117.trans (fr_w f18)
    -- way[2]
    have hA18 := f1118.at b1 (nmem2 nA nAw)
    refine ⟨_, rfl, _, rfl, hA, _, rfl, .inl (.of hA18), _, _, rfl, rfl, ⟨by omega, by omega⟩, _, rfl, wy, _, _, 2, rfl, rfl, w18, Evl.ixN_nat (j := 2) (by simp), ?_⟩
    have f1819 : Fr [wy] H18 (upd H18 wy (.lst ([V.int wa, V.int wb, V.int wc, V.ref pN, V.ref pK, V.int ev].set 2 ((fun i j => V.int (i / j)) size ((hs.length : Nat) : Int))))) := .wr w18 mem1
    have w19 : upd H18 wy (.lst ([V.int wa, V.int wb, V.int wc, V.ref pN, V.ref pK, V.int ev].set 2 ((fun i j => V.int (i / j)) size ((hs.length : Nat) : Int)))) wy = some (.lst [.int wa, .int wb, .int (size / ((hs.length : Nat) : Int)), .ref pN, .ref pK, .int ev]) := upd_same
    have dr19 := dr18.put (o := .lst ([V.int wa, V.int wb, V.int wc, V.ref pN, V.ref pK, V.int ev].set 2 ((fun i j => V.int (i / j)) size ((hs.length : Nat) : Int)))) nwy
    generalize upd H18 wy (.lst ([V.int wa, V.int wb, V.int wc, V.ref pN, V.ref pK, V.int ev].set 2 ((fun i j => V.int (i / j)) size ((hs.length : Nat) : Int)))) = H19 at f1819 w19 dr19
    have f1119 : Fr [d, wy] H11 H19 := f1118.trans (fr_w f1819)
    have f1719 : Fr [d, wy] H17 H19 := (fr_w f18).trans (fr_w f1819)
    have g19 : G d wy pN pK ns hs' H19 := ⟨dr19, nwy.symm, ⟨_, _, _, _, w19, hev'⟩, f1119.at b5 (nmem2 nN nNw), ⟨nN, nNw⟩, nsOk.1, nsOk.2.1, nsOk.2.2, f1819.at hk18 (nmem1 nKw), ⟨nK, nKw⟩, hk4, fun v hv => (b3 v (hkm v hv)).at.fr f1119⟩
    -- place
    refine ⟨_, rfl, wy, _, _, _, rfl, w19, fun p H20 a' pl pc hp0 hp w20 fw => ?_⟩
    have g20 := g19.placed fw hev' w20
    have f1120 := f1119.trans (fr_w fw)
    have f1720 := f1719.trans (fr_w fw)
    have t20 := f1120.tups _ _ e1
    have kl20 := f1120.at e2 (nmem2 kd1 kd2)
    have D20 := f1720.at g1 (nmem2 nD nDw)
    -- the body
    refine ⟨fun σ' H' => ∃ (r : V) (bt : PyData), σ' = [some (.ref d), some (.int size), some (.int 5), some (.ref pN), some (.int stp), some (.ref wy), some (.ref hA), some (.int (i : Nat)), some (.ref D), some (.int al), some (.ref pr), some (.ref t), some (.int fi), some (.ref p), some r, none] ∧ TD H' r bt ∧ Tr 5 bt ∧ G d wy pN pK ns hs' H' ∧ Fr [d, wy] H20 H', ?_, ?_⟩
    · have els : ∀ (Hx : Hp) (D0 : Ends), G d wy pN pK ns hs' Hx → Fr [d, wy] H20 Hx → (∀ σ H', (∃ (r : V) (bt : PyData), σ = [some (.ref d), some (.int size), some (.int 5), some (.ref pN), some (.int stp), some (.ref wy), some (.ref hA), some (.int (i : Nat)), some (.ref D), some (.int al), some (.ref pr), some (.ref t), some (.int fi), some (.ref p), some r, none] ∧ TD H' r bt ∧ Tr 5 bt ∧ G d wy pN pK ns hs' H' ∧ Fr [d, wy] H20 H') → D0.nx σ H') →
          tAsg (tCall (spTree 5) [] E0 (tCons (tVar 0) (tCons (tVar 5) (tCons (tOp (rIxT K) (tVar 11) (tC (.int 2))) (tCons (tListZip K (tCons (tVar 8) (tCons (tOp (rIxT K) (tVar 11) (tC (.int 1))) tNil))) (tCons (tVar 2) tNil)))))) (gName 14) D0 [some (.ref d), some (.int size), some (.int 5), some (.ref pN), some (.int stp), some (.ref wy), some (.ref hA), some (.int (i : Nat)), some (.ref D), some (.int al), some (.ref pr), some (.ref t), some (.int fi), some (.ref p), y14, none] Hx := fun Hx D0 gx fx hq => prog_else gx (fx.tups _ _ t20) (fx.at kl20 (nmem2 kd1 kd2)) (fx.at D20 (nmem2 nD nDw)) nml (by omega) g2 fun r bt H' td tr g' f' => hq _ _ ⟨r, bt, rfl, td, tr, g', fx.trans f'⟩
      obtain ⟨l1, hl1, hl1m⟩ := cut_strs ks (some (-1)) none
      refine ⟨_, rfl, t, _, _, _, rfl, rfl, .of t20, at1, _, rfl, _, rfl, kl, _, rfl, .of kl20, fun c1 hc1 => ?_⟩
      have f21 : Fr [] H20 (upd H20 c1 (.lst (cutV (ks.map V.str) (some (-1)) none))) := .new hc1
      rw [hl1] at f21 ⊢
      refine ⟨by show 1 ≤ sizeLine; decide, fun c2 hc2 => ?_⟩
      have f22 : Fr [] (upd H20 c1 (.lst (l1.map V.str))) (upd (upd H20 c1 (.lst (l1.map V.str))) c2 (.lst [.str "l"])) := .new hc2
      have f2022 : Fr [] H20 (upd (upd H20 c1 (.lst (l1.map V.str))) c2 (.lst [.str "l"])) := f21.trans f22
      have hc1' : upd (upd H20 c1 (.lst (l1.map V.str))) c2 (.lst [.str "l"]) c1 = some (.lst (l1.map V.str)) := f22.at upd_same (by simp)
      have hc2' : upd (upd H20 c1 (.lst (l1.map V.str))) c2 (.lst [.str "l"]) c2 = some (.lst [.str "l"]) := upd_same
      generalize upd (upd H20 c1 (.lst (l1.map V.str))) c2 (.lst [.str "l"]) = H22 at f2022 hc1' hc2'
      have g22 := g20.kept f2022
      refine ⟨.list (l1.map .str), .list [.str "l"], .lst (.of hc1') (dp_strs l1), .lst (.of hc2') (.cons (.str _) .nil), shaped_strs l1 fun x hx => kd_strOk (kOk x (hl1m x hx)), by decide +kernel, _, rfl, ite2 (fun q1 => ?_) (fun _ => iteF (els H22 _ g22 (fr_0 f2022) fun σ H' h => h))⟩
      have t22 := f2022.tups _ _ t20
      have D22 := f2022.at D20 (by simp)
      refine ⟨_, rfl, t, _, _, _, rfl, rfl, .of t22, at0, _, rfl, D, _, rfl, .inl (.of D22), rfl, flat_strs nm, _, rfl, ite2 (fun q2 => ?_) (fun _ => iteF (els H22 _ g22 (fr_0 f2022) fun σ H' h => h))⟩
      refine ⟨_, rfl, d, _, rfl, g22.dr, by decide, by decide, fun r H23 r0 r1 dr23 f23 => ?_⟩
      have g23 := g22.drawn f23 dr23
      have f2023 : Fr [d, wy] H20 H23 := (fr_0 f2022).trans (fr_d f23)
      refine ⟨rfl, _, rfl, ite2 (fun q3 => ?_) (fun _ => els H23 _ g23 f2023 fun σ H' h => h)⟩
      have kne : ks ≠ [] := by
        rintro rfl
        refine eqv_strs_one l1 "l" q1 ?_
        cases l1 with
        | nil => rfl
        | cons y r => cases hl1m y List.mem_cons_self
      have k1 : 1 ≤ nm.length := by
        rw [nml]
        exact List.length_pos_iff.mpr kne
      exact ⟨_, rfl, _, rfl, _, rfl, _, rfl, d, wy, pN, pK, t, D, kl, ns, hs', x, ks, kd, nm, rfl, g23, f2023.tups _ _ t20, f2023.at kl20 (nmem2 kd1 kd2), kd1, kd2, hx, f2023.at D20 (nmem2 nD nDw), nD, nDw, nml, k1, by omega, g2, fun r bt H' td tr g' f' => ⟨r, bt, rfl, td, tr, g', f2023.trans f'⟩⟩
    rintro σ' H24 ⟨r, bt, rfl, td24, tr24, g24, f24⟩
    have f1124 := f1120.trans f24
    have t24 := f1124.tups _ _ e1
    have D24 := f24.at D20 (nmem2 nD nDw)
    have f1724 := f1720.trans f24
    have pr24 := f1724.at pr17 (nmem2 npr nWp.symm)
    have pw : pr ≠ wy := nWp.symm
    refine ⟨_, rfl, .inl ⟨rfl, _, .of pr24⟩, _, rfl, _, rfl, t, _, _, _, rfl, rfl, .of t24, at0, _, rfl, D, _, rfl, .inl ⟨.of D24, fun u hu => ⟨_, rfl, by show 5 ≤ sizeLine; decide, fun o ho => ?_⟩⟩⟩
    have f25a : Fr [] H24 (upd H24 u (.tup (nm.map V.str))) := .new hu
    have f25b : Fr [] (upd H24 u (.tup (nm.map V.str))) (upd (upd H24 u (.tup (nm.map V.str))) o (.tup [.str "def", .ref p, .str x, .ref u, r])) := .new ho
    have f25 := f25a.trans f25b
    have dt : TD (upd (upd H24 u (.tup (nm.map V.str))) o (.tup [.str "def", .ref p, .str x, .ref u, r])) (.ref o) (defD (plD pl pc) x nm bt) :=
      .tup upd_same (.cons (.str _) (.cons (.tup (f25.tups _ _ (f24.tups _ _ hp)) (.cons (.int _) (.cons (.int _) .nil))) (.cons (.str _) (.cons (.tup (f25b.tups _ _ upd_same) (TDs.strs nm)) (.cons (td24.mono f25.tups) .nil)))))
    have di : DefIn (defD (plD pl pc) x nm bt) := ⟨pl, pc, x, nm, bt, rfl, hx, by omega, g2, tr24⟩
    have pr25 := f25.at pr24 (by simp)
    have g25 := g24.kept f25
    generalize upd (upd H24 u (.tup (nm.map V.str))) o (.tup [.str "def", .ref p, .str x, .ref u, r]) = H25 at f25 dt pr25 g25
    have ll := c2.len
    refine ⟨pr, _, _, rfl, rfl, pr25, szl (by omega), ?_⟩
    have tp : Tp H25 (upd H25 pr (.lst (ps ++ [.ref o]))) := Tp.wr pr25
    obtain ⟨va, vb, vc, ve, hw25, hve⟩ := g25.way
    have f1725 := f1724.trans (fr_0 f25)
    refine ⟨_, _, _, _, _, _, ps ++ [.ref o], ds ++ [_], va, vb, vc, _, ve, rfl, upd_same, ((td17.mono (f1725.tups)).mono tp).snoc (dt.mono tp), by rw [List.length_append, c3] <;> rfl, fun z hz => ?_, by rw [upd_ne nWp]; exact hw25, hve, g25.dr.put npr, (f1117.trans f1725).put hprn⟩
    rcases List.mem_append.mp hz with hz | hz
    · exact c4 z hz
    · rw [List.mem_singleton.mp hz]
      exact di
  rintro σ H14 ⟨y7, y8, y11, y12, y13, y14, ps, ds, wa, wb, wc, x4, ev, rfl, c1, c2, c3, c4, c5, hev', c6, c7⟩
  have ll := c2.len
  refine ⟨_, rfl, pr, _, rfl, .inl ⟨.of c1, fun u hu => ⟨_, rfl, by show 2 ≤ sizeLine; decide, fun o ho => ?_⟩⟩⟩
  have f15a : Fr [] H14 (upd H14 u (.tup ps)) := .new hu
  have f15b : Fr [] (upd H14 u (.tup ps)) (upd (upd H14 u (.tup ps)) o (.tup [.ref u, .ref hA])) := .new ho
  have f15 := f15a.trans f15b
  exact q o hA (.ref u) ds _ upd_same (.tup (f15b.tups _ _ upd_same) (c2.mono f15.tups)) (by omega) (by omega) c4 (c6.fr f15 (by simp)) (b7.drop (c7.trans (fr_0 f15)) fun x hx => by
    rcases List.mem_cons.mp hx with z | z
    · exact .inl (by rw [z]; exact mem1)
    · rw [List.mem_singleton.mp z]
      exact .inr hwyn)
end
end K10
namespace K10
open PySem PySem.Spec PyProof.Rows L2
open SX (S)
theorem rowOk_all : ∀ {r : List It}, RowOk r → ∀ k w, It.wd k w ∈ r → WordOk k w
  | [], _, k, w, h => by cases h
  | i :: r, ok, k, w, h => by
    rcases List.mem_cons.mp h with e | h
    · subst e
      exact rowOk_word ok
    · exact rowOk_all (rowOk_tail ok) k w h
theorem row_no10 {r : Row} (h : RowFit r) : 10 ∉ rowT r := fun z => by
  rcases List.mem_append.mp z with z | z
  · obtain ⟨i, hi, hc⟩ := List.mem_flatMap.mp z
    cases i with
    | sp =>
      have := List.mem_singleton.mp hc
      omega
    | wd k w => exact (word_sign (rowOk_all h.ok k w hi) hc).2.2 rfl
  · exact h.line z
theorem rowOk_drop : ∀ {a b : List It}, RowOk (a ++ b) → RowOk b
  | [], _, h => h
  | _ :: a, b, h => rowOk_drop (a := a) (rowOk_tail h)
theorem split_rows {rows : List Row} (hne : rows ≠ []) (h : ∀ r ∈ rows, RowFit r) : Txt.split (S (textR rows)) (S [10]) = rows.map fun r => S (rowT r) := by
  rw [SX.split_S (by decide) (by decide)]
  unfold textR
  rw [SX.spl_join (by simpa using hne) (fun p hp => by
    obtain ⟨r, hr, rfl⟩ := List.mem_map.mp hp
    exact row_no10 (h r hr)), List.map_map] <;> rfl
theorem rowT_len {rows : List Row} {r : Row} (h : r ∈ rows) : (rowT r).length ≤ (textR rows).length := by
  have gen : ∀ (l : List (List Nat)) (x : List Nat), x ∈ l → x.length ≤ (TL.joinL [10] l).length := fun l => by
    induction l with
    | nil => intro x hx; cases hx
    | cons a r ih =>
      intro x hx
      cases r with
      | nil =>
        rw [List.mem_singleton.mp hx]
        exact Nat.le_refl _
      | cons b r =>
        show x.length ≤ (a ++ ([10] ++ TL.joinL [10] (b :: r))).length
        rw [List.length_append, List.length_append]
        rcases List.mem_cons.mp hx with e | e
        · rw [e]
          omega
        · have := ih x e
          omega
  exact gen _ _ (List.mem_map.mpr ⟨r, h, rfl⟩)
theorem tk_len (l : Int) : ∀ (c : Nat) (a : List It), (tk l c a).length ≤ a.length
  | _, [] => Nat.le_refl _
  | c, .sp :: r => Nat.le_trans (tk_len l (c + 1) r) (Nat.le_succ _)
  | c, .wd k w :: r => Nat.succ_le_succ (tk_len l (c + w.length) r)
theorem tk_text (l : Int) : ∀ (c : Nat) {a : List It}, RowOk a → (tk l c a).length ≤ (rowC a).length
  | _, [], _ => Nat.le_refl _
  | c, .sp :: r, h => by
    have := tk_text l (c + 1) (rowOk_tail h)
    show (tk l (c + 1) r).length ≤ ([32] ++ rowC r).length
    rw [List.length_append]
    omega
  | c, .wd k w :: r, h => by
    have := tk_text l (c + w.length) (rowOk_tail h)
    have wl := (word_len (rowOk_word h)).1
    show (tk l (c + w.length) r).length + 1 ≤ (w.cps.toList ++ rowC r).length
    rw [List.length_append, str_len]
    omega
theorem rowOk_take {a : List It} : ∀ {b : List It}, RowOk (a ++ b) → RowOk a := by
  intro b
  induction a with
  | nil => intro _; trivial
  | cons i a ih =>
    intro h
    have h2 := ih (rowOk_tail h)
    cases a with
    | nil =>
      cases i with
      | sp => trivial
      | wd k w => exact rowOk_word h
    | cons x y =>
      cases i with
      | sp => cases x <;> exact h2
      | wd k w =>
        cases x with
        | sp => exact ⟨rowOk_word h, h2⟩
        | wd k' w' => exact ⟨rowOk_word h, h.2.1, h2⟩
theorem toks_text : ∀ (l : Int) {rows : List Row}, (∀ r ∈ rows, RowFit r) → (toksR l rows).length ≤ (rows.map fun r => (rowT r).length).sum
  | l, [], _ => Nat.le_refl _
  | l, r :: rs, h => by
    have h1 := tk_text l 0 (h r List.mem_cons_self).ok
    have h2 := toks_text (l + 1) fun x hx => h x (List.mem_cons_of_mem _ hx)
    show (tk l 0 r.1 ++ toksR (l + 1) rs).length ≤ _
    rw [List.length_append, List.map_cons, List.sum_cons]
    have : (rowC r.1).length ≤ (rowT r).length := by
      unfold rowT
      rw [List.length_append]
      omega
    omega
theorem text_sum : ∀ rows : List Row, (rows.map fun r => (rowT r).length).sum ≤ (textR rows).length
  | [] => Nat.le_refl _
  | [r] => by
    show (rowT r).length + 0 ≤ (rowT r).length
    omega
  | r :: s :: rs => by
    have ih := text_sum (s :: rs)
    rw [List.map_cons, List.sum_cons]
    show _ ≤ (rowT r ++ ([10] ++ TL.joinL [10] ((s :: rs).map rowT))).length
    rw [List.length_append, List.length_append]
    unfold textR at ih
    omega
def spMarks : Sp := fun vs H Q _ => ∃ rows : List Row, vs = [.str (S (textR rows))] ∧ rows ≠ [] ∧ (∀ r ∈ rows, RowFit r) ∧ (textR rows).length ≤ 16760000 ∧ ∀ (p : Addr) (vs : List V) (H' : Hp), H p = none → H' p = some (.lst vs) → TDs H' vs ((toksR 0 rows).map M.py) → Fr [] H H' → Q (.ref p) H'
section
variable {P : Program} {w : World} {K : PySem.W.Frag} {mg : Str → Option Value} {base : Heap} {f : Addr} {fd : FuncData} {kA sA CL CR eA : Addr}
theorem sc_Marks : FnScope ["text", "found", "line", "row", "at", "mark"] ["text"] (defScope sMarks) := ⟨rfl, rfl, rfl, by decide +kernel, rfl, by decide +kernel, by decide +kernel⟩
theorem ok_marks (T : Facts K mg kA sA CL CR eA) (c_mark_at : Cal P w K mg base "mark_at" 2 ["row", "at", "line"] spMark) (F : FnP K "marks" "marks" sMarks [] f fd) : FnOk P w K mg base CX0 3 f fd ["text"] spMarks := by
  refine F.ok sc_Marks (fun vs H Q E h => ?_) (fun cdv A outer s H vs Q E hr h => ?_)
  · obtain ⟨rows, rfl, _⟩ := h
    rfl
  obtain ⟨rows, rfl, hne, hfit, hsz, q⟩ := h
  refine ⟨_, PSs.nox (pss_cons (ps_set (i := 1) sc_Marks.nd rfl (.inl rfl) (pe_lst pa_nil))
    (pss_cons (ps_for PassesOwn.never rfl (pi_enum (by rfl) T.f_enumerate (pa_cons (pe_split (pv 0) pe_str) pa_nil)) (pgT K 2 (pgs_cons (pg_name (i := 2) sc_Marks.nd rfl (.inl rfl)) (pgs_cons (pg_name (i := 3) sc_Marks.nd rfl (.inl rfl)) pgs_nil)))
    (pss_cons (ps_set (i := 4) sc_Marks.nd rfl (.inl rfl) pe_int)
      (pss_one (ps_while PassesOwn.never (PW.pt (pw_and (pt_cmpR op_lt (pv 4) (pe_callB call_len_str (by rfl) T.f_len boot_len (pa_cons (pv 3) pa_nil)) (nomark _)) (pw_and1 (pt_cmpR op_ne (pe_ix ix_str (pv 3) (pv 4) (fun _ _ => rfl)) pe_str (nomark _)))))
      (pss_one (ps_if (pt_cmpR op_eq (pe_ix ix_str (pv 3) (pv 4) (fun _ _ => rfl)) pe_str (nomark _))
        (pss_one (ps_aug (i := 4) sc_Marks.nd rfl (.inl rfl) pe_int ip_add))
        (pss_cons (ps_set (i := 5) sc_Marks.nd rfl (.inl rfl) (pe_c c_mark_at (hr.mono (by omega)) (by rfl) (pa_cons (pv 3) (pa_cons (pv 4) (pa_cons (pv 2) pa_nil)))))
          (pss_cons (ps_expr (pe_bm PySem.F.plainAttrs_list PySem.F.slot_list_append PySem.F.type_list_append mt_append (pv 1) (pa_cons (pv 5) pa_nil)))
          (pss_one (ps_aug (i := 4) sc_Marks.nd rfl (.inl rfl) (pe_callB call_len_str (by rfl) T.f_len boot_len (pa_cons (pe_ix (ixT K) (pv 5) pe_int (fun _ _ => rfl)) pa_nil)) ip_add))))))))))
    (pss_one (ps_ret (pv 1))))), ?_⟩
  have enl : ("\n" : Str) = S [10] := by decide +kernel
  -- found
  refine ⟨by show 0 ≤ sizeLine; decide, fun fo hfo => ?_⟩
  have f1 : Fr [] H (upd H fo (.lst [])) := .new hfo
  have h1 : upd H fo (.lst []) fo = some (.lst []) := upd_same
  generalize upd H fo (.lst []) = H1 at f1 h1
  -- the rows
  refine ⟨_, rfl, ⟨_, rfl⟩, _, _, rfl, rfl, by rw [enl, SX.S_len]; decide, szC (by rw [SX.S_len]; omega), fun sp hsp => ?_⟩
  rw [enl, split_rows hne hfit]
  have f2 : Fr [] H1 (upd H1 sp (.lst ((rows.map fun r => S (rowT r)).map V.str))) := .new hsp
  have h2 : upd H1 sp (.lst ((rows.map fun r => S (rowT r)).map V.str)) sp = some (.lst ((rows.map fun r => S (rowT r)).map V.str)) := upd_same
  have nsp : sp ≠ fo := (ne_new h1 hsp).symm
  have h12 := f2.at h1 (by simp)
  have f02 := f1.trans f2
  generalize upd H1 sp (.lst ((rows.map fun r => S (rowT r)).map V.str)) = H2 at f2 h2 h12 f02
  have sumle := text_sum rows
  have toksLe : ∀ i, (toksR 0 (rows.take i)).length ≤ 16760000 := fun i => by
    have e1 := toks_text 0 (rows := rows.take i) fun r hr => hfit r (List.mem_of_mem_take hr)
    have e2 : ((rows.take i).map fun r => (rowT r).length).sum ≤ (rows.map fun r => (rowT r).length).sum := by
      rw [List.map_take]
      have := List.take_append_drop i (rows.map fun r => (rowT r).length)
      have e3 : (rows.map fun r => (rowT r).length).sum = ((rows.map fun r => (rowT r).length).take i).sum + ((rows.map fun r => (rowT r).length).drop i).sum := by
        rw [← List.sum_append, this]
      omega
    omega
  refine ⟨sp, _, rfl, .of h2, for_enumL (K := K) (a := sp) (xs := (rows.map fun r => S (rowT r)).map V.str) (fun i σ H' => ∃ (y2 y3 y4 y5 : Option V) (fs : List V), σ = [some (.str (S (textR rows))), some (.ref fo), y2, y3, y4, y5] ∧ H' fo = some (.lst fs) ∧ TDs H' fs ((toksR 0 (rows.take i)).map M.py) ∧ H' sp = some (.lst ((rows.map fun r => S (rowT r)).map V.str)) ∧ Fr [] H H')
    ⟨none, none, none, none, [], rfl, h12, .nil, h2, f02⟩ (fun i σ H' ⟨_, _, _, _, _, _, _, _, h, _⟩ => .of h) ?_ ?_⟩
  · rintro i x T1 σ H3 hi ⟨y2, y3, y4, y5, fs, rfl, v1, v2, v3, v4⟩ hT1
    rw [List.getElem?_map, List.getElem?_map] at hi
    obtain ⟨s0, hs0, rfl⟩ := Option.map_eq_some_iff.mp hi
    obtain ⟨r, hr, rfl⟩ := Option.map_eq_some_iff.mp hs0
    have hrm := List.mem_of_getElem? hr
    have fit := hfit r hrm
    have rl := rowT_len hrm
    have f3 : Fr [] H3 (upd H3 T1 (.tup [.int (i : Nat), .str (S (rowT r))])) := .new hT1
    refine ⟨T1, _, rfl, .of upd_same, rfl, _, _, rfl, _, _, rfl, rfl, ?_⟩
    have v1' := f3.at v1 (by simp)
    have v2' := v2.mono f3.tups
    have v3' := f3.at v3 (by simp)
    have v4' := v4.trans f3
    generalize upd H3 T1 (.tup [.int (i : Nat), .str (S (rowT r))]) = H4 at f3 v1' v2' v3' v4'
    have il : i < rows.length := (List.getElem?_eq_some_iff.mp hr).1
    have etk : toksR 0 (rows.take (i + 1)) = toksR 0 (rows.take i) ++ tk ((i : Nat) : Int) 0 r.1 := by
      have e1 : rows.take (i + 1) = rows.take i ++ [r] := by rw [List.take_succ, hr] <;> rfl
      rw [e1, toksR_app, List.length_take, Nat.min_eq_left (Nat.le_of_lt il)]
      show _ ++ (tk (0 + ((i : Nat) : Int)) 0 r.1 ++ []) = _
      rw [List.append_nil, Int.zero_add]
    have szR : (S (rowT r)).length ≤ sizeLine := by rw [SX.S_len]; exact szC (by omega)
    let IV : Nat → L2.St → Hp → Prop := fun m σ H' => ∃ (a b : List It) (y5 : Option V) (fs : List V), r.1 = a ++ b ∧ b.length = m ∧ σ = [some (.str (S (textR rows))), some (.ref fo), some (.int (i : Nat)), some (.str (S (rowT r))), some (.int ((rowC a).length : Nat)), y5] ∧ H' fo = some (.lst fs) ∧ TDs H' fs ((toksR 0 (rows.take i) ++ tk ((i : Nat) : Int) 0 a).map M.py) ∧ H' sp = some (.lst ((rows.map fun r => S (rowT r)).map V.str)) ∧ Fr [] H H'
    refine ⟨IV, ⟨r.1.length, [], r.1, y5, fs, rfl, rfl, rfl, v1', by simpa [tk] using v2', v3', v4'⟩, ?_⟩
    rintro m σ H5 ⟨a, b, y5', fs', hab, hbl, rfl, w1, w2, w3, w4⟩
    have hrow : rowT r = rowC a ++ (rowC b ++ r.2) := by
      unfold rowT
      rw [hab, rowC_app, List.append_assoc]
    refine ⟨_, rfl, _, rfl, _, rfl, szR, _, _, rfl, rfl, _, rfl, ?_⟩
    rw [SX.S_len]
    have lens : (rowT r).length = (rowC a).length + ((rowC b).length + r.2.length) := by rw [hrow, List.length_append, List.length_append]
    have ehash : ("#" : Str) = ⟨#[35]⟩ := by decide +kernel
    have esp : (" " : Str) = ⟨#[32]⟩ := by decide +kernel
    have ixc : ∀ c rest, rowC b ++ r.2 = c :: rest → atI (S (rowT r)).cps.toList ((rowC a).length : Nat) = some c := fun c rest e => by
      refine atI_nat ?_
      show (rowT r)[(rowC a).length]? = some c
      rw [hrow, e, List.getElem?_append_right (Nat.le_refl _), Nat.sub_self] <;> rfl
    cases b with
    | nil =>
      have hm : m = 0 := hbl.symm
      subst hm
      have ea : a = r.1 := by rw [hab, List.append_nil]
      have fin : ∃ (y2 y3 y4 y5 : Option V) (fs : List V), [some (V.str (S (textR rows))), some (.ref fo), some (.int (i : Nat)), some (.str (S (rowT r))), some (.int ((rowC a).length : Nat)), y5'] = [some (.str (S (textR rows))), some (.ref fo), y2, y3, y4, y5] ∧ H5 fo = some (.lst fs) ∧ TDs H5 fs ((toksR 0 (rows.take (i + 1))).map M.py) ∧ H5 sp = some (.lst ((rows.map fun r => S (rowT r)).map V.str)) ∧ Fr [] H H5 :=
        ⟨_, _, _, _, fs', rfl, w1, by rw [etk, ← ea]; exact w2, w3, w4⟩
      rcases fit.rem with hrem | ⟨t, hrem⟩
      · have e0 : (rowC ([] : List It)).length = 0 := rfl
        rw [hrem] at lens
        rw [decide_eq_false (by rw [lens, e0]; simp)]
        exact iteF (iteF fin)
      · rw [hrem] at lens
        rw [decide_eq_true (by rw [lens, List.length_cons]; omega)]
        refine iteT ⟨_, rfl, _, rfl, _, _, 35, rfl, rfl, szR, ixc 35 t (by rw [hrem] <;> rfl), rfl, _, rfl, ?_⟩
        rw [ehash, decide_eq_true rfl]
        exact iteF fin
    | cons it b =>
      obtain ⟨m, rfl⟩ : ∃ n, m = n + 1 := ⟨b.length, hbl.symm⟩
      have hbl' : b.length = m := Nat.succ.inj hbl
      have okb : RowOk (it :: b) := rowOk_drop (by rw [← hab]; exact fit.ok)
      obtain ⟨c, rest, ec, hc35, hcsp⟩ : ∃ c rest, rowC (it :: b) ++ r.2 = c :: rest ∧ c ≠ 35 ∧ (c = 32 ↔ it = .sp) := by
        cases it with
        | sp => exact ⟨32, _, rfl, by decide, by simp⟩
        | wd k w =>
          have hw := rowOk_word okb
          obtain ⟨c, u, e⟩ := word_first hw
          have hm := word_sign hw (a := c) (by rw [e]; exact List.mem_cons_self)
          refine ⟨c, u ++ rowC b ++ r.2, ?_, hm.2.1, ?_⟩
          · show (w.cps.toList ++ rowC b) ++ r.2 = _
            rw [e] <;> rfl
          · constructor
            · intro z; exact absurd z hm.1
            · intro z; cases z
      have hpos : 0 < (rowC (it :: b) ++ r.2).length := by rw [ec]; exact Nat.succ_pos _
      rw [List.length_append] at hpos
      rw [decide_eq_true (by rw [lens]; omega)]
      refine iteT ⟨_, rfl, _, rfl, _, _, c, rfl, rfl, szR, ixc c rest ec, rfl, _, rfl, ?_⟩
      rw [ehash, decide_eq_false (by intro h; injection h with h; injection h with h; injection h with h; injection h with h; exact hc35 h)]
      refine iteT ⟨IV m, fun σ' H' h => ⟨m, Nat.lt_succ_self _, h⟩, ?_⟩
      refine ⟨_, rfl, _, rfl, _, _, c, rfl, rfl, szR, ixc c rest ec, rfl, _, rfl, ?_⟩
      have hab' : r.1 = (a ++ [it]) ++ b := by rw [hab, List.append_assoc] <;> rfl
      cases it with
      | sp =>
        have hc : c = 32 := hcsp.mpr rfl
        rw [esp, hc, decide_eq_true rfl]
        refine iteT ⟨_, rfl, _, _, rfl, rfl, a ++ [.sp], b, y5', fs', hab', hbl', ?_, w1, ?_, w3, w4⟩
        · rw [rowC_app, List.length_append]
          show _ = [_, _, _, _, some (V.int (((rowC a).length + 1 : Nat) : Int)), _]
          have : (((rowC a).length + 1 : Nat) : Int) = ((rowC a).length : Nat) + 1 := by omega
          rw [this] <;> rfl
        · rw [tk_app]
          simpa [tk] using w2
      | wd k w =>
        have hw := rowOk_word okb
        have hcn : c ≠ 32 := fun z => by have := hcsp.mp z; cases this
        rw [esp, decide_eq_false (by intro h; injection h with h; injection h with h; injection h with h; injection h with h; exact hcn h)]
        refine iteF ?_
        have hrow2 : rowT r = rowC a ++ (w.cps.toList ++ (rowC b ++ r.2)) := by
          rw [hrow]
          show _ ++ ((w.cps.toList ++ rowC b) ++ r.2) = _
          rw [List.append_assoc]
        rw [hrow2]
        refine ⟨_, rfl, _, rfl, _, rfl, rowC a, rowC b ++ r.2, k, w, _, _, rfl, rfl, hw, rowOk_behind okb fit.rem, by rw [← hrow2]; omega, fun mk H6 hmk f6 => ?_⟩
        have w1' := f6.at w1 (by simp)
        have lfs := w2.len
        have lfs2 : fs'.length < sizeLine := by
          rw [lfs, List.length_map, List.length_append]
          have e1 := tk_text ((i : Nat) : Int) 0 (a := a) (rowOk_take (b := .wd k w :: b) (by rw [← hab]; exact fit.ok))
          have e2 := toksLe (i + 1)
          rw [etk, hab, tk_app, List.length_append, List.length_append] at e2
          exact Nat.lt_of_lt_of_le (show _ < 16760001 by omega) (by decide)
        refine ⟨_, rfl, .inl ⟨rfl, _, .of w1'⟩, _, rfl, fo, _, _, rfl, rfl, w1', lfs2, ?_⟩
        have tp : Tp H6 (upd H6 fo (.lst (fs' ++ [.ref mk]))) := Tp.wr w1'
        refine ⟨_, rfl, _, rfl, mk, _, _, _, rfl, rfl, .of (tp _ _ hmk), at1, w, rfl, szC (by have := (word_len hw).2; omega), _, _, rfl, rfl, a ++ [.wd k w], b, some (.ref mk), fs' ++ [.ref mk], hab', hbl', ?_, upd_same, ?_, by rw [upd_ne nsp]; exact f6.at w3 (by simp), (w4.trans f6).put hfo⟩
        · have el : (rowC (a ++ [It.wd k w])).length = (rowC a).length + w.length := by
            rw [rowC_app, List.length_append]
            show _ + (w.cps.toList ++ []).length = _
            rw [List.append_nil, str_len]
          have : (((rowC a).length + w.length : Nat) : Int) = ((rowC a).length : Nat) + (w.length : Nat) := by omega
          rw [el, this, ← hrow2] <;> rfl
        · rw [tk_app, ← List.append_assoc, List.map_append]
          have e2 : (tk ((i : Nat) : Int) (0 + (rowC a).length) [It.wd k w]).map M.py = [(M.mk k w (i : Int) ((rowC a).length : Nat)).py] := by
            rw [Nat.zero_add] <;> rfl
          rw [e2]
          exact ((w2.mono f6.tups).mono tp).snoc (.tup (tp _ _ hmk) (.cons (.str _) (.cons (.str _) (.cons (.int _) (.cons (.int _) .nil)))))
  · rintro σ H3 ⟨y2, y3, y4, y5, fs, rfl, v1, v2, v3, v4⟩
    rw [List.length_map, List.length_map, List.take_length] at v2
    exact ⟨_, rfl, q fo fs H3 hfo v1 v2 v4⟩
end
end K10
namespace K10
open PySem PySem.Spec PyProof.Rows L2
open SX (S)
open PySem.W (HoldAll max_list_datum_default)
theorem vals_getR : ∀ {xs : List V} {us : List Value} {i : Nat} {u : Value}, Vals xs us → us[i]? = some u → ∃ x, xs[i]? = some x ∧ RelV x u
  | _, _, _, _, .nil, h => by cases h
  | _, _, 0, _, .cons r _, h => ⟨_, rfl, by cases h; exact r⟩
  | _, _, i + 1, _, .cons _ rr, h => vals_getR (i := i) rr h
/-! ### max(xs, default=k) over a list of ints -/
theorem hold_ints {h : Heap} : ∀ {ns : List Int} {its : List Value}, Vals (ns.map V.int) its → HoldAll h its ns
  | [], its, hv => by
    have hv' : Paired RelV [] its := hv
    cases hv'
    exact ⟨[], .nil⟩
  | n :: ns, [], hv => by cases hv
  | n :: ns, v :: its, hv => by
    have hv' : Paired RelV (V.int n :: ns.map V.int) (v :: its) := hv
    cases hv' with
    | cons r rr =>
      obtain ⟨t, rfl⟩ := r
      obtain ⟨as, h2⟩ := hold_ints (h := h) rr
      exact ⟨[] ++ as, .cons (.int n t) h2⟩
def rMaxD (K : PySem.W.Frag) : List V → List V → Hp → VK → Prop := fun xs zs H Q => ∃ (a : Addr) (ns : List Int) (k : Int), xs = [.ref a] ∧ zs = [.int k] ∧ SqL K H a (ns.map V.int) ∧ ∀ r : Int, (ns = [] → r = k) → (ns ≠ [] → r ∈ ns) → Q (.int r) H
theorem call_maxD {X : Cx} (hc : X.calm = true) (hu : X.A.units + 64 < cLine) : CallRK X (.builtin "max") ["default"] (rMaxD X.K) := by
  intro pins s σ H xs zs us ws Q I rx rz h
  obtain ⟨a, ns, k, rfl, rfl, hq, q⟩ := h
  cases rx with
  | cons r rr =>
    cases rr
    cases r
    cases rz with
    | cons r rr =>
      cases rr
      obtain ⟨t, rfl⟩ := r
      obtain ⟨its, rv, p, _⟩ := I.list hq
      refine max_list_datum_default (α := Int) (xs := ns) (I.ok.hd hc) p.isList (by simpa using hold_ints rv) (by show X.A.units + 1 + 0 < cLine; omega) (fun e h' tk hk => ?_) fun y ys i v h' tk e hi hv hk => ?_
      · exact ⟨.int k, H, I.kept (t' := tk) hk, ⟨_, rfl⟩, q k (fun _ => rfl) (fun h => absurd e h)⟩
      · have hi' : its[i]? = some v := by simpa using hi
        obtain ⟨x, hx, rx⟩ := vals_getR rv hi'
        rw [List.getElem?_map] at hx
        obtain ⟨m, hm, rfl⟩ := Option.map_eq_some_iff.mp hx
        exact ⟨.int m, H, I.kept (t' := tk) hk, rx, q m (fun h => by rw [h] at hm; cases hm) fun _ => List.mem_of_getElem? hm⟩
theorem clMax {X : Cx} (K : PySem.W.Frag) (hc : X.calm = true) (hu : X.A.units + 64 < cLine) (h : X.K = K := by rfl) : CallRK X (.builtin "max") ["default"] (rMaxD K) := by subst h; exact call_maxD hc hu
end K10
namespace K10
open PySem PySem.Spec PyProof.Rows L2
open SX (S)
/-! ### the layout in the heap: its stack's top is the first -/
structure LA (CL lo dx tA kA : Addr) (H : Hp) (ts : List M) (Sk : List Int) : Prop where
  ins : H lo = some (.ins CL dx [("told", .ref tA), ("stack", .ref kA)])
  told : ∃ vs, H tA = some (.lst vs) ∧ TDs H vs (ts.map M.py)
  stk : H kA = some (.lst (Sk.reverse.map V.int))
  ne : tA ≠ kA
theorem LA.fr {CL lo dx tA kA : Addr} {H H' : Hp} {ts : List M} {Sk : List Int} (L : LA CL lo dx tA kA H ts Sk) (f : Fr [] H H') : LA CL lo dx tA kA H' ts Sk := by
  obtain ⟨vs, h1, h2⟩ := L.told
  exact ⟨f.at L.ins (by simp), ⟨vs, f.at h1 (by simp), h2.mono f.tups⟩, f.at L.stk (by simp), L.ne⟩
theorem LA.ne2 {CL lo dx tA kA : Addr} {H : Hp} {ts : List M} {Sk : List Int} (L : LA CL lo dx tA kA H ts Sk) : lo ≠ tA ∧ lo ≠ kA := by
  obtain ⟨vs, h1, _⟩ := L.told
  exact ⟨fun z => (by rw [← z, L.ins] at h1; cases h1), fun z => (by have := L.stk; rw [← z, L.ins] at this; cases this)⟩
/-- the stack is written -/
theorem LA.stack {CL lo dx tA kA : Addr} {H : Hp} {ts : List M} {Sk Sk' : List Int} (L : LA CL lo dx tA kA H ts Sk) {xs : List V} (e : xs = Sk'.reverse.map V.int) : LA CL lo dx tA kA (upd H kA (.lst xs)) ts Sk' ∧ Fr [tA, kA] H (upd H kA (.lst xs)) := by
  obtain ⟨vs, h1, h2⟩ := L.told
  refine ⟨⟨by rw [upd_ne L.ne2.2]; exact L.ins, ⟨vs, by rw [upd_ne L.ne]; exact h1, h2.mono (Tp.wr L.stk)⟩, by rw [upd_same, e], L.ne⟩, .wr L.stk (by simp)⟩
theorem fr_00 {T : List Addr} {H H' : Hp} (f : Fr [] H H') : Fr T H H' := f.mono fun _ h => by cases h
def spLay (CL : Addr) : Sp := fun vs H Q _ => ∃ (lo dx tA kA : Addr) (ts : List M) (Sk : List Int) (w : Str) (l c : Int), vs = [.ref lo, .str w, .int l, .int c] ∧ LA CL lo dx tA kA H ts Sk ∧ ts.length ≤ 1000000 ∧ ∀ (v : V) (H' : Hp), LA CL lo dx tA kA H' (ts ++ [layM w l c]) Sk → Fr [tA, kA] H H' → Q v H'
def spBegin (CL : Addr) : Sp := fun vs H Q _ => ∃ (lo dx tA kA : Addr) (ts : List M) (Sk : List Int) (c : Int) (mv : V), vs = [.ref lo, .int c, mv] ∧ LA CL lo dx tA kA H ts Sk ∧ Sk.length < 24 ∧ ∀ (v : V) (H' : Hp), LA CL lo dx tA kA H' ts (c :: Sk) → Fr [tA, kA] H H' → Q v H'
def spBlockL (CL : Addr) : Sp := fun vs H Q _ => ∃ (lo dx tA kA : Addr) (ts : List M) (Sk : List Int) (m : M) (mv : V), vs = [.ref lo, mv] ∧ TD H mv m.py ∧ LA CL lo dx tA kA H ts Sk ∧ Sk.length < 24 ∧ (∀ s ∈ Sk, s < m.c) ∧ -1 < m.c ∧ ts.length ≤ 1000000 ∧
  ∀ (v : V) (H' : Hp), LA CL lo dx tA kA H' (ts ++ [layM "{" m.l m.c]) (m.c :: Sk) → Fr [tA, kA] H H' → Q v H'
def spFirst (CL : Addr) : Sp := fun vs H Q _ => ∃ (lo dx tA kA : Addr) (ts : List M) (ext Sk : List Int) (s : Int) (m : M) (mv : V), vs = [.ref lo, mv] ∧ TD H mv m.py ∧ LA CL lo dx tA kA H ts (ext ++ s :: Sk) ∧ (∀ e ∈ ext, m.c < e) ∧ s ≤ m.c ∧ ts.length + ext.length ≤ 1000000 ∧
  ∀ (v : V) (H' : Hp), LA CL lo dx tA kA H' (ts ++ (clos ext.length m ++ if s = m.c then [layM ";" m.l m.c] else [])) (s :: Sk) → Fr [tA, kA] H H' → Q v H'
def spBracket (CL : Addr) : Sp := fun vs H Q _ => ∃ (lo dx tA kA : Addr) (ts : List M) (S1 S2 : List Int) (D : List M) (m : M) (mv : V), vs = [.ref lo, mv] ∧ TD H mv m.py ∧ m.k = "sign" ∧ LA CL lo dx tA kA H ts S1 ∧ Core S1 m S2 (D ++ [m]) ∧ ts.length + S1.length ≤ 1000000 ∧
  ∀ (v : V) (H' : Hp), LA CL lo dx tA kA H' (ts ++ D) S2 → Fr [tA, kA] H H' → Q v H'
theorem td_mark {H : Hp} {v : V} {m : M} (h : TD H v m.py) : ∃ a, v = .ref a ∧ H a = some (.tup [.str m.k, .str m.w, .int m.l, .int m.c]) := by
  obtain ⟨a, xs, rfl, ha, hs⟩ := h.tuple
  cases hs with
  | cons h1 hs => cases h1; cases hs with
    | cons h2 hs => cases h2; cases hs with
      | cons h3 hs => cases h3; cases hs with
        | cons h4 hs => cases h4; cases hs; exact ⟨_, rfl, ha⟩
section
variable {P : Program} {w : World} {K : PySem.W.Frag} {mg : Str → Option Value} {base : Heap} {f : Addr} {fd : FuncData} {kA0 sA CL CR eA : Addr}
theorem sc_LayoutLay : FnScope ["self", "sign", "line", "column"] ["self", "sign", "line", "column"] (defScope sLayoutLay) := ⟨rfl, rfl, rfl, by decide +kernel, rfl, by decide +kernel, by decide +kernel⟩
theorem ok_lay (T : Facts K mg kA0 sA CL CR eA) (F : FnP K "lay" "Layout.lay" sLayoutLay [] f fd) : FnOk P w K mg base CX0 1 f fd ["self", "sign", "line", "column"] (spLay CL) := by
  refine F.ok sc_LayoutLay (fun vs H Q E h => ?_) (fun cdv A outer s H vs Q E hr h => ?_)
  · obtain ⟨lo, dx, tA, kA, ts, Sk, wd, l, c, rfl, _⟩ := h
    rfl
  obtain ⟨lo, dx, tA, kA, ts, Sk, wd, l, c, rfl, L, hts, q⟩ := h
  refine ⟨_, PSs.nox (pss_one (ps_expr (pe_bm PySem.F.plainAttrs_list PySem.F.slot_list_append PySem.F.type_list_append mt_append (pe_fld (pv 0) rfl) (pa_cons (pe_tup (pa_cons pe_str (pa_cons (pv 1) (pa_cons (pv 2) (pa_cons (pv 3) pa_nil))))) pa_nil)))), ?_⟩
  obtain ⟨vs, h1, h2⟩ := L.told
  refine ⟨_, rfl, lo, CL, dx, _, _, rfl, L.ins, T.cl_L, T.nTold, rfl, .inl ⟨rfl, _, .of h1⟩, _, rfl, _, rfl, _, rfl, by show 4 ≤ sizeLine; decide, fun o ho => ?_⟩
  have f1 : Fr [] H (upd H o (.tup [.str "lay", .str wd, .int l, .int c])) := .new ho
  have h1' := f1.at h1 (by simp)
  have lv := h2.len
  rw [List.length_map] at lv
  refine ⟨tA, _, _, rfl, rfl, h1', Nat.lt_of_lt_of_le (show vs.length < 1000001 by omega) (by decide), ?_⟩
  have tp : Tp (upd H o (.tup [.str "lay", .str wd, .int l, .int c])) (upd (upd H o (.tup [.str "lay", .str wd, .int l, .int c])) tA (.lst (vs ++ [.ref o]))) := Tp.wr h1'
  refine q _ _ ⟨by rw [upd_ne L.ne2.1]; exact f1.at L.ins (by simp), ⟨vs ++ [.ref o], upd_same, ?_⟩, by rw [upd_ne L.ne.symm]; exact f1.at L.stk (by simp), L.ne⟩ ((fr_00 f1).trans (.wr h1' (by simp)))
  rw [List.map_append]
  exact ((h2.mono f1.tups).mono tp).snoc (.tup (tp _ _ upd_same) (.cons (.str _) (.cons (.str _) (.cons (.int _) (.cons (.int _) .nil)))))
theorem sc_LayoutBegin : FnScope ["self", "column", "mark"] ["self", "column", "mark"] (defScope sLayoutBegin) := ⟨rfl, rfl, rfl, by decide +kernel, rfl, by decide +kernel, by decide +kernel⟩
theorem ok_begin (T : Facts K mg kA0 sA CL CR eA) (F : FnP K "begin" "Layout.begin" sLayoutBegin [] f fd) : FnOk P w K mg base CX0 1 f fd ["self", "column", "mark"] (spBegin CL) := by
  refine F.ok sc_LayoutBegin (fun vs H Q E h => ?_) (fun cdv A outer s H vs Q E hr h => ?_)
  · obtain ⟨lo, dx, tA, kA, ts, Sk, c, mv, rfl, _⟩ := h
    rfl
  obtain ⟨lo, dx, tA, kA, ts, Sk, c, mv, rfl, L, h24, q⟩ := h
  refine ⟨_, PSs.nox (pss_cons (ps_if (pt_cmpR op_eq (pe_callB (clLen K) (by rfl) T.f_len boot_len (pa_cons (pe_fld (pv 0) rfl) pa_nil)) (pe_g T.g_MOST_OPEN (by rfl)) (nomark _))
    (pss_one ps_never)
    pss_nil)
    (pss_one (ps_expr (pe_bm PySem.F.plainAttrs_list PySem.F.slot_list_append PySem.F.type_list_append mt_append (pe_fld (pv 0) rfl) (pa_cons (pv 1) pa_nil))))), ?_⟩
  have ll : (Sk.reverse.map V.int).length = Sk.length := by rw [List.length_map, List.length_reverse]
  refine ⟨_, rfl, lo, CL, dx, _, _, rfl, L.ins, T.cl_L, T.nStack, rfl, kA, _, rfl, .inl (.of L.stk), rfl, _, rfl, ?_⟩
  rw [ll, decide_eq_false (by intro h; injection h with h; omega)]
  refine iteF ?_
  have st := L.stack (Sk' := c :: Sk) (xs := Sk.reverse.map V.int ++ [.int c]) (by rw [List.reverse_cons, List.map_append] <;> rfl)
  exact ⟨_, rfl, lo, CL, dx, _, _, rfl, L.ins, T.cl_L, T.nStack, rfl, .inl ⟨rfl, _, .of L.stk⟩, _, rfl, kA, _, _, rfl, rfl, L.stk, szl (by rw [ll]; omega), q _ _ st.1 st.2⟩
theorem sc_LayoutBlock : FnScope ["self", "mark"] ["self", "mark"] (defScope sLayoutBlock) := ⟨rfl, rfl, rfl, by decide +kernel, rfl, by decide +kernel, by decide +kernel⟩
theorem ok_blockL (T : Facts K mg kA0 sA CL CR eA) (c_begin : MCal P w K mg base CL "begin" 1 ["self", "column", "mark"] [] (spBegin CL)) (c_lay : MCal P w K mg base CL "lay" 1 ["self", "sign", "line", "column"] [] (spLay CL)) (F : FnP K "block" "Layout.block" sLayoutBlock [] f fd) : FnOk P w K mg base CX0 2 f fd ["self", "mark"] (spBlockL CL) := by
  refine F.ok sc_LayoutBlock (fun vs H Q E h => ?_) (fun cdv A outer s H vs Q E hr h => ?_)
  · obtain ⟨lo, dx, tA, kA, ts, Sk, m, mv, rfl, _⟩ := h
    rfl
  obtain ⟨lo, dx, tA, kA, ts, Sk, m, mv, rfl, td, L, h24, hs, hm, hts, q⟩ := h
  refine ⟨_, PSs.nox (pss_cons (ps_if (pt_cmpR op_le (pe_ix (ixT K) (pv 1) pe_int (fun _ _ => rfl)) (pe_callBK (clMax K rfl hr.units) (by rfl) T.f_max PyProof.Rows.boot_max (pa_cons (pe_fld (pv 0) rfl) pa_nil) (pk_cons (pe_g T.g_BRACKET (by rfl)) pk_nil)) (nomark _))
    (pss_one ps_never)
    pss_nil)
    (pss_cons (ps_expr (pe_m c_begin (hr.mono (by omega)) T.cl_L (pv 0) (pa_cons (pe_ix (ixT K) (pv 1) pe_int (fun _ _ => rfl)) (pa_cons (pv 1) pa_nil))))
    (pss_one (ps_expr (pe_m c_lay (hr.mono (by omega)) T.cl_L (pv 0) (pa_cons pe_str (pa_cons (pe_ix (ixT K) (pv 1) pe_int (fun _ _ => rfl)) (pa_cons (pe_ix (ixT K) (pv 1) pe_int (fun _ _ => rfl)) pa_nil)))))))), ?_⟩
  obtain ⟨a, rfl, ha⟩ := td_mark td
  refine ⟨_, rfl, a, _, _, _, rfl, rfl, .of ha, atI_nat (j := 3) rfl, _, rfl, lo, CL, dx, _, _, rfl, L.ins, T.cl_L, T.nStack, rfl, kA, Sk.reverse, _, rfl, rfl, .of L.stk, fun r r1 r2 => ?_⟩
  have hr' : r < m.c := by
    by_cases h : Sk = []
    · rw [r1 (by rw [h] <;> rfl)]
      exact hm
    · exact hs r (List.mem_reverse.mp (r2 (by simpa using h)))
  refine ⟨_, _, rfl, rfl, _, rfl, ?_⟩
  rw [decide_eq_false (by omega)]
  refine iteF ?_
  refine ⟨_, rfl, lo, dx, _, rfl, L.ins, rfl, _, rfl, a, _, _, _, rfl, rfl, .of ha, atI_nat (j := 3) rfl, _, rfl, lo, dx, tA, kA, ts, Sk, m.c, _, rfl, L, h24, fun v H1 L1 f1 => ?_⟩
  have ha1 := f1.tups _ _ ha
  refine ⟨_, rfl, lo, dx, _, rfl, L1.ins, rfl, _, rfl, a, _, _, _, rfl, rfl, .of ha1, at2, _, rfl, a, _, _, _, rfl, rfl, .of ha1, atI_nat (j := 3) rfl, lo, dx, tA, kA, ts, m.c :: Sk, "{", m.l, m.c, rfl, L1, hts, fun v H2 L2 f2 => q _ _ L2 (f1.trans f2)⟩
end
end K10
namespace K10
open PySem PySem.Spec PyProof.Rows L2
open SX (S)
theorem at_top (c : Int) (r : List Int) : atI ((c :: r).reverse.map V.int) (-1) = some (.int c) := by
  have hl : (c :: r).reverse.map V.int = r.reverse.map V.int ++ [.int c] := by rw [List.reverse_cons, List.map_append] <;> rfl
  rw [hl]
  have l : (r.reverse.map V.int ++ [V.int c]).length = r.length + 1 := by rw [List.length_append, List.length_map, List.length_reverse] <;> rfl
  unfold atI ixN
  rw [if_neg (by decide), if_pos (by rw [l]; omega)]
  show (r.reverse.map V.int ++ [V.int c])[((-1 : Int) + ((r.reverse.map V.int ++ [V.int c]).length : Int)).toNat]? = _
  rw [l, show ((-1 : Int) + ((r.length + 1 : Nat) : Int)).toNat = r.length by omega, List.getElem?_append_right (by rw [List.length_map, List.length_reverse]; exact Nat.le_refl _), List.length_map, List.length_reverse, Nat.sub_self] <;> rfl
theorem clos_snoc (n : Nat) (m : M) : clos (n + 1) m = clos n m ++ [layM "}" m.l m.c] := by
  unfold clos
  rw [List.replicate_succ']
section
variable {P : Program} {w : World} {K : PySem.W.Frag} {mg : Str → Option Value} {base : Heap} {f : Addr} {fd : FuncData} {kA0 sA CL CR eA : Addr}
theorem sc_LayoutFirstOfLine : FnScope ["self", "mark"] ["self", "mark"] (defScope sLayoutFirstOfLine) := ⟨rfl, rfl, rfl, by decide +kernel, rfl, by decide +kernel, by decide +kernel⟩
theorem ok_first (T : Facts K mg kA0 sA CL CR eA) (c_lay : MCal P w K mg base CL "lay" 1 ["self", "sign", "line", "column"] [] (spLay CL)) (F : FnP K "first_of_line" "Layout.first_of_line" sLayoutFirstOfLine [] f fd) : FnOk P w K mg base CX0 2 f fd ["self", "mark"] (spFirst CL) := by
  refine F.ok sc_LayoutFirstOfLine (fun vs H Q E h => ?_) (fun cdv A outer s H vs Q E hr h => ?_)
  · obtain ⟨lo, dx, tA, kA, ts, ext, Sk, s, m, mv, rfl, _⟩ := h
    rfl
  obtain ⟨lo, dx, tA, kA, ts, ext, Sk, s0, m, mv, rfl, td, L, he, hs, hts, q⟩ := h
  refine ⟨_, PSs.nox (pss_cons (ps_while PassesOwn.never (pt_cmpR op_gt (pe_ix (ixL K) (pe_fld (pv 0) rfl) (pe_un un_neg pe_int) (fun _ _ => rfl)) (pe_ix (ixT K) (pv 1) pe_int (fun _ _ => rfl)) (nomark _))
    (pss_cons (ps_if (pt_cmpR op_eq (pe_callB (clLen K) (by rfl) T.f_len boot_len (pa_cons (pe_fld (pv 0) rfl) pa_nil)) pe_int (nomark _))
      (pss_one ps_never)
      pss_nil)
      (pss_cons (ps_expr (pe_bm0 PySem.F.plainAttrs_list PySem.F.slot_list_pop PySem.F.type_list_pop mt_pop (pe_fld (pv 0) rfl)))
      (pss_one (ps_expr (pe_m c_lay (hr.mono (by omega)) T.cl_L (pv 0) (pa_cons pe_str (pa_cons (pe_ix (ixT K) (pv 1) pe_int (fun _ _ => rfl)) (pa_cons (pe_ix (ixT K) (pv 1) pe_int (fun _ _ => rfl)) pa_nil)))))))))
    (pss_one (ps_if (pt_cmpR op_eq (pe_ix (ixL K) (pe_fld (pv 0) rfl) (pe_un un_neg pe_int) (fun _ _ => rfl)) (pe_ix (ixT K) (pv 1) pe_int (fun _ _ => rfl)) (nomark _))
    (pss_one (ps_expr (pe_m c_lay (hr.mono (by omega)) T.cl_L (pv 0) (pa_cons pe_str (pa_cons (pe_ix (ixT K) (pv 1) pe_int (fun _ _ => rfl)) (pa_cons (pe_ix (ixT K) (pv 1) pe_int (fun _ _ => rfl)) pa_nil))))))
    pss_nil))), ?_⟩
  obtain ⟨a, rfl, ha⟩ := td_mark td
  refine ⟨fun n σ H' => ∃ done rest : List Int, ext = done ++ rest ∧ rest.length = n ∧ σ = [some (.ref lo), some (.ref a)] ∧ LA CL lo dx tA kA H' (ts ++ clos done.length m) (rest ++ s0 :: Sk) ∧ Fr [tA, kA] H H', ⟨ext.length, [], ext, rfl, rfl, rfl, by simpa [clos] using L, Fr.refl _⟩, ?_⟩
  rintro n σ H1 ⟨done, rest, hde, hn, rfl, L1, f1⟩
  have ha1 := f1.tups _ _ ha
  cases rest with
  | nil =>
    have ed : done = ext := by rw [hde, List.append_nil]
    subst ed
    refine ⟨_, rfl, lo, CL, dx, _, _, rfl, L1.ins, T.cl_L, T.nStack, rfl, _, rfl, kA, _, _, _, rfl, rfl, .of L1.stk, at_top s0 Sk, _, rfl, a, _, _, _, rfl, rfl, .of ha1, atI_nat (j := 3) rfl, _, _, rfl, rfl, _, rfl, ?_⟩
    rw [decide_eq_false (by omega)]
    refine iteF ?_
    refine ⟨_, rfl, lo, CL, dx, _, _, rfl, L1.ins, T.cl_L, T.nStack, rfl, _, rfl, kA, _, _, _, rfl, rfl, .of L1.stk, at_top s0 Sk, _, rfl, a, _, _, _, rfl, rfl, .of ha1, atI_nat (j := 3) rfl, rfl, _, rfl, ?_⟩
    by_cases e : s0 = m.c
    · rw [decide_eq_true (by rw [e])]
      refine iteT ⟨_, rfl, lo, dx, _, rfl, L1.ins, rfl, _, rfl, a, _, _, _, rfl, rfl, .of ha1, at2, _, rfl, a, _, _, _, rfl, rfl, .of ha1, atI_nat (j := 3) rfl, lo, dx, tA, kA, _, _, ";", m.l, m.c, rfl, L1, by rw [List.length_append]; simp [clos]; omega, fun v H2 L2 f2 => ?_⟩
      refine q _ _ ?_ (f1.trans f2)
      rw [if_pos e, ← List.append_assoc]
      exact L2
    · rw [decide_eq_false (by intro h; injection h with h; exact e h)]
      refine iteF (q _ _ ?_ f1)
      rw [if_neg e, List.append_nil]
      exact L1
  | cons e rest =>
    have hgt : m.c < e := he e (by rw [hde]; simp)
    obtain ⟨n, rfl⟩ : ∃ k, n = k + 1 := ⟨rest.length, hn.symm⟩
    refine ⟨_, rfl, lo, CL, dx, _, _, rfl, L1.ins, T.cl_L, T.nStack, rfl, _, rfl, kA, _, _, _, rfl, rfl, .of L1.stk, at_top e (rest ++ s0 :: Sk), _, rfl, a, _, _, _, rfl, rfl, .of ha1, atI_nat (j := 3) rfl, _, _, rfl, rfl, _, rfl, ?_⟩
    rw [decide_eq_true (by omega)]
    refine iteT ⟨_, fun σ' H' h => ⟨n, Nat.lt_succ_self _, h⟩, ?_⟩
    refine ⟨_, rfl, lo, CL, dx, _, _, rfl, L1.ins, T.cl_L, T.nStack, rfl, kA, _, rfl, .inl (.of L1.stk), rfl, _, rfl, ?_⟩
    rw [decide_eq_false (by intro h; injection h with h; simp at h; omega)]
    refine iteF ?_
    -- pop
    have hl : ((e :: (rest ++ s0 :: Sk)).reverse.map V.int) = (rest ++ s0 :: Sk).reverse.map V.int ++ [.int e] := by rw [List.reverse_cons, List.map_append] <;> rfl
    have st := L1.stack (Sk' := rest ++ s0 :: Sk) (xs := ((e :: rest ++ s0 :: Sk).reverse.map V.int).dropLast) (by
      show ((e :: (rest ++ s0 :: Sk)).reverse.map V.int).dropLast = _
      rw [hl, List.dropLast_concat])
    refine ⟨_, rfl, lo, CL, dx, _, _, rfl, L1.ins, T.cl_L, T.nStack, rfl, .inl ⟨rfl, _, .of L1.stk⟩, kA, _, .int e, rfl, rfl, L1.stk, ?_, ?_⟩
    · show ((e :: (rest ++ s0 :: Sk)).reverse.map V.int)[((e :: (rest ++ s0 :: Sk)).reverse.map V.int).length - 1]? = _
      rw [hl, List.length_append]
      show _[(_ + 1) - 1]? = _
      rw [Nat.add_sub_cancel, List.getElem?_append_right (Nat.le_refl _), Nat.sub_self] <;> rfl
    have ha2 := st.2.tups _ _ ha1
    refine ⟨_, rfl, lo, dx, _, rfl, st.1.ins, rfl, _, rfl, a, _, _, _, rfl, rfl, .of ha2, at2, _, rfl, a, _, _, _, rfl, rfl, .of ha2, atI_nat (j := 3) rfl, lo, dx, tA, kA, _, _, "}", m.l, m.c, rfl, st.1, ?_, fun v H3 L3 f3 => ?_⟩
    · rw [List.length_append]
      have : done.length + (rest.length + 1) = ext.length := by rw [hde, List.length_append] <;> rfl
      simp [clos]
      omega
    refine ⟨done ++ [e], rest, by rw [hde, List.append_assoc] <;> rfl, Nat.succ.inj hn, rfl, ?_, f1.trans (st.2.trans f3)⟩
    have el : (done ++ [e]).length = done.length + 1 := by rw [List.length_append] <;> rfl
    rw [el, clos_snoc, ← List.append_assoc]
    exact L3
/-- one pop and what lies then on the stack -/
theorem pop_ok {CL lo dx tA kA : Addr} {H : Hp} {ts : List M} {e : Int} {r : List Int} (L : LA CL lo dx tA kA H ts (e :: r)) : ((e :: r).reverse.map V.int)[((e :: r).reverse.map V.int).length - 1]? = some (.int e) ∧ LA CL lo dx tA kA (upd H kA (.lst ((e :: r).reverse.map V.int).dropLast)) ts r ∧ Fr [tA, kA] H (upd H kA (.lst ((e :: r).reverse.map V.int).dropLast)) := by
  have hl : (e :: r).reverse.map V.int = r.reverse.map V.int ++ [.int e] := by rw [List.reverse_cons, List.map_append] <;> rfl
  refine ⟨?_, L.stack (Sk' := r) (by rw [hl, List.dropLast_concat])⟩
  rw [hl, List.length_append]
  show _[(_ + 1) - 1]? = _
  rw [Nat.add_sub_cancel, List.getElem?_append_right (Nat.le_refl _), Nat.sub_self] <;> rfl
theorem inV_ints (y : Int) (nm : List Int) : inV (.int y) (nm.map V.int) = decide (y ∈ nm) := by
  unfold inV
  rw [List.any_map]
  cases h : decide (y ∈ nm) with
  | true =>
    refine List.any_eq_true.mpr ⟨y, of_decide_eq_true h, ?_⟩
    show (y == y) = true
    exact beq_self_eq_true y
  | false =>
    refine List.any_eq_false.mpr fun z hz e => ?_
    have e' : (z == y) = true := e
    rw [eq_of_beq e'] at hz
    exact of_decide_eq_false h hz
theorem flat_ints : ∀ l : List Int, (l.map V.int).all flatV = true
  | [] => rfl
  | x :: l => by
    rw [List.map_cons, List.all_cons, flat_ints l] <;> rfl
theorem sc_LayoutBracket : FnScope ["self", "mark"] ["self", "mark"] (defScope sLayoutBracket) := ⟨rfl, rfl, rfl, by decide +kernel, rfl, by decide +kernel, by decide +kernel⟩
theorem ok_bracket (T : Facts K mg kA0 sA CL CR eA) (c_begin : MCal P w K mg base CL "begin" 1 ["self", "column", "mark"] [] (spBegin CL)) (c_lay : MCal P w K mg base CL "lay" 1 ["self", "sign", "line", "column"] [] (spLay CL)) (F : FnP K "bracket" "Layout.bracket" sLayoutBracket [] f fd) : FnOk P w K mg base CX0 2 f fd ["self", "mark"] (spBracket CL) := by
  refine F.ok sc_LayoutBracket (fun vs H Q E h => ?_) (fun cdv A outer s H vs Q E hr h => ?_)
  · obtain ⟨lo, dx, tA, kA, ts, S1, S2, D, m, mv, rfl, _⟩ := h
    rfl
  obtain ⟨lo, dx, tA, kA, ts, S1, S2, D, m, mv, rfl, td, hk, L, hc, hts, q⟩ := h
  refine ⟨_, PSs.nox (pss_one (ps_if (pt_cmpR op_eq (pe_ix (ixT K) (pv 1) pe_int (fun _ _ => rfl)) pe_str (nomark _))
    (pss_one (ps_expr (pe_m c_begin (hr.mono (by omega)) T.cl_L (pv 0) (pa_cons (pe_g T.g_BRACKET (by rfl)) (pa_cons (pv 1) pa_nil)))))
    (pss_one (ps_if (PW.pt (pw_and (pt_cmpR op_eq (pe_ix (ixT K) (pv 1) pe_int (fun _ _ => rfl)) pe_str (nomark _)) (pw_and1 (pt_cmpR (opIn K) (pe_g T.g_BRACKET (by rfl)) (pe_fld (pv 0) rfl) (by rfl)))))
      (pss_cons (ps_while PassesOwn.never (pt_cmpR op_ne (pe_ix (ixL K) (pe_fld (pv 0) rfl) (pe_un un_neg pe_int) (fun _ _ => rfl)) (pe_g T.g_BRACKET (by rfl)) (nomark _))
        (pss_cons (ps_expr (pe_bm0 PySem.F.plainAttrs_list PySem.F.slot_list_pop PySem.F.type_list_pop mt_pop (pe_fld (pv 0) rfl)))
          (pss_one (ps_expr (pe_m c_lay (hr.mono (by omega)) T.cl_L (pv 0) (pa_cons pe_str (pa_cons (pe_ix (ixT K) (pv 1) pe_int (fun _ _ => rfl)) (pa_cons (pe_ix (ixT K) (pv 1) pe_int (fun _ _ => rfl)) pa_nil))))))))
        (pss_one (ps_expr (pe_bm0 PySem.F.plainAttrs_list PySem.F.slot_list_pop PySem.F.type_list_pop mt_pop (pe_fld (pv 0) rfl)))))
      pss_nil)))), ?_⟩
  obtain ⟨a, rfl, ha⟩ := td_mark td
  refine ⟨_, rfl, a, _, _, _, rfl, rfl, .of ha, at1, rfl, _, rfl, ?_⟩
  generalize hDm : D ++ [m] = Dm at hc
  cases hc with
  | opn h1 h2 =>
    have hD : D = [] := by
      have := congrArg List.length hDm
      rw [List.length_append] at this
      exact List.eq_nil_of_length_eq_zero (Nat.succ.inj this)
    subst hD
    rw [show decide (V.str m.w = V.str "(") = true from decide_eq_true (by rw [h1.2])]
    exact iteT ⟨_, rfl, lo, dx, _, rfl, L.ins, rfl, _, rfl, lo, dx, tA, kA, ts, S1, -1, _, rfl, L, h2, fun v H1 L1 f1 => q _ _ (by rw [List.append_nil]; exact L1) f1⟩
  | @oth S1 m h1 h2 =>
    have hD : D = [] := by
      have := congrArg List.length hDm
      rw [List.length_append] at this
      exact List.eq_nil_of_length_eq_zero (Nat.succ.inj this)
    subst hD
    rw [decide_eq_false (fun z => h1 ⟨hk, by injection z⟩)]
    refine iteF ⟨_, rfl, a, _, _, _, rfl, rfl, .of ha, at1, rfl, _, rfl, ?_⟩
    rw [decide_eq_false (fun z => h2 ⟨hk, by injection z⟩)]
    exact iteF (iteF (q .non H (by rw [List.append_nil]; exact L) (Fr.refl _)))
  | @cls ext S2 m h1 h2 =>
    have hD : D = clos ext.length m := List.append_inj_left' hDm rfl
    subst hD
    rw [show decide (V.str m.w = V.str "(") = false by rw [h1.2]; decide +kernel]
    refine iteF ⟨_, rfl, a, _, _, _, rfl, rfl, .of ha, at1, rfl, _, rfl, ?_⟩
    rw [show decide (V.str m.w = V.str ")") = true from decide_eq_true (by rw [h1.2])]
    refine iteT ⟨_, rfl, lo, CL, dx, _, _, rfl, L.ins, T.cl_L, T.nStack, rfl, kA, _, rfl, .inl (.of L.stk), rfl, flat_ints _, _, rfl, ?_⟩
    rw [if_neg (by decide : ¬ false = true), inV_ints, decide_eq_true (by simp)]
    refine iteT ?_
    refine ⟨fun n σ H' => ∃ done rest : List Int, ext = done ++ rest ∧ rest.length = n ∧ σ = [some (.ref lo), some (.ref a)] ∧ LA CL lo dx tA kA H' (ts ++ clos done.length m) (rest ++ -1 :: S2) ∧ Fr [tA, kA] H H', ⟨ext.length, [], ext, rfl, rfl, rfl, by simpa [clos] using L, Fr.refl _⟩, ?_⟩
    rintro n σ H1 ⟨done, rest, hde, hn, rfl, L1, f1⟩
    have ha1 := f1.tups _ _ ha
    cases rest with
    | nil =>
      have ed : done = ext := by rw [hde, List.append_nil]
      subst ed
      refine ⟨_, rfl, lo, CL, dx, _, _, rfl, L1.ins, T.cl_L, T.nStack, rfl, _, rfl, kA, _, _, _, rfl, rfl, .of L1.stk, at_top (-1) S2, rfl, _, rfl, ?_⟩
      rw [show (!decide (V.int (-1) = V.int (-1))) = false by decide]
      refine iteF ?_
      obtain ⟨p1, p2, p3⟩ := pop_ok L1
      exact ⟨_, rfl, lo, CL, dx, _, _, rfl, L1.ins, T.cl_L, T.nStack, rfl, .inl ⟨rfl, _, .of L1.stk⟩, kA, _, .int (-1), rfl, rfl, L1.stk, p1, q _ _ p2 (f1.trans p3)⟩
    | cons e rest =>
      have hne : e ≠ -1 := h2 e (by rw [hde]; simp)
      obtain ⟨n, rfl⟩ : ∃ k, n = k + 1 := ⟨rest.length, hn.symm⟩
      refine ⟨_, rfl, lo, CL, dx, _, _, rfl, L1.ins, T.cl_L, T.nStack, rfl, _, rfl, kA, _, _, _, rfl, rfl, .of L1.stk, at_top e (rest ++ -1 :: S2), rfl, _, rfl, ?_⟩
      rw [show (!decide (V.int e = V.int (-1))) = true by rw [decide_eq_false (by intro h; injection h with h; exact hne h)] <;> rfl]
      refine iteT ⟨_, fun σ' H' h => ⟨n, Nat.lt_succ_self _, h⟩, ?_⟩
      obtain ⟨p1, p2, p3⟩ := pop_ok L1
      have ha2 := p3.tups _ _ ha1
      refine ⟨_, rfl, lo, CL, dx, _, _, rfl, L1.ins, T.cl_L, T.nStack, rfl, .inl ⟨rfl, _, .of L1.stk⟩, kA, _, .int e, rfl, rfl, L1.stk, p1, ?_⟩
      refine ⟨_, rfl, lo, dx, _, rfl, p2.ins, rfl, _, rfl, a, _, _, _, rfl, rfl, .of ha2, at2, _, rfl, a, _, _, _, rfl, rfl, .of ha2, atI_nat (j := 3) rfl, lo, dx, tA, kA, _, _, "}", m.l, m.c, rfl, p2, ?_, fun v H3 L3 f3 => ?_⟩
      · rw [List.length_append]
        have e1 : done.length + (rest.length + 1) = ext.length := by rw [hde, List.length_append] <;> rfl
        have e2 : (ext ++ -1 :: S2).length = ext.length + (S2.length + 1) := by rw [List.length_append] <;> rfl
        simp [clos]
        omega
      refine ⟨done ++ [e], rest, by rw [hde, List.append_assoc] <;> rfl, Nat.succ.inj hn, rfl, ?_, f1.trans (p3.trans f3)⟩
      have el : (done ++ [e]).length = done.length + 1 := by rw [List.length_append] <;> rfl
      rw [el, clos_snoc, ← List.append_assoc]
      exact L3
end
end K10
namespace K10
open PySem PySem.Spec PyProof.Rows L2
open SX (S)
theorem core_split {S S' : List Int} {m : M} {D : List M} (h : Core S m S' D) : ∃ D', D = D' ++ [m] := by
  cases h with
  | opn _ _ => exact ⟨[], rfl⟩
  | cls _ _ => exact ⟨_, rfl⟩
  | oth _ _ => exact ⟨[], rfl⟩
/-- the mark ahead, told -/
def AhV (H : Hp) (v : V) : Option M → Prop
  | none => v = .non
  | some a => TD H v a.py
def spPut (CL : Addr) : Sp := fun vs H Q _ => ∃ (lo dx tA kA : Addr) (ts : List M) (S S1 S2 : List Int) (D1 D2 : List M) (a : Option M) (m : M) (mv av : V), vs = [.ref lo, mv, av] ∧ TD H mv m.py ∧ AhV H av a ∧ LA CL lo dx tA kA H ts S ∧ Pre S a m S1 D1 ∧ Core S1 m S2 D2 ∧ ts.length + 200 ≤ 1000000 ∧ S.length ≤ 50 ∧
  ∀ (v : V) (H' : Hp), LA CL lo dx tA kA H' (ts ++ (D1 ++ D2)) S2 → Fr [tA, kA] H H' → Q v H'
theorem ahead_no {K : PySem.W.Frag} {σ : L2.St} {H : Hp} {Q : Bool → Hp → Prop} {ab : Addr} {b : M} (hσ : σ[2]? = some (some (.ref ab))) (hab : H ab = some (.tup [.str b.k, .str b.w, .int b.l, .int b.c])) (hb : ¬ opensB b) (q : ∀ H', Fr [] H H' → Q false H') :
    tOr (tB (tIsN (tVar 2))) (tAnd (tTest (tOp rEq (tOp (rIxT K) (tVar 2) (tC (V.int 0))) (tC (V.str "key")))) (tTest (tOp (rIn K false) (tOp (rIxT K) (tVar 2) (tC (V.int 1))) (tTup (tCons (tC (V.str "let")) (tCons (tC (V.str "of")) tNil)))))) σ H Q := by
  refine ⟨_, hσ, _, rfl, iteF ⟨_, hσ, ab, _, _, _, rfl, rfl, .of hab, at0, rfl, _, rfl, ite2 (fun hk => ?_) (fun _ => q H (Fr.refl _))⟩⟩
  have hk' : b.k = "key" := by
    have := of_decide_eq_true hk
    injection this
  refine ⟨_, hσ, ab, _, _, _, rfl, rfl, .of hab, at1, by show 2 ≤ sizeLine; decide, fun T0 hT0 => ⟨T0, _, rfl, .inr (.of upd_same), rfl, rfl, _, rfl, ?_⟩⟩
  have hin : inV (.str b.w) [.str "let", .str "of"] = decide (b.w ∈ (["let", "of"] : List Str)) := inV_strs _ ["let", "of"]
  rw [if_neg (by decide : ¬ false = true), hin, decide_eq_false (fun hm => by
    simp only [List.mem_cons, List.not_mem_nil, or_false] at hm
    exact hb ⟨hk', hm⟩)]
  exact q _ (.new hT0)
section
variable {P : Program} {w : World} {K : PySem.W.Frag} {mg : Str → Option Value} {base : Heap} {f : Addr} {fd : FuncData} {kA0 sA CL CR eA : Addr}
theorem sc_LayoutPut : FnScope ["self", "mark", "ahead"] ["self", "mark", "ahead"] (defScope sLayoutPut) := ⟨rfl, rfl, rfl, by decide +kernel, rfl, by decide +kernel, by decide +kernel⟩
theorem ok_put (T : Facts K mg kA0 sA CL CR eA) (c_block : MCal P w K mg base CL "block" 2 ["self", "mark"] [] (spBlockL CL)) (c_first_of_line : MCal P w K mg base CL "first_of_line" 2 ["self", "mark"] [] (spFirst CL)) (c_bracket : MCal P w K mg base CL "bracket" 2 ["self", "mark"] [] (spBracket CL))
    (F : FnP K "put" "Layout.put" sLayoutPut [] f fd) : FnOk P w K mg base CX0 3 f fd ["self", "mark", "ahead"] (spPut CL) := by
  refine F.ok sc_LayoutPut (fun vs H Q E h => ?_) (fun cdv A outer s H vs Q E hr h => ?_)
  · obtain ⟨lo, dx, tA, kA, ts, S, S1, S2, D1, D2, a, m, mv, av, rfl, _⟩ := h
    rfl
  obtain ⟨lo, dx, tA, kA, ts, S, S1, S2, D1, D2, a, m, mv, av, rfl, td, ta, L, hpre, hcore, hts, hS, q⟩ := h
  refine ⟨_, PSs.nox (Evl.pss_cut (ps_if (PW.pt (pw_or (pt_cmp (pc_isN (pv 2)) rfl) (pw_or1 (PW.pt (pw_and (pt_cmpR op_eq (pe_ix (ixT K) (pv 2) pe_int (fun _ _ => rfl)) pe_str (nomark _)) (pw_and1 (pt_cmpR (opIn K) (pe_ix (ixT K) (pv 2) pe_int (fun _ _ => rfl)) (pe_tup (pa_cons pe_str (pa_cons pe_str pa_nil))) (by rfl))))))))
    (pss_one (ps_expr (pe_m c_block (hr.mono (by omega)) T.cl_L (pv 0) (pa_cons (pv 1) pa_nil))))
    (pss_one (ps_if (pt_cmpR op_gt (pe_ix (ixT K) (pv 1) pe_int (fun _ _ => rfl)) (pe_ix (ixT K) (pv 2) pe_int (fun _ _ => rfl)) (nomark _))
      (pss_one (ps_expr (pe_m c_first_of_line (hr.mono (by omega)) T.cl_L (pv 0) (pa_cons (pv 1) pa_nil))))
      pss_nil)))
    (Evl.pss_cut (ps_if (pt_cmpR op_eq (pe_ix (ixT K) (pv 1) pe_int (fun _ _ => rfl)) pe_str (nomark _))
    (pss_one (ps_expr (pe_m c_bracket (hr.mono (by omega)) T.cl_L (pv 0) (pa_cons (pv 1) pa_nil))))
    pss_nil)
    (pss_one (ps_expr (pe_bm PySem.F.plainAttrs_list PySem.F.slot_list_append PySem.F.type_list_append mt_append (pe_fld (pv 0) rfl) (pa_cons (pv 1) pa_nil)))))), ?_⟩
  obtain ⟨am, rfl, ham⟩ := td_mark td
  -- what stands ahead of the mark
  refine ⟨fun σ' H' => σ' = [some (.ref lo), some (.ref am), some av] ∧ LA CL lo dx tA kA H' (ts ++ D1) S1 ∧ Fr [tA, kA] H H', ?_, ?_⟩
  · have isn : ∀ {v : V} {d : M}, TD H v d.py → (match v with | .non => true | _ => false) = false := fun h => by
      obtain ⟨b, rfl, _⟩ := td_mark h
      rfl
    have lets : ∀ (b : M) (hb : opensB b), b.w ∈ (["let", "of"] : List Str) := fun b hb => by
      rcases hb.2 with h | h
      · rw [h]; simp
      · rw [h]; simp
    have notlets : ∀ (b : M), ¬ opensB b → b.k = "key" → ¬ b.w ∈ (["let", "of"] : List Str) := fun b hb hk hm => by
      simp only [List.mem_cons, List.not_mem_nil, or_false] at hm
      exact hb ⟨hk, hm⟩
    cases hpre with
    | blk h1 h2 h3 h4 =>
      cases a with
      | none =>
        cases ta
        exact ⟨_, rfl, _, rfl, iteT (iteT ⟨_, rfl, lo, dx, _, rfl, L.ins, rfl, _, rfl, lo, dx, tA, kA, ts, S, m, _, rfl, td, L, h4, h2, h3, by omega, fun v H1 L1 f1 => ⟨rfl, L1, f1⟩⟩)⟩
      | some b =>
        obtain ⟨ab, rfl, hab⟩ := td_mark ta
        have hb := h1 b rfl
        refine ⟨_, rfl, _, rfl, iteF ⟨_, rfl, ab, _, _, _, rfl, rfl, .of hab, at0, rfl, _, rfl, ?_⟩⟩
        rw [decide_eq_true (by rw [hb.1])]
        refine iteT ⟨_, rfl, ab, _, _, _, rfl, rfl, .of hab, at1, by show 2 ≤ sizeLine; decide, fun T0 hT0 => ⟨T0, _, rfl, .inr (.of upd_same), rfl, rfl, _, rfl, ?_⟩⟩
        have f0 : Fr [] H (upd H T0 (.tup [.str "let", .str "of"])) := .new hT0
        have hin : inV (.str b.w) [.str "let", .str "of"] = decide (b.w ∈ (["let", "of"] : List Str)) := inV_strs _ ["let", "of"]
        rw [if_neg (by decide : ¬ false = true), hin, decide_eq_true (lets b hb)]
        have L0 := L.fr f0
        exact iteT ⟨_, rfl, lo, dx, _, rfl, L0.ins, rfl, _, rfl, lo, dx, tA, kA, ts, S, m, _, rfl, td.mono f0.tups, L0, h4, h2, h3, by omega, fun v H1 L1 f1 => ⟨rfl, L1, (fr_00 f0).trans f1⟩⟩
    | @same S a m h1 h2 =>
      obtain ⟨ab, rfl, hab⟩ := td_mark ta
      refine ahead_no (K := K) (σ := [some (.ref lo), some (.ref am), some (.ref ab)]) rfl hab h1 fun H1 f1 => iteF ?_
      refine ⟨_, rfl, am, _, _, _, rfl, rfl, .of (f1.at ham (by simp)), at2, _, rfl, ab, _, _, _, rfl, rfl, .of (f1.at hab (by simp)), at2, _, _, rfl, rfl, _, rfl, ?_⟩
      rw [decide_eq_false h2]
      exact iteF ⟨rfl, by rw [List.append_nil]; exact L.fr f1, fr_00 f1⟩
    | @line ext S s a m h1 h2 h3 h4 =>
      obtain ⟨ab, rfl, hab⟩ := td_mark ta
      refine ahead_no (K := K) (σ := [some (.ref lo), some (.ref am), some (.ref ab)]) rfl hab h1 fun H1 f1 => iteF ?_
      refine ⟨_, rfl, am, _, _, _, rfl, rfl, .of (f1.at ham (by simp)), at2, _, rfl, ab, _, _, _, rfl, rfl, .of (f1.at hab (by simp)), at2, _, _, rfl, rfl, _, rfl, ?_⟩
      rw [decide_eq_true h2]
      have L1 := L.fr f1
      rw [List.length_append] at hS
      exact iteT ⟨_, rfl, lo, dx, _, rfl, L1.ins, rfl, _, rfl, lo, dx, tA, kA, ts, ext, S, s, m, _, rfl, td.mono f1.tups, L1, h3, h4, by omega, fun v H2 L2 f2 => ⟨rfl, L2, (fr_00 f1).trans f2⟩⟩
  rintro σ' H1 ⟨rfl, L1, f1⟩
  have ham1 := f1.tups _ _ ham
  have s1len : S1.length ≤ 60 ∧ D1.length ≤ 60 := by
    cases hpre with
    | blk _ _ _ => simp; omega
    | same _ _ => simp; omega
    | @line ext S s a m _ _ _ _ =>
      rw [List.length_append] at hS
      simp only [List.length_cons] at hS
      constructor
      · rw [List.length_cons]; omega
      · rw [List.length_append]
        simp only [clos, List.length_replicate]
        split <;> simp <;> omega
  obtain ⟨D', rfl⟩ := core_split hcore
  -- brackets
  refine ⟨fun σ' H' => σ' = [some (.ref lo), some (.ref am), some av] ∧ LA CL lo dx tA kA H' (ts ++ D1 ++ D') S2 ∧ Fr [tA, kA] H H', ?_, ?_⟩
  · refine ⟨_, rfl, am, _, _, _, rfl, rfl, .of ham1, at0, rfl, _, rfl, ite2 (fun hk => ?_) (fun hk => ?_)⟩
    · have hk' : m.k = "sign" := by
        have := of_decide_eq_true hk
        injection this
      exact ⟨_, rfl, lo, dx, _, rfl, L1.ins, rfl, _, rfl, lo, dx, tA, kA, _, S1, S2, D', m, _, rfl, td.mono f1.tups, hk', L1, hcore, by rw [List.length_append]; omega, fun v H2 L2 f2 => ⟨rfl, L2, f1.trans f2⟩⟩
    · have hk' : ¬ m.k = "sign" := fun z => hk (decide_eq_true (by rw [z]))
      generalize hDm : D' ++ [m] = Dm at hcore
      cases hcore with
      | opn h1 _ => exact absurd h1.1 hk'
      | cls h1 _ => exact absurd h1.1 hk'
      | oth h1 h2 =>
        have hD : D' = [] := by
          have := congrArg List.length hDm
          rw [List.length_append] at this
          exact List.eq_nil_of_length_eq_zero (Nat.succ.inj this)
        subst hD
        exact ⟨rfl, by rw [List.append_nil]; exact L1, f1⟩
  rintro σ' H2 ⟨rfl, L2, f2⟩
  obtain ⟨vs, h1, h2⟩ := L2.told
  have lv := h2.len
  rw [List.length_map, List.length_append, List.length_append] at lv
  have dlen : D'.length ≤ 60 := by
    generalize hDm : D' ++ [m] = Dm at hcore
    have l1 := congrArg List.length hDm
    rw [List.length_append] at l1
    cases hcore with
    | opn _ _ =>
      have l1' : D'.length + 1 = 1 := l1
      omega
    | @cls ext S m _ _ =>
      have l2 := s1len.1
      rw [List.length_append] at l2
      simp only [List.length_append, clos, List.length_replicate, List.length_cons, List.length_nil] at l1 l2
      omega
    | oth _ _ =>
      have l1' : D'.length + 1 = 1 := l1
      omega
  refine ⟨_, rfl, lo, CL, dx, _, _, rfl, L2.ins, T.cl_L, T.nTold, rfl, .inl ⟨rfl, _, .of h1⟩, _, rfl, tA, _, _, rfl, rfl, h1, Nat.lt_of_lt_of_le (show vs.length < 1000001 by omega) (by decide), ?_⟩
  have tp : Tp H2 (upd H2 tA (.lst (vs ++ [.ref am]))) := Tp.wr h1
  refine q _ _ ⟨by rw [upd_ne L2.ne2.1]; exact L2.ins, ⟨vs ++ [.ref am], upd_same, ?_⟩, by rw [upd_ne L2.ne.symm]; exact L2.stk, L2.ne⟩ (f2.trans (.wr h1 (by simp)))
  have e : ts ++ (D1 ++ (D' ++ [m])) = (ts ++ D1 ++ D') ++ [m] := by simp
  rw [e, List.map_append]
  exact (h2.mono tp).snoc ((td.mono f2.tups).mono tp)
end
end K10
namespace K10
open PySem PySem.Spec PyProof.Rows L2
open SX (S)
open C8 (Mak)
theorem pe_mk0 {X : Cx} {x : Str} {k j : Nat} {C : Addr} {sp : Sp} {dvs : List V} {p pos : Pos} (c : Mak X.prog X.w X.K X.mg X.base k x C sp dvs) (hr : Room j X.A) (hk : k + 1 ≤ j) (hg : Gl X x) (hdb : (x == ("__debug__" : Str)) = false := by decide) :
    PE X (.Call (.Name x p) [] [] pos) (tMake C sp dvs E0 tNil) := by
  obtain ⟨f, fd, ps, ds, M, F, hm, b, d⟩ := c.ex
  exact pe_make0 M F (hr.mono hk) hg hm b d pass0 hdb
def spInitL (CL : Addr) : Sp := fun vs H Q _ => ∃ (lo dx : Addr), vs = [.ref lo] ∧ H lo = some (.ins CL dx []) ∧ ∀ (tA kA : Addr) (H' : Hp), LA CL lo dx tA kA H' [] [] → H tA = none → H kA = none → Fr [lo] H H' → Q .non H'
def lenOk (ts : List M) (i : Nat) : Prop := ts.length ≤ 60 * i
theorem pre_len {S S1 : List Int} {a : Option M} {m : M} {D1 : List M} (h : Pre S a m S1 D1) (hS : S.length ≤ 24) : S1.length ≤ 24 ∧ D1.length ≤ 26 := by
  cases h with
  | blk _ _ _ h4 => exact ⟨h4, by simp⟩
  | same _ _ => exact ⟨hS, by simp⟩
  | @line ext S s a m _ _ _ _ =>
    rw [List.length_append] at hS
    simp only [List.length_cons] at hS
    constructor
    · rw [List.length_cons]; omega
    · rw [List.length_append]
      simp only [clos, List.length_replicate]
      split <;> simp <;> omega
theorem core_len {S S2 : List Int} {m : M} {D2 : List M} (h : Core S m S2 D2) (hS : S.length ≤ 24) : S2.length ≤ 24 ∧ D2.length ≤ 26 := by
  cases h with
  | opn _ h2 => exact ⟨h2, by simp⟩
  | @cls ext S m _ _ =>
    rw [List.length_append] at hS
    simp only [List.length_cons] at hS
    exact ⟨by omega, by simp [clos]; omega⟩
  | oth _ _ => exact ⟨hS, by simp⟩
def spLaid : Sp := fun vs H Q _ => ∃ (rows : List Row) (S1 : List Int) (D : List M), vs = [.str (S (textR rows))] ∧ rows ≠ [] ∧ (∀ r ∈ rows, RowFit r) ∧ (textR rows).length ≤ 16760000 ∧ (toksR 0 rows).length ≤ 5000 ∧ LayN [] none (toksR 0 rows) S1 D ∧ (∀ s ∈ S1, s ≠ -1) ∧
  ∀ (p : Addr) (vs : List V) (C : List M) (H' : Hp), H p = none → H' p = some (.lst vs) → TDs H' vs ((D ++ C).map M.py) → Cl S1.length C → Fr [] H H' → Q (.ref p) H'
section
variable {P : Program} {w : World} {K : PySem.W.Frag} {mg : Str → Option Value} {base : Heap} {f : Addr} {fd : FuncData} {kA0 sA CL CR eA : Addr}
theorem sc_LayoutInit : FnScope ["self"] ["self"] (defScope sLayoutInit) := ⟨rfl, rfl, rfl, by decide +kernel, rfl, by decide +kernel, by decide +kernel⟩
theorem ok_initL (T : Facts K mg kA0 sA CL CR eA) (F : FnP K "__init__" "Layout.__init__" sLayoutInit [] f fd) : FnOk P w K mg base CX0 1 f fd ["self"] (spInitL CL) := by
  refine F.ok sc_LayoutInit (fun vs H Q E h => ?_) (fun cdv A outer s H vs Q E hr h => ?_)
  · obtain ⟨lo, dx, rfl, _⟩ := h
    rfl
  obtain ⟨lo, dx, rfl, hins, q⟩ := h
  refine ⟨_, PSs.nox (pss_cons (ps_fld (pv 0) (pe_lst pa_nil) rfl)
    (pss_one (ps_fld (pv 0) (pe_lst pa_nil) rfl))), ?_⟩
  refine ⟨by show 0 ≤ sizeLine; decide, fun tA htA => ⟨_, rfl, lo, CL, dx, [], rfl, ?_, T.cl_L, T.nTold, by decide, ?_⟩⟩
  · have f1 : Fr [] H (upd H tA (.lst [])) := .new htA
    exact f1.at hins (by simp)
  have n1 : tA ≠ lo := fun z => by rw [z, hins] at htA; cases htA
  refine ⟨by show 0 ≤ sizeLine; decide, fun kA hkA => ?_⟩
  have n2 : kA ≠ lo := fun z => by rw [z, upd_same] at hkA; cases hkA
  rw [upd_ne n2] at hkA
  have n3 : kA ≠ tA := fun z => by rw [z, upd_same] at hkA; cases hkA
  rw [upd_ne n3] at hkA
  refine ⟨_, rfl, lo, CL, dx, [("told", .ref tA)], rfl, by rw [upd_ne n2.symm, upd_same] <;> rfl, T.cl_L, T.nStack, (show 1 < 1000 by decide), ?_⟩
  refine q tA kA _ ⟨by rw [upd_same] <;> rfl, ⟨[], by rw [upd_ne n1, upd_ne n3.symm, upd_ne n1, upd_same], .nil⟩, by rw [upd_ne n2, upd_same] <;> rfl, n3.symm⟩ htA hkA ⟨fun b o e hb => ?_, fun b xs e => ?_⟩
  · have hb' : b ≠ lo := fun z => hb (by rw [z]; exact mem1)
    rw [upd_ne hb', upd_ne (ne_of_none e hkA), upd_ne hb', upd_ne (ne_of_none e htA)]
    exact e
  · have hb' : b ≠ lo := fun z => by rw [z, hins] at e; cases e
    rw [upd_ne hb', upd_ne (ne_of_none e hkA), upd_ne hb', upd_ne (ne_of_none e htA)]
    exact e
theorem sc_Laid : FnScope ["text", "layout", "ahead", "mark", "column"] ["text"] (defScope sLaid) := ⟨rfl, rfl, rfl, by decide +kernel, rfl, by decide +kernel, by decide +kernel⟩
theorem ok_laid (T : Facts K mg kA0 sA CL CR eA) (c_marks : Cal P w K mg base "marks" 3 ["text"] spMarks) (c_Layout : Mak P w K mg base 1 "Layout" CL (spInitL CL) []) (c_put : MCal P w K mg base CL "put" 3 ["self", "mark", "ahead"] [] (spPut CL)) (c_lay : MCal P w K mg base CL "lay" 1 ["self", "sign", "line", "column"] [] (spLay CL))
    (F : FnP K "laid" "laid" sLaid [] f fd) : FnOk P w K mg base CX0 4 f fd ["text"] spLaid := by
  refine F.ok sc_Laid (fun vs H Q E h => ?_) (fun cdv A outer s H vs Q E hr h => ?_)
  · obtain ⟨rows, S1, D, rfl, _⟩ := h
    rfl
  obtain ⟨rows, S1, D, rfl, hne, hfit, hsz, hcnt, hlay, hS1, q⟩ := h
  refine ⟨_, PSs.nox (pss_cons (ps_set (i := 1) sc_Laid.nd rfl (.inl rfl) (pe_mk0 c_Layout hr (by omega) (by rfl)))
    (pss_cons (ps_set (i := 2) sc_Laid.nd rfl (.inl rfl) pe_non)
    (pss_cons (ps_for PassesOwn.never rfl (piL K (pe_c c_marks (hr.mono (by omega)) (by rfl) (pa_cons (pv 0) pa_nil))) (pg_name (i := 3) sc_Laid.nd rfl (.inl rfl))
    (pss_cons (ps_expr (pe_m c_put (hr.mono (by omega)) T.cl_L (pv 1) (pa_cons (pv 3) (pa_cons (pv 2) pa_nil))))
      (pss_one (ps_set (i := 2) sc_Laid.nd rfl (.inl rfl) (pv 3)))))
    (pss_cons (ps_for PassesOwn.never rfl (pi_reversed (by rfl) T.f_reversed (pa_cons (pe_fld (pv 1) rfl) pa_nil)) (pg_name (i := 4) sc_Laid.nd rfl (.inl rfl))
    (pss_one (ps_if (pt_cmpR op_ne (pv 4) (pe_g T.g_BRACKET (by rfl)) (nomark _))
      (pss_one (ps_expr (pe_m c_lay (hr.mono (by omega)) T.cl_L (pv 1) (pa_cons pe_str (pa_cons (pe_op op_add (pe_m1 PySem.F.slot_str_count PySem.F.type_str_count mt_count (pv 0) pe_str) pe_int) (pa_cons pe_int pa_nil))))))
      pss_nil)))
    (pss_one (ps_ret (pe_callTy (clList K) (by rfl) T.f_list boot_list (pa_cons (pe_fld (pv 1) rfl) pa_nil)))))))), ?_⟩
  -- layout
  refine fun lo dx hlo hdx hd => ⟨lo, dx, rfl, upd_same, fun tA kA H1 L1 htA hkA f1 => ⟨rfl, ?_⟩⟩
  have f0 : Fr [] H (upd (upd H dx (.own lo)) lo (.ins CL dx [])) := (Fr.new (T := []) hdx).put hlo
  have f01 : Fr [] H H1 := f0.drop f1 fun x hx => .inr (by rw [List.mem_singleton.mp hx]; exact hlo)
  have tA0 : H tA = none := f0.free htA (by simp)
  have kA0' : H kA = none := f0.free hkA (by simp)
  -- marks
  refine ⟨_, rfl, rows, rfl, hne, hfit, hsz, fun p ms H2 hp0 hp htd f2 => ?_⟩
  have L2 := L1.fr f2
  have npA : p ≠ tA ∧ p ≠ kA := by
    obtain ⟨us, h1, _⟩ := L1.told
    exact ⟨fun z => (by rw [z, h1] at hp0; cases hp0), fun z => (by have := L1.stk; rw [← z, hp0] at this; cases this)⟩
  have lms := htd.len
  rw [List.length_map] at lms
  refine ⟨p, rfl, ⟨_, .of hp⟩, for_list (K := K) (a := p) (xs := ms) (fun i σ H' => ∃ (av : V) (y3 : Option V) (a : Option M) (ts Dr : List M) (Si : List Int), σ = [some (.str (S (textR rows))), some (.ref lo), some av, y3, none] ∧ LA CL lo dx tA kA H' ts Si ∧ AhV H' av a ∧ LayN Si a ((toksR 0 rows).drop i) S1 Dr ∧ D = ts ++ Dr ∧ Si.length ≤ 24 ∧ ts.length ≤ 60 * i ∧ Fr [tA, kA] H2 H')
    ⟨.non, none, none, [], D, [], rfl, L2, rfl, hlay, rfl, by decide, by decide, Fr.refl _⟩ (fun i σ H' _ ⟨_, _, _, _, _, _, _, _, _, _, _, _, _, fr⟩ => .of (fr.at hp (nmem2 npA.1 npA.2))) ?_ ?_⟩
  · rintro i x σ H3 hi ⟨av, y3, a, ts, Dr, Si, rfl, L3, ha, hl, hD, hSi, hts, f3⟩
    obtain ⟨dm, hdm, tdm⟩ := htd.getV hi
    rw [List.getElem?_map] at hdm
    obtain ⟨m, hm, rfl⟩ := Option.map_eq_some_iff.mp hdm
    have il := (List.getElem?_eq_some_iff.mp hm).1
    rw [List.drop_eq_getElem_cons il] at hl
    have em : (toksR 0 rows)[i] = m := by
      rw [List.getElem?_eq_getElem il] at hm
      exact Option.some.inj hm
    rw [em] at hl
    obtain ⟨Sa, Da, Sb, Db, D3, hpre, hcore, hl3, rfl⟩ := hl
    have pl := pre_len hpre hSi
    have cl := core_len hcore pl.1
    refine ⟨_, rfl, lo, dx, _, rfl, L3.ins, rfl, _, rfl, _, rfl, lo, dx, tA, kA, ts, Si, Sa, Sb, Da, Db, a, m, x, av, rfl, tdm.mono f3.tups, ha, L3, hpre, hcore, by omega, by omega, fun v H4 L4 f4 => ?_⟩
    refine ⟨_, rfl, x, _, some m, ts ++ (Da ++ Db), D3, Sb, rfl, L4, (tdm.mono f3.tups).mono f4.tups, hl3, by rw [hD]; simp, cl.1, ?_, f3.trans f4⟩
    rw [List.length_append, List.length_append]
    omega
  rintro σ H3 ⟨av, y3, a, ts, Dr, Si, rfl, L3, ha, hl, hD, hSi, hts, f3⟩
  rw [lms, List.drop_length] at hl
  obtain ⟨rfl, rfl⟩ := hl
  rw [List.append_nil] at hD
  subst hD
  -- the blocks' ends
  have ll : (S1.reverse.map V.int).length = S1.length := by rw [List.length_map, List.length_reverse]
  refine ⟨_, rfl, lo, CL, dx, _, _, rfl, L3.ins, T.cl_L, T.nStack, rfl, kA, _, rfl, .of L3.stk, for_it (walk_rev (xs := S1.reverse.map V.int)) (fun i σ H' => ∃ (y4 : Option V) (C : List M), σ = [some (.str (S (textR rows))), some (.ref lo), some av, y3, y4] ∧ LA CL lo dx tA kA H' (D ++ C) S1 ∧ Cl i C ∧ Fr [tA, kA] H3 H')
    ⟨none, [], rfl, by rw [List.append_nil]; exact L3, cl_nil, Fr.refl _⟩ (fun i σ H' _ ⟨_, _, _, L4, _, _⟩ => .of L4.stk) ?_ ?_⟩
  · rintro i x σ H4 H4' hi ⟨y4, C, rfl, L4, hC, f4⟩ ⟨rfl, hx⟩
    rw [ll] at hx hi
    rw [List.getElem?_map] at hx
    obtain ⟨c, hc, rfl⟩ := Option.map_eq_some_iff.mp hx
    have hcm : c ∈ S1 := List.mem_reverse.mp (List.mem_of_getElem? hc)
    refine ⟨_, rfl, rfl, _, rfl, ?_⟩
    rw [show (!decide (V.int c = V.int (-1))) = true by rw [decide_eq_false (by intro h; injection h with h; exact hS1 c hcm h)] <;> rfl]
    refine iteT ⟨_, rfl, lo, dx, _, rfl, L4.ins, rfl, _, rfl, ⟨_, rfl⟩, _, _, rfl, rfl, _, _, rfl, rfl, lo, dx, tA, kA, D ++ C, S1, "}", _, 0, rfl, L4, ?_, fun v H5 L5 f5 => ?_⟩
    · have := hC.1
      rw [List.length_append]
      omega
    · refine ⟨_, C ++ [layM "}" _ 0], rfl, by rw [← List.append_assoc]; exact L5, cl_app hC ⟨rfl, fun m hm => by rw [List.mem_singleton.mp hm]; exact ⟨rfl, rfl⟩⟩, f4.trans f5⟩
  rintro σ H4 ⟨y4, C, rfl, L4, hC, f4⟩
  rw [ll] at hC
  obtain ⟨us, h1, h2⟩ := L4.told
  refine ⟨_, rfl, lo, CL, dx, _, _, rfl, L4.ins, T.cl_L, T.nTold, rfl, tA, us, rfl, .inl (.of h1), fun l hl => ?_⟩
  have fr4 : Fr [] H H4 := f01.drop (f2.mono (T' := [tA, kA]) (fun _ h => by cases h) |>.trans (f3.trans f4)) fun x hx => .inr (by
    rcases List.mem_cons.mp hx with z | z
    · rw [z]; exact tA0
    · rw [List.mem_singleton.mp z]; exact kA0')
  exact q l us C _ (fr4.free hl (by simp)) upd_same (h2.mono (Fr.new (T := []) hl).tups) hC (fr4.trans (.new hl))
end
end K10
namespace K10
open PySem PySem.Spec PyProof.Rows L2
open SX (S)
open C8 (Mak)
/-! ### the reader in the heap -/
structure RA (CR ro dx rA : Addr) (H : Hp) (W : List M) (n : Nat) : Prop where
  ins : H ro = some (.ins CR dx [("row", .ref rA), ("at", .int (n : Int))])
  row : ∃ vs, H rA = some (.lst vs) ∧ TDs H vs (W.map M.py)
theorem RA.fr {CR ro dx rA : Addr} {H H' : Hp} {W : List M} {n : Nat} (L : RA CR ro dx rA H W n) (f : Fr [] H H') : RA CR ro dx rA H' W n := by
  obtain ⟨vs, h1, h2⟩ := L.row
  exact ⟨f.at L.ins (by simp), ⟨vs, f.at h1 (by simp), h2.mono f.tups⟩⟩
/-- the mark at which the reader stands -/
theorem RA.mark {CR ro dx rA : Addr} {H : Hp} {W : List M} {n : Nat} (L : RA CR ro dx rA H W n) {m : M} {r : List M} (h : W.drop n = m :: r) : ∃ (vs : List V) (a : Addr), H rA = some (.lst vs) ∧ atI vs (n : Int) = some (.ref a) ∧ H a = some (.tup [.str m.k, .str m.w, .int m.l, .int m.c]) := by
  obtain ⟨vs, h1, h2⟩ := L.row
  have e : (W.map M.py)[n]? = some m.py := by
    rw [List.getElem?_map, ← Nat.add_zero n, ← List.getElem?_drop, h] <;> rfl
  obtain ⟨v, e1, e2⟩ := h2.get e
  obtain ⟨a, rfl, ha⟩ := td_mark e2
  exact ⟨vs, a, h1, atI_nat e1, ha⟩
theorem RA.step {CR ro dx rA : Addr} {H : Hp} {W : List M} {n : Nat} (L : RA CR ro dx rA H W n) : RA CR ro dx rA (upd H ro (.ins CR dx [("row", .ref rA), ("at", .int ((n + 1 : Nat) : Int))])) W (n + 1) ∧ Fr [ro] H (upd H ro (.ins CR dx [("row", .ref rA), ("at", .int ((n + 1 : Nat) : Int))])) := by
  obtain ⟨vs, h1, h2⟩ := L.row
  have nr : rA ≠ ro := fun z => by rw [z, L.ins] at h1; cases h1
  have tp : Tp H (upd H ro (.ins CR dx [("row", .ref rA), ("at", .int ((n + 1 : Nat) : Int))])) := fun b xs e => by
    rw [upd_ne (ne_of e L.ins (by intro z; cases z))]
    exact e
  exact ⟨⟨upd_same, vs, by rw [upd_ne nr]; exact h1, h2.mono tp⟩, ⟨fun b o e hb => by rw [upd_ne (fun z => hb (by rw [z]; exact mem1))]; exact e, tp⟩⟩
theorem drop_next {W : List M} {n : Nat} {m : M} {r : List M} (h : W.drop n = m :: r) : W.drop (n + 1) = r := by
  rw [← List.drop_drop, h] <;> rfl
theorem Fr.sqT {T : List Addr} {K : PySem.W.Frag} {H H' : Hp} {a : Addr} {xs : List V} (f : Fr T H H') (ha : a ∉ T) (h : SqT K H a xs) : SqT K H' a xs := by
  rcases h with (h | ⟨o, h⟩) | h
  · exact .inl (.inl (f.at h ha))
  · exact .inl (.inr ⟨o, f.at h ha⟩)
  · exact .inr h
def spSees (K : PySem.W.Frag) (CR : Addr) : Sp := fun vs H Q _ => ∃ (ro dx rA wA : Addr) (W : List M) (n : Nat) (m : M) (r : List M) (k : Str) (ws : List Str), vs = [.ref ro, .str k, .ref wA] ∧ RA CR ro dx rA H W n ∧ W.drop n = m :: r ∧ SqT K H wA (ws.map V.str) ∧ (∀ x ∈ ws, PyData.strOk x = true) ∧
  ∀ H', Fr [] H H' → Q (.bl (m.sees k ws)) H'
def spTake (K : PySem.W.Frag) (CR : Addr) : Sp := fun vs H Q _ => ∃ (ro dx rA wA : Addr) (W : List M) (n : Nat) (m : M) (r : List M) (k : Str) (ws : List Str), vs = [.ref ro, .str k, .ref wA] ∧ RA CR ro dx rA H W n ∧ W.drop n = m :: r ∧ SqT K H wA (ws.map V.str) ∧ (∀ x ∈ ws, PyData.strOk x = true) ∧ m.sees k ws = true ∧
  ∀ (a : Addr) (H' : Hp), H' a = some (.tup [.str m.k, .str m.w, .int m.l, .int m.c]) → RA CR ro dx rA H' W (n + 1) → Fr [ro] H H' → Q (.ref a) H'
section
variable {P : Program} {w : World} {K : PySem.W.Frag} {mg : Str → Option Value} {base : Heap} {f : Addr} {fd : FuncData} {kA0 sA CL CR eA : Addr}
theorem sc_ReaderSees : FnScope ["self", "kind", "words", "mark"] ["self", "kind", "words"] (defScope sReaderSees) := ⟨rfl, rfl, rfl, by decide +kernel, rfl, by decide +kernel, by decide +kernel⟩
theorem ok_sees (T : Facts K mg kA0 sA CL CR eA) {dvs : List V} (F : FnP K "sees" "Reader.sees" sReaderSees dvs f fd) : FnOk P w K mg base CX0 1 f fd ["self", "kind", "words"] (spSees K CR) := by
  refine F.ok sc_ReaderSees (fun vs H Q E h => ?_) (fun cdv A outer s H vs Q E hr h => ?_)
  · obtain ⟨ro, dx, rA, wA, W, n, m, r, k, ws, rfl, _⟩ := h
    rfl
  obtain ⟨ro, dx, rA, wA, W, n, m, r, k, ws, rfl, L, hW, hw, hok, q⟩ := h
  refine ⟨_, PSs.nox (pss_cons (ps_set (i := 3) sc_ReaderSees.nd rfl (.inl rfl) (pe_ix (ixL K) (pe_fld (pv 0) rfl) (pe_fld (pv 0) rfl) (fun _ _ => rfl)))
    (pss_one (ps_ret (pe_and (pe_cmpR op_eq (pe_ix (ixT K) (pv 3) pe_int (fun _ _ => rfl)) (pv 1) (nomark _)) (pe_one (pe_or (pe_cmpR (opEqD K hr.units) (pv 2) (pe_tup pa_nil) (nomark _)) (pe_one (pe_cmpR (opIn K) (pe_ix (ixT K) (pv 3) pe_int (fun _ _ => rfl)) (pv 2) (by rfl))))))))), ?_⟩
  obtain ⟨vs, a, h1, h2, h3⟩ := L.mark hW
  refine ⟨_, rfl, ro, CR, dx, _, _, rfl, L.ins, T.cl_R, T.nRow, rfl, _, rfl, ro, CR, dx, _, _, rfl, L.ins, T.cl_R, T.nAt, rfl, rA, _, _, _, rfl, rfl, .of h1, h2, ?_⟩
  refine ⟨_, rfl, a, _, _, _, rfl, rfl, .of h3, at0, _, rfl, rfl, _, rfl, ite2 (fun hk => ?_) (fun hk => ?_)⟩
  · have hk' : m.k = k := by
      have := of_decide_eq_true hk
      injection this
    refine ⟨_, rfl, by show 0 ≤ sizeLine; decide, fun T0 hT0 => ?_⟩
    have f1 : Fr [] H (upd H T0 (.tup [])) := .new hT0
    have hw1 := f1.sqT (by simp) hw
    have ly : (PyData.tuple (ws.map .str)).canLay0 = true ∧ (PyData.tuple (ws.map .str)).depth ≤ 2 := by
      have c := canLay_strs ws hok
      have d := depth_strs ws
      constructor
      · simpa [PyData.canLay0] using c
      · simp only [PyData.depth]; omega
    refine ⟨.tuple (ws.map .str), .tuple [], .tup hw1 (dp_strs ws), .tup (.inl (.inl upd_same)) .nil, shaped_of ly.1 (by omega), by decide +kernel, _, rfl, ?_⟩
    cases ws with
    | nil =>
      have e : PyData.eqv (.tuple (([] : List Str).map .str)) (.tuple []) = true := by decide +kernel
      rw [e]
      have e2 : m.sees k [] = true := by
        unfold M.sees
        rw [decide_eq_true hk'] <;> rfl
      have := q _ f1
      rw [e2] at this
      exact iteT this
    | cons y ys =>
      have e : PyData.eqv (.tuple ((y :: ys).map .str)) (.tuple []) = false := by simp [PyData.eqv, PyData.eqvAll]
      rw [e]
      refine iteF ⟨_, rfl, a, _, _, _, rfl, rfl, .of (f1.tups _ _ h3), at1, _, rfl, wA, _, rfl, .inr hw1, rfl, flat_strs _, ?_⟩
      rw [if_neg (by decide : ¬ false = true), inV_strs]
      have e2 : m.sees k (y :: ys) = decide (m.w ∈ y :: ys) := by
        unfold M.sees
        rw [decide_eq_true hk'] <;> rfl
      have := q _ f1
      rw [e2] at this
      exact this
  · have e : m.sees k ws = false := by
      unfold M.sees
      rw [decide_eq_false (fun z => hk (decide_eq_true (by rw [z])))] <;> rfl
    have := q H (Fr.refl _)
    rw [e] at this
    exact this
theorem sc_ReaderTake : FnScope ["self", "kind", "words", "mark"] ["self", "kind", "words"] (defScope sReaderTake) := ⟨rfl, rfl, rfl, by decide +kernel, rfl, by decide +kernel, by decide +kernel⟩
theorem ok_take (T : Facts K mg kA0 sA CL CR eA) {dvs : List V} (c_sees : MCal P w K mg base CR "sees" 1 ["self", "kind", "words"] [] (spSees K CR)) (F : FnP K "take" "Reader.take" sReaderTake dvs f fd) : FnOk P w K mg base CX0 2 f fd ["self", "kind", "words"] (spTake K CR) := by
  refine F.ok sc_ReaderTake (fun vs H Q E h => ?_) (fun cdv A outer s H vs Q E hr h => ?_)
  · obtain ⟨ro, dx, rA, wA, W, n, m, r, k, ws, rfl, _⟩ := h
    rfl
  obtain ⟨ro, dx, rA, wA, W, n, m, r, k, ws, rfl, L, hW, hw, hok, hs, q⟩ := h
  refine ⟨_, PSs.nox (pss_cons (ps_set (i := 3) sc_ReaderTake.nd rfl (.inl rfl) (pe_ix (ixL K) (pe_fld (pv 0) rfl) (pe_fld (pv 0) rfl) (fun _ _ => rfl)))
    (pss_cons (ps_if (pt_not (pt_val (pe_m c_sees (hr.mono (by omega)) T.cl_R (pv 0) (pa_cons (pv 1) (pa_cons (pv 2) pa_nil)))))
    (pss_one ps_never)
    pss_nil)
    (pss_cons (ps_fldaug (pv 0) pe_int in_add)
    (pss_one (ps_ret (pv 3)))))), ?_⟩
  obtain ⟨vs, a, h1, h2, h3⟩ := L.mark hW
  refine ⟨_, rfl, ro, CR, dx, _, _, rfl, L.ins, T.cl_R, T.nRow, rfl, _, rfl, ro, CR, dx, _, _, rfl, L.ins, T.cl_R, T.nAt, rfl, rA, _, _, _, rfl, rfl, .of h1, h2, ?_⟩
  refine ⟨_, rfl, ro, dx, _, rfl, L.ins, rfl, _, rfl, _, rfl, ro, dx, rA, wA, W, n, m, r, k, ws, rfl, L, hW, hw, hok, fun H1 f1 => ⟨_, rfl, ?_⟩⟩
  rw [hs]
  refine iteF ?_
  have L1 := L.fr f1
  obtain ⟨s1, s2⟩ := L1.step
  have ea : ((n : Int) + 1) = ((n + 1 : Nat) : Int) := by omega
  refine ⟨_, rfl, ro, CR, dx, _, _, rfl, L1.ins, T.cl_R, T.nAt, rfl, ?_⟩
  have ep : (upd H1 ro (.ins CR dx (putF "at" (.int ((n : Int) + 1)) [("row", .ref rA), ("at", .int (n : Int))]))) = upd H1 ro (.ins CR dx [("row", .ref rA), ("at", .int ((n + 1 : Nat) : Int))]) := by
    rw [← ea] <;> rfl
  refine ⟨_, _, rfl, rfl, dx, _, L1.ins, (show 2 < 1000 by decide), ?_⟩
  show tRet (tVar 3) _ _ (upd H1 ro (.ins CR dx (putF "at" (.int ((n : Int) + 1)) [("row", .ref rA), ("at", .int (n : Int))])))
  rw [ep]
  exact ⟨_, rfl, q a _ (s2.tups _ _ (f1.tups _ _ h3)) s1 ((f1.mono (T' := [ro]) fun _ h => by cases h).trans s2)⟩
end
end K10
namespace K10
open PySem PySem.Spec PyProof.Rows L2
open SX (S)
open C8 (Mak)
/-- a method that reads by REL -/
def spRel (CR : Addr) (REL : Rel) : Sp := fun vs H Q _ => ∃ (ro dx rA : Addr) (W : List M) (n : Nat) (d : PyData) (R' : List M), vs = [.ref ro] ∧ RA CR ro dx rA H W n ∧ REL (W.drop n) d R' ∧
  ∀ (v : V) (n' : Nat) (H' : Hp), TD H' v d → RA CR ro dx rA H' W n' → W.drop n' = R' → Fr [ro] H H' → Q v H'
def spAtomH (CR : Addr) : Sp := fun vs H Q _ => ∃ (ro dx rA : Addr) (W : List M) (n : Nat) (m : M) (r : List M), vs = [.ref ro] ∧ RA CR ro dx rA H W n ∧ W.drop n = m :: r ∧ ∀ H', Fr [] H H' → Q (.bl (AtomH m)) H'
theorem fr_ro {ro : Addr} {H H' : Hp} (f : Fr [] H H') : Fr [ro] H H' := f.mono fun _ h => by cases h
section
variable {P : Program} {w : World} {K : PySem.W.Frag} {mg : Str → Option Value} {base : Heap} {f : Addr} {fd : FuncData} {kA0 sA CL CR eA : Addr}
theorem sc_ReaderBeginsAtom : FnScope ["self"] ["self"] (defScope sReaderBeginsAtom) := ⟨rfl, rfl, rfl, by decide +kernel, rfl, by decide +kernel, by decide +kernel⟩
theorem ok_begins (T : Facts K mg kA0 sA CL CR eA) (c_sees1 : MCal P w K mg base CR "sees" 1 ["self", "kind", "words"] [.ref eA] (spSees K CR)) (c_sees : MCal P w K mg base CR "sees" 1 ["self", "kind", "words"] [] (spSees K CR)) (F : FnP K "begins_atom" "Reader.begins_atom" sReaderBeginsAtom [] f fd) : FnOk P w K mg base CX0 2 f fd ["self"] (spAtomH CR) := by
  refine F.ok sc_ReaderBeginsAtom (fun vs H Q E h => ?_) (fun cdv A outer s H vs Q E hr h => ?_)
  · obtain ⟨ro, dx, rA, W, n, m, r, rfl, _⟩ := h
    rfl
  obtain ⟨ro, dx, rA, W, n, m, r, rfl, L, hW, q⟩ := h
  refine ⟨_, PSs.nox (pss_one (ps_ret (pe_or (pe_m c_sees1 (hr.mono (by omega)) T.cl_R (pv 0) (pa_cons pe_str pa_nil)) (pe_or (pe_m c_sees1 (hr.mono (by omega)) T.cl_R (pv 0) (pa_cons pe_str pa_nil)) (pe_one (pe_m c_sees (hr.mono (by omega)) T.cl_R (pv 0) (pa_cons pe_str (pa_cons (pe_tup (pa_cons pe_str (pa_cons pe_str pa_nil))) pa_nil)))))))), ?_⟩
  refine ⟨_, rfl, ro, dx, _, rfl, L.ins, rfl, ro, dx, rA, eA, W, n, m, r, "number", [], rfl, L, hW, T.emp H, by simp, fun H1 f1 => ⟨_, rfl, ?_⟩⟩
  have L1 := L.fr f1
  cases e1 : m.sees "number" [] with
  | true =>
    have := q H1 f1
    unfold AtomH at this
    rw [e1] at this
    exact iteT this
  | false =>
    refine iteF ⟨_, rfl, ro, dx, _, rfl, L1.ins, rfl, ro, dx, rA, eA, W, n, m, r, "name", [], rfl, L1, hW, T.emp H1, by simp, fun H2 f2 => ⟨_, rfl, ?_⟩⟩
    have L2 := L1.fr f2
    cases e2 : m.sees "name" [] with
    | true =>
      have := q H2 (f1.trans f2)
      unfold AtomH at this
      rw [e1, e2] at this
      exact iteT this
    | false =>
      refine iteF ⟨_, rfl, ro, dx, _, rfl, L2.ins, rfl, by show 2 ≤ sizeLine; decide, fun T0 hT0 => ?_⟩
      have f3 : Fr [] H2 (upd H2 T0 (.tup [.str "[]", .str "("])) := .new hT0
      refine ⟨ro, dx, rA, T0, W, n, m, r, "sign", ["[]", "("], rfl, L2.fr f3, hW, .of upd_same, by decide +kernel, fun H3 f4 => ?_⟩
      have := q H3 (f1.trans (f2.trans (f3.trans f4)))
      unfold AtomH at this
      rw [e1, e2] at this
      exact this
end
end K10
namespace K10
open PySem PySem.Spec PyProof.Rows L2
open SX (S)
open C8 (Mak)
/-- mark[2:] -/
theorem cut_place (x y : V) (l c : Int) : cutV [x, y, .int l, .int c] (some 2) none = [.int l, .int c] := rfl
theorem num_txt {x : Str} {k : Int} (h : numOf x k) : PySem.intText? x = some k ∧ x.length ≤ 640 := by
  have all : ∀ p ∈ [(("0" : Str), (0 : Int)), ("1", 1), ("2", 2), ("3", 3), ("7", 7), ("999999999", 999999999), ("12", 12)], PySem.intText? p.1 = some p.2 ∧ p.1.length ≤ 640 := by decide +kernel
  exact all (x, k) h
theorem sees_nil {m : M} {k : Str} : m.sees k [] = decide (m.k = k) := by
  unfold M.sees
  cases decide (m.k = k) <;> rfl
theorem aug_at {K : PySem.W.Frag} {CR ro dx rA : Addr} {H : Hp} {W : List M} {n : Nat} {σ : L2.St} {D : Ends} (hc : Cls K CR) (ha : NoAttr K CR "at") (L : RA CR ro dx rA H W n) (hσ : σ[0]? = some (some (.ref ro))) (h : D.nx σ (upd H ro (.ins CR dx [("row", .ref rA), ("at", .int ((n + 1 : Nat) : Int))]))) :
    sFldAug K (tVar 0) (tC (.int 1)) rAdd "at" D σ H := by
  have ea : ((n : Int) + 1) = ((n + 1 : Nat) : Int) := by omega
  have ep : (upd H ro (.ins CR dx (putF "at" (.int ((n : Int) + 1)) [("row", .ref rA), ("at", .int (n : Int))]))) = upd H ro (.ins CR dx [("row", .ref rA), ("at", .int ((n + 1 : Nat) : Int))]) := by
    rw [← ea] <;> rfl
  refine ⟨_, hσ, ro, CR, dx, _, _, rfl, L.ins, hc, ha, rfl, _, _, rfl, rfl, dx, _, L.ins, (show 2 < 1000 by decide), ?_⟩
  rw [ep]
  exact h
section
variable {P : Program} {w : World} {K : PySem.W.Frag} {mg : Str → Option Value} {base : Heap} {f : Addr} {fd : FuncData} {kA0 sA CL CR eA : Addr}
theorem sc_ReaderAtom : FnScope ["self", "mark", "found"] ["self"] (defScope sReaderAtom) := ⟨rfl, rfl, rfl, by decide +kernel, rfl, by decide +kernel, by decide +kernel⟩
theorem ok_atom {E0 : Rel} {lv : Nat} (hlv : 2 ≤ lv) (T : Facts K mg kA0 sA CL CR eA) (c_sees1 : MCal P w K mg base CR "sees" 1 ["self", "kind", "words"] [.ref eA] (spSees K CR)) (c_sees : MCal P w K mg base CR "sees" 1 ["self", "kind", "words"] [] (spSees K CR))
    (c_take : MCal P w K mg base CR "take" 2 ["self", "kind", "words"] [] (spTake K CR)) (c_expr : MCal P w K mg base CR "expr" lv ["self"] [] (spRel CR E0)) (F : FnP K "atom" "Reader.atom" sReaderAtom [] f fd) : FnOk P w K mg base CX0 (lv + 1) f fd ["self"] (spRel CR (Atom E0)) := by
  refine F.ok sc_ReaderAtom (fun vs H Q E h => ?_) (fun cdv A outer s H vs Q E hr h => ?_)
  · obtain ⟨ro, dx, rA, W, n, d, R', rfl, _⟩ := h
    rfl
  obtain ⟨ro, dx, rA, W, n, d, R', rfl, L, hrel, q⟩ := h
  refine ⟨_, PSs.nox (pss_cons (ps_set (i := 1) sc_ReaderAtom.nd rfl (.inl rfl) (pe_ix (ixL K) (pe_fld (pv 0) rfl) (pe_fld (pv 0) rfl) (fun _ _ => rfl)))
    (pss_cons (ps_if (pt_val (pe_m c_sees1 (hr.mono (by omega)) T.cl_R (pv 0) (pa_cons pe_str pa_nil)))
    (pss_cons (ps_fldaug (pv 0) pe_int in_add)
      (pss_one (ps_ret (pe_tup (pa_cons pe_str (pa_cons (pe_slice (slT K) (pv 1) (po_some pe_int) po_none) (pa_cons (pe_callTy call_int_str (by rfl) T.f_int boot_int (pa_cons (pe_ix (ixT K) (pv 1) pe_int (fun _ _ => rfl)) pa_nil)) pa_nil)))))))
    pss_nil)
    (pss_cons (ps_if (pt_val (pe_m c_sees1 (hr.mono (by omega)) T.cl_R (pv 0) (pa_cons pe_str pa_nil)))
    (pss_cons (ps_fldaug (pv 0) pe_int in_add)
      (pss_one (ps_ret (pe_tup (pa_cons pe_str (pa_cons (pe_slice (slT K) (pv 1) (po_some pe_int) po_none) (pa_cons (pe_ix (ixT K) (pv 1) pe_int (fun _ _ => rfl)) (pa_cons (pe_tup pa_nil) pa_nil))))))))
    pss_nil)
    (pss_cons (ps_if (pt_val (pe_m c_sees (hr.mono (by omega)) T.cl_R (pv 0) (pa_cons pe_str (pa_cons (pe_tup (pa_cons pe_str pa_nil)) pa_nil))))
    (pss_cons (ps_fldaug (pv 0) pe_int in_add)
      (pss_one (ps_ret (pe_tup (pa_cons pe_str (pa_cons (pe_slice (slT K) (pv 1) (po_some pe_int) po_none) pa_nil))))))
    pss_nil)
    (pss_cons (ps_expr (pe_m c_take (hr.mono (by omega)) T.cl_R (pv 0) (pa_cons pe_str (pa_cons (pe_tup (pa_cons pe_str pa_nil)) pa_nil))))
    (pss_cons (ps_set (i := 2) sc_ReaderAtom.nd rfl (.inl rfl) (pe_m0 c_expr (hr.mono (by omega)) T.cl_R (pv 0)))
    (pss_cons (ps_expr (pe_m c_take (hr.mono (by omega)) T.cl_R (pv 0) (pa_cons pe_str (pa_cons (pe_tup (pa_cons pe_str pa_nil)) pa_nil))))
    (pss_one (ps_ret (pv 2)))))))))), ?_⟩
  generalize hW : W.drop n = Wn at hrel
  cases hrel with
  | @num m R k hk hn =>
    obtain ⟨vs, a, h1, h2, h3⟩ := L.mark hW
    refine ⟨_, rfl, ro, CR, dx, _, _, rfl, L.ins, T.cl_R, T.nRow, rfl, _, rfl, ro, CR, dx, _, _, rfl, L.ins, T.cl_R, T.nAt, rfl, rA, _, _, _, rfl, rfl, .of h1, h2, ?_⟩
    refine ⟨_, rfl, ro, dx, _, rfl, L.ins, rfl, ro, dx, rA, eA, W, n, m, _, "number", [], rfl, L, hW, T.emp H, by simp, fun H1 f1 => ⟨_, rfl, ?_⟩⟩
    rw [sees_nil, decide_eq_true hk]
    refine iteT ?_
    have L1 := L.fr f1
    obtain ⟨s1, s2⟩ := L1.step
    have h3' := s2.tups _ _ (f1.tups _ _ h3)
    refine aug_at T.cl_R T.nAt L1 rfl ?_
    refine ⟨_, rfl, _, rfl, a, _, rfl, .of h3', (show ¬ (HT.sIx 4 0 (some 2) = 0 ∧ HT.sIx 4 4 none = 4) by decide), fun u hu => ⟨_, rfl, a, _, _, _, rfl, rfl, .of (((Fr.new (T := []) hu)).tups _ _ h3'), at1, m.w, k, rfl, (num_txt hn).1, (num_txt hn).2, by show 3 ≤ sizeLine; decide, fun o ho => ?_⟩⟩
    have fu := Fr.new (T := []) (o := .tup (cutV [.str m.k, .str m.w, .int m.l, .int m.c] (some 2) none)) hu
    have fo := fu.trans (Fr.new (T := []) (o := .tup [.str "num", .ref u, .int k]) ho)
    exact q _ (n + 1) _ (.tup upd_same (.cons (.str _) (.cons (.tup ((Fr.new (T := []) ho).tups _ _ upd_same) (.cons (.int _) (.cons (.int _) .nil))) (.cons (.int _) .nil)))) (s1.fr fo) (drop_next hW) ((fr_ro f1).trans (s2.trans (fr_ro fo)))
  | @name m R hk =>
    obtain ⟨vs, a, h1', h2', h3'⟩ := L.mark hW
    refine ⟨_, rfl, ro, CR, dx, _, _, rfl, L.ins, T.cl_R, T.nRow, rfl, _, rfl, ro, CR, dx, _, _, rfl, L.ins, T.cl_R, T.nAt, rfl, rA, _, _, _, rfl, rfl, .of h1', h2', ?_⟩
    refine ⟨_, rfl, ro, dx, _, rfl, L.ins, rfl, ro, dx, rA, eA, W, n, m, _, "number", [], rfl, L, hW, T.emp H, by simp, fun H1 f1 => ⟨_, rfl, ?_⟩⟩
    rw [sees_nil, show decide (m.k = "number") = false by rw [hk]; decide +kernel]
    refine iteF ?_
    have L1 := L.fr f1
    refine ⟨_, rfl, ro, dx, _, rfl, L1.ins, rfl, ro, dx, rA, eA, W, n, m, _, "name", [], rfl, L1, hW, T.emp H1, by simp, fun H2 f2 => ⟨_, rfl, ?_⟩⟩
    have L2 := L1.fr f2
    have f02 := f1.trans f2
    rw [sees_nil, decide_eq_true hk]
    refine iteT ?_
    obtain ⟨s1, s2⟩ := L2.step
    have h3 := s2.tups _ _ (f02.tups _ _ h3')
    refine aug_at T.cl_R T.nAt L2 rfl ?_
    refine ⟨_, rfl, _, rfl, a, _, rfl, .of h3, (show ¬ (HT.sIx 4 0 (some 2) = 0 ∧ HT.sIx 4 4 none = 4) by decide), fun u hu => ⟨_, rfl, a, _, _, _, rfl, rfl, .of (((Fr.new (T := []) hu)).tups _ _ h3), at1, by show 0 ≤ sizeLine; decide, fun e he => ⟨by show 4 ≤ sizeLine; decide, fun o ho => ?_⟩⟩⟩
    have fu := Fr.new (T := []) (o := .tup (cutV [.str m.k, .str m.w, .int m.l, .int m.c] (some 2) none)) hu
    have fe := Fr.new (T := []) (o := .tup []) he
    have fo1 := Fr.new (T := []) (o := .tup [.str "use", .ref u, .str m.w, .ref e]) ho
    have fo := fu.trans (fe.trans fo1)
    exact q _ (n + 1) _ (.tup upd_same (.cons (.str _) (.cons (.tup ((fe.trans fo1).tups _ _ upd_same) (.cons (.int _) (.cons (.int _) .nil))) (.cons (.str _) (.cons (.tup (fo1.tups _ _ upd_same) .nil) .nil))))) (s1.fr fo) (drop_next hW) ((fr_ro f02).trans (s2.trans (fr_ro fo)))
  | @nil m R hk hw =>
    obtain ⟨vs, a, h1', h2', h3'⟩ := L.mark hW
    refine ⟨_, rfl, ro, CR, dx, _, _, rfl, L.ins, T.cl_R, T.nRow, rfl, _, rfl, ro, CR, dx, _, _, rfl, L.ins, T.cl_R, T.nAt, rfl, rA, _, _, _, rfl, rfl, .of h1', h2', ?_⟩
    refine ⟨_, rfl, ro, dx, _, rfl, L.ins, rfl, ro, dx, rA, eA, W, n, m, _, "number", [], rfl, L, hW, T.emp H, by simp, fun H1 f1 => ⟨_, rfl, ?_⟩⟩
    rw [sees_nil, show decide (m.k = "number") = false by rw [hk]; decide +kernel]
    refine iteF ?_
    have L1 := L.fr f1
    refine ⟨_, rfl, ro, dx, _, rfl, L1.ins, rfl, ro, dx, rA, eA, W, n, m, _, "name", [], rfl, L1, hW, T.emp H1, by simp, fun H2 f2 => ⟨_, rfl, ?_⟩⟩
    have L2 := L1.fr f2
    have f02 := f1.trans f2
    rw [sees_nil, show decide (m.k = "name") = false by rw [hk]; decide +kernel]
    refine iteF ?_
    refine ⟨_, rfl, ro, dx, _, rfl, L2.ins, rfl, by show 1 ≤ sizeLine; decide, fun T0 hT0 => ?_⟩
    have f3 : Fr [] H2 (upd H2 T0 (.tup [.str "[]"])) := .new hT0
    refine ⟨ro, dx, rA, T0, W, n, m, _, "sign", ["[]"], rfl, L2.fr f3, hW, .of upd_same, by decide +kernel, fun H3 f4 => ⟨_, rfl, ?_⟩⟩
    have f03 := f02.trans (f3.trans f4)
    have L3 := L.fr f03
    have es : m.sees "sign" ["[]"] = true := by
      unfold M.sees
      rw [hk, hw]
      decide +kernel
    rw [es]
    refine iteT ?_
    obtain ⟨s1, s2⟩ := L3.step
    have h3 := s2.tups _ _ (f03.tups _ _ h3')
    refine aug_at T.cl_R T.nAt L3 rfl ?_
    refine ⟨_, rfl, _, rfl, a, _, rfl, .of h3, (show ¬ (HT.sIx 4 0 (some 2) = 0 ∧ HT.sIx 4 4 none = 4) by decide), fun u hu => ⟨by show 2 ≤ sizeLine; decide, fun o ho => ?_⟩⟩
    have fu := Fr.new (T := []) (o := .tup (cutV [.str m.k, .str m.w, .int m.l, .int m.c] (some 2) none)) hu
    have fo1 := Fr.new (T := []) (o := .tup [.str "nil", .ref u]) ho
    have fo := fu.trans fo1
    exact q _ (n + 1) _ (.tup upd_same (.cons (.str _) (.cons (.tup (fo1.tups _ _ upd_same) (.cons (.int _) (.cons (.int _) .nil))) .nil))) (s1.fr fo) (drop_next hW) ((fr_ro f03).trans (s2.trans (fr_ro fo)))
  | @par m e R R1 d h1 h2 h3 h4 h5 =>
    obtain ⟨vs, a, h1', h2', h3'⟩ := L.mark hW
    refine ⟨_, rfl, ro, CR, dx, _, _, rfl, L.ins, T.cl_R, T.nRow, rfl, _, rfl, ro, CR, dx, _, _, rfl, L.ins, T.cl_R, T.nAt, rfl, rA, _, _, _, rfl, rfl, .of h1', h2', ?_⟩
    refine ⟨_, rfl, ro, dx, _, rfl, L.ins, rfl, ro, dx, rA, eA, W, n, m, _, "number", [], rfl, L, hW, T.emp H, by simp, fun H1 f1 => ⟨_, rfl, ?_⟩⟩
    rw [sees_nil, show decide (m.k = "number") = false by rw [h1]; decide +kernel]
    refine iteF ?_
    have L1 := L.fr f1
    refine ⟨_, rfl, ro, dx, _, rfl, L1.ins, rfl, ro, dx, rA, eA, W, n, m, _, "name", [], rfl, L1, hW, T.emp H1, by simp, fun H2 f2 => ⟨_, rfl, ?_⟩⟩
    have L2 := L1.fr f2
    have f02 := f1.trans f2
    rw [sees_nil, show decide (m.k = "name") = false by rw [h1]; decide +kernel]
    refine iteF ?_
    refine ⟨_, rfl, ro, dx, _, rfl, L2.ins, rfl, by show 1 ≤ sizeLine; decide, fun T0 hT0 => ?_⟩
    have f3 : Fr [] H2 (upd H2 T0 (.tup [.str "[]"])) := .new hT0
    refine ⟨ro, dx, rA, T0, W, n, m, _, "sign", ["[]"], rfl, L2.fr f3, hW, .of upd_same, by decide +kernel, fun H3 f4 => ⟨_, rfl, ?_⟩⟩
    have f03 := f02.trans (f3.trans f4)
    have L3 := L.fr f03
    have es : m.sees "sign" ["[]"] = false := by
      unfold M.sees
      rw [h1, h2]
      decide +kernel
    rw [es]
    refine iteF ?_
    -- (
    refine ⟨_, rfl, ro, dx, _, rfl, L3.ins, rfl, by show 1 ≤ sizeLine; decide, fun T1 hT1 => ?_⟩
    have f5 : Fr [] H3 (upd H3 T1 (.tup [.str "("])) := .new hT1
    have es2 : m.sees "sign" ["("] = true := by
      unfold M.sees
      rw [h1, h2]
      decide +kernel
    refine ⟨ro, dx, rA, T1, W, n, m, _, "sign", ["("], rfl, L3.fr f5, hW, .of upd_same, by decide +kernel, es2, fun a4 H4 ha4 L4 f6 => ?_⟩
    have f04 := (fr_ro (f03.trans f5)).trans f6
    -- the expression
    refine ⟨_, rfl, ro, dx, _, rfl, L4.ins, rfl, ro, dx, rA, W, n + 1, d, e :: R', rfl, L4, by rw [drop_next hW]; exact h5, fun v n' H5 td L5 hW5 f7 => ?_⟩
    -- )
    refine ⟨_, rfl, ro, dx, _, rfl, L5.ins, rfl, by show 1 ≤ sizeLine; decide, fun T2 hT2 => ?_⟩
    have f8 : Fr [] H5 (upd H5 T2 (.tup [.str ")"])) := .new hT2
    have es3 : e.sees "sign" [")"] = true := by
      unfold M.sees
      rw [h3, h4]
      decide +kernel
    refine ⟨ro, dx, rA, T2, W, n', e, _, "sign", [")"], rfl, L5.fr f8, hW5, .of upd_same, by decide +kernel, es3, fun a6 H6 ha6 L6 f9 => ?_⟩
    exact ⟨_, rfl, q v (n' + 1) H6 (td.mono (fun b xs e => f9.tups _ _ (f8.tups _ _ e))) L6 (drop_next hW5) (f04.trans (f7.trans ((fr_ro f8).trans f9)))⟩
end
end K10
namespace K10
open PySem PySem.Spec PyProof.Rows L2
open SX (S)
open C8 (Mak)
theorem args_len {E0 : Rel} {c : Nat} {R R' : List M} {as : List PyData} (h : Args E0 c R as R') : as.length ≤ c := by
  induction h with
  | stop _ => exact Nat.zero_le _
  | full => exact Nat.le_refl _
  | step _ _ _ ih => exact Nat.succ_le_succ ih
section
variable {P : Program} {w : World} {K : PySem.W.Frag} {mg : Str → Option Value} {base : Heap} {f : Addr} {fd : FuncData} {kA0 sA CL CR eA : Addr}
theorem sc_ReaderPiece : FnScope ["self", "name", "args"] ["self"] (defScope sReaderPiece) := ⟨rfl, rfl, rfl, by decide +kernel, rfl, by decide +kernel, by decide +kernel⟩
theorem ok_piece {E0 : Rel} {lv : Nat} (hlv : 3 ≤ lv) (T : Facts K mg kA0 sA CL CR eA) (c_sees1 : MCal P w K mg base CR "sees" 1 ["self", "kind", "words"] [.ref eA] (spSees K CR)) (c_take1 : MCal P w K mg base CR "take" 2 ["self", "kind", "words"] [.ref (eB K)] (spTake K CR))
    (c_begins_atom : MCal P w K mg base CR "begins_atom" 2 ["self"] [] (spAtomH CR)) (c_atom : MCal P w K mg base CR "atom" lv ["self"] [] (spRel CR (Atom E0))) (F : FnP K "piece" "Reader.piece" sReaderPiece [] f fd) : FnOk P w K mg base CX0 (lv + 1) f fd ["self"] (spRel CR (Piece E0)) := by
  refine F.ok sc_ReaderPiece (fun vs H Q E h => ?_) (fun cdv A outer s H vs Q E hr h => ?_)
  · obtain ⟨ro, dx, rA, W, n, d, R', rfl, _⟩ := h
    rfl
  obtain ⟨ro, dx, rA, W, n, d, R', rfl, L, hrel, q⟩ := h
  refine ⟨_, PSs.nox (pss_cons (ps_if (pt_not (pt_val (pe_m c_sees1 (hr.mono (by omega)) T.cl_R (pv 0) (pa_cons pe_str pa_nil))))
    (pss_one (ps_ret (pe_m0 c_atom (hr.mono (by omega)) T.cl_R (pv 0))))
    pss_nil)
    (pss_cons (ps_set (i := 1) sc_ReaderPiece.nd rfl (.inl rfl) (pe_m c_take1 (hr.mono (by omega)) T.cl_R (pv 0) (pa_cons pe_str pa_nil)))
    (pss_cons (ps_set (i := 2) sc_ReaderPiece.nd rfl (.inl rfl) (pe_lst pa_nil))
    (pss_cons (ps_while PassesOwn.never (PW.pt (pw_and (pt_cmpR op_lt (pe_callB (clLen K) (by rfl) T.f_len boot_len (pa_cons (pv 2) pa_nil)) (pe_g T.g_MOST_PARTS (by rfl)) (nomark _)) (pw_and1 (pt_val (pe_m0 c_begins_atom (hr.mono (by omega)) T.cl_R (pv 0))))))
    (pss_one (ps_expr (pe_bm PySem.F.plainAttrs_list PySem.F.slot_list_append PySem.F.type_list_append mt_append (pv 2) (pa_cons (pe_m0 c_atom (hr.mono (by omega)) T.cl_R (pv 0)) pa_nil)))))
    (pss_one (ps_ret (pe_tup (pa_cons pe_str (pa_cons (pe_slice (slT K) (pv 1) (po_some pe_int) po_none) (pa_cons (pe_ix (ixT K) (pv 1) pe_int (fun _ _ => rfl)) (pa_cons (pe_callTy (clTup K) (by rfl) T.f_tuple boot_tuple (pa_cons (pv 2) pa_nil)) pa_nil))))))))))), ?_⟩
  generalize hW : W.drop n = Wn at hrel
  cases hrel with
  | @atom m R R1 d hk ha =>
    refine ⟨_, rfl, ro, dx, _, rfl, L.ins, rfl, ro, dx, rA, eA, W, n, m, _, "name", [], rfl, L, hW, T.emp H, by simp, fun H1 f1 => ⟨_, rfl, ?_⟩⟩
    rw [sees_nil, decide_eq_false hk]
    refine iteT ?_
    have L1 := L.fr f1
    exact ⟨_, rfl, ro, dx, _, rfl, L1.ins, rfl, ro, dx, rA, W, n, d, R', rfl, L1, by rw [hW]; exact ha, fun v n' H2 td L2 hW2 f2 => q v n' H2 td L2 hW2 ((fr_ro f1).trans f2)⟩
  | @name m R R1 as hk ha =>
    refine ⟨_, rfl, ro, dx, _, rfl, L.ins, rfl, ro, dx, rA, eA, W, n, m, _, "name", [], rfl, L, hW, T.emp H, by simp, fun H1 f1 => ⟨_, rfl, ?_⟩⟩
    rw [sees_nil, decide_eq_true hk]
    refine iteF ?_
    have L1 := L.fr f1
    refine ⟨_, rfl, ro, dx, _, rfl, L1.ins, rfl, ro, dx, rA, eB K, W, n, m, _, "name", [], rfl, L1, hW, T.emp2 H1, by simp, by rw [sees_nil]; exact decide_eq_true hk, fun a2 H2 ha2 L2 f2 => ?_⟩
    have f02 := (fr_ro f1).trans f2
    refine ⟨by show 0 ≤ sizeLine; decide, fun g hg => ?_⟩
    have f3 : Fr [] H2 (upd H2 g (.lst [])) := .new hg
    have ng : g ≠ ro := fun z => by rw [z, L2.ins] at hg; cases hg
    have hW1 := drop_next hW
    -- the arguments
    refine ⟨fun mm σ H' => ∃ (n1 : Nat) (c : Nat) (Rc : List M) (asd asr : List PyData) (vs : List V), σ = [some (.ref ro), some (.ref a2), some (.ref g)] ∧ RA CR ro dx rA H' W n1 ∧ W.drop n1 = Rc ∧ as = asd ++ asr ∧ asr.length = mm ∧ asd.length + c = 4 ∧ Args E0 c Rc asr R' ∧ H' g = some (.lst vs) ∧ TDs H' vs asd ∧ Fr [ro] H2 H',
      ⟨as.length, n + 1, 4, R, [], as, [], rfl, L2.fr f3, hW1, rfl, rfl, rfl, ha, upd_same, .nil, fr_ro f3⟩, ?_⟩
    rintro mm σ H4 ⟨n1, c, Rc, asd, asr, vs, rfl, L4, hRc, has, hmm, hc, har, hg4, htd, f4⟩
    have lv := htd.len
    have m4 : (4 : Int) = ((4 : Nat) : Int) := rfl
    refine ⟨_, rfl, g, _, rfl, .inl (.of hg4), _, _, rfl, rfl, _, rfl, ?_⟩
    cases har with
    | full =>
      rw [decide_eq_false (by omega)]
      refine iteF (iteF ?_)
      have e0 : asd = as := by rw [has, List.append_nil]
      rw [← e0] at q
      refine ⟨_, rfl, _, rfl, a2, _, rfl, .of ((f4).tups _ _ ha2), (show ¬ (HT.sIx 4 0 (some 2) = 0 ∧ HT.sIx 4 4 none = 4) by decide), fun u hu => ?_⟩
      have fu := Fr.new (T := []) (o := .tup (cutV [.str m.k, .str m.w, .int m.l, .int m.c] (some 2) none)) hu
      refine ⟨_, rfl, a2, _, _, _, rfl, rfl, .of (fu.tups _ _ ((f4).tups _ _ ha2)), at1, _, rfl, g, vs, rfl, .inl ⟨.of (fu.at hg4 (by simp)), fun t ht => ⟨by show 4 ≤ sizeLine; decide, fun o ho => ?_⟩⟩⟩
      have ft := Fr.new (T := []) (o := .tup vs) ht
      have fo1 := Fr.new (T := []) (o := .tup [.str "use", .ref u, .str m.w, .ref t]) ho
      have fo := fu.trans (ft.trans fo1)
      exact q _ n1 _ (.tup upd_same (.cons (.str _) (.cons (.tup ((ft.trans fo1).tups _ _ upd_same) (.cons (.int _) (.cons (.int _) .nil))) (.cons (.str _) (.cons (.tup (fo1.tups _ _ upd_same) ((htd).mono fo.tups)) .nil))))) ((L4).fr fo) hRc (f02.trans ((f4).trans (fr_ro fo)))
    | stop hN =>
      obtain ⟨mm0, r0, e1, e2⟩ := hN
      have e0 : asd = as := by rw [has, List.append_nil]
      rw [← e0] at q
      rw [e1] at hRc
      by_cases hc0 : c = 0
      · rw [decide_eq_false (by omega)]
        refine iteF (iteF ?_)
        refine ⟨_, rfl, _, rfl, a2, _, rfl, .of ((f4).tups _ _ ha2), (show ¬ (HT.sIx 4 0 (some 2) = 0 ∧ HT.sIx 4 4 none = 4) by decide), fun u hu => ?_⟩
        have fu := Fr.new (T := []) (o := .tup (cutV [.str m.k, .str m.w, .int m.l, .int m.c] (some 2) none)) hu
        refine ⟨_, rfl, a2, _, _, _, rfl, rfl, .of (fu.tups _ _ ((f4).tups _ _ ha2)), at1, _, rfl, g, vs, rfl, .inl ⟨.of (fu.at hg4 (by simp)), fun t ht => ⟨by show 4 ≤ sizeLine; decide, fun o ho => ?_⟩⟩⟩
        have ft := Fr.new (T := []) (o := .tup vs) ht
        have fo1 := Fr.new (T := []) (o := .tup [.str "use", .ref u, .str m.w, .ref t]) ho
        have fo := fu.trans (ft.trans fo1)
        exact q _ n1 _ (.tup upd_same (.cons (.str _) (.cons (.tup ((ft.trans fo1).tups _ _ upd_same) (.cons (.int _) (.cons (.int _) .nil))) (.cons (.str _) (.cons (.tup (fo1.tups _ _ upd_same) ((htd).mono fo.tups)) .nil))))) ((L4).fr fo) (by rw [hRc, ← e1]) (f02.trans ((f4).trans (fr_ro fo)))
      · rw [decide_eq_true (by omega)]
        refine iteT ⟨_, rfl, ro, dx, _, rfl, L4.ins, rfl, ro, dx, rA, W, n1, mm0, r0, rfl, L4, hRc, fun H5 f5 => ⟨_, rfl, ?_⟩⟩
        rw [e2]
        refine iteF ?_
        refine ⟨_, rfl, _, rfl, a2, _, rfl, .of ((f4.trans (fr_ro f5)).tups _ _ ha2), (show ¬ (HT.sIx 4 0 (some 2) = 0 ∧ HT.sIx 4 4 none = 4) by decide), fun u hu => ?_⟩
        have fu := Fr.new (T := []) (o := .tup (cutV [.str m.k, .str m.w, .int m.l, .int m.c] (some 2) none)) hu
        refine ⟨_, rfl, a2, _, _, _, rfl, rfl, .of (fu.tups _ _ ((f4.trans (fr_ro f5)).tups _ _ ha2)), at1, _, rfl, g, vs, rfl, .inl ⟨.of (fu.at (f5.at hg4 (by simp)) (by simp)), fun t ht => ⟨by show 4 ≤ sizeLine; decide, fun o ho => ?_⟩⟩⟩
        have ft := Fr.new (T := []) (o := .tup vs) ht
        have fo1 := Fr.new (T := []) (o := .tup [.str "use", .ref u, .str m.w, .ref t]) ho
        have fo := fu.trans (ft.trans fo1)
        exact q _ n1 _ (.tup upd_same (.cons (.str _) (.cons (.tup ((ft.trans fo1).tups _ _ upd_same) (.cons (.int _) (.cons (.int _) .nil))) (.cons (.str _) (.cons (.tup (fo1.tups _ _ upd_same) ((htd.mono f5.tups).mono fo.tups)) .nil))))) ((L4.fr f5).fr fo) (by rw [hRc, ← e1]) (f02.trans ((f4.trans (fr_ro f5)).trans (fr_ro fo)))
    | @step c0 m1 R1 R2 R3 a as1 hm1 hat har =>
      rw [decide_eq_true (by omega)]
      refine iteT ⟨_, rfl, ro, dx, _, rfl, L4.ins, rfl, ro, dx, rA, W, n1, m1, _, rfl, L4, hRc, fun H5 f5 => ⟨_, rfl, ?_⟩⟩
      rw [hm1]
      have L5 := L4.fr f5
      refine iteT ⟨_, fun σ' H' h => ⟨as1.length, by rw [← hmm]; exact Nat.lt_succ_self _, h⟩, ?_⟩
      have hg5 := f5.at hg4 (by simp)
      refine ⟨_, rfl, .inl ⟨rfl, _, .of hg5⟩, _, rfl, ro, dx, _, rfl, L5.ins, rfl, ro, dx, rA, W, n1, a, R2, rfl, L5, by rw [hRc]; exact hat, fun v n2 H6 td6 L6 hW6 f6 => ?_⟩
      have hg6 := f6.at hg5 (nmem1 ng)
      refine ⟨g, _, _, rfl, rfl, hg6, szl (by omega), ?_⟩
      have tp : Tp H6 (upd H6 g (.lst (vs ++ [v]))) := Tp.wr hg6
      have L7 : RA CR ro dx rA (upd H6 g (.lst (vs ++ [v]))) W n2 := by
        obtain ⟨us, k1, k2⟩ := L6.row
        have nrg : rA ≠ g := fun z => by
          obtain ⟨us2, k3, _⟩ := L2.row
          rw [z, hg] at k3
          cases k3
        exact ⟨by rw [upd_ne ng.symm]; exact L6.ins, us, by rw [upd_ne nrg]; exact k1, k2.mono tp⟩
      refine ⟨n2, c0, R2, asd ++ [a], as1, vs ++ [v], rfl, L7, hW6, by rw [has]; simp, rfl, by rw [List.length_append]; show asd.length + 1 + c0 = 4; omega, har, upd_same, ((htd.mono (fun b xs e => f6.tups _ _ (f5.tups _ _ e))).snoc td6).mono tp, (f4.trans ((fr_ro f5).trans f6)).put hg⟩
end
end K10
namespace K10
open PySem PySem.Spec PyProof.Rows L2
open SX (S)
open C8 (Mak)
/-- one step of a sum or a product: ('op', sign[2:], sign[1], left, right) -/
theorem td_opv {H H' : Hp} {m : M} {u o : Addr} {vl vr : V} {dl dr : PyData} (f : Tp H H') (hu : H' u = some (.tup [.int m.l, .int m.c])) (ho : H' o = some (.tup [.str "op", .ref u, .str m.w, vl, vr])) (hl : TD H' vl dl) (hr : TD H' vr dr) : TD H' (.ref o) (opD m.pl m.w dl dr) :=
  .tup ho (.cons (.str _) (.cons (.tup hu (.cons (.int _) (.cons (.int _) .nil))) (.cons (.str _) (.cons hl (.cons hr .nil)))))
inductive TermN (E0 : Rel) : Nat → PyData → Rel where
  | stop {a : PyData} {R : List M} : Not MulH R → TermN E0 0 a R a R
  | step {k : Nat} {a b d : PyData} {m : M} {R R1 R2 : List M} : MulH m = true → Piece E0 R b R1 → TermN E0 k (opD m.pl m.w a b) R1 d R2 → TermN E0 (k + 1) a (m :: R) d R2
theorem term_n {E0 : Rel} {a d : PyData} {R R' : List M} (h : TermL E0 a R d R') : ∃ k, TermN E0 k a R d R' := by
  induction h with
  | stop h => exact ⟨0, .stop h⟩
  | step h1 h2 _ ih =>
    obtain ⟨k, ih⟩ := ih
    exact ⟨k + 1, .step h1 h2 ih⟩
section
variable {P : Program} {w : World} {K : PySem.W.Frag} {mg : Str → Option Value} {base : Heap} {f : Addr} {fd : FuncData} {kA0 sA CL CR eA : Addr}
theorem sc_ReaderTerm : FnScope ["self", "left", "sign"] ["self"] (defScope sReaderTerm) := ⟨rfl, rfl, rfl, by decide +kernel, rfl, by decide +kernel, by decide +kernel⟩
theorem ok_term {E0 : Rel} {lv : Nat} (hlv : 3 ≤ lv) (T : Facts K mg kA0 sA CL CR eA) (c_sees : MCal P w K mg base CR "sees" 1 ["self", "kind", "words"] [] (spSees K CR))
    (c_piece : MCal P w K mg base CR "piece" lv ["self"] [] (spRel CR (Piece E0))) (F : FnP K "term" "Reader.term" sReaderTerm [] f fd) : FnOk P w K mg base CX0 (lv + 1) f fd ["self"] (spRel CR (Term E0)) := by
  refine F.ok sc_ReaderTerm (fun vs H Q E h => ?_) (fun cdv A outer s H vs Q E hr h => ?_)
  · obtain ⟨ro, dx, rA, W, n, d, R', rfl, _⟩ := h
    rfl
  obtain ⟨ro, dx, rA, W, n, d, R', rfl, L, ⟨a0, R1, hp, hl⟩, q⟩ := h
  refine ⟨_, PSs.nox (pss_cons (ps_set (i := 1) sc_ReaderTerm.nd rfl (.inl rfl) (pe_m0 c_piece (hr.mono (by omega)) T.cl_R (pv 0)))
    (pss_cons (ps_while PassesOwn.never (PW.pt (pw_or (pt_val (pe_m c_sees (hr.mono (by omega)) T.cl_R (pv 0) (pa_cons pe_str (pa_cons (pe_tup (pa_cons pe_str pa_nil)) pa_nil)))) (pw_or1 (pt_val (pe_m c_sees (hr.mono (by omega)) T.cl_R (pv 0) (pa_cons pe_str (pa_cons (pe_tup (pa_cons pe_str (pa_cons pe_str pa_nil))) pa_nil)))))))
    (pss_cons (ps_set (i := 2) sc_ReaderTerm.nd rfl (.inl rfl) (pe_ix (ixL K) (pe_fld (pv 0) rfl) (pe_fld (pv 0) rfl) (fun _ _ => rfl)))
      (pss_cons (ps_fldaug (pv 0) pe_int in_add)
      (pss_one (ps_set (i := 1) sc_ReaderTerm.nd rfl (.inl rfl) (pe_tup (pa_cons pe_str (pa_cons (pe_slice (slT K) (pv 2) (po_some pe_int) po_none) (pa_cons (pe_ix (ixT K) (pv 2) pe_int (fun _ _ => rfl)) (pa_cons (pv 1) (pa_cons (pe_m0 c_piece (hr.mono (by omega)) T.cl_R (pv 0)) pa_nil)))))))))))
    (pss_one (ps_ret (pv 1))))), ?_⟩
  refine ⟨_, rfl, ro, dx, _, rfl, L.ins, rfl, ro, dx, rA, W, n, a0, R1, rfl, L, hp, fun v n1 H1 td1 L1 hW1 f1 => ?_⟩
  obtain ⟨kk, hl⟩ := term_n hl
  refine ⟨fun mm σ H' => ∃ (n2 : Nat) (b : PyData) (vl : V) (y2 : Option V), σ = [some (.ref ro), some vl, y2] ∧ RA CR ro dx rA H' W n2 ∧ TermN E0 mm b (W.drop n2) d R' ∧ TD H' vl b ∧ Fr [ro] H H', ⟨kk, n1, a0, v, none, rfl, L1, by rw [hW1]; exact hl, td1, f1⟩, ?_⟩
  rintro mm σ H2 ⟨n2, b, vl, y2, rfl, L2, htl, td2, f2⟩
  have test : ∀ (m : M) (r : List M) (Q1 : Bool → Hp → Prop), W.drop n2 = m :: r → (∀ H', Fr [] H2 H' → Q1 (MulH m) H') →
      tOr (tB (tMeth CR "sees" (spSees K CR) [] _root_.L2.E0 (tVar 0) (tCons (tC (.str "sign")) (tCons (tTup (tCons (tC (.str "*")) tNil)) tNil)))) (tB (tMeth CR "sees" (spSees K CR) [] _root_.L2.E0 (tVar 0) (tCons (tC (.str "key")) (tCons (tTup (tCons (tC (.str "div")) (tCons (tC (.str "mod")) tNil))) tNil)))) [some (.ref ro), some vl, y2] H2 Q1 := by
    intro m r Q1 hW2 hq
    refine ⟨_, rfl, ro, dx, _, rfl, L2.ins, rfl, by show 1 ≤ sizeLine; decide, fun T0 hT0 => ?_⟩
    have f3 : Fr [] H2 (upd H2 T0 (.tup [.str "*"])) := .new hT0
    refine ⟨ro, dx, rA, T0, W, n2, m, r, "sign", ["*"], rfl, L2.fr f3, hW2, .of upd_same, by decide +kernel, fun H3 f4 => ⟨_, rfl, ?_⟩⟩
    have f34 := f3.trans f4
    cases e1 : m.sees "sign" ["*"] with
    | true =>
      have := hq H3 f34
      unfold MulH at this
      rw [e1] at this
      exact iteT this
    | false =>
      refine iteF ⟨_, rfl, ro, dx, _, rfl, (L2.fr f34).ins, rfl, by show 2 ≤ sizeLine; decide, fun T1 hT1 => ?_⟩
      have f5 : Fr [] H3 (upd H3 T1 (.tup [.str "div", .str "mod"])) := .new hT1
      refine ⟨ro, dx, rA, T1, W, n2, m, r, "key", ["div", "mod"], rfl, (L2.fr f34).fr f5, hW2, .of upd_same, by decide +kernel, fun H4 f6 => ⟨_, rfl, ?_⟩⟩
      have := hq H4 (f34.trans (f5.trans f6))
      unfold MulH at this
      rw [e1] at this
      exact this
  generalize hRn : W.drop n2 = Rn at htl
  cases htl with
  | stop hN =>
    obtain ⟨m, r, e1, e2⟩ := hN
    refine test m r _ (by rw [hRn, e1]) fun H3 f3 => ?_
    rw [e2]
    exact iteF ⟨_, rfl, q vl n2 H3 (td2.mono f3.tups) (L2.fr f3) (by rw [hRn]) (f2.trans (fr_ro f3))⟩
  | @step kk b c d m R R1' R2 hm hpc htl =>
    refine test m R _ hRn fun H3 f3 => ?_
    rw [hm]
    refine iteT ⟨_, fun σ' H' h => ⟨kk, Nat.lt_succ_self _, h⟩, ?_⟩
    have L3 := L2.fr f3
    obtain ⟨vs, a, h1, h2, h3⟩ := L3.mark hRn
    refine ⟨_, rfl, ro, CR, dx, _, _, rfl, L3.ins, T.cl_R, T.nRow, rfl, _, rfl, ro, CR, dx, _, _, rfl, L3.ins, T.cl_R, T.nAt, rfl, rA, _, _, _, rfl, rfl, .of h1, h2, ?_⟩
    obtain ⟨s1, s2⟩ := L3.step
    have h3' := s2.tups _ _ h3
    refine aug_at T.cl_R T.nAt L3 rfl ?_
    refine ⟨_, rfl, _, rfl, a, _, rfl, .of h3', (show ¬ (HT.sIx 4 0 (some 2) = 0 ∧ HT.sIx 4 4 none = 4) by decide), fun u hu => ?_⟩
    have fu := Fr.new (T := []) (o := .tup (cutV [.str m.k, .str m.w, .int m.l, .int m.c] (some 2) none)) hu
    have L4 := s1.fr fu
    refine ⟨_, rfl, a, _, _, _, rfl, rfl, .of (fu.tups _ _ h3'), at1, _, rfl, _, rfl, ro, dx, _, rfl, L4.ins, rfl, ro, dx, rA, W, n2 + 1, c, R1', rfl, L4, by rw [drop_next hRn]; exact hpc, fun v3 n3 H5 td5 L5 hW5 f5 => ⟨by show 5 ≤ sizeLine; decide, fun o ho => ?_⟩⟩
    have fo := Fr.new (T := []) (o := .tup [.str "op", .ref u, .str m.w, vl, v3]) ho
    exact ⟨n3, opD m.pl m.w b c, .ref o, _, rfl, L5.fr fo, by rw [hW5]; exact htl, td_opv fo.tups (fo.tups _ _ (f5.tups _ _ upd_same)) upd_same (td2.mono (fun b xs e => fo.tups _ _ (f5.tups _ _ (fu.tups _ _ (s2.tups _ _ (f3.tups _ _ e)))))) (td5.mono fo.tups), f2.trans ((fr_ro f3).trans (s2.trans ((fr_ro fu).trans (f5.trans (fr_ro fo)))))⟩
end
end K10
namespace K10
open PySem PySem.Spec PyProof.Rows L2
open SX (S)
open C8 (Mak)
inductive SumN (E1 : Rel) : Nat → PyData → Rel where
  | stop {a : PyData} {R : List M} : Not AddH R → SumN E1 0 a R a R
  | step {k : Nat} {a b d : PyData} {m : M} {R R1 R2 : List M} : AddH m = true → Term E1 R b R1 → SumN E1 k (opD m.pl m.w a b) R1 d R2 → SumN E1 (k + 1) a (m :: R) d R2
theorem sum_n {E1 : Rel} {a d : PyData} {R R' : List M} (h : SumL E1 a R d R') : ∃ k, SumN E1 k a R d R' := by
  induction h with
  | stop h => exact ⟨0, .stop h⟩
  | step h1 h2 _ ih =>
    obtain ⟨k, ih⟩ := ih
    exact ⟨k + 1, .step h1 h2 ih⟩
section
variable {P : Program} {w : World} {K : PySem.W.Frag} {mg : Str → Option Value} {base : Heap} {f : Addr} {fd : FuncData} {kA0 sA CL CR eA : Addr}
theorem sc_ReaderSums : FnScope ["self", "left", "sign"] ["self"] (defScope sReaderSums) := ⟨rfl, rfl, rfl, by decide +kernel, rfl, by decide +kernel, by decide +kernel⟩
theorem ok_sums {E1 : Rel} {lv : Nat} (hlv : 3 ≤ lv) (T : Facts K mg kA0 sA CL CR eA) (c_sees : MCal P w K mg base CR "sees" 1 ["self", "kind", "words"] [] (spSees K CR)) (c_take1 : MCal P w K mg base CR "take" 2 ["self", "kind", "words"] [.ref (eB K)] (spTake K CR))
    (c_term : MCal P w K mg base CR "term" lv ["self"] [] (spRel CR (Term E1))) (F : FnP K "sums" "Reader.sums" sReaderSums [] f fd) : FnOk P w K mg base CX0 (lv + 1) f fd ["self"] (spRel CR (Sums E1)) := by
  refine F.ok sc_ReaderSums (fun vs H Q E h => ?_) (fun cdv A outer s H vs Q E hr h => ?_)
  · obtain ⟨ro, dx, rA, W, n, d, R', rfl, _⟩ := h
    rfl
  obtain ⟨ro, dx, rA, W, n, d, R', rfl, L, ⟨a0, R1, hp, hl⟩, q⟩ := h
  refine ⟨_, PSs.nox (pss_cons (ps_set (i := 1) sc_ReaderSums.nd rfl (.inl rfl) (pe_m0 c_term (hr.mono (by omega)) T.cl_R (pv 0)))
    (pss_cons (ps_while PassesOwn.never (pt_val (pe_m c_sees (hr.mono (by omega)) T.cl_R (pv 0) (pa_cons pe_str (pa_cons (pe_tup (pa_cons pe_str (pa_cons pe_str pa_nil))) pa_nil))))
    (pss_cons (ps_set (i := 2) sc_ReaderSums.nd rfl (.inl rfl) (pe_m c_take1 (hr.mono (by omega)) T.cl_R (pv 0) (pa_cons pe_str pa_nil)))
      (pss_one (ps_set (i := 1) sc_ReaderSums.nd rfl (.inl rfl) (pe_tup (pa_cons pe_str (pa_cons (pe_slice (slT K) (pv 2) (po_some pe_int) po_none) (pa_cons (pe_ix (ixT K) (pv 2) pe_int (fun _ _ => rfl)) (pa_cons (pv 1) (pa_cons (pe_m0 c_term (hr.mono (by omega)) T.cl_R (pv 0)) pa_nil))))))))))
    (pss_one (ps_ret (pv 1))))), ?_⟩
  refine ⟨_, rfl, ro, dx, _, rfl, L.ins, rfl, ro, dx, rA, W, n, a0, R1, rfl, L, hp, fun v n1 H1 td1 L1 hW1 f1 => ?_⟩
  obtain ⟨kk, hl⟩ := sum_n hl
  refine ⟨fun mm σ H' => ∃ (n2 : Nat) (b : PyData) (vl : V) (y2 : Option V), σ = [some (.ref ro), some vl, y2] ∧ RA CR ro dx rA H' W n2 ∧ SumN E1 mm b (W.drop n2) d R' ∧ TD H' vl b ∧ Fr [ro] H H', ⟨kk, n1, a0, v, none, rfl, L1, by rw [hW1]; exact hl, td1, f1⟩, ?_⟩
  rintro mm σ H2 ⟨n2, b, vl, y2, rfl, L2, htl, td2, f2⟩
  generalize hRn : W.drop n2 = Rn at htl
  refine ⟨_, rfl, ro, dx, _, rfl, L2.ins, rfl, by show 2 ≤ sizeLine; decide, fun T0 hT0 => ?_⟩
  have f3 : Fr [] H2 (upd H2 T0 (.tup [.str "+", .str "-"])) := .new hT0
  cases htl with
  | stop hN =>
    obtain ⟨m, r, e1, e2⟩ := hN
    refine ⟨ro, dx, rA, T0, W, n2, m, r, "sign", ["+", "-"], rfl, L2.fr f3, by rw [hRn, e1], .of upd_same, by decide +kernel, fun H3 f4 => ⟨_, rfl, ?_⟩⟩
    have f34 := f3.trans f4
    rw [show m.sees "sign" ["+", "-"] = false from e2]
    exact iteF ⟨_, rfl, q vl n2 H3 (td2.mono f34.tups) (L2.fr f34) (by rw [hRn]) (f2.trans (fr_ro f34))⟩
  | @step kk b c d m R R1' R2 hm hpc htl =>
    refine ⟨ro, dx, rA, T0, W, n2, m, R, "sign", ["+", "-"], rfl, L2.fr f3, hRn, .of upd_same, by decide +kernel, fun H3 f4 => ⟨_, rfl, ?_⟩⟩
    have f34 := f3.trans f4
    rw [show m.sees "sign" ["+", "-"] = true from hm]
    refine iteT ⟨_, fun σ' H' h => ⟨kk, Nat.lt_succ_self _, h⟩, ?_⟩
    have L3 := L2.fr f34
    have hk : m.k = "sign" := by
      unfold AddH M.sees at hm
      simp only [Bool.and_eq_true, decide_eq_true_eq] at hm
      exact hm.1
    refine ⟨_, rfl, ro, dx, _, rfl, L3.ins, rfl, ro, dx, rA, eB K, W, n2, m, R, "sign", [], rfl, L3, hRn, T.emp2 H3, by simp, by rw [sees_nil]; exact decide_eq_true hk, fun a H4 ha L4 f5 => ?_⟩
    refine ⟨_, rfl, _, rfl, a, _, rfl, .of ha, (show ¬ (HT.sIx 4 0 (some 2) = 0 ∧ HT.sIx 4 4 none = 4) by decide), fun u hu => ?_⟩
    have fu := Fr.new (T := []) (o := .tup (cutV [.str m.k, .str m.w, .int m.l, .int m.c] (some 2) none)) hu
    have L5 := L4.fr fu
    refine ⟨_, rfl, a, _, _, _, rfl, rfl, .of (fu.tups _ _ ha), at1, _, rfl, _, rfl, ro, dx, _, rfl, L5.ins, rfl, ro, dx, rA, W, n2 + 1, c, R1', rfl, L5, by rw [drop_next hRn]; exact hpc, fun v3 n3 H5 td5 L6 hW5 f6 => ⟨by show 5 ≤ sizeLine; decide, fun o ho => ?_⟩⟩
    have fo := Fr.new (T := []) (o := .tup [.str "op", .ref u, .str m.w, vl, v3]) ho
    exact ⟨n3, opD m.pl m.w b c, .ref o, _, rfl, L6.fr fo, by rw [hW5]; exact htl, td_opv fo.tups (fo.tups _ _ (f6.tups _ _ upd_same)) upd_same (td2.mono (fun b xs e => fo.tups _ _ (f6.tups _ _ (fu.tups _ _ (f5.tups _ _ (f34.tups _ _ e)))))) (td5.mono fo.tups), f2.trans ((fr_ro f34).trans (f5.trans ((fr_ro fu).trans (f6.trans (fr_ro fo)))))⟩
end
end K10
namespace K10
open PySem PySem.Spec PyProof.Rows L2
open SX (S)
open C8 (Mak)
section
variable {P : Program} {w : World} {K : PySem.W.Frag} {mg : Str → Option Value} {base : Heap} {f : Addr} {fd : FuncData} {kA0 sA CL CR eA : Addr}
theorem sc_ReaderInRow : FnScope ["self", "left", "sign"] ["self"] (defScope sReaderInRow) := ⟨rfl, rfl, rfl, by decide +kernel, rfl, by decide +kernel, by decide +kernel⟩
theorem ok_inrow {E1 : Rel} {fu lv : Nat} (hlv : 3 ≤ lv) (T : Facts K mg kA0 sA CL CR eA) (c_sees : MCal P w K mg base CR "sees" 1 ["self", "kind", "words"] [] (spSees K CR)) (c_take1 : MCal P w K mg base CR "take" 2 ["self", "kind", "words"] [.ref (eB K)] (spTake K CR))
    (c_sums : MCal P w K mg base CR "sums" lv ["self"] [] (spRel CR (Sums E1))) (c_in_row : MCal P w K mg base CR "in_row" lv ["self"] [] (spRel CR (InRow E1 fu))) (F : FnP K "in_row" "Reader.in_row" sReaderInRow [] f fd) : FnOk P w K mg base CX0 (lv + 1) f fd ["self"] (spRel CR (InRow E1 (fu + 1))) := by
  refine F.ok sc_ReaderInRow (fun vs H Q E h => ?_) (fun cdv A outer s H vs Q E hr h => ?_)
  · obtain ⟨ro, dx, rA, W, n, d, R', rfl, _⟩ := h
    rfl
  obtain ⟨ro, dx, rA, W, n, d, R', rfl, L, hrel, q⟩ := h
  refine ⟨_, PSs.nox (pss_cons (ps_set (i := 1) sc_ReaderInRow.nd rfl (.inl rfl) (pe_m0 c_sums (hr.mono (by omega)) T.cl_R (pv 0)))
    (pss_cons (ps_if (pt_not (pt_val (pe_m c_sees (hr.mono (by omega)) T.cl_R (pv 0) (pa_cons pe_str (pa_cons (pe_tup (pa_cons pe_str pa_nil)) pa_nil)))))
    (pss_one (ps_ret (pv 1)))
    pss_nil)
    (pss_cons (ps_set (i := 2) sc_ReaderInRow.nd rfl (.inl rfl) (pe_m c_take1 (hr.mono (by omega)) T.cl_R (pv 0) (pa_cons pe_str pa_nil)))
    (pss_one (ps_ret (pe_tup (pa_cons pe_str (pa_cons (pe_slice (slT K) (pv 2) (po_some pe_int) po_none) (pa_cons (pe_ix (ixT K) (pv 2) pe_int (fun _ _ => rfl)) (pa_cons (pv 1) (pa_cons (pe_m0 c_in_row (hr.mono (by omega)) T.cl_R (pv 0)) pa_nil))))))))))), ?_⟩
  generalize hW : W.drop n = Wn at hrel
  cases hrel with
  | one hs hN =>
    obtain ⟨m, r, e1, e2⟩ := hN
    refine ⟨_, rfl, ro, dx, _, rfl, L.ins, rfl, ro, dx, rA, W, n, d, R', rfl, L, by rw [hW]; exact hs, fun v n1 H1 td1 L1 hW1 f1 => ?_⟩
    refine ⟨_, rfl, ro, dx, _, rfl, L1.ins, rfl, by show 1 ≤ sizeLine; decide, fun T0 hT0 => ?_⟩
    have f3 : Fr [] H1 (upd H1 T0 (.tup [.str ":"])) := .new hT0
    refine ⟨ro, dx, rA, T0, W, n1, m, r, "sign", [":"], rfl, L1.fr f3, by rw [hW1, e1], .of upd_same, by decide +kernel, fun H3 f4 => ⟨_, rfl, ?_⟩⟩
    have f34 := f3.trans f4
    rw [show m.sees "sign" [":"] = false from e2]
    exact iteT ⟨_, rfl, q v n1 H3 (td1.mono f34.tups) (L1.fr f34) hW1 (f1.trans (fr_ro f34))⟩
  | @two _ m R R1' R2 a b hs hm hb =>
    refine ⟨_, rfl, ro, dx, _, rfl, L.ins, rfl, ro, dx, rA, W, n, a, m :: R1', rfl, L, by rw [hW]; exact hs, fun v n1 H1 td1 L1 hW1 f1 => ?_⟩
    refine ⟨_, rfl, ro, dx, _, rfl, L1.ins, rfl, by show 1 ≤ sizeLine; decide, fun T0 hT0 => ?_⟩
    have f3 : Fr [] H1 (upd H1 T0 (.tup [.str ":"])) := .new hT0
    refine ⟨ro, dx, rA, T0, W, n1, m, R1', "sign", [":"], rfl, L1.fr f3, hW1, .of upd_same, by decide +kernel, fun H3 f4 => ⟨_, rfl, ?_⟩⟩
    have f34 := f3.trans f4
    rw [show m.sees "sign" [":"] = true from hm]
    refine iteF ?_
    have L3 := L1.fr f34
    have hk : m.k = "sign" := by
      unfold ColH M.sees at hm
      simp only [Bool.and_eq_true, decide_eq_true_eq] at hm
      exact hm.1
    refine ⟨_, rfl, ro, dx, _, rfl, L3.ins, rfl, ro, dx, rA, eB K, W, n1, m, R1', "sign", [], rfl, L3, hW1, T.emp2 H3, by simp, by rw [sees_nil]; exact decide_eq_true hk, fun a4 H4 ha L4 f5 => ?_⟩
    refine ⟨_, rfl, _, rfl, a4, _, rfl, .of ha, (show ¬ (HT.sIx 4 0 (some 2) = 0 ∧ HT.sIx 4 4 none = 4) by decide), fun u hu => ?_⟩
    have fu' := Fr.new (T := []) (o := .tup (cutV [.str m.k, .str m.w, .int m.l, .int m.c] (some 2) none)) hu
    have L5 := L4.fr fu'
    refine ⟨_, rfl, a4, _, _, _, rfl, rfl, .of (fu'.tups _ _ ha), at1, _, rfl, _, rfl, ro, dx, _, rfl, L5.ins, rfl, ro, dx, rA, W, n1 + 1, b, R', rfl, L5, by rw [drop_next hW1]; exact hb, fun v3 n3 H5 td5 L6 hW5 f6 => ⟨by show 5 ≤ sizeLine; decide, fun o ho => ?_⟩⟩
    have fo := Fr.new (T := []) (o := .tup [.str "op", .ref u, .str m.w, v, v3]) ho
    exact q _ n3 _ (td_opv fo.tups (fo.tups _ _ (f6.tups _ _ upd_same)) upd_same (td1.mono (fun b xs e => fo.tups _ _ (f6.tups _ _ (fu'.tups _ _ (f5.tups _ _ (f34.tups _ _ e)))))) (td5.mono fo.tups)) (L6.fr fo) hW5 (f1.trans ((fr_ro f34).trans (f5.trans ((fr_ro fu').trans (f6.trans (fr_ro fo))))))
end
end K10
namespace K10
open PySem PySem.Spec PyProof.Rows L2
open SX (S)
open C8 (Mak)
section
variable {P : Program} {w : World} {K : PySem.W.Frag} {mg : Str → Option Value} {base : Heap} {f : Addr} {fd : FuncData} {kA0 sA CL CR eA : Addr}
theorem sc_ReaderLike : FnScope ["self", "left", "sign"] ["self"] (defScope sReaderLike) := ⟨rfl, rfl, rfl, by decide +kernel, rfl, by decide +kernel, by decide +kernel⟩
theorem ok_like {E1 : Rel} {lv : Nat} (hlv : 3 ≤ lv) (T : Facts K mg kA0 sA CL CR eA) (c_sees : MCal P w K mg base CR "sees" 1 ["self", "kind", "words"] [] (spSees K CR)) (c_take1 : MCal P w K mg base CR "take" 2 ["self", "kind", "words"] [.ref (eB K)] (spTake K CR))
    (c_in_row : MCal P w K mg base CR "in_row" lv ["self"] [] (spRel CR (InRow E1 6))) (F : FnP K "like" "Reader.like" sReaderLike [] f fd) : FnOk P w K mg base CX0 (lv + 1) f fd ["self"] (spRel CR (Like E1 6)) := by
  refine F.ok sc_ReaderLike (fun vs H Q E h => ?_) (fun cdv A outer s H vs Q E hr h => ?_)
  · obtain ⟨ro, dx, rA, W, n, d, R', rfl, _⟩ := h
    rfl
  obtain ⟨ro, dx, rA, W, n, d, R', rfl, L, hrel, q⟩ := h
  refine ⟨_, PSs.nox (pss_cons (ps_set (i := 1) sc_ReaderLike.nd rfl (.inl rfl) (pe_m0 c_in_row (hr.mono (by omega)) T.cl_R (pv 0)))
    (pss_cons (ps_if (pt_not (pt_val (pe_m c_sees (hr.mono (by omega)) T.cl_R (pv 0) (pa_cons pe_str (pa_cons (pe_tup (pa_cons pe_str (pa_cons pe_str pa_nil))) pa_nil)))))
    (pss_one (ps_ret (pv 1)))
    pss_nil)
    (pss_cons (ps_set (i := 2) sc_ReaderLike.nd rfl (.inl rfl) (pe_m c_take1 (hr.mono (by omega)) T.cl_R (pv 0) (pa_cons pe_str pa_nil)))
    (pss_one (ps_ret (pe_tup (pa_cons pe_str (pa_cons (pe_slice (slT K) (pv 2) (po_some pe_int) po_none) (pa_cons (pe_ix (ixT K) (pv 2) pe_int (fun _ _ => rfl)) (pa_cons (pv 1) (pa_cons (pe_m0 c_in_row (hr.mono (by omega)) T.cl_R (pv 0)) pa_nil))))))))))), ?_⟩
  generalize hW : W.drop n = Wn at hrel
  cases hrel with
  | one hs hN =>
    obtain ⟨m, r, e1, e2⟩ := hN
    refine ⟨_, rfl, ro, dx, _, rfl, L.ins, rfl, ro, dx, rA, W, n, d, R', rfl, L, by rw [hW]; exact hs, fun v n1 H1 td1 L1 hW1 f1 => ?_⟩
    refine ⟨_, rfl, ro, dx, _, rfl, L1.ins, rfl, by show 2 ≤ sizeLine; decide, fun T0 hT0 => ?_⟩
    have f3 : Fr [] H1 (upd H1 T0 (.tup [.str "==", .str "<"])) := .new hT0
    refine ⟨ro, dx, rA, T0, W, n1, m, r, "sign", ["==", "<"], rfl, L1.fr f3, by rw [hW1, e1], .of upd_same, by decide +kernel, fun H3 f4 => ⟨_, rfl, ?_⟩⟩
    have f34 := f3.trans f4
    rw [show m.sees "sign" ["==", "<"] = false from e2]
    exact iteT ⟨_, rfl, q v n1 H3 (td1.mono f34.tups) (L1.fr f34) hW1 (f1.trans (fr_ro f34))⟩
  | @two m R R1' R2 a b hs hm hb =>
    refine ⟨_, rfl, ro, dx, _, rfl, L.ins, rfl, ro, dx, rA, W, n, a, m :: R1', rfl, L, by rw [hW]; exact hs, fun v n1 H1 td1 L1 hW1 f1 => ?_⟩
    refine ⟨_, rfl, ro, dx, _, rfl, L1.ins, rfl, by show 2 ≤ sizeLine; decide, fun T0 hT0 => ?_⟩
    have f3 : Fr [] H1 (upd H1 T0 (.tup [.str "==", .str "<"])) := .new hT0
    refine ⟨ro, dx, rA, T0, W, n1, m, R1', "sign", ["==", "<"], rfl, L1.fr f3, hW1, .of upd_same, by decide +kernel, fun H3 f4 => ⟨_, rfl, ?_⟩⟩
    have f34 := f3.trans f4
    rw [show m.sees "sign" ["==", "<"] = true from hm]
    refine iteF ?_
    have L3 := L1.fr f34
    have hk : m.k = "sign" := by
      unfold CmpH M.sees at hm
      simp only [Bool.and_eq_true, decide_eq_true_eq] at hm
      exact hm.1
    refine ⟨_, rfl, ro, dx, _, rfl, L3.ins, rfl, ro, dx, rA, eB K, W, n1, m, R1', "sign", [], rfl, L3, hW1, T.emp2 H3, by simp, by rw [sees_nil]; exact decide_eq_true hk, fun a4 H4 ha L4 f5 => ?_⟩
    refine ⟨_, rfl, _, rfl, a4, _, rfl, .of ha, (show ¬ (HT.sIx 4 0 (some 2) = 0 ∧ HT.sIx 4 4 none = 4) by decide), fun u hu => ?_⟩
    have fu' := Fr.new (T := []) (o := .tup (cutV [.str m.k, .str m.w, .int m.l, .int m.c] (some 2) none)) hu
    have L5 := L4.fr fu'
    refine ⟨_, rfl, a4, _, _, _, rfl, rfl, .of (fu'.tups _ _ ha), at1, _, rfl, _, rfl, ro, dx, _, rfl, L5.ins, rfl, ro, dx, rA, W, n1 + 1, b, R', rfl, L5, by rw [drop_next hW1]; exact hb, fun v3 n3 H5 td5 L6 hW5 f6 => ⟨by show 5 ≤ sizeLine; decide, fun o ho => ?_⟩⟩
    have fo := Fr.new (T := []) (o := .tup [.str "op", .ref u, .str m.w, v, v3]) ho
    exact q _ n3 _ (td_opv fo.tups (fo.tups _ _ (f6.tups _ _ upd_same)) upd_same (td1.mono (fun b xs e => fo.tups _ _ (f6.tups _ _ (fu'.tups _ _ (f5.tups _ _ (f34.tups _ _ e)))))) (td5.mono fo.tups)) (L6.fr fo) hW5 (f1.trans ((fr_ro f34).trans (f5.trans ((fr_ro fu').trans (f6.trans (fr_ro fo))))))
end
end K10
namespace K10
open PySem PySem.Spec PyProof.Rows L2
open SX (S)
open C8 (Mak)
/-- a like that neither and nor or follow -/
def LikeN (E1 : Rel) : Rel := fun R d R' => Like E1 6 R d R' ∧ Not LogH R'
theorem log_no {m : M} (h : LogH m = false) : m.sees "key" ["and"] = false ∧ m.sees "key" ["or"] = false := by
  unfold LogH at h
  exact Bool.or_eq_false_iff.mp h
section
variable {P : Program} {w : World} {K : PySem.W.Frag} {mg : Str → Option Value} {base : Heap} {f : Addr} {fd : FuncData} {kA0 sA CL CR eA : Addr}
theorem sc_ReaderBoth : FnScope ["self", "left", "place"] ["self"] (defScope sReaderBoth) := ⟨rfl, rfl, rfl, by decide +kernel, rfl, by decide +kernel, by decide +kernel⟩
theorem ok_both {E1 : Rel} {lv : Nat} (hlv : 3 ≤ lv) (T : Facts K mg kA0 sA CL CR eA) (c_sees : MCal P w K mg base CR "sees" 1 ["self", "kind", "words"] [] (spSees K CR)) (c_like : MCal P w K mg base CR "like" lv ["self"] [] (spRel CR (Like E1 6)))
    (F : FnP K "both" "Reader.both" sReaderBoth [] f fd) : FnOk P w K mg base CX0 (lv + 1) f fd ["self"] (spRel CR (LikeN E1)) := by
  refine F.ok sc_ReaderBoth (fun vs H Q E h => ?_) (fun cdv A outer s H vs Q E hr h => ?_)
  · obtain ⟨ro, dx, rA, W, n, d, R', rfl, _⟩ := h
    rfl
  obtain ⟨ro, dx, rA, W, n, d, R', rfl, L, ⟨hrel, m, r, e1, e2⟩, q⟩ := h
  refine ⟨_, (PSs.nox (pss_cons (ps_set (i := 1) sc_ReaderBoth.nd rfl (.inl rfl) (pe_m0 c_like (hr.mono (by omega)) T.cl_R (pv 0)))
    (pss_cons (ps_if (pt_not (pt_val (pe_m c_sees (hr.mono (by omega)) T.cl_R (pv 0) (pa_cons pe_str (pa_cons (pe_tup (pa_cons pe_str pa_nil)) pa_nil)))))
    (pss_one (ps_ret (pv 1)))
    pss_nil)
    pss_never))), ?_⟩
  refine ⟨_, rfl, ro, dx, _, rfl, L.ins, rfl, ro, dx, rA, W, n, d, R', rfl, L, hrel, fun v n1 H1 td1 L1 hW1 f1 => ?_⟩
  refine ⟨_, rfl, ro, dx, _, rfl, L1.ins, rfl, by show 1 ≤ sizeLine; decide, fun T0 hT0 => ?_⟩
  have f3 : Fr [] H1 (upd H1 T0 (.tup [.str "and"])) := .new hT0
  refine ⟨ro, dx, rA, T0, W, n1, m, r, "key", ["and"], rfl, L1.fr f3, by rw [hW1, e1], .of upd_same, by decide +kernel, fun H3 f4 => ⟨_, rfl, ?_⟩⟩
  have f34 := f3.trans f4
  rw [(log_no e2).1]
  exact iteT ⟨_, rfl, q v n1 H3 (td1.mono f34.tups) (L1.fr f34) hW1 (f1.trans (fr_ro f34))⟩
theorem sc_ReaderEither : FnScope ["self", "left", "place"] ["self"] (defScope sReaderEither) := ⟨rfl, rfl, rfl, by decide +kernel, rfl, by decide +kernel, by decide +kernel⟩
theorem ok_either {E1 : Rel} {lv : Nat} (hlv : 3 ≤ lv) (T : Facts K mg kA0 sA CL CR eA) (c_sees : MCal P w K mg base CR "sees" 1 ["self", "kind", "words"] [] (spSees K CR)) (c_both : MCal P w K mg base CR "both" lv ["self"] [] (spRel CR (LikeN E1)))
    (F : FnP K "either" "Reader.either" sReaderEither [] f fd) : FnOk P w K mg base CX0 (lv + 1) f fd ["self"] (spRel CR (LikeN E1)) := by
  refine F.ok sc_ReaderEither (fun vs H Q E h => ?_) (fun cdv A outer s H vs Q E hr h => ?_)
  · obtain ⟨ro, dx, rA, W, n, d, R', rfl, _⟩ := h
    rfl
  obtain ⟨ro, dx, rA, W, n, d, R', rfl, L, ⟨hrel, m, r, e1, e2⟩, q⟩ := h
  refine ⟨_, (PSs.nox (pss_cons (ps_set (i := 1) sc_ReaderEither.nd rfl (.inl rfl) (pe_m0 c_both (hr.mono (by omega)) T.cl_R (pv 0)))
    (pss_cons (ps_if (pt_not (pt_val (pe_m c_sees (hr.mono (by omega)) T.cl_R (pv 0) (pa_cons pe_str (pa_cons (pe_tup (pa_cons pe_str pa_nil)) pa_nil)))))
    (pss_one (ps_ret (pv 1)))
    pss_nil)
    pss_never))), ?_⟩
  refine ⟨_, rfl, ro, dx, _, rfl, L.ins, rfl, ro, dx, rA, W, n, d, R', rfl, L, ⟨hrel, m, r, e1, e2⟩, fun v n1 H1 td1 L1 hW1 f1 => ?_⟩
  refine ⟨_, rfl, ro, dx, _, rfl, L1.ins, rfl, by show 1 ≤ sizeLine; decide, fun T0 hT0 => ?_⟩
  have f3 : Fr [] H1 (upd H1 T0 (.tup [.str "or"])) := .new hT0
  refine ⟨ro, dx, rA, T0, W, n1, m, r, "key", ["or"], rfl, L1.fr f3, by rw [hW1, e1], .of upd_same, by decide +kernel, fun H3 f4 => ⟨_, rfl, ?_⟩⟩
  have f34 := f3.trans f4
  rw [(log_no e2).2]
  exact iteT ⟨_, rfl, q v n1 H3 (td1.mono f34.tups) (L1.fr f34) hW1 (f1.trans (fr_ro f34))⟩
end
end K10
namespace K10
open PySem PySem.Spec PyProof.Rows L2
open SX (S)
open C8 (Mak)
/-! ### the reader's small steps -/
theorem sees1 {m : M} {k w : Str} (h : isTok m k w) : m.sees k [w] = true := by
  unfold M.sees
  rw [h.1, h.2]
  simp
section
variable {K : PySem.W.Frag} {CR ro dx rA eA : Addr} {H : Hp} {W : List M} {n : Nat} {m : M} {r : List M} {k w nm : Str} {σ : L2.St} {Q : VK}
theorem e_sees (hσ : σ[0]? = some (some (.ref ro))) (L : RA CR ro dx rA H W n) (hW : W.drop n = m :: r) (hw : PyData.strOk w = true) (q : ∀ H', Fr [] H H' → Q (.bl (m.sees k [w])) H') :
    tMeth CR "sees" (spSees K CR) [] _root_.L2.E0 (tVar 0) (tCons (tC (.str k)) (tCons (tTup (tCons (tC (.str w)) tNil)) tNil)) σ H Q := by
  refine ⟨_, hσ, ro, dx, _, rfl, L.ins, rfl, by show 1 ≤ sizeLine; decide, fun T0 hT0 => ?_⟩
  have f : Fr [] H (upd H T0 (.tup [.str w])) := .new hT0
  exact ⟨ro, dx, rA, T0, W, n, m, r, k, [w], rfl, L.fr f, hW, .of upd_same, fun x hx => by rw [List.mem_singleton.mp hx]; exact hw, fun H' f' => q H' (f.trans f')⟩
theorem e_sees1 (hσ : σ[0]? = some (some (.ref ro))) (L : RA CR ro dx rA H W n) (hW : W.drop n = m :: r) (em : SqT K H eA []) (q : ∀ H', Fr [] H H' → Q (.bl (decide (m.k = k))) H') :
    tMeth CR "sees" (spSees K CR) [.ref eA] _root_.L2.E0 (tVar 0) (tCons (tC (.str k)) tNil) σ H Q :=
  ⟨_, hσ, ro, dx, _, rfl, L.ins, rfl, ro, dx, rA, eA, W, n, m, r, k, [], rfl, L, hW, em, by simp, fun H' f' => by rw [sees_nil]; exact q H' f'⟩
theorem e_take (hσ : σ[0]? = some (some (.ref ro))) (L : RA CR ro dx rA H W n) (hW : W.drop n = m :: r) (ht : isTok m k w) (hw : PyData.strOk w = true)
    (q : ∀ (a : Addr) (H' : Hp), H' a = some (.tup [.str m.k, .str m.w, .int m.l, .int m.c]) → RA CR ro dx rA H' W (n + 1) → Fr [ro] H H' → Q (.ref a) H') :
    tMeth CR "take" (spTake K CR) [] _root_.L2.E0 (tVar 0) (tCons (tC (.str k)) (tCons (tTup (tCons (tC (.str w)) tNil)) tNil)) σ H Q := by
  refine ⟨_, hσ, ro, dx, _, rfl, L.ins, rfl, by show 1 ≤ sizeLine; decide, fun T0 hT0 => ?_⟩
  have f : Fr [] H (upd H T0 (.tup [.str w])) := .new hT0
  exact ⟨ro, dx, rA, T0, W, n, m, r, k, [w], rfl, L.fr f, hW, .of upd_same, fun x hx => by rw [List.mem_singleton.mp hx]; exact hw, sees1 ht, fun a H' ha L' f' => q a H' ha L' ((fr_ro f).trans f')⟩
theorem e_take1 (hσ : σ[0]? = some (some (.ref ro))) (L : RA CR ro dx rA H W n) (hW : W.drop n = m :: r) (hk : m.k = k) (em : SqT K H eA [])
    (q : ∀ (a : Addr) (H' : Hp), H' a = some (.tup [.str m.k, .str m.w, .int m.l, .int m.c]) → RA CR ro dx rA H' W (n + 1) → Fr [ro] H H' → Q (.ref a) H') :
    tMeth CR "take" (spTake K CR) [.ref eA] _root_.L2.E0 (tVar 0) (tCons (tC (.str k)) tNil) σ H Q :=
  ⟨_, hσ, ro, dx, _, rfl, L.ins, rfl, ro, dx, rA, eA, W, n, m, r, k, [], rfl, L, hW, em, by simp, by rw [sees_nil]; exact decide_eq_true hk, q⟩
theorem e_rel {REL : Rel} {d : PyData} {R' : List M} (hσ : σ[0]? = some (some (.ref ro))) (L : RA CR ro dx rA H W n) (hn : ([("row", .ref rA), ("at", .int (n : Int))] : List (Str × V)).lookup nm = none) (h : REL (W.drop n) d R')
    (q : ∀ (v : V) (n' : Nat) (H' : Hp), TD H' v d → RA CR ro dx rA H' W n' → W.drop n' = R' → Fr [ro] H H' → Q v H') :
    tMeth CR nm (spRel CR REL) [] _root_.L2.E0 (tVar 0) tNil σ H Q :=
  ⟨_, hσ, ro, dx, _, rfl, L.ins, hn, ro, dx, rA, W, n, d, R', rfl, L, h, q⟩
end
/-! ### let_row -/
def LetRowR (E1 : Rel) : Rel := fun R d R' => ∃ r : LRow, d = r.py ∧ LetRow E1 R r R'
section
variable {P : Program} {w : World} {K : PySem.W.Frag} {mg : Str → Option Value} {base : Heap} {f : Addr} {fd : FuncData} {kA0 sA CL CR eA : Addr}
theorem sc_ReaderLetRow : FnScope ["self", "name", "worth"] ["self"] (defScope sReaderLetRow) := ⟨rfl, rfl, rfl, by decide +kernel, rfl, by decide +kernel, by decide +kernel⟩
theorem ok_letrow {E1 : Rel} {lv : Nat} (hlv : 2 ≤ lv) (T : Facts K mg kA0 sA CL CR eA) (c_take1 : MCal P w K mg base CR "take" 2 ["self", "kind", "words"] [.ref (eB K)] (spTake K CR)) (c_take : MCal P w K mg base CR "take" 2 ["self", "kind", "words"] [] (spTake K CR))
    (c_expr : MCal P w K mg base CR "expr" lv ["self"] [] (spRel CR E1)) (F : FnP K "let_row" "Reader.let_row" sReaderLetRow [] f fd) : FnOk P w K mg base CX0 (lv + 1) f fd ["self"] (spRel CR (LetRowR E1)) := by
  refine F.ok sc_ReaderLetRow (fun vs H Q E h => ?_) (fun cdv A outer s H vs Q E hr h => ?_)
  · obtain ⟨ro, dx, rA, W, n, d, R', rfl, _⟩ := h
    rfl
  obtain ⟨ro, dx, rA, W, n, d, R', rfl, L, ⟨lr, rfl, hrel⟩, q⟩ := h
  refine ⟨_, PSs.nox (pss_cons (ps_set (i := 1) sc_ReaderLetRow.nd rfl (.inl rfl) (pe_m c_take1 (hr.mono (by omega)) T.cl_R (pv 0) (pa_cons pe_str pa_nil)))
    (pss_cons (ps_expr (pe_m c_take (hr.mono (by omega)) T.cl_R (pv 0) (pa_cons pe_str (pa_cons (pe_tup (pa_cons pe_str pa_nil)) pa_nil))))
    (pss_cons (ps_set (i := 2) sc_ReaderLetRow.nd rfl (.inl rfl) (pe_m0 c_expr (hr.mono (by omega)) T.cl_R (pv 0)))
    (pss_cons (ps_expr (pe_m c_take (hr.mono (by omega)) T.cl_R (pv 0) (pa_cons pe_str (pa_cons (pe_tup (pa_cons pe_str pa_nil)) pa_nil))))
    (pss_one (ps_ret (pe_tup (pa_cons (pe_slice (slT K) (pv 1) (po_some pe_int) po_none) (pa_cons (pe_ix (ixT K) (pv 1) pe_int (fun _ _ => rfl)) (pa_cons (pv 2) pa_nil)))))))))), ?_⟩
  generalize hW : W.drop n = Wn at hrel
  cases hrel with
  | @mk m e s R R1 d hm he hs hE =>
    refine e_take1 rfl L hW hm (T.emp2 H) fun a H1 ha L1 f1 => ?_
    refine e_take rfl L1 (drop_next hW) he (by decide +kernel) fun a2 H2 _ L2 f2 => ?_
    refine e_rel rfl L2 rfl (by rw [drop_next (drop_next hW)]; exact hE) fun v n3 H3 td3 L3 hW3 f3 => ?_
    refine e_take rfl L3 hW3 hs (by decide +kernel) fun a4 H4 _ L4 f4 => ?_
    have ha4 := f4.tups _ _ (f3.tups _ _ (f2.tups _ _ ha))
    refine ⟨_, rfl, _, rfl, a, _, rfl, .of ha4, (show ¬ (HT.sIx 4 0 (some 2) = 0 ∧ HT.sIx 4 4 none = 4) by decide), fun u hu => ?_⟩
    have fu := Fr.new (T := []) (o := .tup (cutV [.str m.k, .str m.w, .int m.l, .int m.c] (some 2) none)) hu
    refine ⟨_, rfl, a, _, _, _, rfl, rfl, .of (fu.tups _ _ ha4), at1, _, rfl, by show 3 ≤ sizeLine; decide, fun o ho => ?_⟩
    have fo := Fr.new (T := []) (o := .tup [.ref u, .str m.w, v]) ho
    exact q _ (n3 + 1) _ (.tup upd_same (.cons (.tup (fo.tups _ _ upd_same) (.cons (.int _) (.cons (.int _) .nil))) (.cons (.str _) (.cons (((td3.mono f4.tups).mono fu.tups).mono fo.tups) .nil)))) ((L4.fr fu).fr fo) (drop_next hW3) (f1.trans (f2.trans (f3.trans (f4.trans ((fr_ro fu).trans (fr_ro fo))))))
end
end K10
namespace K10
open PySem PySem.Spec PyProof.Rows L2
open SX (S)
open C8 (Mak)
/-! ### let_rows -/
def LetsR (E1 : Rel) : Rel := fun R d R' => ∃ (o c : M) (R0 R1 R2 : List M) (r : LRow) (rs : List LRow) (dd : PyData), R = o :: R0 ∧ rs.length ≤ 10 ∧ isTok o "lay" "{" ∧ LetRow E1 R0 r R1 ∧ RowL E1 R1 rs R2 ∧ E1 R2 dd (c :: R') ∧ isTok c "lay" "}" ∧ d = letsD (r :: rs) dd
theorem RA.markK {CR ro dx rA : Addr} {H : Hp} {W : List M} {n k : Nat} (L : RA CR ro dx rA H W n) {m : M} {r : List M} (h : W.drop k = m :: r) : ∃ (vs : List V) (a : Addr), H rA = some (.lst vs) ∧ atI vs (k : Int) = some (.ref a) ∧ H a = some (.tup [.str m.k, .str m.w, .int m.l, .int m.c]) := by
  obtain ⟨vs, h1, h2⟩ := L.row
  have e : (W.map M.py)[k]? = some m.py := by
    rw [List.getElem?_map, ← Nat.add_zero k, ← List.getElem?_drop, h] <;> rfl
  obtain ⟨v, e1, e2⟩ := h2.get e
  obtain ⟨a, rfl, ha⟩ := td_mark e2
  exact ⟨vs, a, h1, atI_nat e1, ha⟩
section
variable {P : Program} {w : World} {K : PySem.W.Frag} {mg : Str → Option Value} {base : Heap} {f : Addr} {fd : FuncData} {kA0 sA CL CR eA : Addr}
theorem e_nameEq {ro dx rA : Addr} {H : Hp} {W : List M} {n : Nat} {m e : M} {r : List M} {σ : L2.St} {Q : Bool → Hp → Prop} (T : Facts K mg kA0 sA CL CR eA) (hσ : σ[0]? = some (some (.ref ro))) (L : RA CR ro dx rA H W n) (hW : W.drop n = m :: e :: r) (q : ∀ H', Fr [] H H' → Q (decide (m.k = "name" ∧ e.w = "=")) H') :
    tAnd (tB (tMeth CR "sees" (spSees K CR) [.ref eA] _root_.L2.E0 (tVar 0) (tCons (tC (.str "name")) tNil))) (tTest (tOp rEq (tOp (rIxT K) (tOp (rIxL K) (tFld K (tVar 0) "row") (tOp (rI0 fun i j => .int (i + j)) (tFld K (tVar 0) "at") (tC (.int 1)))) (tC (.int 1))) (tC (.str "=")))) σ H Q := by
  refine e_sees1 hσ L hW (T.emp H) fun H1 f1 => ⟨_, rfl, ?_⟩
  have q1 := q H1 f1
  have L1 := L.fr f1
  by_cases hk : m.k = "name"
  · rw [decide_eq_true hk]
    refine iteT ?_
    obtain ⟨vs, a, h1, h2, h3⟩ := L1.markK (drop_next hW)
    have h2' : atI vs ((n : Int) + 1) = some (.ref a) := by
      have e : ((n + 1 : Nat) : Int) = (n : Int) + 1 := by omega
      rw [← e]
      exact h2
    refine ⟨_, hσ, ro, CR, dx, _, _, rfl, L1.ins, T.cl_R, T.nRow, rfl, _, hσ, ro, CR, dx, _, _, rfl, L1.ins, T.cl_R, T.nAt, rfl, _, _, rfl, rfl, rA, _, _, _, rfl, rfl, .of h1, h2', a, _, _, _, rfl, rfl, .of h3, at1, rfl, _, rfl, ?_⟩
    have e2 : decide (V.str e.w = V.str "=") = decide (m.k = "name" ∧ e.w = "=") := by
      by_cases he : e.w = "="
      · rw [decide_eq_true (by rw [he]), decide_eq_true ⟨hk, he⟩]
      · rw [decide_eq_false (by intro z; injection z with z; exact he z), decide_eq_false (fun z => he z.2)]
    rw [e2]
    exact q1
  · rw [decide_eq_false hk]
    rw [decide_eq_false (fun z => hk z.1)] at q1
    exact iteF q1
theorem sc_ReaderLetRows : FnScope ["self", "rows", "found", "place", "name", "worth"] ["self"] (defScope sReaderLetRows) := ⟨rfl, rfl, rfl, by decide +kernel, rfl, by decide +kernel, by decide +kernel⟩
theorem ok_letrows {E1 : Rel} {lv : Nat} (hlv : 2 ≤ lv) (T : Facts K mg kA0 sA CL CR eA) (c_sees1 : MCal P w K mg base CR "sees" 1 ["self", "kind", "words"] [.ref eA] (spSees K CR)) (c_take : MCal P w K mg base CR "take" 2 ["self", "kind", "words"] [] (spTake K CR))
    (c_let_row : MCal P w K mg base CR "let_row" (lv + 1) ["self"] [] (spRel CR (LetRowR E1))) (c_expr : MCal P w K mg base CR "expr" lv ["self"] [] (spRel CR E1)) (F : FnP K "let_rows" "Reader.let_rows" sReaderLetRows [] f fd) : FnOk P w K mg base CX0 (lv + 2) f fd ["self"] (spRel CR (LetsR E1)) := by
  refine F.ok sc_ReaderLetRows (fun vs H Q E h => ?_) (fun cdv A outer s H vs Q E hr h => ?_)
  · obtain ⟨ro, dx, rA, W, n, d, R', rfl, _⟩ := h
    rfl
  obtain ⟨ro, dx, rA, W, n, d, R', rfl, L, ⟨o, c, R0, R1, R2, r, rs, dd, hW, hrs, ho, hr0, hrl, hE, hc, rfl⟩, q⟩ := h
  refine ⟨_, PSs.nox (pss_cons (ps_expr (pe_m c_take (hr.mono (by omega)) T.cl_R (pv 0) (pa_cons pe_str (pa_cons (pe_tup (pa_cons pe_str pa_nil)) pa_nil))))
    (pss_cons (ps_set (i := 1) sc_ReaderLetRows.nd rfl (.inl rfl) (pe_lst (pa_cons (pe_m0 c_let_row (hr.mono (by omega)) T.cl_R (pv 0)) pa_nil)))
    (pss_cons (ps_while PassesOwn.never (PW.pt (pw_and (pt_val (pe_m c_sees1 (hr.mono (by omega)) T.cl_R (pv 0) (pa_cons pe_str pa_nil))) (pw_and1 (pt_cmpR op_eq (pe_ix (ixT K) (pe_ix (ixL K) (pe_fld (pv 0) rfl) (pe_op op_add (pe_fld (pv 0) rfl) pe_int) (fun _ _ => rfl)) pe_int (fun _ _ => rfl)) pe_str (nomark _)))))
    (pss_one (ps_expr (pe_bm PySem.F.plainAttrs_list PySem.F.slot_list_append PySem.F.type_list_append mt_append (pv 1) (pa_cons (pe_m0 c_let_row (hr.mono (by omega)) T.cl_R (pv 0)) pa_nil)))))
    (pss_cons (ps_set (i := 2) sc_ReaderLetRows.nd rfl (.inl rfl) (pe_m0 c_expr (hr.mono (by omega)) T.cl_R (pv 0)))
    (pss_cons (ps_expr (pe_m c_take (hr.mono (by omega)) T.cl_R (pv 0) (pa_cons pe_str (pa_cons (pe_tup (pa_cons pe_str pa_nil)) pa_nil))))
    (pss_cons (ps_for PassesOwn.never rfl (pi_reversed (by rfl) T.f_reversed (pa_cons (pv 1) pa_nil)) (pgT K 3 (pgs_cons (pg_name (i := 3) sc_ReaderLetRows.nd rfl (.inl rfl)) (pgs_cons (pg_name (i := 4) sc_ReaderLetRows.nd rfl (.inl rfl)) (pgs_cons (pg_name (i := 5) sc_ReaderLetRows.nd rfl (.inl rfl)) pgs_nil))))
    (pss_one (ps_set (i := 2) sc_ReaderLetRows.nd rfl (.inl rfl) (pe_tup (pa_cons pe_str (pa_cons (pv 3) (pa_cons (pv 4) (pa_cons (pv 5) (pa_cons (pv 2) pa_nil)))))))))
    (pss_one (ps_ret (pv 2))))))))), ?_⟩
  refine e_take rfl L hW ho (by decide +kernel) fun a1 H1 _ L1 f1 => ?_
  refine e_rel rfl L1 rfl (by rw [drop_next hW]; exact ⟨r, rfl, hr0⟩) fun v n2 H2 td2 L2 hW2 f2 => ⟨by show 1 ≤ sizeLine; decide, fun g hg => ?_⟩
  have f3 : Fr [] H2 (upd H2 g (.lst [v])) := .new hg
  have ng : g ≠ ro := fun z => by rw [z, L2.ins] at hg; cases hg
  refine ⟨fun mm σ H' => ∃ (n1 : Nat) (rsd rsr : List LRow) (vs : List V), σ = [some (.ref ro), some (.ref g), none, none, none, none] ∧ RA CR ro dx rA H' W n1 ∧ RowL E1 (W.drop n1) rsr R2 ∧ r :: rs = rsd ++ rsr ∧ rsr.length = mm ∧ H' g = some (.lst vs) ∧ TDs H' vs (rsd.map LRow.py) ∧ Fr [ro] H2 H',
    ⟨rs.length, n2, [r], rs, [v], rfl, L2.fr f3, by rw [hW2]; exact hrl, rfl, rfl, upd_same, .cons (td2.mono f3.tups) .nil, fr_ro f3⟩, ?_⟩
  rintro mm σ H4 ⟨n1, rsd, rsr, vs, rfl, L4, hro, has, hmm, hg4, htd, f4⟩
  have lv' := htd.len
  rw [List.length_map] at lv'
  have lall : rs.length + 1 = rsd.length + rsr.length := by
    have := congrArg List.length has
    rw [List.length_append, List.length_cons] at this
    exact this
  generalize hRn : W.drop n1 = Rn at hro
  cases hro with
  | stop hN =>
    obtain ⟨m, e, r0, e1, e2⟩ := hN
    refine e_nameEq T rfl L4 (by rw [hRn, e1]) fun H5 f5 => ?_
    rw [decide_eq_false e2]
    refine iteF ?_
    rw [List.append_nil] at has
    have L5 := L4.fr f5
    refine e_rel rfl L5 rfl (by rw [hRn]; exact hE) fun v6 n6 H6 td6 L6 hW6 f6 => ?_
    refine e_take rfl L6 hW6 hc (by decide +kernel) fun a7 H7 _ L7 f7 => ?_
    have f57 := (fr_ro f5).trans (f6.trans f7)
    have hg7 := f57.at hg4 (nmem1 ng)
    have htd7 := htd.mono f57.tups
    refine ⟨_, rfl, g, vs, rfl, .of hg7, for_it (walk_rev (xs := vs)) (fun i σ H' => ∃ (y3 y4 y5 : Option V) (fv : V), σ = [some (.ref ro), some (.ref g), some fv, y3, y4, y5] ∧ TD H' fv (letsD (rsd.drop (rsd.length - i)) dd) ∧ Fr [] H7 H')
      ⟨_, _, _, v6, rfl, by rw [Nat.sub_zero, List.drop_length]; exact td6.mono f7.tups, Fr.refl _⟩ (fun i σ H' _ ⟨_, _, _, _, _, _, fr⟩ => .of (fr.at hg7 (by simp))) ?_ ?_⟩
    · rintro i x σ H8 H8' hi ⟨y3, y4, y5, fv, rfl, u1, u2⟩ ⟨rfl, hx⟩
      have hil : rsd.length - 1 - i < rsd.length := by omega
      obtain ⟨dd', hdd, tdd⟩ := htd7.getV hx
      rw [List.getElem?_map, lv'] at hdd
      rw [List.getElem?_eq_getElem hil] at hdd
      obtain rfl := (Option.some.inj hdd).symm
      have tdd' : TD H8' x (.tuple [rsd[rsd.length - 1 - i].p, .str rsd[rsd.length - 1 - i].x, rsd[rsd.length - 1 - i].w]) := tdd.mono u2.tups
      obtain ⟨b, us, rfl, hb', hus⟩ := tdd'.tuple
      cases hus with
      | @cons v1 _ _ _ h1 hus => cases hus with
        | cons h2 hus => cases h2; cases hus with
          | @cons v3 _ _ _ h3 hus =>
            cases hus
            refine ⟨b, _, rfl, .of hb', rfl, _, _, rfl, _, _, rfl, _, _, rfl, rfl, ?_⟩
            refine ⟨_, rfl, _, rfl, _, rfl, _, rfl, by show 5 ≤ sizeLine; decide, fun o ho => ?_⟩
            have fo : Fr [] H8' (upd H8' o (.tup [.str "let", v1, .str (rsd[rsd.length - 1 - i].x), v3, fv])) := .new ho
            refine ⟨_, _, _, _, rfl, ?_, u2.trans fo⟩
            have ed : rsd.length - (i + 1) = rsd.length - 1 - i := by omega
            have ed2 : rsd.length - i = rsd.length - 1 - i + 1 := by omega
            rw [ed, List.drop_eq_getElem_cons hil]
            rw [ed2] at u1
            exact .tup upd_same (.cons (.str _) (.cons (h1.mono fo.tups) (.cons (.str _) (.cons (h3.mono fo.tups) (.cons (u1.mono fo.tups) .nil)))))
    rintro σ H8 ⟨y3, y4, y5, fv, rfl, u1, u2⟩
    rw [lv', Nat.sub_self, List.drop_zero, ← has] at u1
    exact ⟨_, rfl, q fv (n6 + 1) H8 u1 (L7.fr u2) (drop_next hW6) (f1.trans (f2.trans (f4.trans (f57.trans (fr_ro u2)))))⟩
  | @step _ R1' _ r1 rs1 hN hlr hrl1 =>
    obtain ⟨m, e, r0, e1, e2, e3⟩ := hN
    refine e_nameEq T rfl L4 (by rw [hRn, e1]) fun H5 f5 => ?_
    rw [decide_eq_true ⟨e2, e3⟩]
    have L5 := L4.fr f5
    refine iteT ⟨_, fun σ' H' h => ⟨rs1.length, by rw [← hmm]; exact Nat.lt_succ_self _, h⟩, ?_⟩
    have hg5 := f5.at hg4 (by simp)
    refine ⟨_, rfl, .inl ⟨rfl, _, .of hg5⟩, ?_⟩
    refine e_rel rfl L5 rfl (by rw [hRn]; exact ⟨r1, rfl, hlr⟩) fun v6 n6 H6 td6 L6 hW6 f6 => ?_
    have hg6 := f6.at hg5 (nmem1 ng)
    rw [List.length_cons] at lall
    refine ⟨g, _, _, rfl, rfl, hg6, szl (by omega), ?_⟩
    have tp : Tp H6 (upd H6 g (.lst (vs ++ [v6]))) := Tp.wr hg6
    have L7 : RA CR ro dx rA (upd H6 g (.lst (vs ++ [v6]))) W n6 := by
      obtain ⟨us, k1, k2⟩ := L6.row
      have nrg : rA ≠ g := fun z => by
        obtain ⟨us2, k3, _⟩ := L2.row
        rw [z, hg] at k3
        cases k3
      exact ⟨by rw [upd_ne ng.symm]; exact L6.ins, us, by rw [upd_ne nrg]; exact k1, k2.mono tp⟩
    refine ⟨n6, rsd ++ [r1], rs1, vs ++ [v6], rfl, L7, by rw [hW6]; exact hrl1, by rw [has]; simp, rfl, upd_same, ?_, (f4.trans ((fr_ro f5).trans f6)).put hg⟩
    rw [List.map_append]
    exact ((htd.mono (fun b xs e => f6.tups _ _ (f5.tups _ _ e))).snoc td6).mono tp
end
end K10
namespace K10
open PySem PySem.Spec PyProof.Rows L2
open SX (S)
open C8 (Mak)
/-! ### both_rows -/
structure BothX (E1 : Rel) (pd : PyData) (X : List M) (dd : PyData) (R' : List M) (f o b g s h col t g2 c : M) (R1 R2 : List M) (a e d : PyData) : Prop where
  x1 : E1 X a (f :: o :: b :: g :: R1)
  kf : isTok f "key" "of"
  ko : isTok o "lay" "{"
  kb : isTok b "sign" "[]"
  kg : isTok g "sign" "->"
  x2 : E1 R1 e (s :: h :: col :: t :: g2 :: R2)
  ks : isTok s "lay" ";"
  kh : h.k = "name"
  kc : isTok col "sign" ":"
  kt : t.k = "name"
  kg2 : isTok g2 "sign" "->"
  x3 : E1 R2 d (c :: R')
  kk : isTok c "lay" "}"
  eq : dd = caseD pd a e h.w t.w d
def BothR (E1 : Rel) (pd : PyData) : Rel := fun X dd R' => ∃ f o b g s h col t g2 c R1 R2 a e d, BothX E1 pd X dd R' f o b g s h col t g2 c R1 R2 a e d
def spRelP (CR : Addr) (REL : PyData → Rel) : Sp := fun vs H Q _ => ∃ (ro dx rA : Addr) (W : List M) (n : Nat) (pv : V) (pd d : PyData) (R' : List M), vs = [.ref ro, pv] ∧ RA CR ro dx rA H W n ∧ TD H pv pd ∧ REL pd (W.drop n) d R' ∧
  ∀ (v : V) (n' : Nat) (H' : Hp), TD H' v d → RA CR ro dx rA H' W n' → W.drop n' = R' → Fr [ro] H H' → Q v H'
section
variable {P : Program} {w : World} {K : PySem.W.Frag} {mg : Str → Option Value} {base : Heap} {f : Addr} {fd : FuncData} {kA0 sA CL CR eA : Addr}
theorem sc_ReaderBothRows : FnScope ["self", "place", "what", "empty", "head", "tail", "body"] ["self", "place"] (defScope sReaderBothRows) := ⟨rfl, rfl, rfl, by decide +kernel, rfl, by decide +kernel, by decide +kernel⟩
theorem ok_bothrows {E1 : Rel} {lv : Nat} (hlv : 2 ≤ lv) (T : Facts K mg kA0 sA CL CR eA) (c_take1 : MCal P w K mg base CR "take" 2 ["self", "kind", "words"] [.ref (eB K)] (spTake K CR)) (c_take : MCal P w K mg base CR "take" 2 ["self", "kind", "words"] [] (spTake K CR))
    (c_expr : MCal P w K mg base CR "expr" lv ["self"] [] (spRel CR E1)) (F : FnP K "both_rows" "Reader.both_rows" sReaderBothRows [] f fd) : FnOk P w K mg base CX0 (lv + 1) f fd ["self", "place"] (spRelP CR (BothR E1)) := by
  refine F.ok sc_ReaderBothRows (fun vs H Q E h => ?_) (fun cdv A outer s H vs Q E hr h => ?_)
  · obtain ⟨ro, dx, rA, W, n, pv, pd, d, R', rfl, _⟩ := h
    rfl
  obtain ⟨ro, dx, rA, W, n, pl, pd, dd, R', rfl, L, tp, ⟨mf, mo, mb, mg', ms, mh, mcol, mt, mg2, mc, R1, R2, da, de, db, X⟩, q⟩ := h
  refine ⟨_, PSs.nox (pss_cons (ps_set (i := 2) sc_ReaderBothRows.nd rfl (.inl rfl) (pe_m0 c_expr (hr.mono (by omega)) T.cl_R (pv 0)))
    (pss_cons (ps_expr (pe_m c_take (hr.mono (by omega)) T.cl_R (pv 0) (pa_cons pe_str (pa_cons (pe_tup (pa_cons pe_str pa_nil)) pa_nil))))
    (pss_cons (ps_expr (pe_m c_take (hr.mono (by omega)) T.cl_R (pv 0) (pa_cons pe_str (pa_cons (pe_tup (pa_cons pe_str pa_nil)) pa_nil))))
    (pss_cons (ps_expr (pe_m c_take (hr.mono (by omega)) T.cl_R (pv 0) (pa_cons pe_str (pa_cons (pe_tup (pa_cons pe_str pa_nil)) pa_nil))))
    (pss_cons (ps_expr (pe_m c_take (hr.mono (by omega)) T.cl_R (pv 0) (pa_cons pe_str (pa_cons (pe_tup (pa_cons pe_str pa_nil)) pa_nil))))
    (pss_cons (ps_set (i := 3) sc_ReaderBothRows.nd rfl (.inl rfl) (pe_m0 c_expr (hr.mono (by omega)) T.cl_R (pv 0)))
    (pss_cons (ps_expr (pe_m c_take (hr.mono (by omega)) T.cl_R (pv 0) (pa_cons pe_str (pa_cons (pe_tup (pa_cons pe_str pa_nil)) pa_nil))))
    (pss_cons (ps_set (i := 4) sc_ReaderBothRows.nd rfl (.inl rfl) (pe_ix (ixT K) (pe_m c_take1 (hr.mono (by omega)) T.cl_R (pv 0) (pa_cons pe_str pa_nil)) pe_int (fun _ _ => rfl)))
    (pss_cons (ps_expr (pe_m c_take (hr.mono (by omega)) T.cl_R (pv 0) (pa_cons pe_str (pa_cons (pe_tup (pa_cons pe_str pa_nil)) pa_nil))))
    (pss_cons (ps_set (i := 5) sc_ReaderBothRows.nd rfl (.inl rfl) (pe_ix (ixT K) (pe_m c_take1 (hr.mono (by omega)) T.cl_R (pv 0) (pa_cons pe_str pa_nil)) pe_int (fun _ _ => rfl)))
    (pss_cons (ps_expr (pe_m c_take (hr.mono (by omega)) T.cl_R (pv 0) (pa_cons pe_str (pa_cons (pe_tup (pa_cons pe_str pa_nil)) pa_nil))))
    (pss_cons (ps_set (i := 6) sc_ReaderBothRows.nd rfl (.inl rfl) (pe_m0 c_expr (hr.mono (by omega)) T.cl_R (pv 0)))
    (pss_cons (ps_expr (pe_m c_take (hr.mono (by omega)) T.cl_R (pv 0) (pa_cons pe_str (pa_cons (pe_tup (pa_cons pe_str pa_nil)) pa_nil))))
    (pss_one (ps_ret (pe_tup (pa_cons pe_str (pa_cons (pv 1) (pa_cons (pv 2) (pa_cons (pv 3) (pa_cons (pv 4) (pa_cons (pv 5) (pa_cons (pv 6) pa_nil))))))))))))))))))))))), ?_⟩
  obtain ⟨x1, kf, ko, kb, kg, x2, ks, kh, kc, kt, kg2, x3, kk, rfl⟩ := X
  refine e_rel rfl L rfl x1 fun v1 n1 H1 td1 L1 hW1 f1 => ?_
  refine e_take rfl L1 hW1 kf (by decide +kernel) fun _ H2 _ L2 f2 => ?_
  have hW2 := drop_next hW1
  refine e_take rfl L2 hW2 ko (by decide +kernel) fun _ H3 _ L3 f3 => ?_
  have hW3 := drop_next hW2
  refine e_take rfl L3 hW3 kb (by decide +kernel) fun _ H4 _ L4 f4 => ?_
  have hW4 := drop_next hW3
  refine e_take rfl L4 hW4 kg (by decide +kernel) fun _ H5 _ L5 f5 => ?_
  have hW5 := drop_next hW4
  have f15 := f2.trans (f3.trans (f4.trans f5))
  refine e_rel rfl L5 rfl (by rw [hW5]; exact x2) fun v6 n6 H6 td6 L6 hW6 f6 => ?_
  refine e_take rfl L6 hW6 ks (by decide +kernel) fun _ H7 _ L7 f7 => ?_
  have hW7 := drop_next hW6
  refine e_take1 rfl L7 hW7 kh (T.emp2 H7) fun a8 H8 ha8 L8 f8 => ⟨a8, _, _, _, rfl, rfl, .of ha8, at1, ?_⟩
  have hW8 := drop_next hW7
  refine e_take rfl L8 hW8 kc (by decide +kernel) fun _ H9 _ L9 f9 => ?_
  have hW9 := drop_next hW8
  refine e_take1 rfl L9 hW9 kt (T.emp2 H9) fun a10 H10 ha10 L10 f10 => ⟨a10, _, _, _, rfl, rfl, .of ha10, at1, ?_⟩
  have hW10 := drop_next hW9
  refine e_take rfl L10 hW10 kg2 (by decide +kernel) fun _ H11 _ L11 f11 => ?_
  have hW11 := drop_next hW10
  have f711 := f7.trans (f8.trans (f9.trans (f10.trans f11)))
  refine e_rel rfl L11 rfl (by rw [hW11]; exact x3) fun v12 n12 H12 td12 L12 hW12 f12 => ?_
  refine e_take rfl L12 hW12 kk (by decide +kernel) fun _ H13 _ L13 f13 => ?_
  refine ⟨_, rfl, _, rfl, _, rfl, _, rfl, _, rfl, _, rfl, by show 7 ≤ sizeLine; decide, fun o ho => ?_⟩
  have fo := Fr.new (T := []) (o := .tup [.str "case", pl, v1, v6, .str mh.w, .str mt.w, v12]) ho
  have g6 := f711.trans (f12.trans f13)
  have g1 := f15.trans (f6.trans g6)
  exact q _ (n12 + 1) _ (.tup upd_same (.cons (.str _) (.cons (((tp.mono f1.tups).mono g1.tups).mono fo.tups) (.cons ((td1.mono g1.tups).mono fo.tups) (.cons ((td6.mono g6.tups).mono fo.tups) (.cons (.str _) (.cons (.str _) (.cons ((td12.mono f13.tups).mono fo.tups) .nil)))))))) (L13.fr fo) (drop_next hW12) (f1.trans (g1.trans (fr_ro fo)))
end
end K10
namespace K10
open PySem PySem.Spec PyProof.Rows L2
open SX (S)
open C8 (Mak)
section
variable {P : Program} {w : World} {K : PySem.W.Frag} {mg : Str → Option Value} {base : Heap} {f : Addr} {fd : FuncData} {kA0 sA CL CR eA : Addr}
/-! ### expr -/
theorem sees1_key {m : M} {x : Str} (hk : m.k = "key") : m.sees "key" [x] = decide (m.w = x) := by
  unfold M.sees
  rw [hk, decide_eq_true rfl]
  simp
theorem sees1_no {m : M} {x : Str} (h : ¬ (m.k = "key" ∧ m.w = x)) : m.sees "key" [x] = false := by
  unfold M.sees
  by_cases hk : m.k = "key"
  · have : ¬ m.w = x := fun z => h ⟨hk, z⟩
    simp [this]
  · simp [hk]
theorem sc_ReaderExpr : FnScope ["self", "key", "test", "yes"] ["self"] (defScope sReaderExpr) := ⟨rfl, rfl, rfl, by decide +kernel, rfl, by decide +kernel, by decide +kernel⟩
theorem ok_expr {E1 : Rel} {lv lw : Nat} (hlv : 2 ≤ lv) (hw : lv ≤ lw) (T : Facts K mg kA0 sA CL CR eA) (c_sees : MCal P w K mg base CR "sees" 1 ["self", "kind", "words"] [] (spSees K CR)) (c_take : MCal P w K mg base CR "take" 2 ["self", "kind", "words"] [] (spTake K CR))
    (c_let_rows : MCal P w K mg base CR "let_rows" lw ["self"] [] (spRel CR (LetsR E1))) (c_both_rows : MCal P w K mg base CR "both_rows" lw ["self", "place"] [] (spRelP CR (BothR E1))) (c_either : MCal P w K mg base CR "either" lw ["self"] [] (spRel CR (LikeN E1)))
    (c_expr : MCal P w K mg base CR "expr" lv ["self"] [] (spRel CR E1)) (F : FnP K "expr" "Reader.expr" sReaderExpr [] f fd) : FnOk P w K mg base CX0 (lw + 1) f fd ["self"] (spRel CR (ExprF E1 6)) := by
  refine F.ok sc_ReaderExpr (fun vs H Q E h => ?_) (fun cdv A outer s H vs Q E hr h => ?_)
  · obtain ⟨ro, dx, rA, W, n, d, R', rfl, _⟩ := h
    rfl
  obtain ⟨ro, dx, rA, W, n, d, R', rfl, L, hrel, q⟩ := h
  refine ⟨_, PSs.nox (pss_cons (ps_set (i := 1) sc_ReaderExpr.nd rfl (.inl rfl) (pe_ix (ixL K) (pe_fld (pv 0) rfl) (pe_fld (pv 0) rfl) (fun _ _ => rfl)))
    (pss_cons (ps_if (pt_val (pe_m c_sees (hr.mono (by omega)) T.cl_R (pv 0) (pa_cons pe_str (pa_cons (pe_tup (pa_cons pe_str pa_nil)) pa_nil))))
    (pss_cons (ps_fldaug (pv 0) pe_int in_add)
      (pss_one (ps_ret (pe_m0 c_let_rows (hr.mono (by omega)) T.cl_R (pv 0)))))
    pss_nil)
    (pss_cons (ps_if (pt_val (pe_m c_sees (hr.mono (by omega)) T.cl_R (pv 0) (pa_cons pe_str (pa_cons (pe_tup (pa_cons pe_str pa_nil)) pa_nil))))
    (pss_cons (ps_fldaug (pv 0) pe_int in_add)
      (pss_one (ps_ret (pe_m c_both_rows (hr.mono (by omega)) T.cl_R (pv 0) (pa_cons (pe_slice (slT K) (pv 1) (po_some pe_int) po_none) pa_nil)))))
    pss_nil)
    (pss_cons (ps_if (pt_not (pt_val (pe_m c_sees (hr.mono (by omega)) T.cl_R (pv 0) (pa_cons pe_str (pa_cons (pe_tup (pa_cons pe_str pa_nil)) pa_nil)))))
    (pss_one (ps_ret (pe_m0 c_either (hr.mono (by omega)) T.cl_R (pv 0))))
    pss_nil)
    (pss_cons (ps_fldaug (pv 0) pe_int in_add)
    (pss_cons (ps_set (i := 2) sc_ReaderExpr.nd rfl (.inl rfl) (pe_m0 c_expr (hr.mono (by omega)) T.cl_R (pv 0)))
    (pss_cons (ps_expr (pe_m c_take (hr.mono (by omega)) T.cl_R (pv 0) (pa_cons pe_str (pa_cons (pe_tup (pa_cons pe_str pa_nil)) pa_nil))))
    (pss_cons (ps_set (i := 3) sc_ReaderExpr.nd rfl (.inl rfl) (pe_m0 c_expr (hr.mono (by omega)) T.cl_R (pv 0)))
    (pss_cons (ps_expr (pe_m c_take (hr.mono (by omega)) T.cl_R (pv 0) (pa_cons pe_str (pa_cons (pe_tup (pa_cons pe_str pa_nil)) pa_nil))))
    (pss_one (ps_ret (pe_tup (pa_cons pe_str (pa_cons (pe_slice (slT K) (pv 1) (po_some pe_int) po_none) (pa_cons (pv 2) (pa_cons (pv 3) (pa_cons (pe_m0 c_expr (hr.mono (by omega)) T.cl_R (pv 0)) pa_nil))))))))))))))))), ?_⟩
  have hne : ∃ m r, W.drop n = m :: r := by
    generalize W.drop n = Wn at hrel
    cases hrel <;> exact ⟨_, _, rfl⟩
  obtain ⟨m, r, hW⟩ := hne
  obtain ⟨us, a, h1, h2, h3⟩ := L.mark hW
  refine ⟨_, rfl, ro, CR, dx, _, _, rfl, L.ins, T.cl_R, T.nRow, rfl, _, rfl, ro, CR, dx, _, _, rfl, L.ins, T.cl_R, T.nAt, rfl, rA, _, _, _, rfl, rfl, .of h1, h2, ?_⟩
  refine e_sees rfl L hW (by decide +kernel) fun H1 f1 => ⟨_, rfl, ?_⟩
  have L1 := L.fr f1
  have h31 := f1.tups _ _ h3
  rw [hW] at hrel
  cases hrel with
  | @lt _ o c R R1 R2 R3 rr rs dd hrs hm ho hr0 hrl hE hc =>
    rw [sees1 hm]
    refine iteT ?_
    obtain ⟨s1, s2⟩ := L1.step
    refine aug_at T.cl_R T.nAt L1 rfl ?_
    exact e_rel rfl s1 rfl (by rw [drop_next hW]; exact ⟨o, c, R, R1, R2, rr, rs, dd, rfl, hrs, ho, hr0, hrl, hE, hc, rfl⟩) fun v2 n2 H2 td2 L2 hW2 f2 => q v2 n2 H2 td2 L2 hW2 ((fr_ro f1).trans (s2.trans f2))
  | @cas _ mf mo mb mg' ms mh mcol mt mg2 mc R R1 R2 R3 da de db hm x1 kf ko kb kg x2 ks kh kc kt kg2 x3 kk =>
    rw [sees1_no (fun z => by rw [hm.2] at z; exact absurd z.2 (by decide +kernel))]
    refine iteF ?_
    refine e_sees rfl L1 hW (by decide +kernel) fun H2 f2 => ⟨_, rfl, ?_⟩
    rw [sees1 hm]
    refine iteT ?_
    have L2 := L1.fr f2
    obtain ⟨s1, s2⟩ := L2.step
    refine aug_at T.cl_R T.nAt L2 rfl ?_
    have h32 := s2.tups _ _ (f2.tups _ _ h31)
    refine ⟨_, rfl, ro, dx, _, rfl, s1.ins, rfl, ?_⟩
    refine ⟨_, rfl, _, rfl, a, _, rfl, .of h32, (show ¬ (HT.sIx 4 0 (some 2) = 0 ∧ HT.sIx 4 4 none = 4) by decide), fun u hu => ?_⟩
    have fu := Fr.new (T := []) (o := .tup (cutV [.str m.k, .str m.w, .int m.l, .int m.c] (some 2) none)) hu
    have L3 := s1.fr fu
    refine ⟨ro, dx, rA, W, n + 1, .ref u, m.pl, _, R', rfl, L3, .tup upd_same (.cons (.int _) (.cons (.int _) .nil)), by rw [drop_next hW]; exact ⟨mf, mo, mb, mg', ms, mh, mcol, mt, mg2, mc, R1, R2, da, de, db, ⟨x1, kf, ko, kb, kg, x2, ks, kh, kc, kt, kg2, x3, kk, rfl⟩⟩, fun v4 n4 H4 td4 L4 hW4 f4 => ?_⟩
    exact q v4 n4 H4 td4 L4 hW4 ((fr_ro f1).trans ((fr_ro f2).trans (s2.trans ((fr_ro fu).trans f4))))
  | @like _ R R1 dd hno hlike hlog =>
    rw [sees1_no (fun z => hno ⟨z.1, .inl z.2⟩)]
    refine iteF ?_
    refine e_sees rfl L1 hW (by decide +kernel) fun H2 f2 => ⟨_, rfl, ?_⟩
    rw [sees1_no (fun z => hno ⟨z.1, .inr (.inl z.2)⟩)]
    refine iteF ?_
    have L2 := L1.fr f2
    refine e_sees rfl L2 hW (by decide +kernel) fun H3 f3 => ⟨_, rfl, ?_⟩
    rw [sees1_no (fun z => hno ⟨z.1, .inr (.inr z.2)⟩)]
    refine iteT ?_
    exact e_rel rfl (L2.fr f3) rfl (by rw [hW]; exact ⟨hlike, hlog⟩) fun v4 n4 H4 td4 L4 hW4 f4 => q v4 n4 H4 td4 L4 hW4 ((fr_ro f1).trans ((fr_ro f2).trans ((fr_ro f3).trans f4)))
  | @ite _ t e R R1 R2 R3 da db dc hm x1 kt x2 ke x3 =>
    rw [sees1_no (fun z => by rw [hm.2] at z; exact absurd z.2 (by decide +kernel))]
    refine iteF ?_
    refine e_sees rfl L1 hW (by decide +kernel) fun H2 f2 => ⟨_, rfl, ?_⟩
    rw [sees1_no (fun z => by rw [hm.2] at z; exact absurd z.2 (by decide +kernel))]
    refine iteF ?_
    have L2 := L1.fr f2
    refine e_sees rfl L2 hW (by decide +kernel) fun H3 f3 => ⟨_, rfl, ?_⟩
    rw [sees1 hm]
    refine iteF ?_
    have L3 := L2.fr f3
    obtain ⟨s1, s2⟩ := L3.step
    refine aug_at T.cl_R T.nAt L3 rfl ?_
    refine e_rel rfl s1 rfl (by rw [drop_next hW]; exact x1) fun v4 n4 H4 td4 L4 hW4 f4 => ?_
    refine e_take rfl L4 hW4 kt (by decide +kernel) fun _ H5 _ L5 f5 => ?_
    refine e_rel rfl L5 rfl (by rw [drop_next hW4]; exact x2) fun v6 n6 H6 td6 L6 hW6 f6 => ?_
    refine e_take rfl L6 hW6 ke (by decide +kernel) fun _ H7 _ L7 f7 => ?_
    have h37 := f7.tups _ _ (f6.tups _ _ (f5.tups _ _ (f4.tups _ _ (s2.tups _ _ (f3.tups _ _ (f2.tups _ _ h31))))))
    refine ⟨_, rfl, _, rfl, a, _, rfl, .of h37, (show ¬ (HT.sIx 4 0 (some 2) = 0 ∧ HT.sIx 4 4 none = 4) by decide), fun u hu => ?_⟩
    have fu := Fr.new (T := []) (o := .tup (cutV [.str m.k, .str m.w, .int m.l, .int m.c] (some 2) none)) hu
    refine ⟨_, rfl, _, rfl, ?_⟩
    refine e_rel rfl (L7.fr fu) rfl (by rw [drop_next hW6]; exact x3) fun v8 n8 H8 td8 L8 hW8 f8 => ⟨by show 5 ≤ sizeLine; decide, fun o ho => ?_⟩
    have fo := Fr.new (T := []) (o := .tup [.str "if", .ref u, v4, v6, v8]) ho
    have g6 := f7.trans ((fr_ro fu).trans (f8.trans (fr_ro fo)))
    have g4 := f5.trans (f6.trans g6)
    exact q _ n8 _ (.tup upd_same (.cons (.str _) (.cons (.tup (fo.tups _ _ (f8.tups _ _ upd_same)) (.cons (.int _) (.cons (.int _) .nil))) (.cons (td4.mono g4.tups) (.cons (td6.mono g6.tups) (.cons (td8.mono fo.tups) .nil)))))) (L8.fr fo) hW8 ((fr_ro f1).trans ((fr_ro f2).trans ((fr_ro f3).trans (s2.trans (f4.trans g4)))))
end
end K10
namespace K10
open PySem PySem.Spec PyProof.Rows L2
open SX (S)
open C8 (Mak)
section
variable {P : Program} {w : World} {K : PySem.W.Frag} {mg : Str → Option Value} {base : Heap} {f : Addr} {fd : FuncData} {kA0 sA CL CR eA : Addr}
/-! ### one_def -/
theorem sc_ReaderOneDef : FnScope ["self", "name", "params"] ["self"] (defScope sReaderOneDef) := ⟨rfl, rfl, rfl, by decide +kernel, rfl, by decide +kernel, by decide +kernel⟩
theorem RA.putL {ro dx rA g : Addr} {H H2 : Hp} {W : List M} {n n2 : Nat} {o : HO} {xs : List V} (L : RA CR ro dx rA H W n) (L2 : RA CR ro dx rA H2 W n2) (hg : H2 g = none) (hg' : H g = some (.lst xs)) : RA CR ro dx rA (upd H g o) W n := by
  have ng : g ≠ ro := fun z => by rw [z, L2.ins] at hg; cases hg
  obtain ⟨us, k1, k2⟩ := L.row
  have nrg : rA ≠ g := fun z => by
    obtain ⟨us2, k3, _⟩ := L2.row
    rw [z, hg] at k3
    cases k3
  exact ⟨by rw [upd_ne ng.symm]; exact L.ins, us, by rw [upd_ne nrg]; exact k1, k2.mono (Tp.wr hg')⟩
theorem ok_onedef {E1 : Rel} {lv : Nat} (hlv : 2 ≤ lv) (T : Facts K mg kA0 sA CL CR eA) (c_sees1 : MCal P w K mg base CR "sees" 1 ["self", "kind", "words"] [.ref eA] (spSees K CR)) (c_take1 : MCal P w K mg base CR "take" 2 ["self", "kind", "words"] [.ref (eB K)] (spTake K CR)) (c_take : MCal P w K mg base CR "take" 2 ["self", "kind", "words"] [] (spTake K CR))
    (c_expr : MCal P w K mg base CR "expr" lv ["self"] [] (spRel CR E1)) (F : FnP K "one_def" "Reader.one_def" sReaderOneDef [] f fd) : FnOk P w K mg base CX0 (lv + 1) f fd ["self"] (spRel CR (DefR E1)) := by
  refine F.ok sc_ReaderOneDef (fun vs H Q E h => ?_) (fun cdv A outer s H vs Q E hr h => ?_)
  · obtain ⟨ro, dx, rA, W, n, d, R', rfl, _⟩ := h
    rfl
  obtain ⟨ro, dx, rA, W, n, d, R', rfl, L, hrel, q⟩ := h
  refine ⟨_, PSs.nox (pss_cons (ps_set (i := 1) sc_ReaderOneDef.nd rfl (.inl rfl) (pe_m c_take1 (hr.mono (by omega)) T.cl_R (pv 0) (pa_cons pe_str pa_nil)))
    (pss_cons (ps_set (i := 2) sc_ReaderOneDef.nd rfl (.inl rfl) (pe_lst pa_nil))
    (Evl.pss_cut (ps_while PassesOwn.never (PW.pt (pw_and (pt_cmpR op_lt (pe_callB (clLen K) (by rfl) T.f_len boot_len (pa_cons (pv 2) pa_nil)) (pe_g T.g_MOST_PARTS (by rfl)) (nomark _)) (pw_and1 (pt_val (pe_m c_sees1 (hr.mono (by omega)) T.cl_R (pv 0) (pa_cons pe_str pa_nil))))))
    (pss_one (ps_expr (pe_bm PySem.F.plainAttrs_list PySem.F.slot_list_append PySem.F.type_list_append mt_append (pv 2) (pa_cons (pe_ix (ixT K) (pe_m c_take1 (hr.mono (by omega)) T.cl_R (pv 0) (pa_cons pe_str pa_nil)) pe_int (fun _ _ => rfl)) pa_nil)))))
    (pss_cons (ps_expr (pe_m c_take (hr.mono (by omega)) T.cl_R (pv 0) (pa_cons pe_str (pa_cons (pe_tup (pa_cons pe_str pa_nil)) pa_nil))))
    (pss_one (ps_ret (pe_tup (pa_cons pe_str (pa_cons (pe_slice (slT K) (pv 1) (po_some pe_int) po_none) (pa_cons (pe_ix (ixT K) (pv 1) pe_int (fun _ _ => rfl)) (pa_cons (pe_callTy (clTup K) (by rfl) T.f_tuple boot_tuple (pa_cons (pv 2) pa_nil)) (pa_cons (pe_m0 c_expr (hr.mono (by omega)) T.cl_R (pv 0)) pa_nil)))))))))))), ?_⟩
  generalize hW : W.drop n = Wn at hrel
  cases hrel with
  | @mk m e ps R R1 d hm hps hp4 he hE =>
    refine e_take1 rfl L hW hm (T.emp2 H) fun a H1 ha L1 f1 => ?_
    refine ⟨by show 0 ≤ sizeLine; decide, fun g hg => ?_⟩
    have f2 : Fr [] H1 (upd H1 g (.lst [])) := .new hg
    have ng : g ≠ ro := fun z => by rw [z, L1.ins] at hg; cases hg
    refine ⟨fun σ' H' => ∃ n1, σ' = [some (.ref ro), some (.ref a), some (.ref g)] ∧ RA CR ro dx rA H' W n1 ∧ W.drop n1 = e :: R ∧ H' g = some (.lst (ps.map fun p => V.str p.w)) ∧ Fr [ro] H1 H', ?_, ?_⟩
    · refine ⟨fun mm σ H' => ∃ (n1 : Nat) (dn rs : List M), σ = [some (.ref ro), some (.ref a), some (.ref g)] ∧ RA CR ro dx rA H' W n1 ∧ W.drop n1 = rs ++ e :: R ∧ ps = dn ++ rs ∧ rs.length = mm ∧ H' g = some (.lst (dn.map fun p => V.str p.w)) ∧ Fr [ro] H1 H',
        ⟨ps.length, n + 1, [], ps, rfl, L1.fr f2, drop_next hW, rfl, rfl, upd_same, fr_ro f2⟩, ?_⟩
      rintro mm σ H4 ⟨n1, dn, rs, rfl, L4, hRn, hsp, hmm, hg4, f4⟩
      have lsum : ps.length = dn.length + rs.length := by rw [hsp, List.length_append]
      have llen : (dn.map fun p => V.str p.w).length = dn.length := List.length_map _
      refine ⟨_, rfl, g, _, rfl, .inl (.of hg4), _, _, rfl, rfl, _, rfl, ?_⟩
      have m4 : (4 : Int) = ((4 : Nat) : Int) := rfl
      cases rs with
      | nil =>
        rw [List.append_nil] at hsp
        subst hsp
        rw [List.nil_append] at hRn
        refine ite2 (fun _ => ?_) (fun _ => iteF ⟨n1, rfl, L4, hRn, hg4, f4⟩)
        refine e_sees1 rfl L4 hRn (T.emp H4) fun H5 f5 => ⟨_, rfl, ?_⟩
        rw [decide_eq_false (show ¬ e.k = "name" by rw [he.1]; decide +kernel)]
        exact iteF ⟨n1, rfl, L4.fr f5, hRn, f5.at hg4 (by simp), f4.trans (fr_ro f5)⟩
      | cons p rs1 =>
        rw [List.length_cons] at lsum
        rw [decide_eq_true (by rw [llen]; omega)]
        refine iteT ?_
        rw [List.cons_append] at hRn
        refine e_sees1 rfl L4 hRn (T.emp H4) fun H5 f5 => ⟨_, rfl, ?_⟩
        have hpn : p.k = "name" := hps p (by rw [hsp]; simp)
        rw [decide_eq_true hpn]
        have L5 := L4.fr f5
        have hg5 := f5.at hg4 (by simp)
        refine iteT ⟨_, fun σ' H' h => ⟨rs1.length, by rw [← hmm]; exact Nat.lt_succ_self _, h⟩, ?_⟩
        refine ⟨_, rfl, .inl ⟨rfl, _, .of hg5⟩, ?_⟩
        refine e_take1 rfl L5 hRn hpn (T.emp2 H5) fun b H6 hb L6 f6 => ⟨b, _, _, _, rfl, rfl, .of hb, at1, ?_⟩
        have hg6 := f6.at hg5 (nmem1 ng)
        refine ⟨g, _, _, rfl, rfl, hg6, szl (by rw [llen]; omega), ?_⟩
        exact ⟨n1 + 1, dn ++ [p], rs1, rfl, L6.putL L1 hg hg6, drop_next hRn, by rw [hsp]; simp, rfl, by rw [upd_same, List.map_append] <;> rfl, (f4.trans ((fr_ro f5).trans f6)).put hg⟩
    rintro σ' H4 ⟨n1, rfl, L4, hRn, hg4, f4⟩
    refine e_take rfl L4 hRn he (by decide +kernel) fun _ H5 _ L5 f5 => ?_
    have ha5 := f5.tups _ _ (f4.tups _ _ ha)
    have hg5 := f5.at hg4 (nmem1 ng)
    refine ⟨_, rfl, _, rfl, a, _, rfl, .of ha5, (show ¬ (HT.sIx 4 0 (some 2) = 0 ∧ HT.sIx 4 4 none = 4) by decide), fun u hu => ?_⟩
    have fu := Fr.new (T := []) (o := .tup (cutV [.str m.k, .str m.w, .int m.l, .int m.c] (some 2) none)) hu
    refine ⟨_, rfl, a, _, _, _, rfl, rfl, .of (fu.tups _ _ ha5), at1, _, rfl, g, _, rfl, .inl ⟨.of (fu.at hg5 (by simp)), fun t ht => ?_⟩⟩
    have ft := Fr.new (T := []) (o := .tup (ps.map fun p => V.str p.w)) ht
    refine e_rel rfl ((L5.fr fu).fr ft) rfl (by rw [drop_next hRn]; exact hE) fun v8 n8 H8 td8 L8 hW8 f8 => ⟨by show 5 ≤ sizeLine; decide, fun o ho => ?_⟩
    have fo := Fr.new (T := []) (o := .tup [.str "def", .ref u, .str m.w, .ref t, v8]) ho
    have e1 : (ps.map fun p => V.str p.w) = (ps.map (·.w)).map V.str := by simp
    have hs : TDs (upd H8 o (.tup [.str "def", .ref u, .str m.w, .ref t, v8])) (ps.map fun p => V.str p.w) (ps.map fun p => PyData.str p.w) := by
      rw [e1, map_w]
      exact TDs.strs _
    exact q _ n8 _ (.tup upd_same (.cons (.str _) (.cons (.tup (fo.tups _ _ (f8.tups _ _ (ft.tups _ _ upd_same))) (.cons (.int _) (.cons (.int _) .nil))) (.cons (.str _) (.cons (.tup (fo.tups _ _ (f8.tups _ _ upd_same)) hs) (.cons (td8.mono fo.tups) .nil)))))) (L8.fr fo) hW8 (f1.trans (f4.trans (f5.trans ((fr_ro fu).trans ((fr_ro ft).trans (f8.trans (fr_ro fo)))))))
/-! ### defs -/
def spDefs (CR : Addr) (E1 : Rel) : Sp := fun vs H Q _ => ∃ (ro dx rA : Addr) (W : List M) (n : Nat) (ds : List PyData), vs = [.ref ro] ∧ RA CR ro dx rA H W n ∧ ProgR E1 (W.drop n) ds ∧
  ∀ (p : Addr) (xs : List V) (H' : Hp), H' p = some (.tup xs) → TDs H' xs ds → Fr [ro] H H' → Q (.ref p) H'
theorem defs_len {E1 : Rel} {c : Nat} {R R' : List M} {ds : List PyData} (h : DefsL E1 c R ds R') : ds.length ≤ c := by
  induction h with
  | stop _ => exact Nat.zero_le _
  | step _ _ _ ih => exact Nat.succ_le_succ ih
theorem sc_ReaderDefs : FnScope ["self", "found"] ["self"] (defScope sReaderDefs) := ⟨rfl, rfl, rfl, by decide +kernel, rfl, by decide +kernel, by decide +kernel⟩
theorem ok_defs {E1 : Rel} {lv : Nat} (hlv : 2 ≤ lv) (T : Facts K mg kA0 sA CL CR eA) (c_sees : MCal P w K mg base CR "sees" 1 ["self", "kind", "words"] [] (spSees K CR)) (c_take : MCal P w K mg base CR "take" 2 ["self", "kind", "words"] [] (spTake K CR))
    (c_one_def : MCal P w K mg base CR "one_def" lv ["self"] [] (spRel CR (DefR E1))) (F : FnP K "defs" "Reader.defs" sReaderDefs [] f fd) : FnOk P w K mg base CX0 (lv + 1) f fd ["self"] (spDefs CR E1) := by
  refine F.ok sc_ReaderDefs (fun vs H Q E h => ?_) (fun cdv A outer s H vs Q E hr h => ?_)
  · obtain ⟨ro, dx, rA, W, n, ds, rfl, _⟩ := h
    rfl
  obtain ⟨ro, dx, rA, W, n, ds, rfl, L, hrel, q⟩ := h
  refine ⟨_, PSs.nox (pss_cons (ps_expr (pe_m c_take (hr.mono (by omega)) T.cl_R (pv 0) (pa_cons pe_str (pa_cons (pe_tup (pa_cons pe_str pa_nil)) pa_nil))))
    (pss_cons (ps_set (i := 1) sc_ReaderDefs.nd rfl (.inl rfl) (pe_lst (pa_cons (pe_m0 c_one_def (hr.mono (by omega)) T.cl_R (pv 0)) pa_nil)))
    (Evl.pss_cut (ps_while PassesOwn.never (PW.pt (pw_and (pt_cmpR op_lt (pe_callB (clLen K) (by rfl) T.f_len boot_len (pa_cons (pv 1) pa_nil)) (pe_g T.g_MOST_DEFS (by rfl)) (nomark _)) (pw_and1 (pt_val (pe_m c_sees (hr.mono (by omega)) T.cl_R (pv 0) (pa_cons pe_str (pa_cons (pe_tup (pa_cons pe_str pa_nil)) pa_nil)))))))
    (pss_cons (ps_fldaug (pv 0) pe_int in_add)
      (pss_one (ps_expr (pe_bm PySem.F.plainAttrs_list PySem.F.slot_list_append PySem.F.type_list_append mt_append (pv 1) (pa_cons (pe_m0 c_one_def (hr.mono (by omega)) T.cl_R (pv 0)) pa_nil))))))
    (pss_cons (ps_expr (pe_m c_take (hr.mono (by omega)) T.cl_R (pv 0) (pa_cons pe_str (pa_cons (pe_tup (pa_cons pe_str pa_nil)) pa_nil))))
    (pss_one (ps_ret (pe_callTy (clTup K) (by rfl) T.f_tuple boot_tuple (pa_cons (pv 1) pa_nil)))))))), ?_⟩
  generalize hW : W.drop n = Wn at hrel
  cases hrel with
  | @mk o c R R1 R2 d0 ds ho hd hds hc =>
    refine e_take rfl L hW ho (by decide +kernel) fun _ H1 _ L1 f1 => ?_
    refine e_rel rfl L1 rfl (by rw [drop_next hW]; exact hd) fun v n2 H2 td2 L2 hW2 f2 => ⟨by show 1 ≤ sizeLine; decide, fun g hg => ?_⟩
    have f3 : Fr [] H2 (upd H2 g (.lst [v])) := .new hg
    have ng : g ≠ ro := fun z => by rw [z, L2.ins] at hg; cases hg
    refine ⟨fun σ' H' => ∃ (n1 : Nat) (vs : List V), σ' = [some (.ref ro), some (.ref g)] ∧ RA CR ro dx rA H' W n1 ∧ W.drop n1 = c :: R2 ∧ H' g = some (.lst vs) ∧ TDs H' vs (d0 :: ds) ∧ Fr [ro] H2 H', ?_, ?_⟩
    · refine ⟨fun mm σ H' => ∃ (n1 c0 : Nat) (dsd dsr : List PyData) (vs : List V), σ = [some (.ref ro), some (.ref g)] ∧ RA CR ro dx rA H' W n1 ∧ DefsL E1 c0 (W.drop n1) dsr (c :: R2) ∧ d0 :: ds = dsd ++ dsr ∧ dsd.length + c0 = 8 ∧ dsr.length = mm ∧ H' g = some (.lst vs) ∧ TDs H' vs dsd ∧ Fr [ro] H2 H',
        ⟨ds.length, n2, 7, [d0], ds, [v], rfl, L2.fr f3, by rw [hW2]; exact hds, rfl, rfl, rfl, upd_same, .cons (td2.mono f3.tups) .nil, fr_ro f3⟩, ?_⟩
      rintro mm σ H4 ⟨n1, c0, dsd, dsr, vs, rfl, L4, hrl, hsp, hc0, hmm, hg4, htd, f4⟩
      have llen := htd.len
      refine ⟨_, rfl, g, _, rfl, .inl (.of hg4), _, _, rfl, rfl, _, rfl, ?_⟩
      have m8 : (8 : Int) = ((8 : Nat) : Int) := rfl
      generalize hRn : W.drop n1 = Rn at hrl
      cases hrl with
      | stop hN =>
        obtain ⟨m, r, e1, e2⟩ := hN
        rw [List.append_nil] at hsp
        rw [← hsp] at htd
        refine ite2 (fun _ => ?_) (fun _ => iteF ⟨n1, vs, rfl, L4, hRn, hg4, htd, f4⟩)
        refine e_sees (m := m) (r := r) rfl L4 (by rw [hRn, e1]) (by decide +kernel) fun H5 f5 => ⟨_, rfl, ?_⟩
        rw [show m.sees "lay" [";"] = false from e2]
        exact iteF ⟨n1, vs, rfl, L4.fr f5, hRn, f5.at hg4 (by simp), htd.mono f5.tups, f4.trans (fr_ro f5)⟩
      | @step c1 s R0 R1' _ d1 ds1 hs hd1 hds1 =>
        have hl1 := defs_len hds1
        rw [decide_eq_true (by omega)]
        refine iteT ?_
        refine e_sees rfl L4 hRn (by decide +kernel) fun H5 f5 => ⟨_, rfl, ?_⟩
        rw [sees1 hs]
        have L5 := L4.fr f5
        have hg5 := f5.at hg4 (by simp)
        refine iteT ⟨_, fun σ' H' h => ⟨ds1.length, by rw [← hmm]; exact Nat.lt_succ_self _, h⟩, ?_⟩
        obtain ⟨s1, s2⟩ := L5.step
        refine aug_at T.cl_R T.nAt L5 rfl ?_
        have hg5' := s2.at hg5 (nmem1 ng)
        refine ⟨_, rfl, .inl ⟨rfl, _, .of hg5'⟩, ?_⟩
        refine e_rel rfl s1 rfl (by rw [drop_next hRn]; exact hd1) fun v6 n6 H6 td6 L6 hW6 f6 => ?_
        have hg6 := f6.at hg5' (nmem1 ng)
        refine ⟨g, _, _, rfl, rfl, hg6, szl (by omega), ?_⟩
        have tp : Tp H6 (upd H6 g (.lst (vs ++ [v6]))) := Tp.wr hg6
        exact ⟨n6, c1, dsd ++ [d1], ds1, vs ++ [v6], rfl, L6.putL L2 hg hg6, by rw [hW6]; exact hds1, by rw [hsp]; simp, by rw [List.length_append]; show dsd.length + 1 + c1 = 8; omega, rfl, upd_same, ((htd.mono (fun b xs e => f6.tups _ _ (s2.tups _ _ (f5.tups _ _ e)))).snoc td6).mono tp, (f4.trans ((fr_ro f5).trans (s2.trans f6))).put hg⟩
    rintro σ' H4 ⟨n1, vs, rfl, L4, hRn, hg4, htd, f4⟩
    refine e_take rfl L4 hRn hc (by decide +kernel) fun _ H5 _ L5 f5 => ?_
    refine ⟨_, rfl, g, vs, rfl, .inl ⟨.of (f5.at hg4 (nmem1 ng)), fun t ht => ?_⟩⟩
    have ft := Fr.new (T := []) (o := .tup vs) ht
    exact q t vs _ upd_same ((htd.mono f5.tups).mono ft.tups) (f1.trans (f2.trans (f4.trans (f5.trans (fr_ro ft)))))
/-! ### Reader.__init__ -/
def spInitR (CR : Addr) : Sp := fun vs H Q _ => ∃ (ro dx p : Addr) (xs : List V) (W : List M), vs = [.ref ro, .ref p] ∧ H ro = some (.ins CR dx []) ∧ H p = some (.lst xs) ∧ TDs H xs (W.map M.py) ∧ ∀ (rA : Addr) (H' : Hp), RA CR ro dx rA H' W 0 → Fr [ro] H H' → Q .non H'
theorem sc_ReaderInit : FnScope ["self", "row"] ["self", "row"] (defScope sReaderInit) := ⟨rfl, rfl, rfl, by decide +kernel, rfl, by decide +kernel, by decide +kernel⟩
theorem ok_initR (T : Facts K mg kA0 sA CL CR eA) (F : FnP K "__init__" "Reader.__init__" sReaderInit [] f fd) : FnOk P w K mg base CX0 1 f fd ["self", "row"] (spInitR CR) := by
  refine F.ok sc_ReaderInit (fun vs H Q E h => ?_) (fun cdv A outer s H vs Q E hr h => ?_)
  · obtain ⟨ro, dx, p, xs, W, rfl, _⟩ := h
    rfl
  obtain ⟨ro, dx, p, xs, W, rfl, hins, hp, htd, q⟩ := h
  refine ⟨_, PSs.nox (pss_cons (ps_fld (pv 0) (pe_callTy (clList K) (by rfl) T.f_list boot_list (pa_cons (pv 1) pa_nil)) rfl)
    (pss_one (ps_fld (pv 0) pe_int rfl))), ?_⟩
  refine ⟨_, rfl, p, xs, rfl, .inl (.of hp), fun l hl => ⟨_, rfl, ro, CR, dx, [], rfl, ?_, T.cl_R, T.nRow, by decide, ?_⟩⟩
  · have f1 : Fr [] H (upd H l (.lst xs)) := .new hl
    exact f1.at hins (by simp)
  have n1 : l ≠ ro := fun z => by rw [z, hins] at hl; cases hl
  refine ⟨_, rfl, ro, CR, dx, [("row", .ref l)], rfl, by rw [upd_same] <;> rfl, T.cl_R, T.nAt, (show 1 < 1000 by decide), ?_⟩
  have tp : Tp H (upd (upd (upd H l (.lst xs)) ro (.ins CR dx [("row", .ref l)])) ro (.ins CR dx [("row", .ref l), ("at", .int ((0 : Nat) : Int))])) := fun b ys e => by
    have hb' : b ≠ ro := fun z => by rw [z, hins] at e; cases e
    rw [upd_ne hb', upd_ne hb', upd_ne (ne_of_none e hl)]
    exact e
  refine q l (upd (upd (upd H l (.lst xs)) ro (.ins CR dx [("row", .ref l)])) ro (.ins CR dx [("row", .ref l), ("at", .int ((0 : Nat) : Int))])) ⟨upd_same, xs, by rw [upd_ne n1, upd_ne n1, upd_same], htd.mono tp⟩ ⟨fun b o e hb => ?_, tp⟩
  have hb' : b ≠ ro := fun z => hb (by rw [z]; exact mem1)
  rw [upd_ne hb', upd_ne hb', upd_ne (ne_of_none e hl)]
  exact e
end
end K10
namespace K10
open PySem PySem.Spec PyProof.Rows L2
open SX (S)
/-! ### the pen in the heap -/
def penV (p : Pn) : List V := [.str (S p.text), .int p.line, .int (p.coln : Int), .bl p.fresh]
structure Pe (pn : Addr) (H : Hp) (p : Pn) : Prop where
  hp : H pn = some (.lst (penV p))
  ok : p.Ok
  fr : p.fresh = true → ∀ k w, p.cur.getLast? ≠ some (It.wd k w)
theorem Pe.fr' {T : List Addr} {pn : Addr} {H H' : Hp} {p : Pn} (h : Pe pn H p) (f : Fr T H H') (hn : pn ∉ T) : Pe pn H' p := ⟨f.at h.hp hn, h.ok, h.fr⟩
theorem sz16 {n : Nat} (h : n ≤ 16770000) : n ≤ sizeLine := Nat.le_trans h (by decide)
def remC : List (List Nat) := [[], [], [], [32, 35, 32, 108, 101, 116, 32, 40, 32, 55, 120], [35], [32, 32]]
theorem rem_ok : ∀ r ∈ remC, ∃ n rem, r = List.replicate n 32 ++ rem ∧ (rem = [] ∨ ∃ t, rem = 35 :: t) ∧ 10 ∉ rem ∧ r.length ≤ 11 := by
  intro r hr
  unfold remC at hr
  simp only [List.mem_cons, List.not_mem_nil, or_false] at hr
  rcases hr with rfl | rfl | rfl | rfl | rfl | rfl
  · exact ⟨0, [], rfl, .inl rfl, by decide, by decide⟩
  · exact ⟨0, [], rfl, .inl rfl, by decide, by decide⟩
  · exact ⟨0, [], rfl, .inl rfl, by decide, by decide⟩
  · exact ⟨1, [35, 32, 108, 101, 116, 32, 40, 32, 55, 120], rfl, .inr ⟨_, rfl⟩, by decide, by decide⟩
  · exact ⟨0, [35], rfl, .inr ⟨_, rfl⟩, by decide, by decide⟩
  · exact ⟨2, [], rfl, .inl rfl, by decide, by decide⟩
theorem rem_eq : ([.str "", .str "", .str "", .str " # let ( 7x", .str "#", .str "  "] : List V) = (remC.map S).map V.str := by
  have h : ([("" : Str), "", "", " # let ( 7x", "#", "  "] : List Str) = remC.map S := by decide +kernel
  rw [← h] <;> rfl
theorem flat_one (n : Nat) : (List.replicate n ([32] : List Nat)).flatten = List.replicate n 32 := by
  induction n with
  | zero => rfl
  | succ n ih => rw [List.replicate_succ, List.replicate_succ, List.flatten_cons, ih] <;> rfl
theorem sp_S : (" " : Str) = S [32] := by decide +kernel
theorem mul_sp {n : Int} : S (List.replicate n.toNat (" " : Str).cps.toList).flatten = S (List.replicate n.toNat 32) := by
  have e : (" " : Str).cps.toList = [32] := by decide +kernel
  rw [e, flat_one]
def spLine : Sp := fun vs H Q _ => ∃ (d pn : Addr) (col : Nat) (p : Pn), vs = [.ref d, .ref pn, .int (col : Int)] ∧ Dr H d ∧ d ≠ pn ∧ Pe pn H p ∧ p.text.length ≤ 16700000 ∧ col ≤ 5600 ∧
  ∀ (v : V) (p' : Pn) (H' : Hp), Dr H' d → Pe pn H' p' → p'.toks = p.toks → p.line < p'.line → p'.cur = List.replicate col .sp → p'.fresh = p.fresh → p'.text.length ≤ p.text.length + 36 + col → Fr [d, pn] H H' → Q v H'
theorem line_1 {pn : Addr} {x : V} {l c : V} {f : V} {y : V} : [x, l, c, f].set 0 y = [y, l, c, f] := rfl
section
variable {P : Program} {w : World} {K : PySem.W.Frag} {mg : Str → Option Value} {base : Heap} {f : Addr} {fd : FuncData} {kA sA CL CR eA : Addr}
theorem sc_LawLine : FnScope ["draws", "pen", "column", "remarks", "k"] ["draws", "pen", "column"] (defScope sLawLine) := ⟨rfl, rfl, rfl, by decide +kernel, rfl, by decide +kernel, by decide +kernel⟩
theorem ok_line (T : Facts K mg kA sA CL CR eA) (c_law_draw : Cal P w K mg base "_law_draw" 1 ["draws", "many"] spDraw) (F : FnP K "_law_line" "_law_line" sLawLine [] f fd) : FnOk P w K mg base CX0 2 f fd ["draws", "pen", "column"] spLine := by
  refine F.ok sc_LawLine (fun vs H Q E h => ?_) (fun cdv A outer s H vs Q E hr h => ?_)
  · obtain ⟨d, pn, col, p, rfl, _⟩ := h
    rfl
  obtain ⟨d, pn, col, p, rfl, dr, dp, pe, ht, hc, q⟩ := h
  refine ⟨_, PSs.nox (pss_cons (ps_set (i := 3) sc_LawLine.nd rfl (.inl rfl) (pe_lst (pa_cons pe_str (pa_cons pe_str (pa_cons pe_str (pa_cons pe_str (pa_cons pe_str (pa_cons pe_str pa_nil))))))))
    (pss_cons (ps_for PassesOwn.never rfl (pi_range1 (by rfl) T.f_range (pa_cons (pe_ix (ixL K) (pe_lst (pa_cons pe_int (pa_cons pe_int (pa_cons pe_int (pa_cons pe_int (pa_cons pe_int pa_nil)))))) (pe_c c_law_draw (hr.mono (by omega)) (by rfl) (pa_cons (pv 0) (pa_cons pe_int pa_nil))) (fun _ _ => rfl)) pa_nil)) (pg_name (i := 4) sc_LawLine.nd rfl (.inl rfl))
    (pss_cons (ps_asg (pe_op op_add_str (pe_op op_add_str (pe_ix (ixL K) (pv 1) pe_int (fun _ _ => rfl)) (pe_ix (ixL K) (pv 3) (pe_c c_law_draw (hr.mono (by omega)) (by rfl) (pa_cons (pv 0) (pa_cons pe_int pa_nil))) (fun _ _ => rfl))) pe_str) (pg_sub (pv 1) pe_int set_list))
      (pss_one (ps_asg (pe_op op_add (pe_ix (ixL K) (pv 1) pe_int (fun _ _ => rfl)) pe_int) (pg_sub (pv 1) pe_int set_list)))))
    (pss_cons (ps_asg (pe_op op_add_str (pe_ix (ixL K) (pv 1) pe_int (fun _ _ => rfl)) (pe_op op_mulS pe_str (pv 2))) (pg_sub (pv 1) pe_int set_list))
    (pss_one (ps_asg (pv 2) (pg_sub (pv 1) pe_int set_list)))))), ?_⟩
  refine ⟨by show 6 ≤ sizeLine; decide, fun rm hrm => ?_⟩
  rw [rem_eq]
  have f1 : Fr [] H (upd H rm (.lst ((remC.map S).map V.str))) := .new hrm
  have h1 : upd H rm (.lst ((remC.map S).map V.str)) rm = some (.lst ((remC.map S).map V.str)) := upd_same
  have nrd : rm ≠ d := by
    obtain ⟨a, b, e, _⟩ := dr
    exact fun z => by rw [z, e] at hrm; cases hrm
  have nrp : rm ≠ pn := fun z => by
    have := pe.hp
    rw [← z, hrm] at this
    cases this
  have dr1 := dr.fr f1 (by simp)
  have pe1 := pe.fr' f1 (by simp)
  have hrn := hrm
  generalize upd H rm (.lst ((remC.map S).map V.str)) = H1 at f1 h1 dr1 pe1
  refine ⟨by show 5 ≤ sizeLine; decide, fun p2 hp2 => ?_⟩
  have f2 : Fr [] H1 (upd H1 p2 (.lst [.int 1, .int 1, .int 1, .int 2, .int 3])) := .new hp2
  refine ⟨_, rfl, d, _, rfl, dr1.fr f2 (by simp), by decide, by decide, fun r H3 r0 r1 dr3 f3 => ?_⟩
  have np2 : p2 ≠ d := by
    obtain ⟨a, b, e, _⟩ := dr1
    exact fun z => by rw [z, e] at hp2; cases hp2
  have h3 : H3 p2 = some (.lst (([1, 1, 1, 2, 3] : List Int).map V.int)) := f3.at upd_same (nmem1 np2)
  obtain ⟨n, hn, en⟩ := numI_of (xs := [1, 1, 1, 2, 3]) r0 (by exact r1)
  have hn' : 1 ≤ n ∧ n ≤ 3 := by
    simp only [List.mem_cons, List.not_mem_nil, or_false] at hn
    omega
  have f03 : Fr [d, pn] H H3 := (fr_0 f1).trans ((fr_0 f2).trans (fr_d f3))
  refine ⟨p2, _, _, _, rfl, rfl, .of h3, en, n, rfl, by omega, by omega, for_range (n := n.toNat) (fun i σ H' => ∃ (y4 : Option V) (p' : Pn) (c0 : V), σ = [some (.ref d), some (.ref pn), some (.int (col : Int)), some (.ref rm), y4] ∧
      H' pn = some (.lst [.str (S p'.text), .int p'.line, c0, .bl p.fresh]) ∧ p'.Ok ∧ p'.toks = p.toks ∧ p'.fresh = p.fresh ∧ (0 < i → p'.cur = []) ∧ p'.line = p.line + (i : Int) ∧ p'.text.length ≤ p.text.length + 12 * i ∧ H' rm = some (.lst ((remC.map S).map V.str)) ∧ Dr H' d ∧ Fr [d, pn] H H')
    ⟨none, p, _, rfl, f3.at (f2.at pe1.hp (by simp)) (nmem1 dp.symm), pe.ok, rfl, rfl, (by intro h; omega), by simp, by omega, f3.at (f2.at h1 (by simp)) (nmem1 nrd), dr3, f03⟩ ?_ ?_⟩
  · rintro i σ H4 hi ⟨y4, p', c0, rfl, b1, b2, b3, b4, b5, b6, b7, b8, b9, b10⟩
    have hi3 : i < 3 := by omega
    refine ⟨_, rfl, pn, _, _, _, rfl, rfl, .of b1, at0, _, rfl, _, rfl, d, _, rfl, b9, by decide, by decide, fun r H5 q0 q1 dr5 f5 => ?_⟩
    obtain ⟨rs, hrs, ers⟩ := strI_of (xs := remC.map S) q0 (by exact q1)
    obtain ⟨rc, hrc, rfl⟩ := List.mem_map.mp hrs
    obtain ⟨m, rem, rfl, hrem, hn10, hlen⟩ := rem_ok rc hrc
    have b1' := f5.at b1 (nmem1 dp.symm)
    have b8' := f5.at b8 (nmem1 nrd)
    have enl : ("\n" : Str) = S [10] := by decide +kernel
    have l1 : (S p'.text).length + (S (List.replicate m 32 ++ rem)).length ≤ p.text.length + 12 * i + 11 := by
      rw [SX.S_len, SX.S_len]
      omega
    have l2 : (S p'.text ++ S (List.replicate m 32 ++ rem)).length + ("\n" : Str).length ≤ p.text.length + 12 * (i + 1) := by
      rw [enl, SX.S_cat, SX.S_len, SX.S_len, List.length_append]
      show _ + 1 ≤ _
      omega
    refine ⟨rm, _, _, _, rfl, rfl, .of b8', ers, _, _, rfl, rfl, sz16 (by omega), _, _, rfl, rfl, sz16 (by omega), _, rfl, pn, _, _, 0, rfl, rfl, b1', Evl.ixN_nat (j := 0) (by simp), ?_⟩
    have f6 : Fr [pn] H5 (upd H5 pn (.lst (([V.str (S p'.text), V.int p'.line, c0, V.bl p.fresh] : List V).set 0 (V.str ((S p'.text ++ S (List.replicate m 32 ++ rem)) ++ ("\n" : Str)))))) := .wr b1' mem1
    have h6 : upd H5 pn (.lst (([V.str (S p'.text), V.int p'.line, c0, V.bl p.fresh] : List V).set 0 (V.str ((S p'.text ++ S (List.replicate m 32 ++ rem)) ++ ("\n" : Str))))) pn = some (.lst [V.str ((S p'.text ++ S (List.replicate m 32 ++ rem)) ++ ("\n" : Str)), V.int p'.line, c0, V.bl p.fresh]) := upd_same
    refine ⟨_, rfl, pn, _, _, _, rfl, rfl, .of h6, at1, _, _, rfl, rfl, _, rfl, pn, _, _, 1, rfl, rfl, h6, Evl.ixN_nat (j := 1) (by simp), ?_⟩
    refine ⟨_, (p'.blank m p'.fresh).newl rem, c0, rfl, ?_, (b2.blank m _).newl hrem hn10, by rw [Pn.toks_newl, Pn.toks_blank, b3], b4, fun _ => rfl, by rw [Pn.line_newl, Pn.line_blank, b6]; omega, ?_, by rw [upd_ne nrp, upd_ne nrp]; exact b8', ?_, (b10.trans (fr_d f5)).trans ((fr_w f6).trans (fr_w (.wr h6 mem1)))⟩
    · rw [upd_same, Pn.line_newl, Pn.line_blank, Pn.text_newl, Pn.text_blank, enl, SX.S_cat, SX.S_cat]
      have : p'.text ++ (List.replicate m 32 ++ rem) ++ [10] = p'.text ++ List.replicate m 32 ++ (rem ++ [10]) := by simp
      rw [this] <;> rfl
    · rw [Pn.text_newl, Pn.text_blank, List.length_append, List.length_append, List.length_append]
      rw [List.length_append] at hlen
      show _ + (_ + 1) ≤ _
      omega
    · obtain ⟨a, b, e, h1, h2⟩ := dr5
      exact ⟨a, b, by rw [upd_ne dp, upd_ne dp]; exact e, h1, h2⟩
  rintro σ H4 ⟨y4, p', c0, rfl, b1, b2, b3, b4, b5, b6, b7, b8, b9, b10⟩
  have hcur : p'.cur = [] := b5 (by omega)
  refine ⟨_, rfl, pn, _, _, _, rfl, rfl, .of b1, at0, _, rfl, _, _, rfl, rfl, by omega, by omega, by rw [sp_S, SX.S_len]; decide, ?_⟩
  rw [mul_sp]
  have ec : ((col : Int)).toNat = col := by omega
  rw [ec]
  have l3 : (S p'.text).length + (S (List.replicate col 32)).length ≤ p.text.length + 36 + col := by
    rw [SX.S_len, SX.S_len, List.length_replicate]
    omega
  refine ⟨_, _, rfl, rfl, sz16 (by omega), _, rfl, pn, _, _, 0, rfl, rfl, b1, Evl.ixN_nat (j := 0) (by simp), ?_⟩
  have f6 : Fr [pn] H4 (upd H4 pn (.lst (([V.str (S p'.text), V.int p'.line, c0, V.bl p.fresh] : List V).set 0 (V.str (S p'.text ++ S (List.replicate col 32)))))) := .wr b1 mem1
  have h6 : upd H4 pn (.lst (([V.str (S p'.text), V.int p'.line, c0, V.bl p.fresh] : List V).set 0 (V.str (S p'.text ++ S (List.replicate col 32))))) pn = some (.lst [V.str (S p'.text ++ S (List.replicate col 32)), V.int p'.line, c0, V.bl p.fresh]) := upd_same
  refine ⟨_, rfl, _, rfl, pn, _, _, 2, rfl, rfl, h6, Evl.ixN_nat (j := 2) (by simp), ?_⟩
  have ecol : (p'.blank col p.fresh).coln = col := by
    rw [Pn.coln_blank]
    unfold Pn.coln
    rw [hcur]
    exact Nat.zero_add _
  refine q _ (p'.blank col p.fresh) _ ?_ ⟨?_, b2.blank col _, fun _ k w e => ?_⟩ (by rw [Pn.toks_blank, b3]) (by rw [Pn.line_blank, b6]; omega) ?_ rfl ?_ (b10.trans ((fr_w f6).trans (fr_w (.wr h6 mem1))))
  · obtain ⟨a, b, e, h1, h2⟩ := b9
    exact ⟨a, b, by rw [upd_ne dp, upd_ne dp]; exact e, h1, h2⟩
  · rw [upd_same]
    unfold penV
    rw [ecol, Pn.text_blank, SX.S_cat] <;> rfl
  · have e2 : (p'.blank col p.fresh).cur = List.replicate col It.sp := by
      show p'.cur ++ List.replicate col It.sp = _
      rw [hcur] <;> rfl
    rw [e2] at e
    have := List.mem_of_getLast? e
    rw [List.mem_replicate] at this
    cases this.2
  · show p'.cur ++ List.replicate col It.sp = _
    rw [hcur] <;> rfl
  · rw [Pn.text_blank, List.length_append, List.length_replicate]
    omega
end
end K10
namespace K10
open PySem PySem.Spec PyProof.Rows L2
open SX (S)
/-! ### words -/
structure Wr (d pn : Addr) (H : Hp) (p : Pn) (U t : Nat) : Prop where
  dr : Dr H d
  dp : d ≠ pn
  pe : Pe pn H p
  col : p.coln ≤ U
  txt : p.text.length ≤ 5560 * t
  cnt : p.toks.length ≤ t
def LastNe (p : Pn) : Prop := ∀ m, p.toks.getLast? = some m → m.w ≠ "="
def loOf (free : Bool) (least : Int) : Int := if free then 0 else least + 1
def PosOk (p : Pn) (lo : Int) (l c : Int) : Prop := (p.fresh = true → l = p.line ∧ c = (p.coln : Int)) ∧ (p.fresh = false → l = p.line ∨ (p.line < l ∧ lo ≤ c))
theorem or2_cps {t u : TT} {σ : L2.St} {H : Hp} {Q : Bool → Hp → Prop} (a b : Bool) (h1 : ∀ R : Bool → Hp → Prop, R a H → t σ H R) (h2 : ∀ R : Bool → Hp → Prop, R b H → u σ H R) (h : Q (a || b) H) : tOr t u σ H Q := ans_or2 h1 h2 Q h
theorem rowOk_end : ∀ {a : List It} {k w : Str}, RowOk (a ++ [.wd k w]) → WordOk k w
  | [], k, w, h => h
  | i :: a, k, w, h => rowOk_end (rowOk_tail h)
theorem text_end {p : Pn} {k w : Str} (h : p.cur.getLast? = some (.wd k w)) (hw : 1 ≤ w.length) : ∃ a c, p.text = a ++ [c] ∧ c ∈ w.cps.toList := by
  obtain ⟨r, e⟩ := List.getLast?_eq_some_iff.mp h
  have e2 : p.text = (Pn.mk p.done r p.fresh).text ++ w.cps.toList := by
    have z := Pn.text_word ⟨p.done, r, p.fresh⟩ k w
    rw [← z]
    show textR (p.done ++ [(p.cur, [])]) = textR (p.done ++ [(r ++ [.wd k w], [])])
    rw [e]
  have hn : w.cps.toList ≠ [] := fun z => by
    rw [← str_len, z] at hw
    cases hw
  refine ⟨(Pn.mk p.done r p.fresh).text ++ w.cps.toList.dropLast, w.cps.toList.getLast hn, ?_, List.getLast_mem hn⟩
  rw [e2, List.append_assoc, List.dropLast_concat_getLast]
theorem cutS_nil : cutS (S []) (some (-1)) none = S [] := by decide +kernel
theorem cutS_last (a : List Nat) (c : Nat) : cutS (S (a ++ [c])) (some (-1)) none = ⟨#[c]⟩ := by
  have l : (S (a ++ [c])).length = a.length + 1 := by rw [SX.S_len, List.length_append] <;> rfl
  unfold cutS
  rw [l, sIx_neg1 (by omega)]
  have e2 : HT.sIx (a.length + 1) (a.length + 1) none = a.length + 1 := rfl
  rw [e2]
  have e3 : (S (a ++ [c])).cps.toList = a ++ [c] := rfl
  have e4 : a.length + 1 - 1 = a.length := rfl
  have e5 : a.length + 1 - a.length = 1 := by omega
  rw [e3, e4, e5, List.drop_left]
  rfl
def NearOk (p : Pn) (k : Str) (nb : Bool) : Prop := nb = false → ∀ k0 w0, p.cur.getLast? = some (.wd k0 w0) → ¬ (isLet k0 ∧ isLet k) ∧ ¬ (k0 = "number" ∧ k = "number")
theorem near_nil {p : Pn} {k : Str} {nb : Bool} (ok : p.Ok) (h : p.text = []) : NearOk p k nb := fun _ k0 w0 e => by
  obtain ⟨r, e1⟩ := List.getLast?_eq_some_iff.mp e
  have wk : WordOk k0 w0 := rowOk_end (by rw [← e1]; exact ok.cur)
  obtain ⟨a, c, e2, _⟩ := text_end e (word_len wk).1
  rw [h] at e2
  cases a <;> cases e2
theorem let_first {k w : Str} {b : Nat} {r : List Nat} (h : WordOk k w) (hk : isLet k) (e : w.cps.toList = b :: r) : b ∈ lettersC := mem_letters.mpr ((let_word h hk).1 b (by rw [e]; exact List.mem_cons_self))
theorem fig_word {w : Str} {a : Nat} (h : WordOk "number" w) (ha : a ∈ w.cps.toList) : a ∈ figuresC := by
  generalize hk : ("number" : Str) = k at h
  cases h with
  | name _ => exact absurd hk (by decide +kernel)
  | key _ => exact absurd hk (by decide +kernel)
  | number h => exact mem_figures.mpr ((num_figures w h).1 a ha)
  | sign _ => exact absurd hk (by decide +kernel)
theorem near_some {p : Pn} {k w : Str} {a r : List Nat} {b c : Nat} (ok : p.Ok) (h : p.text = a ++ [c]) (hw : WordOk k w) (e : w.cps.toList = b :: r) : NearOk p k ((decide (c ∈ lettersC) && decide (b ∈ lettersC)) || (decide (c ∈ figuresC) && decide (b ∈ figuresC))) := fun hf k0 w0 el => by
  obtain ⟨r0, e1⟩ := List.getLast?_eq_some_iff.mp el
  have wk : WordOk k0 w0 := rowOk_end (by rw [← e1]; exact ok.cur)
  obtain ⟨a2, c2, e2, hc2⟩ := text_end el (word_len wk).1
  have ec : c = c2 := by
    rw [h] at e2
    have := List.append_inj_right' e2 rfl
    simpa using this
  subst ec
  simp only [Bool.or_eq_false_iff, Bool.and_eq_false_iff, decide_eq_false_iff_not] at hf
  refine ⟨fun ⟨h1, h2⟩ => ?_, fun ⟨h1, h2⟩ => ?_⟩
  · rcases hf.1 with z | z
    · exact z (mem_letters.mpr ((let_word wk h1).1 c hc2))
    · exact z (let_first hw h2 e)
  · subst h1
    subst h2
    rcases hf.2 with z | z
    · exact z (fig_word wk hc2)
    · exact z (fig_word hw (by rw [e]; exact List.mem_cons_self))
def spWord : Sp := fun vs H Q _ => ∃ (d pn : Addr) (k w : Str) (z : Int) (least : Nat) (free : Bool) (p : Pn) (U t : Nat), vs = [.ref d, .ref pn, .str w, .int z, .bl free] ∧ z = (least : Int) ∧ Wr d pn H p U t ∧ WordOk k w ∧ least ≤ U ∧ U ≤ 5500 ∧ t + 1 ≤ 3000 ∧ (w = "=" ∨ w = "==" → LastNe p) ∧
  ∀ (r : V) (l c : Int) (p' : Pn) (H' : Hp), TD H' r (plD l c) → Wr d pn H' p' (U + 6 + w.length) (t + 1) → p'.toks = p.toks ++ [⟨k, w, l, c⟩] → p'.fresh = false → p'.line = l → PosOk p (loOf free z) l c → Fr [d, pn] H H' → Q r H'
section
variable {P : Program} {w : World} {K : PySem.W.Frag} {mg : Str → Option Value} {base : Heap} {f : Addr} {fd : FuncData} {kA sA CL CR eA : Addr}
theorem sc_LawWord : FnScope ["draws", "pen", "word", "least", "free", "letters", "figures", "last", "near", "way", "many", "place"] ["draws", "pen", "word", "least", "free"] (defScope sLawWord) := ⟨rfl, rfl, rfl, by decide +kernel, rfl, by decide +kernel, by decide +kernel⟩
theorem ok_word (T : Facts K mg kA sA CL CR eA) (c_law_draw : Cal P w K mg base "_law_draw" 1 ["draws", "many"] spDraw) (c_law_line : Cal P w K mg base "_law_line" 2 ["draws", "pen", "column"] spLine) (F : FnP K "_law_word" "_law_word" sLawWord [] f fd) : FnOk P w K mg base CX0 3 f fd ["draws", "pen", "word", "least", "free"] spWord := by
  refine F.ok sc_LawWord (fun vs H Q E h => ?_) (fun cdv A outer s H vs Q E hr h => ?_)
  · obtain ⟨d, pn, k, w, z, least, free, p, U, t, rfl, _⟩ := h
    rfl
  obtain ⟨d, pn, k, wd, z, least, free, p, U, t, rfl, hz, W, hw, hl, hU, ht, hne, q⟩ := h
  refine ⟨_, PSs.nox (pss_cons (ps_set (i := 5) sc_LawWord.nd rfl (.inl rfl) pe_str)
    (pss_cons (ps_set (i := 6) sc_LawWord.nd rfl (.inl rfl) pe_str)
    (pss_cons (ps_set (i := 7) sc_LawWord.nd rfl (.inl rfl) (pe_slice sl_str (pe_ix (ixL K) (pv 1) pe_int (fun _ _ => rfl)) (po_some (pe_un un_neg pe_int)) po_none))
    (Evl.pss_cut (ps_set (i := 8) sc_LawWord.nd rfl (.inl rfl) (pe_and (pe_cmpR op_ne (pv 7) pe_str (nomark _)) (pe_and (pe_cmpR op_in_sign (pv 7) (pv 5) rfl) (pe_one (pe_cmpR op_in_sign (pe_ix ix_str (pv 2) pe_int (fun _ _ => rfl)) (pv 5) rfl)))))
    (Evl.pss_cut (ps_if (PW.pt (pw_and (pt_cmpR op_ne (pv 7) pe_str (nomark _)) (pw_and (pt_cmpR op_in_sign (pv 7) (pv 6) rfl) (pw_and1 (pt_cmpR op_in_sign (pe_ix ix_str (pv 2) pe_int (fun _ _ => rfl)) (pv 6) rfl)))))
    (pss_one (ps_set (i := 8) sc_LawWord.nd rfl (.inl rfl) pe_bl))
    pss_nil)
    (pss_cons (ps_set (i := 9) sc_LawWord.nd rfl (.inl rfl) (pe_c c_law_draw (hr.mono (by omega)) (by rfl) (pa_cons (pv 0) (pa_cons pe_int pa_nil))))
    (Evl.pss_cut (ps_if (pt_val (pe_ix (ixL K) (pv 1) pe_int (fun _ _ => rfl)))
    (pss_one (ps_asg pe_bl (pg_sub (pv 1) pe_int set_list)))
    (pss_one (ps_if (pt_cmpR op_eq (pv 9) pe_int (nomark _))
      (pss_one (ps_expr (pe_c c_law_line (hr.mono (by omega)) (by rfl) (pa_cons (pv 0) (pa_cons (pv 1) (pa_cons (pe_op op_add (pe_ix (ixL K) (pe_lst (pa_cons (pe_op op_add (pv 3) pe_int) (pa_cons pe_int pa_nil))) (pe_callTy call_int1 (by rfl) T.f_int boot_int (pa_cons (pv 4) pa_nil)) (fun _ _ => rfl)) (pe_c c_law_draw (hr.mono (by omega)) (by rfl) (pa_cons (pv 0) (pa_cons pe_int pa_nil)))) pa_nil))))))
      (pss_one (ps_if (PW.pt (pw_or (pt_cmpR op_lt (pv 9) pe_int (nomark _)) (pw_or1 (pt_val (pv 8)))))
        (pss_cons (ps_set (i := 10) sc_LawWord.nd rfl (.inl rfl) (pe_ix (ixL K) (pe_lst (pa_cons pe_int (pa_cons pe_int (pa_cons pe_int (pa_cons pe_int pa_nil))))) (pe_c c_law_draw (hr.mono (by omega)) (by rfl) (pa_cons (pv 0) (pa_cons pe_int pa_nil))) (fun _ _ => rfl)))
          (pss_cons (ps_asg (pe_op op_add_str (pe_ix (ixL K) (pv 1) pe_int (fun _ _ => rfl)) (pe_op op_mulS pe_str (pv 10))) (pg_sub (pv 1) pe_int set_list))
          (pss_one (ps_asg (pe_op op_add (pe_ix (ixL K) (pv 1) pe_int (fun _ _ => rfl)) (pv 10)) (pg_sub (pv 1) pe_int set_list)))))
        pss_nil)))))
    (pss_cons (ps_set (i := 11) sc_LawWord.nd rfl (.inl rfl) (pe_tup (pa_cons (pe_ix (ixL K) (pv 1) pe_int (fun _ _ => rfl)) (pa_cons (pe_ix (ixL K) (pv 1) pe_int (fun _ _ => rfl)) pa_nil))))
    (pss_cons (ps_asg (pe_op op_add_str (pe_ix (ixL K) (pv 1) pe_int (fun _ _ => rfl)) (pv 2)) (pg_sub (pv 1) pe_int set_list))
    (pss_cons (ps_asg (pe_op op_add (pe_ix (ixL K) (pv 1) pe_int (fun _ _ => rfl)) (pe_callB call_len_str (by rfl) T.f_len boot_len (pa_cons (pv 2) pa_nil))) (pg_sub (pv 1) pe_int set_list))
    (pss_one (ps_ret (pv 11))))))))))))), ?_⟩
  have txt : p.text.length ≤ 16680000 := by have := W.txt; omega
  obtain ⟨b0, r0, eb⟩ := word_first hw
  have wl := word_len hw
  have peH := W.pe.hp
  have ix0 : atI wd.cps.toList 0 = some b0 := by rw [eb]; exact atI_nat (j := 0) rfl
  have wsz : wd.length ≤ sizeLine := sz16 (by omega)
  -- last
  refine ⟨_, rfl, pn, _, _, _, rfl, rfl, .of peH, at0, _, rfl, _, rfl, _, rfl, sz16 (by rw [SX.S_len]; omega), ?_⟩
  -- near
  refine ⟨fun σ' H' => H' = H ∧ ∃ (la : Str) (nb : Bool), σ' = [some (.ref d), some (.ref pn), some (.str wd), some (.int z), some (.bl free), some (.str "abcdefghijklmnopqrstuvwxyz"), some (.str "0123456789"), some (.str la), some (.bl nb), none, none, none] ∧
    ((p.text = [] ∧ la = S []) ∨ ∃ a c, p.text = a ++ [c] ∧ la = ⟨#[c]⟩ ∧ nb = (decide (c ∈ lettersC) && decide (b0 ∈ lettersC))), ?_, ?_⟩
  · have es : ("" : Str) = S [] := by decide +kernel
    have le : ("abcdefghijklmnopqrstuvwxyz" : Str).cps.toList = lettersC := by rw [letters_eq] <;> rfl
    rcases List.eq_nil_or_concat p.text with e | ⟨a, c, e⟩
    · rw [e, cutS_nil]
      refine ⟨_, rfl, rfl, _, rfl, ?_⟩
      rw [es]
      refine ⟨rfl, _, _, rfl, .inl ⟨rfl, rfl⟩⟩
    · rw [List.concat_eq_append] at e
      rw [e, cutS_last]
      refine ⟨_, rfl, rfl, _, rfl, ?_⟩
      have nn : (decide (V.str (⟨#[c]⟩ : Str) = V.str "")) = false := by
        rw [es]
        exact decide_eq_false (by intro h; cases h)
      rw [nn]
      refine ⟨_, rfl, _, rfl, c, _, rfl, rfl, _, rfl, ite2 (fun h => ?_) (fun h => ?_)⟩
      · rw [le] at h
        refine ⟨_, rfl, _, _, _, rfl, rfl, wsz, ix0, _, rfl, b0, _, rfl, rfl, rfl, _, _, rfl, .inr ⟨a, c, rfl, rfl, ?_⟩⟩
        rw [le, h] <;> rfl
      · rw [le] at h
        refine ⟨rfl, _, _, rfl, .inr ⟨a, c, rfl, rfl, ?_⟩⟩
        rw [Bool.eq_false_iff.mpr h] <;> rfl
  rintro σ' H' ⟨eH, la, nb, rfl, hla⟩
  have eH' := eH.symm
  subst eH'
  -- near, figures
  refine ⟨fun σ' H' => H' = H ∧ ∃ (nb : Bool), σ' = [some (.ref d), some (.ref pn), some (.str wd), some (.int z), some (.bl free), some (.str "abcdefghijklmnopqrstuvwxyz"), some (.str "0123456789"), some (.str la), some (.bl nb), none, none, none] ∧ NearOk p k nb, ?_, ?_⟩
  · have es : ("" : Str) = S [] := by decide +kernel
    have le : ("0123456789" : Str).cps.toList = figuresC := by rw [figures_eq] <;> rfl
    rcases hla with ⟨e, rfl⟩ | ⟨a, c, e, rfl, rfl⟩
    · refine ⟨_, rfl, rfl, _, rfl, ?_⟩
      rw [es]
      exact ⟨rfl, _, rfl, near_nil W.pe.ok e⟩
    · refine ⟨_, rfl, rfl, _, rfl, ?_⟩
      have nn : (decide (V.str (⟨#[c]⟩ : Str) = V.str "")) = false := by
        rw [es]
        exact decide_eq_false (by intro h; cases h)
      rw [nn]
      have key := near_some (b := b0) W.pe.ok e hw eb
      refine ⟨_, rfl, _, rfl, c, _, rfl, rfl, _, rfl, ite2 (fun h => ?_) (fun h => ?_)⟩
      · rw [le] at h
        rw [h] at key
        refine ⟨_, rfl, _, _, _, rfl, rfl, wsz, ix0, _, rfl, b0, _, rfl, rfl, _, rfl, ite2 (fun h2 => ?_) (fun h2 => ?_)⟩
        · exact ⟨rfl, _, rfl, fun z => by cases z⟩
        · rw [le] at h2
          rw [Bool.eq_false_iff.mpr h2] at key
          exact ⟨rfl, _, rfl, by simpa using key⟩
      · rw [le] at h
        rw [Bool.eq_false_iff.mpr h] at key
        exact iteF ⟨rfl, _, rfl, by simpa using key⟩
  rintro σ' H' ⟨eH, nb, rfl, hnb⟩
  have eH' := eH.symm
  subst eH'
  -- way
  refine ⟨_, rfl, d, _, rfl, W.dr, by decide, by decide, fun way H1 w0 w1 dr1 f1 => ?_⟩
  have pe1 := W.pe.fr' f1 (nmem1 W.dp.symm)
  -- where the word stands
  refine ⟨fun σ' H' => ∃ (p' : Pn) (y10 : Option V), σ' = [some (.ref d), some (.ref pn), some (.str wd), some (.int z), some (.bl free), some (.str "abcdefghijklmnopqrstuvwxyz"), some (.str "0123456789"), some (.str la), some (.bl nb), some (.int way), y10, none] ∧ Pe pn H' p' ∧ p'.fresh = false ∧ p'.toks = p.toks ∧ Next p'.cur (.wd k wd) ∧
    PosOk p (loOf free z) p'.line (p'.coln : Int) ∧ p'.coln ≤ U + 6 ∧ p'.text.length ≤ p.text.length + 36 + (U + 6) ∧ Dr H' d ∧ Fr [d, pn] H1 H', ?_, ?_⟩
  · refine ⟨_, rfl, pn, _, _, _, rfl, rfl, .of pe1.hp, atI_nat (j := 3) rfl, _, rfl, ite2 (fun hfr => ?_) (fun hfr => ?_)⟩
    · refine ⟨_, rfl, pn, _, _, 3, rfl, rfl, pe1.hp, Evl.ixN_nat (j := 3) (by simp [penV]), ?_⟩
      exact ⟨p.flag false, none, rfl, ⟨upd_same, W.pe.ok.flag _, fun h => by cases h⟩, rfl, rfl, fun k0 w0 e => absurd e (W.pe.fr hfr k0 w0), ⟨fun _ => ⟨rfl, rfl⟩, fun h => by rw [hfr] at h; cases h⟩, by have := W.col; show p.coln ≤ _; omega, by show p.text.length ≤ _; omega, dr1.put W.dp.symm, .wr pe1.hp (by simp)⟩
    · have hff : p.fresh = false := Bool.eq_false_iff.mpr hfr
      refine ⟨_, rfl, rfl, _, rfl, ite2 (fun hw0 => ?_) (fun hw0 => ?_)⟩
      · -- a new line
        have ef : (if free = true then (1 : Int) else 0) = 0 ∨ (if free = true then (1 : Int) else 0) = 1 := by cases free <;> simp
        refine ⟨_, rfl, _, rfl, _, rfl, _, _, rfl, rfl, by show 2 ≤ sizeLine; decide, fun p6 hp6 => ?_⟩
        have f6 : Fr [] H1 (upd H1 p6 (.lst [.int (z + 1), .int 0])) := .new hp6
        have h6 : upd H1 p6 (.lst [.int (z + 1), .int 0]) p6 = some (.lst [.int (z + 1), .int 0]) := upd_same
        have pe6 := pe1.fr' f6 (by simp)
        have dr6 := dr1.fr f6 (by simp)
        generalize upd H1 p6 (.lst [.int (z + 1), .int 0]) = H6 at f6 h6 pe6 dr6
        refine ⟨_, rfl, .inr ⟨free, rfl, ?_⟩⟩
        have ea : atI ([.int (z + 1), .int 0] : List V) (if free = true then 1 else 0) = some (.int (loOf free z)) := by
          cases free
          · exact at0
          · exact at1
        refine ⟨p6, _, _, _, rfl, rfl, .of h6, ea, _, rfl, d, _, rfl, dr6, by decide, by decide, fun r7 H7 q0 q1 dr7 f7 => ?_⟩
        have pe7 := pe6.fr' f7 (nmem1 W.dp.symm)
        have lo0 : 0 ≤ loOf free z ∧ loOf free z ≤ z + 1 := by
          unfold loOf
          split <;> omega
        refine ⟨_, _, rfl, rfl, d, pn, (loOf free z + r7).toNat, p, by rw [show (((loOf free z + r7).toNat : Nat) : Int) = loOf free z + r7 by omega] <;> rfl, dr7, W.dp, pe7, by omega, by omega, fun v p' H8 dr8 pe8 e1 e2 e3 e4 e5 f8 => ?_⟩
        have ec : p'.coln = (loOf free z + r7).toNat := by
          unfold Pn.coln
          rw [e3, rowC_sps, List.length_replicate]
        refine ⟨p', none, rfl, pe8, by rw [e4, hff], e1, fun k0 w0 e => ?_, ⟨fun h => (by rw [hff] at h; cases h), fun _ => .inr ⟨e2, by rw [ec]; omega⟩⟩, by rw [ec]; omega, by omega, dr8, (fr_0 f6).trans ((fr_d f7).trans f8)⟩
        rw [e3] at e
        have := List.mem_of_getLast? e
        rw [List.mem_replicate] at this
        cases this.2
      · refine or2_cps (decide (way < 7)) nb (fun R h => ⟨_, rfl, _, _, rfl, rfl, _, rfl, h⟩) (fun R h => ⟨_, rfl, _, rfl, h⟩) ?_
        cases hor : (decide (way < 7) || nb) with
        | false =>
          refine iteF ?_
          have hnf : nb = false := (Bool.or_eq_false_iff.mp hor).2
          refine ⟨p, none, rfl, pe1, hff, rfl, fun k0 w0 e k' w' e' => ?_, ⟨fun h => (by rw [hff] at h; cases h), fun _ => .inl rfl⟩, by have := W.col; omega, by omega, dr1, Fr.refl _⟩
          cases e'
          obtain ⟨m, hm, hmk, hmw⟩ := Pn.last_cur e
          exact ⟨(hnb hnf k0 w0 e).1, (hnb hnf k0 w0 e).2, fun ⟨h1, h2⟩ => hne h2 m hm (hmw.trans h1)⟩
        | true =>
          refine iteT ?_
          refine ⟨by show 4 ≤ sizeLine; decide, fun p6 hp6 => ?_⟩
          have f6 : Fr [] H1 (upd H1 p6 (.lst [.int 1, .int 1, .int 2, .int 5])) := .new hp6
          have h6 : upd H1 p6 (.lst [.int 1, .int 1, .int 2, .int 5]) p6 = some (.lst (([1, 1, 2, 5] : List Int).map V.int)) := upd_same
          have pe6 := pe1.fr' f6 (by simp)
          have dr6 := dr1.fr f6 (by simp)
          have n6 := dr1.ne hp6
          generalize upd H1 p6 (.lst [.int 1, .int 1, .int 2, .int 5]) = H6 at f6 h6 pe6 dr6
          refine ⟨_, rfl, d, _, rfl, dr6, by decide, by decide, fun r7 H7 q0 q1 dr7 f7 => ?_⟩
          have pe7 := pe6.fr' f7 (nmem1 W.dp.symm)
          obtain ⟨m, hm, em⟩ := numI_of (xs := [1, 1, 2, 5]) q0 (by exact q1)
          have hm' : 1 ≤ m ∧ m ≤ 5 := by
            simp only [List.mem_cons, List.not_mem_nil, or_false] at hm
            omega
          refine ⟨p6, _, _, _, rfl, rfl, .of (f7.at h6 (nmem1 n6)), em, ?_⟩
          refine ⟨_, rfl, pn, _, _, _, rfl, rfl, .of pe7.hp, at0, _, rfl, _, _, rfl, rfl, by omega, by omega, by rw [sp_S, SX.S_len]; decide, ?_⟩
          rw [mul_sp]
          have l3 : (S p.text).length + (S (List.replicate m.toNat 32)).length ≤ p.text.length + 5 := by
            rw [SX.S_len, SX.S_len, List.length_replicate]
            omega
          refine ⟨_, _, rfl, rfl, sz16 (by omega), _, rfl, pn, _, _, 0, rfl, rfl, pe7.hp, Evl.ixN_nat (j := 0) (by simp [penV]), ?_⟩
          have f8 : Fr [pn] H7 (upd H7 pn (.lst ((penV p).set 0 (V.str (S p.text ++ S (List.replicate m.toNat 32)))))) := .wr pe7.hp mem1
          have h8 : upd H7 pn (.lst ((penV p).set 0 (V.str (S p.text ++ S (List.replicate m.toNat 32))))) pn = some (.lst [V.str (S p.text ++ S (List.replicate m.toNat 32)), .int p.line, .int (p.coln : Int), .bl p.fresh]) := upd_same
          have dr8 := dr7.put (o := .lst ((penV p).set 0 (V.str (S p.text ++ S (List.replicate m.toNat 32))))) W.dp.symm
          generalize upd H7 pn (.lst ((penV p).set 0 (V.str (S p.text ++ S (List.replicate m.toNat 32))))) = H8 at f8 h8 dr8
          refine ⟨_, rfl, pn, _, _, _, rfl, rfl, .of h8, at2, _, rfl, _, _, rfl, rfl, _, rfl, pn, _, _, 2, rfl, rfl, h8, Evl.ixN_nat (j := 2) (by simp), ?_⟩
          refine ⟨p.blank m.toNat false, _, rfl, ⟨?_, W.pe.ok.blank _ _, fun h => by cases h⟩, rfl, Pn.toks_blank _ _ _, fun k0 w0 e => ?_, ⟨fun h => (by rw [hff] at h; cases h), fun _ => .inl rfl⟩, by rw [Pn.coln_blank]; have := W.col; omega, by rw [Pn.text_blank, List.length_append, List.length_replicate]; omega, dr8.put W.dp.symm, (fr_0 f6).trans ((fr_d f7).trans (fr_w (f8.trans (.wr h8 mem1))))⟩
          · rw [upd_same]
            unfold penV
            rw [Pn.coln_blank, Pn.text_blank, SX.S_cat, hff]
            have : ((p.coln + m.toNat : Nat) : Int) = (p.coln : Int) + m := by omega
            rw [this] <;> rfl
          · have e2 : (p.blank m.toNat false).cur = p.cur ++ List.replicate m.toNat It.sp := rfl
            rw [e2] at e
            obtain ⟨j, hj⟩ : ∃ j, m.toNat = j + 1 := ⟨m.toNat - 1, by omega⟩
            rw [hj, List.replicate_succ', ← List.append_assoc, List.getLast?_append] at e
            cases e
  rintro σ' H2 ⟨p', y10, rfl, pe2, c1, c2, c3, c4, c5, c6, dr2, f2⟩
  refine ⟨_, rfl, pn, _, _, _, rfl, rfl, .of pe2.hp, at1, _, rfl, pn, _, _, _, rfl, rfl, .of pe2.hp, at2, by show 2 ≤ sizeLine; decide, fun pl hpl => ?_⟩
  have f3 : Fr [] H2 (upd H2 pl (.tup [.int p'.line, .int (p'.coln : Int)])) := .new hpl
  have h3 : upd H2 pl (.tup [.int p'.line, .int (p'.coln : Int)]) pl = some (.tup [.int p'.line, .int (p'.coln : Int)]) := upd_same
  have pe3 := pe2.fr' f3 (by simp)
  have dr3 := dr2.fr f3 (by simp)
  generalize upd H2 pl (.tup [.int p'.line, .int (p'.coln : Int)]) = H3 at f3 h3 pe3 dr3
  have l3 : (S p'.text).length + wd.length ≤ 16700000 := by
    rw [SX.S_len]
    omega
  refine ⟨_, rfl, pn, _, _, _, rfl, rfl, .of pe3.hp, at0, _, rfl, _, _, rfl, rfl, sz16 (by omega), _, rfl, pn, _, _, 0, rfl, rfl, pe3.hp, Evl.ixN_nat (j := 0) (by simp [penV]), ?_⟩
  have f4 : Fr [pn] H3 (upd H3 pn (.lst ((penV p').set 0 (V.str (S p'.text ++ wd))))) := .wr pe3.hp mem1
  have h4 : upd H3 pn (.lst ((penV p').set 0 (V.str (S p'.text ++ wd)))) pn = some (.lst [V.str (S p'.text ++ wd), .int p'.line, .int (p'.coln : Int), .bl p'.fresh]) := upd_same
  have dr4 := dr3.put (o := .lst ((penV p').set 0 (V.str (S p'.text ++ wd)))) W.dp.symm
  have h34 := f4.tups _ _ h3
  generalize upd H3 pn (.lst ((penV p').set 0 (V.str (S p'.text ++ wd)))) = H4 at f4 h4 dr4 h34
  refine ⟨_, rfl, pn, _, _, _, rfl, rfl, .of h4, at2, _, rfl, _, rfl, wsz, _, _, rfl, rfl, _, rfl, pn, _, _, 2, rfl, rfl, h4, Evl.ixN_nat (j := 2) (by simp), ?_⟩
  have f5 : Fr [pn] H4 (upd H4 pn (.lst ([V.str (S p'.text ++ wd), .int p'.line, .int (p'.coln : Int), .bl p'.fresh].set 2 (V.int ((p'.coln : Int) + (wd.length : Nat)))))) := .wr h4 mem1
  refine ⟨_, rfl, q (.ref pl) p'.line (p'.coln : Int) (p'.word k wd) _ (.tup (f5.tups _ _ h34) (.cons (.int _) (.cons (.int _) .nil))) ⟨dr4.put W.dp.symm, W.dp, ⟨?_, pe2.ok.word hw c3, fun h => by cases h⟩, by rw [Pn.coln_word]; omega, ?_, (by rw [Pn.toks_word, c2, List.length_append]; have := W.cnt; exact Nat.succ_le_succ this)⟩ (by rw [Pn.toks_word, c2]) rfl rfl c4 ((fr_d f1).trans (f2.trans ((fr_0 f3).trans (fr_w (f4.trans f5)))))⟩
  · rw [upd_same]
    unfold penV
    rw [Pn.coln_word, Pn.text_word, c1]
    have e1 : S p'.text ++ wd = S (p'.text ++ wd.cps.toList) := by
      rw [← SX.S_cat] <;> rfl
    have e2 : ((p'.coln + wd.length : Nat) : Int) = (p'.coln : Int) + (wd.length : Nat) := by omega
    rw [e1, e2] <;> rfl
  · rw [Pn.text_word, List.length_append, str_len]
    have := W.txt
    omega
end
end K10
namespace K10
open PySem PySem.Spec PyProof.Rows L2
open SX (S)
/-! ### the shapes of trees in the heap -/
theorem td_num {H : Hp} {v : V} {p : PyData} {k : Int} (h : TD H v (numD p k)) : ∃ a vp, v = .ref a ∧ H a = some (.tup [.str "num", vp, .int k]) ∧ TD H vp p := by
  obtain ⟨a, xs, rfl, ha, hs⟩ := h.tuple
  cases hs with
  | cons h1 hs => cases h1; cases hs with
    | cons h2 hs => cases hs with
      | cons h3 hs => cases h3; cases hs; exact ⟨_, _, rfl, ha, h2⟩
theorem td_nil {H : Hp} {v : V} {p : PyData} (h : TD H v (nilD p)) : ∃ a vp, v = .ref a ∧ H a = some (.tup [.str "nil", vp]) ∧ TD H vp p := by
  obtain ⟨a, xs, rfl, ha, hs⟩ := h.tuple
  cases hs with
  | cons h1 hs => cases h1; cases hs with
    | cons h2 hs => cases hs; exact ⟨_, _, rfl, ha, h2⟩
theorem td_use {H : Hp} {v : V} {p : PyData} {x : Str} {as : List PyData} (h : TD H v (useD p x as)) : ∃ a vp b us, v = .ref a ∧ H a = some (.tup [.str "use", vp, .str x, .ref b]) ∧ TD H vp p ∧ H b = some (.tup us) ∧ TDs H us as := by
  obtain ⟨a, xs, rfl, ha, hs⟩ := h.tuple
  cases hs with
  | cons h1 hs => cases h1; cases hs with
    | cons h2 hs => cases hs with
      | cons h3 hs => cases h3; cases hs with
        | cons h4 hs => cases hs; obtain ⟨b, us, rfl, hb, hu⟩ := h4.tuple; exact ⟨_, _, _, _, rfl, ha, h2, hb, hu⟩
theorem td_op {H : Hp} {v : V} {p l r : PyData} {s : Str} (h : TD H v (opD p s l r)) : ∃ a vp vl vr, v = .ref a ∧ H a = some (.tup [.str "op", vp, .str s, vl, vr]) ∧ TD H vp p ∧ TD H vl l ∧ TD H vr r := by
  obtain ⟨a, xs, rfl, ha, hs⟩ := h.tuple
  cases hs with
  | cons h1 hs => cases h1; cases hs with
    | cons h2 hs => cases hs with
      | cons h3 hs => cases h3; cases hs with
        | cons h4 hs => cases hs with
          | cons h5 hs => cases hs; exact ⟨_, _, _, _, rfl, ha, h2, h4, h5⟩
theorem td_if {H : Hp} {v : V} {p c y n : PyData} (h : TD H v (ifD p c y n)) : ∃ a vp vc vy vn, v = .ref a ∧ H a = some (.tup [.str "if", vp, vc, vy, vn]) ∧ TD H vp p ∧ TD H vc c ∧ TD H vy y ∧ TD H vn n := by
  obtain ⟨a, xs, rfl, ha, hs⟩ := h.tuple
  cases hs with
  | cons h1 hs => cases h1; cases hs with
    | cons h2 hs => cases hs with
      | cons h3 hs => cases hs with
        | cons h4 hs => cases hs with
          | cons h5 hs => cases hs; exact ⟨_, _, _, _, _, rfl, ha, h2, h3, h4, h5⟩
theorem td_let {H : Hp} {v : V} {p w b : PyData} {x : Str} (h : TD H v (letD p x w b)) : ∃ a vp vw vb, v = .ref a ∧ H a = some (.tup [.str "let", vp, .str x, vw, vb]) ∧ TD H vp p ∧ TD H vw w ∧ TD H vb b := by
  obtain ⟨a, xs, rfl, ha, hs⟩ := h.tuple
  cases hs with
  | cons h1 hs => cases h1; cases hs with
    | cons h2 hs => cases hs with
      | cons h3 hs => cases h3; cases hs with
        | cons h4 hs => cases hs with
          | cons h5 hs => cases hs; exact ⟨_, _, _, _, rfl, ha, h2, h4, h5⟩
theorem td_case {H : Hp} {v : V} {p t e b : PyData} {h l : Str} (hh : TD H v (caseD p t e h l b)) : ∃ a vp vt ve vb, v = .ref a ∧ H a = some (.tup [.str "case", vp, vt, ve, .str h, .str l, vb]) ∧ TD H vp p ∧ TD H vt t ∧ TD H ve e ∧ TD H vb b := by
  obtain ⟨a, xs, rfl, ha, hs⟩ := hh.tuple
  cases hs with
  | cons h1 hs => cases h1; cases hs with
    | cons h2 hs => cases hs with
      | cons h3 hs => cases hs with
        | cons h4 hs => cases hs with
          | cons h5 hs => cases h5; cases hs with
            | cons h6 hs => cases h6; cases hs with
              | cons h7 hs => cases hs; exact ⟨_, _, _, _, _, rfl, ha, h2, h3, h4, h7⟩
/-- how near a tree's outermost form holds together -/
inductive Lev : PyData → Nat → Prop where
  | num {p : PyData} {k : Int} : Lev (numD p k) 8
  | nil {p : PyData} : Lev (nilD p) 8
  | use0 {p : PyData} {x : Str} : Lev (useD p x []) 8
  | use {p : PyData} {x : Str} {a : PyData} {as : List PyData} : Lev (useD p x (a :: as)) 7
  | op {p l r : PyData} {s : Str} : Lev (opD p s l r) (levO s)
  | ite {p c y n : PyData} : Lev (ifD p c y n) 0
  | lt {p w b : PyData} {x : Str} : Lev (letD p x w b) 0
  | cas {p t e b : PyData} {h l : Str} : Lev (caseD p t e h l b) 0
def spLevel : Sp := fun vs H Q _ => ∃ (v : V) (d : PyData) (n : Nat), vs = [v] ∧ TD H v d ∧ Tr n d ∧ n ≤ 5 ∧ ∀ (lev : Nat) (H' : Hp), Lev d lev → Fr [] H H' → Q (.int (lev : Int)) H'
def levK : List (Key × V) := [(.inr "==", .int 3), (.inr "<", .int 3), (.inr ":", .int 4), (.inr "+", .int 5), (.inr "-", .int 5)]
theorem lev_get : ∀ s ∈ opsS, (valV (mergeK [] levK) (.inr s)).getD (.int 6) = .int ((levO s : Nat) : Int) := by decide +kernel
section
variable {P : Program} {w : World} {K : PySem.W.Frag} {mg : Str → Option Value} {base : Heap} {f : Addr} {fd : FuncData} {kA sA CL CR eA : Addr}
theorem plD_lay (l c : Int) : (plD l c).canLay0 = true ∧ (plD l c).depth ≤ 2 := by
  constructor
  · simp [plD, PyData.canLay0, PyData.canLayAll0]
  · simp [plD, PyData.depth, PyData.depthAll]
theorem op_strOk : ∀ s ∈ opsS, PyData.strOk s = true := by decide +kernel
theorem tr_lays {n : Nat} : ∀ {l : List PyData}, (∀ a ∈ l, PyData.canLay0 a = true ∧ a.depth ≤ n) → PyData.canLayAll0 l = true ∧ PyData.depthAll l ≤ n
  | [], _ => ⟨rfl, Nat.zero_le _⟩
  | a :: l, h => by
    have h1 := h a List.mem_cons_self
    have h2 := tr_lays fun b hb => h b (List.mem_cons_of_mem _ hb)
    constructor
    · simp [PyData.canLayAll0, h1.1, h2.1]
    · simp only [PyData.depthAll]
      omega
theorem lay5 {l : List PyData} {n : Nat} (h : PyData.canLayAll0 l = true ∧ PyData.depthAll l ≤ n) : PyData.canLay0 (.tuple l) = true ∧ (PyData.tuple l).depth ≤ n + 1 := by
  constructor
  · simpa [PyData.canLay0] using h.1
  · simp only [PyData.depth]
    omega
theorem str_lay {x : Str} {n : Nat} (h : PyData.strOk x = true) : (PyData.str x).canLay0 = true ∧ (PyData.str x).depth ≤ n + 1 := by
  constructor
  · simpa [PyData.canLay0] using h
  · simp [PyData.depth]
theorem tr_lay {n : Nat} {d : PyData} (h : Tr n d) : d.canLay0 = true ∧ d.depth ≤ 2 * n + 2 := by
  induction h with
  | num hk =>
    have e : PyData.strOk "num" = true := by decide +kernel
    refine ⟨by simp [numD, plD, PyData.canLay0, PyData.canLayAll0, e], ?_⟩
    simp only [numD, plD, PyData.depth, PyData.depthAll]
    omega
  | nil =>
    have e : PyData.strOk "nil" = true := by decide +kernel
    refine ⟨by simp [nilD, plD, PyData.canLay0, PyData.canLayAll0, e], ?_⟩
    simp only [nilD, plD, PyData.depth, PyData.depthAll]
    omega
  | use hx hl has ih =>
    have e : PyData.strOk "use" = true := by decide +kernel
    have hh := tr_lays ih
    have h2 := hh.2
    refine ⟨by simp [useD, plD, PyData.canLay0, PyData.canLayAll0, e, nm_strOk hx, hh.1], ?_⟩
    simp only [useD, plD, PyData.depth, PyData.depthAll]
    omega
  | op hs _ _ i1 i2 =>
    have e : PyData.strOk "op" = true := by decide +kernel
    have h1 := i1.2
    have h2 := i2.2
    refine ⟨by simp [opD, plD, PyData.canLay0, PyData.canLayAll0, e, op_strOk _ hs, i1.1, i2.1], ?_⟩
    simp only [opD, plD, PyData.depth, PyData.depthAll]
    omega
  | ite _ _ _ i1 i2 i3 =>
    have e : PyData.strOk "if" = true := by decide +kernel
    have h1 := i1.2
    have h2 := i2.2
    have h3 := i3.2
    refine ⟨by simp [ifD, plD, PyData.canLay0, PyData.canLayAll0, e, i1.1, i2.1, i3.1], ?_⟩
    simp only [ifD, plD, PyData.depth, PyData.depthAll]
    omega
  | lt hx _ _ i1 i2 =>
    have e : PyData.strOk "let" = true := by decide +kernel
    have h1 := i1.2
    have h2 := i2.2
    refine ⟨by simp [letD, plD, PyData.canLay0, PyData.canLayAll0, e, nm_strOk hx, i1.1, i2.1], ?_⟩
    simp only [letD, plD, PyData.depth, PyData.depthAll]
    omega
  | cas x1 x2 _ _ _ i1 i2 i3 =>
    have e : PyData.strOk "case" = true := by decide +kernel
    have h1 := i1.2
    have h2 := i2.2
    have h3 := i3.2
    refine ⟨by simp [caseD, plD, PyData.canLay0, PyData.canLayAll0, e, nm_strOk x1, nm_strOk x2, i1.1, i2.1, i3.1], ?_⟩
    simp only [caseD, plD, PyData.depth, PyData.depthAll]
    omega
theorem sc_LawLevel : FnScope ["tree"] ["tree"] (defScope sLawLevel) := ⟨rfl, rfl, rfl, by decide +kernel, rfl, by decide +kernel, by decide +kernel⟩
theorem ok_level (F : FnP K "_law_level" "_law_level" sLawLevel [] f fd) : FnOk P w K mg base CX0 1 f fd ["tree"] spLevel := by
  refine F.ok sc_LawLevel (fun vs H Q E h => ?_) (fun cdv A outer s H vs Q E hr h => ?_)
  · obtain ⟨v, d, n, rfl, _⟩ := h
    rfl
  obtain ⟨v, d, n, rfl, td, tr, hn, q⟩ := h
  have ly := tr_lay tr
  have hu := hu_of hr
  refine ⟨_, PSs.nox (pss_cons (ps_if (pt_cmpR (opIn K) (pe_ix (ixT K) (pv 0) pe_int (fun _ _ => rfl)) (pe_tup (pa_cons pe_str (pa_cons pe_str (pa_cons pe_str pa_nil)))) (by rfl))
    (pss_one (ps_ret pe_int))
    pss_nil)
    (pss_cons (ps_if (pt_cmpR op_eq (pe_ix (ixT K) (pv 0) pe_int (fun _ _ => rfl)) pe_str (nomark _))
    (pss_one (ps_ret (pe_dget2 hu (pe_disp (pps_cons pe_str pe_int (pps_cons pe_str pe_int (pps_cons pe_str pe_int (pps_cons pe_str pe_int (pps_cons pe_str pe_int pps_nil))))) (by rfl) (by rfl) (fun z => by cases z) (by decide)) (pe_ix (ixT K) (pv 0) pe_int (fun _ _ => rfl)) pe_int ⟨by rfl, by rfl, by rfl, by rfl⟩)))
    pss_nil)
    (pss_one (ps_ret (pe_ifExp (PW.pt (pw_and (pt_cmpR op_eq (pe_ix (ixT K) (pv 0) pe_int (fun _ _ => rfl)) pe_str (nomark _)) (pw_and1 (pt_cmpR (opNeD K hr.units) (pe_ix (ixT K) (pv 0) pe_int (fun _ _ => rfl)) (pe_tup pa_nil) (nomark _))))) pe_int pe_int))))), ?_⟩
  cases tr with
  | num hk =>
    obtain ⟨a, vp, rfl, ha, hp⟩ := td_num td
    refine ⟨_, rfl, a, _, _, _, rfl, rfl, .of ha, at0, by show 3 ≤ sizeLine; decide, fun T hT => ⟨T, _, rfl, .inr (.of upd_same), rfl, rfl, _, rfl, ?_⟩⟩
    have f1 : Fr [] H (upd H T (.tup [.str "if", .str "let", .str "case"])) := .new hT
    have h0 : inV (.str "num") [.str "if", .str "let", .str "case"] = false := by decide +kernel
    rw [if_neg (by decide : ¬ false = true), h0]
    refine iteF ?_
    refine ⟨_, rfl, a, _, _, _, rfl, rfl, .of (f1.at ha (by simp)), at0, rfl, _, rfl, ?_⟩
    have h1 : decide (V.str "num" = V.str "op") = false := by decide +kernel
    rw [h1]
    refine iteF ?_
    refine ⟨_, rfl, a, _, _, _, rfl, rfl, .of (f1.at ha (by simp)), at0, rfl, _, rfl, ?_⟩
    have h2 : decide (V.str "num" = V.str "use") = false := by decide +kernel
    rw [h2]
    exact iteF (iteF (q 8 _ .num f1))
  | nil =>
    obtain ⟨a, vp, rfl, ha, hp⟩ := td_nil td
    refine ⟨_, rfl, a, _, _, _, rfl, rfl, .of ha, at0, by show 3 ≤ sizeLine; decide, fun T hT => ⟨T, _, rfl, .inr (.of upd_same), rfl, rfl, _, rfl, ?_⟩⟩
    have f1 : Fr [] H (upd H T (.tup [.str "if", .str "let", .str "case"])) := .new hT
    have h0 : inV (.str "nil") [.str "if", .str "let", .str "case"] = false := by decide +kernel
    rw [if_neg (by decide : ¬ false = true), h0]
    refine iteF ?_
    refine ⟨_, rfl, a, _, _, _, rfl, rfl, .of (f1.at ha (by simp)), at0, rfl, _, rfl, ?_⟩
    have h1 : decide (V.str "nil" = V.str "op") = false := by decide +kernel
    rw [h1]
    refine iteF ?_
    refine ⟨_, rfl, a, _, _, _, rfl, rfl, .of (f1.at ha (by simp)), at0, rfl, _, rfl, ?_⟩
    have h2 : decide (V.str "nil" = V.str "use") = false := by decide +kernel
    rw [h2]
    exact iteF (iteF (q 8 _ .nil f1))
  | @use n' pl pc x as hx hl has =>
    obtain ⟨a, vp, b, us, rfl, ha, hp, hb, hu'⟩ := td_use td
    refine ⟨_, rfl, a, _, _, _, rfl, rfl, .of ha, at0, by show 3 ≤ sizeLine; decide, fun T hT => ⟨T, _, rfl, .inr (.of upd_same), rfl, rfl, _, rfl, ?_⟩⟩
    have f1 : Fr [] H (upd H T (.tup [.str "if", .str "let", .str "case"])) := .new hT
    have h0 : inV (.str "use") [.str "if", .str "let", .str "case"] = false := by decide +kernel
    rw [if_neg (by decide : ¬ false = true), h0]
    refine iteF ?_
    refine ⟨_, rfl, a, _, _, _, rfl, rfl, .of (f1.at ha (by simp)), at0, rfl, _, rfl, ?_⟩
    have h1 : decide (V.str "use" = V.str "op") = false := by decide +kernel
    rw [h1]
    refine iteF ?_
    refine ⟨_, rfl, a, _, _, _, rfl, rfl, .of (f1.at ha (by simp)), at0, rfl, _, rfl, ?_⟩
    have h2 : decide (V.str "use" = V.str "use") = true := by decide +kernel
    rw [h2]
    refine iteT ?_
    refine ⟨_, rfl, a, _, _, _, rfl, rfl, .of (f1.at ha (by simp)), atI_nat (j := 3) rfl, by show 0 ≤ sizeLine; decide, fun T2 hT2 => ?_⟩
    have f2 : Fr [] H (upd (upd H T (.tup [.str "if", .str "let", .str "case"])) T2 (.tup [])) := f1.trans (.new hT2)
    have hh := tr_lays fun a ha => tr_lay (has a ha)
    have lt := lay5 hh
    refine ⟨.tuple _, .tuple [], ((TD.tup hb hu').mono f2.tups).dp, .tup (.inl (.inl upd_same)) .nil, shaped_of lt.1 (by omega), by decide +kernel, _, rfl, ?_⟩
    cases as with
    | nil =>
      have e : PyData.eqv (.tuple []) (.tuple []) = true := by decide +kernel
      rw [e]
      exact iteF (q 8 _ .use0 f2)
    | cons y r =>
      have e : PyData.eqv (.tuple (y :: r)) (.tuple []) = false := by simp [PyData.eqv, PyData.eqvAll]
      rw [e]
      exact iteT (q 7 _ .use f2)
  | @op n' pl pc sg dl dr hs l r =>
    obtain ⟨a, vp, vl, vr, rfl, ha, hp, hl, hr'⟩ := td_op td
    refine ⟨_, rfl, a, _, _, _, rfl, rfl, .of ha, at0, by show 3 ≤ sizeLine; decide, fun T hT => ⟨T, _, rfl, .inr (.of upd_same), rfl, rfl, _, rfl, ?_⟩⟩
    have f1 : Fr [] H (upd H T (.tup [.str "if", .str "let", .str "case"])) := .new hT
    have h0 : inV (.str "op") [.str "if", .str "let", .str "case"] = false := by decide +kernel
    rw [if_neg (by decide : ¬ false = true), h0]
    refine iteF ?_
    refine ⟨_, rfl, a, _, _, _, rfl, rfl, .of (f1.at ha (by simp)), at0, rfl, _, rfl, ?_⟩
    have h1 : decide (V.str "op" = V.str "op") = true := by decide +kernel
    rw [h1]
    refine iteT ?_
    refine fun p hp => ?_
    have f2 : Fr [] H (upd (upd (upd H T (.tup [.str "if", .str "let", .str "case"])) p (.dK [])) p (.dK (mergeK [] levK))) := (f1.trans (.new hp)).put (f1.free hp (by simp))
    refine ⟨upd_same, levK, rfl, by decide, _, rfl, .inl ⟨_, .inl upd_same⟩, _, rfl, a, _, _, _, rfl, rfl, .of (f2.at ha (by simp)), at2, _, .inl ⟨_, .inr sg, .inl upd_same, rfl, rfl⟩, ?_⟩
    have e := lev_get sg hs
    show Q ((valV (mergeK [] levK) (.inr sg)).getD (.int 6)) _
    rw [e]
    exact q _ _ .op f2
  | ite c y e =>
    obtain ⟨a, vp, vc, vy, vn, rfl, ha, hp, h2, h3, h4⟩ := td_if td
    refine ⟨_, rfl, a, _, _, _, rfl, rfl, .of ha, at0, by show 3 ≤ sizeLine; decide, fun T hT => ⟨T, _, rfl, .inr (.of upd_same), rfl, rfl, _, rfl, ?_⟩⟩
    have f1 : Fr [] H (upd H T (.tup [.str "if", .str "let", .str "case"])) := .new hT
    have h0 : inV (.str "if") [.str "if", .str "let", .str "case"] = true := by decide +kernel
    rw [if_neg (by decide : ¬ false = true), h0]
    exact iteT (q 0 _ .ite f1)
  | lt hx w b =>
    obtain ⟨a, vp, vw, vb, rfl, ha, hp, h2, h3⟩ := td_let td
    refine ⟨_, rfl, a, _, _, _, rfl, rfl, .of ha, at0, by show 3 ≤ sizeLine; decide, fun T hT => ⟨T, _, rfl, .inr (.of upd_same), rfl, rfl, _, rfl, ?_⟩⟩
    have f1 : Fr [] H (upd H T (.tup [.str "if", .str "let", .str "case"])) := .new hT
    have h0 : inV (.str "let") [.str "if", .str "let", .str "case"] = true := by decide +kernel
    rw [if_neg (by decide : ¬ false = true), h0]
    exact iteT (q 0 _ .lt f1)
  | cas h l t e b =>
    obtain ⟨a, vp, vt, ve, vb, rfl, ha, hp, h2, h3, h4⟩ := td_case td
    refine ⟨_, rfl, a, _, _, _, rfl, rfl, .of ha, at0, by show 3 ≤ sizeLine; decide, fun T hT => ⟨T, _, rfl, .inr (.of upd_same), rfl, rfl, _, rfl, ?_⟩⟩
    have f1 : Fr [] H (upd H T (.tup [.str "if", .str "let", .str "case"])) := .new hT
    have h0 : inV (.str "case") [.str "if", .str "let", .str "case"] = true := by decide +kernel
    rw [if_neg (by decide : ¬ false = true), h0]
    exact iteT (q 0 _ .cas f1)
end
end K10
namespace K10
open PySem PySem.Spec PyProof.Rows L2
open SX (S)
open C8 (Mak)
/-! ### subtrees, depth -/
def spSubs : Sp := fun vs H Q _ => ∃ (v : V) (d : PyData) (n : Nat), vs = [v] ∧ TD H v d ∧ Tr (n + 1) d ∧ ∀ (p : Addr) (xs : List V) (ss : List PyData) (H' : Hp), H p = none → H' p = some (.lst xs) → TDs H' xs ss → ss.length ≤ 3 → (∀ s ∈ ss, Tr n s) → Fr [] H H' → Q (.ref p) H'
section
variable {P : Program} {w : World} {K : PySem.W.Frag} {mg : Str → Option Value} {base : Heap} {f : Addr} {fd : FuncData} {kA0 sA CL CR eA : Addr}
theorem sub_op {σ : L2.St} {H : Hp} {Q : Bool → Hp → Prop} {x : Str} (h1 : σ[1]? = some (some (.str x))) (q : ∀ H', Fr [] H H' → Q (decide (x ∈ (["op", "let"] : List Str))) H') : tTest (tOp (rIn K false) (tVar 1) (tTup (tCons (tC (.str "op")) (tCons (tC (.str "let")) tNil)))) σ H Q := by
  refine ⟨_, h1, by show 2 ≤ sizeLine; decide, fun T hT => ⟨T, _, rfl, .inr (.of upd_same), rfl, rfl, _, rfl, ?_⟩⟩
  have e : inV (.str x) [.str "op", .str "let"] = decide (x ∈ (["op", "let"] : List Str)) := inV_strs x ["op", "let"]
  rw [if_neg (by decide : ¬ false = true), e]
  exact q _ (.new hT)
theorem sub_end {H H1 : Hp} {Q : VK} {l : Addr} {xs : List V} {ss : List PyData} {n : Nat} (f1 : Fr [] H H1) (hl : H1 l = none) (td : TDs H xs ss) (h3 : ss.length ≤ 3) (htr : ∀ s ∈ ss, Tr n s)
    (q : ∀ (p : Addr) (xs : List V) (ss : List PyData) (H' : Hp), H p = none → H' p = some (.lst xs) → TDs H' xs ss → ss.length ≤ 3 → (∀ s ∈ ss, Tr n s) → Fr [] H H' → Q (.ref p) H') : Q (.ref l) (upd H1 l (.lst xs)) := by
  have f := f1.trans (Fr.new (T := []) (o := .lst xs) hl)
  exact q l xs ss _ (f1.free hl (by simp)) upd_same (td.mono f.tups) h3 htr f
theorem sc_Subtrees : FnScope ["tree", "word"] ["tree"] (defScope sSubtrees) := ⟨rfl, rfl, rfl, by decide +kernel, rfl, by decide +kernel, by decide +kernel⟩
theorem ok_subs (T : Facts K mg kA0 sA CL CR eA) (F : FnP K "subtrees" "subtrees" sSubtrees [] f fd) : FnOk P w K mg base CX0 1 f fd ["tree"] spSubs := by
  refine F.ok sc_Subtrees (fun vs H Q E h => ?_) (fun cdv A outer s H vs Q E hr h => ?_)
  · obtain ⟨v, d, n, rfl, _⟩ := h
    rfl
  obtain ⟨v, d, n, rfl, td, tr, q⟩ := h
  refine ⟨_, PSs.nox (pss_cons (ps_set (i := 1) sc_Subtrees.nd rfl (.inl rfl) (pe_ix (ixT K) (pv 0) pe_int (fun _ _ => rfl)))
    (pss_cons (ps_if (pt_cmpR op_eq (pv 1) pe_str (nomark _))
    (pss_one (ps_ret (pe_callTy (clList K) (by rfl) T.f_list boot_list (pa_cons (pe_ix (ixT K) (pv 0) pe_int (fun _ _ => rfl)) pa_nil))))
    pss_nil)
    (pss_cons (ps_if (pt_cmpR (opIn K) (pv 1) (pe_tup (pa_cons pe_str (pa_cons pe_str pa_nil))) (by rfl))
    (pss_one (ps_ret (pe_callTy (clList K) (by rfl) T.f_list boot_list (pa_cons (pe_slice (slT K) (pv 0) (po_some pe_int) (po_some pe_int)) pa_nil))))
    pss_nil)
    (pss_cons (ps_if (pt_cmpR op_eq (pv 1) pe_str (nomark _))
    (pss_one (ps_ret (pe_callTy (clList K) (by rfl) T.f_list boot_list (pa_cons (pe_slice (slT K) (pv 0) (po_some pe_int) (po_some pe_int)) pa_nil))))
    pss_nil)
    (pss_cons (ps_if (pt_cmpR op_eq (pv 1) pe_str (nomark _))
    (pss_one (ps_ret (pe_lst (pa_cons (pe_ix (ixT K) (pv 0) pe_int (fun _ _ => rfl)) (pa_cons (pe_ix (ixT K) (pv 0) pe_int (fun _ _ => rfl)) (pa_cons (pe_ix (ixT K) (pv 0) pe_int (fun _ _ => rfl)) pa_nil))))))
    pss_nil)
    (pss_one (ps_ret (pe_lst pa_nil)))))))), ?_⟩
  cases tr with
  | num hk =>
    obtain ⟨a, vp, rfl, ha, hp⟩ := td_num td
    refine ⟨_, rfl, a, _, _, _, rfl, rfl, .of ha, at0, _, rfl, rfl, _, rfl, ?_⟩
    rw [show decide (V.str "num" = V.str "use") = false by decide +kernel]
    refine iteF (sub_op rfl fun H1 f1 => ?_)
    rw [show decide (("num" : Str) ∈ (["op", "let"] : List Str)) = false by decide +kernel]
    refine iteF ⟨_, rfl, rfl, _, rfl, ?_⟩
    rw [show decide (V.str "num" = V.str "if") = false by decide +kernel]
    refine iteF ⟨_, rfl, rfl, _, rfl, ?_⟩
    rw [show decide (V.str "num" = V.str "case") = false by decide +kernel]
    exact iteF ⟨by show 0 ≤ sizeLine; decide, fun l hl => sub_end f1 hl .nil (by decide) (by simp) q⟩
  | nil =>
    obtain ⟨a, vp, rfl, ha, hp⟩ := td_nil td
    refine ⟨_, rfl, a, _, _, _, rfl, rfl, .of ha, at0, _, rfl, rfl, _, rfl, ?_⟩
    rw [show decide (V.str "nil" = V.str "use") = false by decide +kernel]
    refine iteF (sub_op rfl fun H1 f1 => ?_)
    rw [show decide (("nil" : Str) ∈ (["op", "let"] : List Str)) = false by decide +kernel]
    refine iteF ⟨_, rfl, rfl, _, rfl, ?_⟩
    rw [show decide (V.str "nil" = V.str "if") = false by decide +kernel]
    refine iteF ⟨_, rfl, rfl, _, rfl, ?_⟩
    rw [show decide (V.str "nil" = V.str "case") = false by decide +kernel]
    exact iteF ⟨by show 0 ≤ sizeLine; decide, fun l hl => sub_end f1 hl .nil (by decide) (by simp) q⟩
  | @use n' pl pc x as hx hl has =>
    obtain ⟨a, vp, b, us, rfl, ha, hp, hb, hu'⟩ := td_use td
    refine ⟨_, rfl, a, _, _, _, rfl, rfl, .of ha, at0, _, rfl, rfl, _, rfl, ?_⟩
    rw [show decide (V.str "use" = V.str "use") = true by decide +kernel]
    exact iteT ⟨_, rfl, a, _, _, _, rfl, rfl, .of ha, atI_nat (j := 3) rfl, b, us, rfl, .inr (.of hb), fun l hl' => sub_end (Fr.refl _) hl' hu' hl has q⟩
  | @op n' pl pc sg dl dr hs l r =>
    obtain ⟨a, vp, vl, vr, rfl, ha, hp, hl, hr'⟩ := td_op td
    refine ⟨_, rfl, a, _, _, _, rfl, rfl, .of ha, at0, _, rfl, rfl, _, rfl, ?_⟩
    rw [show decide (V.str "op" = V.str "use") = false by decide +kernel]
    refine iteF (sub_op rfl fun H1 f1 => ?_)
    rw [show decide (("op" : Str) ∈ (["op", "let"] : List Str)) = true by decide +kernel]
    refine iteT ⟨_, rfl, _, rfl, _, rfl, a, _, rfl, .of (f1.tups _ _ ha), (show ¬ (HT.sIx 5 0 (some 3) = 0 ∧ HT.sIx 5 5 (some 5) = 5) by decide), fun u hu => ⟨u, _, rfl, .inr (.of upd_same), fun l' hl' => ?_⟩⟩
    exact sub_end (ss := [dl, dr]) (f1.trans (Fr.new (T := []) hu)) hl' (.cons hl (.cons hr' .nil)) (by simp) (fun s hs => by
      simp only [List.mem_cons, List.not_mem_nil, or_false] at hs
      rcases hs with rfl | rfl
      · exact l
      · exact r) q
  | @ite n' pl pc c y e hc hy he =>
    obtain ⟨a, vp, vc, vy, vn, rfl, ha, hp, h2, h3, h4⟩ := td_if td
    refine ⟨_, rfl, a, _, _, _, rfl, rfl, .of ha, at0, _, rfl, rfl, _, rfl, ?_⟩
    rw [show decide (V.str "if" = V.str "use") = false by decide +kernel]
    refine iteF (sub_op rfl fun H1 f1 => ?_)
    rw [show decide (("if" : Str) ∈ (["op", "let"] : List Str)) = false by decide +kernel]
    refine iteF ⟨_, rfl, rfl, _, rfl, ?_⟩
    rw [show decide (V.str "if" = V.str "if") = true by decide +kernel]
    refine iteT ⟨_, rfl, _, rfl, _, rfl, a, _, rfl, .of (f1.tups _ _ ha), (show ¬ (HT.sIx 5 0 (some 2) = 0 ∧ HT.sIx 5 5 (some 5) = 5) by decide), fun u hu => ⟨u, _, rfl, .inr (.of upd_same), fun l' hl' => ?_⟩⟩
    exact sub_end (ss := [c, y, e]) (f1.trans (Fr.new (T := []) hu)) hl' (.cons h2 (.cons h3 (.cons h4 .nil))) (by simp) (fun s hs => by
      simp only [List.mem_cons, List.not_mem_nil, or_false] at hs
      rcases hs with rfl | rfl | rfl
      · exact hc
      · exact hy
      · exact he) q
  | @lt n' pl pc x dw db hx hw hb =>
    obtain ⟨a, vp, vw, vb, rfl, ha, hp, h2, h3⟩ := td_let td
    refine ⟨_, rfl, a, _, _, _, rfl, rfl, .of ha, at0, _, rfl, rfl, _, rfl, ?_⟩
    rw [show decide (V.str "let" = V.str "use") = false by decide +kernel]
    refine iteF (sub_op rfl fun H1 f1 => ?_)
    rw [show decide (("let" : Str) ∈ (["op", "let"] : List Str)) = true by decide +kernel]
    refine iteT ⟨_, rfl, _, rfl, _, rfl, a, _, rfl, .of (f1.tups _ _ ha), (show ¬ (HT.sIx 5 0 (some 3) = 0 ∧ HT.sIx 5 5 (some 5) = 5) by decide), fun u hu => ⟨u, _, rfl, .inr (.of upd_same), fun l' hl' => ?_⟩⟩
    exact sub_end (ss := [dw, db]) (f1.trans (Fr.new (T := []) hu)) hl' (.cons h2 (.cons h3 .nil)) (by simp) (fun s hs => by
      simp only [List.mem_cons, List.not_mem_nil, or_false] at hs
      rcases hs with rfl | rfl
      · exact hw
      · exact hb) q
  | @cas n' pl pc t e hh ll b h1 h2 ht he hb =>
    obtain ⟨a, vp, vt, ve, vb, rfl, ha, hp, g2, g3, g4⟩ := td_case td
    refine ⟨_, rfl, a, _, _, _, rfl, rfl, .of ha, at0, _, rfl, rfl, _, rfl, ?_⟩
    rw [show decide (V.str "case" = V.str "use") = false by decide +kernel]
    refine iteF (sub_op rfl fun H1 f1 => ?_)
    rw [show decide (("case" : Str) ∈ (["op", "let"] : List Str)) = false by decide +kernel]
    refine iteF ⟨_, rfl, rfl, _, rfl, ?_⟩
    rw [show decide (V.str "case" = V.str "if") = false by decide +kernel]
    refine iteF ⟨_, rfl, rfl, _, rfl, ?_⟩
    rw [show decide (V.str "case" = V.str "case") = true by decide +kernel]
    have ha1 := f1.tups _ _ ha
    refine iteT ⟨_, rfl, a, _, _, _, rfl, rfl, .of ha1, at2, _, rfl, a, _, _, _, rfl, rfl, .of ha1, atI_nat (j := 3) rfl, _, rfl, a, _, _, _, rfl, rfl, .of ha1, atI_nat (j := 6) rfl, by show 3 ≤ sizeLine; decide, fun l' hl' => ?_⟩
    exact sub_end (ss := [t, e, b]) f1 hl' (.cons g2 (.cons g3 (.cons g4 .nil))) (by simp) (fun s hs => by
      simp only [List.mem_cons, List.not_mem_nil, or_false] at hs
      rcases hs with rfl | rfl | rfl
      · exact ht
      · exact he
      · exact hb) q
end
end K10
namespace K10
open PySem PySem.Spec PyProof.Rows L2
open SX (S)
open C8 (Mak)
def spDepth : Sp := fun vs H Q _ => ∃ (v : V) (d : PyData), vs = [v] ∧ TD H v d ∧ Tr 5 d ∧ ∀ (k : Nat) (H' : Hp), k ≤ 5 → Fr [] H H' → Q (.int (k : Int)) H'
theorem tr0 {d : PyData} (h : Tr 0 d) : False := by cases h
theorem trs_shaped {m : Nat} (hm : m ≤ 5) {ds : List PyData} (h : ∀ d ∈ ds, Tr m d) : SeqAt.shaped (.list ds) = true := by
  have t := tr_lays fun a ha => tr_lay (h a ha)
  exact shaped_of (by simpa [PyData.canLay0] using t.1) (by have := t.2; simp only [PyData.depth]; omega)
section
variable {P : Program} {w : World} {K : PySem.W.Frag} {mg : Str → Option Value} {base : Heap} {f : Addr} {fd : FuncData} {kA0 sA CL CR eA : Addr}
theorem sc_Depth : FnScope ["tree", "found", "level", "above", "one"] ["tree"] (defScope sDepth) := ⟨rfl, rfl, rfl, by decide +kernel, rfl, by decide +kernel, by decide +kernel⟩
theorem ok_depth (T : Facts K mg kA0 sA CL CR eA) (c_subtrees : Cal P w K mg base "subtrees" 1 ["tree"] spSubs) (F : FnP K "depth" "depth" sDepth [] f fd) : FnOk P w K mg base CX0 2 f fd ["tree"] spDepth := by
  refine F.ok sc_Depth (fun vs H Q E h => ?_) (fun cdv A outer s H vs Q E hr h => ?_)
  · obtain ⟨v, d, rfl, _⟩ := h
    rfl
  obtain ⟨v, d, rfl, td, tr, q⟩ := h
  refine ⟨_, PSs.nox (pss_cons (ps_set (i := 1) sc_Depth.nd rfl (.inl rfl) pe_int)
    (pss_cons (ps_set (i := 2) sc_Depth.nd rfl (.inl rfl) (pe_lst (pa_cons (pv 0) pa_nil)))
    (pss_cons (ps_while PassesOwn.never (pt_cmpR (opNeD K hr.units) (pv 2) (pe_lst pa_nil) (nomark _))
    (pss_cons (ps_aug (i := 1) sc_Depth.nd rfl (.inl rfl) pe_int ip_add)
      (pss_one (ps_setLc2 (i := 2) (own := [("above", 3), ("one", 4)]) (vs1 := [4]) (by rfl) sc_Depth.nd rfl rfl (sw_true rfl rfl rfl (by decide +kernel)) (piL K (pv 2)) (blkOk_by (N := ["tree", "found", "level", "above", "one"]) (sc := defScope sDepth) (by decide +kernel)) (by decide)
        (fun _ _ _ _ _ => (pg_name (i := 3) sc_Depth.nd rfl (.inl rfl))) (fun _ _ _ _ _ => pts_nil) (fun _ _ _ _ _ => (piL K (pe_c c_subtrees (hr.mono (by omega)) (by rfl) (pa_cons (pv 3) pa_nil)))) (fun _ _ _ _ _ => (pg_name (i := 4) sc_Depth.nd rfl (.inl rfl))) (fun _ _ _ _ _ => pts_nil) (fun _ _ _ _ _ => (pv 4))))))
    (pss_one (ps_ret (pv 1)))))), ?_⟩
  refine ⟨_, rfl, by show 1 ≤ sizeLine; decide, fun l0 hl0 => ?_⟩
  have f0 : Fr [] H (upd H l0 (.lst [v])) := .new hl0
  refine ⟨fun mm σ H' => ∃ (k : Nat) (l : Addr) (vs : List V) (ds : List PyData), σ = [some v, some (.int (k : Int)), some (.ref l), none, none] ∧ H' l = some (.lst vs) ∧ TDs H' vs ds ∧ (∀ d ∈ ds, Tr mm d) ∧ k + mm = 5 ∧ ds.length ≤ 3 ^ k ∧ Fr [] H H',
    ⟨5, 0, l0, [v], [d], rfl, upd_same, .cons (td.mono f0.tups) .nil, fun x hx => by rw [List.mem_singleton.mp hx]; exact tr, rfl, by simp, f0⟩, ?_⟩
  rintro mm σ H1 ⟨k, l, vs, ds, rfl, hl, tds, htr, hk, hlen, f1⟩
  refine ⟨_, rfl, by show 0 ≤ sizeLine; decide, fun e0 he0 => ?_⟩
  have f2 : Fr [] H1 (upd H1 e0 (.lst [])) := .new he0
  have hl2 := f2.at hl (by simp)
  have tds2 := tds.mono f2.tups
  refine ⟨.list ds, .list [], .lst (.of hl2) tds2.dp, .lst (.of upd_same) .nil, trs_shaped (by omega) htr, by decide +kernel, _, rfl, ?_⟩
  rw [eqv_nil]
  generalize upd H1 e0 (.lst []) = H2 at f2 hl2 tds2
  have f02 := f1.trans f2
  have p5 : 3 ^ k ≤ 3 ^ 5 := Nat.pow_le_pow_right (by decide) (by omega)
  have ll := tds.len
  by_cases hds : ds = []
  · rw [decide_eq_true hds]
    exact iteF ⟨_, rfl, q k H2 (by omega) f02⟩
  rw [decide_eq_false hds]
  obtain ⟨m, rfl⟩ : ∃ m, mm = m + 1 := by
    cases mm with
    | zero =>
      obtain ⟨x, r, rfl⟩ := List.exists_cons_of_ne_nil hds
      exact (tr0 (htr x List.mem_cons_self)).elim
    | succ m => exact ⟨m, rfl⟩
  refine iteT ⟨_, fun σ' H' h => ⟨m, Nat.lt_succ_self _, h⟩, ?_⟩
  refine ⟨_, rfl, _, _, rfl, rfl, ?_⟩
  refine ⟨_, rfl, l, rfl, ⟨_, .of hl2⟩, fun D hD => ?_⟩
  have nDl : l ≠ D := ne_new hl2 hD
  have fD : Fr [] H2 (upd H2 D (.lst [])) := .new hD
  refine ⟨fun i n H' => n = vs.length - i ∧ i ≤ vs.length ∧ ∃ (acc : List V) (es : List PyData), H' D = some (.lst acc) ∧ TDs H' acc es ∧ (∀ e ∈ es, Tr m e) ∧ es.length ≤ 3 * i ∧ Fr [] H2 H', ⟨vs.length, by simp, Nat.zero_le _, [], [], upd_same, .nil, by simp, by simp, fD⟩, ?_⟩
  rintro i n H3 ⟨rfl, hi, acc, es, hDa, tes, htes, hes, f3⟩
  have hl3 := f3.at hl2 (by simp)
  by_cases hlt : i < vs.length
  · refine .inr ⟨⟨vs, vs[i], .of hl3, List.getElem?_eq_getElem hlt⟩, (fun H' => i + 1 ≤ vs.length ∧ ∃ (acc : List V) (es : List PyData), H' D = some (.lst acc) ∧ TDs H' acc es ∧ (∀ e ∈ es, Tr m e) ∧ es.length ≤ 3 * (i + 1) ∧ Fr [] H2 H'), fun H' h => ⟨vs.length - (i + 1), by omega, rfl, h⟩, fun x H3' y => ?_⟩
    obtain ⟨rfl, y⟩ := y
    have hx := y vs (.of hl3)
    obtain ⟨dx, hdx, tdx⟩ := (tds2.mono f3.tups).getV hx
    refine ⟨rfl, ?_⟩
    refine yesI ⟨_, rfl, x, dx, m, rfl, tdx, htr dx (List.mem_of_getElem? hdx), fun p xs ss H4 hp0 hp ts hs3 hstr f4 => ?_⟩
    have npD : p ≠ D := fun z => by rw [z, hDa] at hp0; cases hp0
    have hp2 : H2 p = none := f3.free hp0 (by simp)
    have lss := ts.len
    refine ⟨p, rfl, ⟨xs, .of hp⟩, ?_⟩
    refine ⟨fun j n H' => n = xs.length - j ∧ j ≤ xs.length ∧ H' p = some (.lst xs) ∧ TDs H' xs ss ∧ ∃ (acc : List V) (es : List PyData), H' D = some (.lst acc) ∧ TDs H' acc es ∧ (∀ e ∈ es, Tr m e) ∧ es.length ≤ 3 * i + j ∧ Fr [] H2 H', ⟨xs.length, by simp, Nat.zero_le _, hp, ts, acc, es, f4.at hDa (by simp), tes.mono f4.tups, htes, by omega, f3.trans f4⟩, ?_⟩
    rintro j n H5 ⟨rfl, hj, hp5, ts5, acc5, es5, hD5, tes5, htes5, hes5, f5⟩
    by_cases hjt : j < xs.length
    · refine .inr ⟨⟨xs, xs[j], .of hp5, List.getElem?_eq_getElem hjt⟩, (fun H' => j + 1 ≤ xs.length ∧ H' p = some (.lst xs) ∧ TDs H' xs ss ∧ ∃ (acc : List V) (es : List PyData), H' D = some (.lst acc) ∧ TDs H' acc es ∧ (∀ e ∈ es, Tr m e) ∧ es.length ≤ 3 * i + (j + 1) ∧ Fr [] H2 H'), fun H' h => ⟨xs.length - (j + 1), by omega, rfl, h⟩, fun x' H5' y' => ?_⟩
      obtain ⟨rfl, y'⟩ := y'
      have hx' := y' xs (.of hp5)
      obtain ⟨dx', hdx', tdx'⟩ := ts5.getV hx'
      refine ⟨rfl, ?_⟩
      have la := tes5.len
      have tp : Tp H5' (upd H5' D (.lst (acc5 ++ [x']))) := Tp.wr hD5
      exact yesI ⟨_, rfl, acc5, hD5, szl (by omega), by omega, by rw [upd_ne npD]; exact hp5, ts5.mono tp, acc5 ++ [x'], es5 ++ [dx'], upd_same, (tes5.mono tp).snoc (tdx'.mono tp), fun e he => by
        rcases List.mem_append.mp he with z | z
        · exact htes5 e z
        · rw [List.mem_singleton.mp z]
          exact hstr dx' (List.mem_of_getElem? hdx'), by rw [List.length_append, List.length_singleton]; omega, f5.put hD⟩
    · exact .inl ⟨⟨xs, .of hp5, by omega⟩, by omega, acc5, es5, hD5, tes5, htes5, by omega, f5⟩
  · refine .inl ⟨⟨vs, .of hl3, by omega⟩, k + 1, D, acc, es, rfl, hDa, tes, htes, by omega, ?_, f02.trans f3⟩
    rw [Nat.pow_succ]
    omega
end
end K10
namespace K10
open PySem PySem.Spec PyProof.Rows L2
open SX (S)
def spItem : Sp := fun vs H Q _ => ∃ (d pn : Addr) (z : Int) (col : Nat) (p : Pn) (U t : Nat), vs = [.ref d, .ref pn, .int z] ∧ z = (col : Int) ∧ Wr d pn H p U t ∧ col ≤ 5500 ∧ t + 1 ≤ 3000 ∧
  ∀ (v : V) (p' : Pn) (H' : Hp), Wr d pn H' p' col (t + 1) → p'.toks = p.toks → p.line < p'.line → p'.coln = col → p'.fresh = true → Fr [d, pn] H H' → Q v H'
def spBlock : Sp := fun vs H Q _ => ∃ (d pn : Addr) (z : Int) (least : Nat) (p : Pn) (U t : Nat), vs = [.ref d, .ref pn, .int z] ∧ z = (least : Int) ∧ Wr d pn H p U t ∧ least ≤ U ∧ U + 4 ≤ 5500 ∧ t + 1 ≤ 3000 ∧
  ∀ (col : Nat) (p' : Pn) (H' : Hp), least < col → Wr d pn H' p' col (t + 1) → p'.toks = p.toks → p'.coln = col → col ≤ U + 4 → p'.fresh = true → Fr [d, pn] H H' → Q (.int (col : Int)) H'
section
variable {P : Program} {w : World} {K : PySem.W.Frag} {mg : Str → Option Value} {base : Heap} {f : Addr} {fd : FuncData} {kA sA CL CR eA : Addr}
theorem sc_LawItem : FnScope ["draws", "pen", "column"] ["draws", "pen", "column"] (defScope sLawItem) := ⟨rfl, rfl, rfl, by decide +kernel, rfl, by decide +kernel, by decide +kernel⟩
theorem ok_item (c_law_line : Cal P w K mg base "_law_line" 2 ["draws", "pen", "column"] spLine) (F : FnP K "_law_item" "_law_item" sLawItem [] f fd) : FnOk P w K mg base CX0 3 f fd ["draws", "pen", "column"] spItem := by
  refine F.ok sc_LawItem (fun vs H Q E h => ?_) (fun cdv A outer s H vs Q E hr h => ?_)
  · obtain ⟨d, pn, z, col, p, U, t, rfl, _⟩ := h
    rfl
  obtain ⟨d, pn, z, col, p, U, t, rfl, rfl, W, hc, ht, q⟩ := h
  refine ⟨_, PSs.nox (pss_cons (ps_expr (pe_c c_law_line (hr.mono (by omega)) (by rfl) (pa_cons (pv 0) (pa_cons (pv 1) (pa_cons (pv 2) pa_nil)))))
    (pss_one (ps_asg pe_bl (pg_sub (pv 1) pe_int set_list)))), ?_⟩
  have txt : p.text.length ≤ 16680000 := by have := W.txt; omega
  refine ⟨_, rfl, _, rfl, _, rfl, d, pn, col, p, rfl, W.dr, W.dp, W.pe, by omega, by omega, fun v p' H1 dr1 pe1 e1 e2 e3 e4 e5 f1 => ?_⟩
  refine ⟨_, rfl, pn, _, _, 3, rfl, rfl, pe1.hp, Evl.ixN_nat (j := 3) (by simp [penV]), ?_⟩
  have ec : p'.coln = col := by
    unfold Pn.coln
    rw [e3, rowC_sps, List.length_replicate]
  refine q _ (p'.flag true) _ ⟨dr1.put W.dp.symm, W.dp, ⟨upd_same, pe1.ok.flag _, fun _ k w e => ?_⟩, Nat.le_of_eq ec, ?_, (by rw [show (p'.flag true).toks = p'.toks from rfl, e1]; have := W.cnt; omega)⟩ e1 e2 ec rfl (f1.trans (.wr pe1.hp (by simp)))
  · have e' : p'.cur.getLast? = some (.wd k w) := e
    rw [e3] at e'
    have := List.mem_of_getLast? e'
    rw [List.mem_replicate] at this
    cases this.2
  · have := W.txt
    show p'.text.length ≤ _
    omega
theorem sc_LawBlock : FnScope ["draws", "pen", "least", "many"] ["draws", "pen", "least"] (defScope sLawBlock) := ⟨rfl, rfl, rfl, by decide +kernel, rfl, by decide +kernel, by decide +kernel⟩
theorem ok_block (c_law_draw : Cal P w K mg base "_law_draw" 1 ["draws", "many"] spDraw) (c_law_item : Cal P w K mg base "_law_item" 3 ["draws", "pen", "column"] spItem) (F : FnP K "_law_block" "_law_block" sLawBlock [] f fd) : FnOk P w K mg base CX0 4 f fd ["draws", "pen", "least"] spBlock := by
  refine F.ok sc_LawBlock (fun vs H Q E h => ?_) (fun cdv A outer s H vs Q E hr h => ?_)
  · obtain ⟨d, pn, z, least, p, U, t, rfl, _⟩ := h
    rfl
  obtain ⟨d, pn, z, least, p, U, t, rfl, rfl, W, hl, hU, ht, q⟩ := h
  refine ⟨_, PSs.nox (Evl.pss_cut (ps_if (PW.pt (pw_and (pt_cmpR op_gt (pe_op op_add (pe_ix (ixL K) (pv 1) pe_int (fun _ _ => rfl)) pe_int) (pv 2) (nomark _)) (pw_and1 (pt_cmpR op_eq (pe_c c_law_draw (hr.mono (by omega)) (by rfl) (pa_cons (pv 0) (pa_cons pe_int pa_nil))) pe_int (nomark _)))))
    (pss_cons (ps_set (i := 3) sc_LawBlock.nd rfl (.inl rfl) (pe_op op_add pe_int (pe_c c_law_draw (hr.mono (by omega)) (by rfl) (pa_cons (pv 0) (pa_cons pe_int pa_nil)))))
      (pss_cons (ps_asg (pe_op op_add_str (pe_ix (ixL K) (pv 1) pe_int (fun _ _ => rfl)) (pe_op op_mulS pe_str (pv 3))) (pg_sub (pv 1) pe_int set_list))
      (pss_cons (ps_asg (pe_op op_add (pe_ix (ixL K) (pv 1) pe_int (fun _ _ => rfl)) (pv 3)) (pg_sub (pv 1) pe_int set_list))
      (pss_one (ps_asg pe_bl (pg_sub (pv 1) pe_int set_list))))))
    (pss_one (ps_expr (pe_c c_law_item (hr.mono (by omega)) (by rfl) (pa_cons (pv 0) (pa_cons (pv 1) (pa_cons (pe_op op_add (pe_op op_add (pv 2) pe_int) (pe_c c_law_draw (hr.mono (by omega)) (by rfl) (pa_cons (pv 0) (pa_cons pe_int pa_nil)))) pa_nil)))))))
    (pss_one (ps_ret (pe_ix (ixL K) (pv 1) pe_int (fun _ _ => rfl))))), ?_⟩
  have txt := W.txt
  have hcol := W.col
  refine ⟨fun σ' H' => ∃ (y3 : Option V) (p' : Pn), σ' = [some (.ref d), some (.ref pn), some (.int (least : Int)), y3] ∧ Wr d pn H' p' p'.coln (t + 1) ∧ least < p'.coln ∧ p'.toks = p.toks ∧ p'.coln ≤ U + 4 ∧ p'.fresh = true ∧ Fr [d, pn] H H', ?_, ?_⟩
  · have els : ∀ (H1 : Hp) (Q1 : L2.St → Hp → Prop), Dr H1 d → Fr [d] H H1 → (∀ σ' H', (∃ (y3 : Option V) (p' : Pn), σ' = [some (.ref d), some (.ref pn), some (.int (least : Int)), y3] ∧ Wr d pn H' p' p'.coln (t + 1) ∧ least < p'.coln ∧ p'.toks = p.toks ∧ p'.coln ≤ U + 4 ∧ p'.fresh = true ∧ Fr [d, pn] H H') → Q1 σ' H') →
        tDrop (tCall spItem [] E0 (tCons (tVar 0) (tCons (tVar 1) (tCons (tOp (rI0 fun i j => .int (i + j)) (tOp (rI0 fun i j => .int (i + j)) (tVar 2) (tC (V.int 1))) (tCall spDraw [] E0 (tCons (tVar 0) (tCons (tC (V.int 4)) tNil)))) tNil)))) { nx := Q1, rt := Q } [some (.ref d), some (.ref pn), some (.int (least : Int)), none] H1 := by
      intro H1 Q1 dr1 f1 hq
      have pe1 := W.pe.fr' f1 (nmem1 W.dp.symm)
      refine ⟨_, rfl, _, rfl, _, rfl, _, _, rfl, rfl, _, rfl, d, _, rfl, dr1, by decide, by decide, fun r H2 r0 r1 dr2 f2 => ?_⟩
      have pe2 := pe1.fr' f2 (nmem1 W.dp.symm)
      refine ⟨_, _, rfl, rfl, d, pn, _, (least + 1 + r.toNat), p, U, t, rfl, by omega, ⟨dr2, W.dp, pe2, hcol, txt, W.cnt⟩, by omega, ht, fun v p' H3 W3 e1 e2 e3 e4 f3 => ?_⟩
      exact hq _ _ ⟨none, p', rfl, by rw [e3]; exact W3, by omega, e1, by omega, e4, (fr_d f1).trans ((fr_d f2).trans f3)⟩
    refine ⟨_, rfl, pn, _, _, _, rfl, rfl, .of W.pe.hp, at2, _, _, rfl, rfl, _, rfl, _, _, rfl, rfl, _, rfl, ite2 (fun hgt => ?_) (fun _ => iteF (els H _ W.dr (Fr.refl _) fun σ' H' h => h))⟩
    refine ⟨_, rfl, d, _, rfl, W.dr, by decide, by decide, fun r H1 r0 r1 dr1 f1 => ?_⟩
    refine ⟨rfl, _, rfl, ite2 (fun _ => ?_) (fun _ => els H1 _ dr1 f1 fun σ' H' h => h)⟩
    have hgt' : (least : Int) < (p.coln : Int) + 1 := of_decide_eq_true hgt
    have pe1 := W.pe.fr' f1 (nmem1 W.dp.symm)
    refine ⟨_, rfl, d, _, rfl, dr1, by decide, by decide, fun m H2 m0 m1 dr2 f2 => ?_⟩
    have pe2 := pe1.fr' f2 (nmem1 W.dp.symm)
    refine ⟨_, _, rfl, rfl, ?_⟩
    refine ⟨_, rfl, pn, _, _, _, rfl, rfl, .of pe2.hp, at0, _, rfl, _, _, rfl, rfl, by omega, by omega, by rw [sp_S, SX.S_len]; decide, ?_⟩
    rw [mul_sp]
    have l3 : (S p.text).length + (S (List.replicate (1 + m).toNat 32)).length ≤ p.text.length + 4 := by
      rw [SX.S_len, SX.S_len, List.length_replicate]
      omega
    refine ⟨_, _, rfl, rfl, sz16 (by omega), _, rfl, pn, _, _, 0, rfl, rfl, pe2.hp, Evl.ixN_nat (j := 0) (by simp [penV]), ?_⟩
    have f8 : Fr [pn] H2 (upd H2 pn (.lst ((penV p).set 0 (V.str (S p.text ++ S (List.replicate (1 + m).toNat 32)))))) := .wr pe2.hp mem1
    have h8 : upd H2 pn (.lst ((penV p).set 0 (V.str (S p.text ++ S (List.replicate (1 + m).toNat 32))))) pn = some (.lst [V.str (S p.text ++ S (List.replicate (1 + m).toNat 32)), .int p.line, .int (p.coln : Int), .bl p.fresh]) := upd_same
    have dr8 := dr2.put (o := .lst ((penV p).set 0 (V.str (S p.text ++ S (List.replicate (1 + m).toNat 32))))) W.dp.symm
    generalize upd H2 pn (.lst ((penV p).set 0 (V.str (S p.text ++ S (List.replicate (1 + m).toNat 32))))) = H8 at f8 h8 dr8
    refine ⟨_, rfl, pn, _, _, _, rfl, rfl, .of h8, at2, _, rfl, _, _, rfl, rfl, _, rfl, pn, _, _, 2, rfl, rfl, h8, Evl.ixN_nat (j := 2) (by simp), ?_⟩
    have f9 : Fr [pn] H8 (upd H8 pn (.lst ([V.str (S p.text ++ S (List.replicate (1 + m).toNat 32)), .int p.line, .int (p.coln : Int), .bl p.fresh].set 2 (V.int ((p.coln : Int) + (1 + m)))))) := .wr h8 mem1
    have h9 : upd H8 pn (.lst ([V.str (S p.text ++ S (List.replicate (1 + m).toNat 32)), .int p.line, .int (p.coln : Int), .bl p.fresh].set 2 (V.int ((p.coln : Int) + (1 + m))))) pn = some (.lst [V.str (S p.text ++ S (List.replicate (1 + m).toNat 32)), .int p.line, .int ((p.coln : Int) + (1 + m)), .bl p.fresh]) := upd_same
    have dr9 := dr8.put (o := .lst ([V.str (S p.text ++ S (List.replicate (1 + m).toNat 32)), .int p.line, .int (p.coln : Int), .bl p.fresh].set 2 (V.int ((p.coln : Int) + (1 + m))))) W.dp.symm
    generalize upd H8 pn (.lst ([V.str (S p.text ++ S (List.replicate (1 + m).toNat 32)), .int p.line, .int (p.coln : Int), .bl p.fresh].set 2 (V.int ((p.coln : Int) + (1 + m))))) = H9 at f9 h9 dr9
    refine ⟨_, rfl, pn, _, _, 3, rfl, rfl, h9, Evl.ixN_nat (j := 3) (by simp), ?_⟩
    have ec : (p.blank (1 + m).toNat true).coln = p.coln + (1 + m).toNat := Pn.coln_blank _ _ _
    refine ⟨_, p.blank (1 + m).toNat true, rfl, ⟨dr9.put W.dp.symm, W.dp, ⟨?_, W.pe.ok.blank _ _, fun _ k0 w0 e => ?_⟩, Nat.le_refl _, by rw [Pn.text_blank, List.length_append, List.length_replicate]; omega, by rw [Pn.toks_blank]; have := W.cnt; omega⟩, by omega, Pn.toks_blank _ _ _, by omega, rfl, (fr_d f1).trans ((fr_d f2).trans (fr_w (f8.trans (f9.trans (.wr h9 mem1)))))⟩
    · rw [upd_same]
      unfold penV
      rw [ec, Pn.text_blank, SX.S_cat]
      have : ((p.coln + (1 + m).toNat : Nat) : Int) = (p.coln : Int) + (1 + m) := by omega
      rw [this] <;> rfl
    · have e2 : (p.blank (1 + m).toNat true).cur = p.cur ++ List.replicate (1 + m).toNat It.sp := rfl
      rw [e2] at e
      obtain ⟨j, hj⟩ : ∃ j, (1 + m).toNat = j + 1 := ⟨(1 + m).toNat - 1, by omega⟩
      rw [hj, List.replicate_succ', ← List.append_assoc, List.getLast?_append] at e
      cases e
  rintro σ' H1 ⟨y3, p', rfl, W1, h1, h2, h3, h4, f1⟩
  exact ⟨_, rfl, pn, _, _, _, rfl, rfl, .of W1.pe.hp, at2, q p'.coln p' H1 h1 W1 h2 rfl h3 h4 f1⟩
end
end K10
namespace K10
open PySem PySem.Spec PyProof.Rows L2
open SX (S)
/-! ### how far the pen goes -/
def gN : Nat → Nat
  | 0 => 0
  | 1 => 23
  | n + 2 => 89 + 3 * gN (n + 1)
def oN : Nat → Nat
  | 0 => 0
  | 1 => 3
  | n + 2 => 12 + 3 * oN (n + 1)
theorem gN_ge : ∀ n, 23 ≤ gN (n + 1)
  | 0 => Nat.le_refl _
  | n + 1 => by
    have := gN_ge n
    show 23 ≤ 89 + 3 * gN (n + 1)
    omega
theorem oN_ge : ∀ n, 3 ≤ oN (n + 1)
  | 0 => Nat.le_refl _
  | n + 1 => by
    have := oN_ge n
    show 3 ≤ 12 + 3 * oN (n + 1)
    omega
theorem gN_up {n : Nat} (h : 1 ≤ n) : gN (n + 1) = 89 + 3 * gN n := by
  obtain ⟨m, rfl⟩ : ∃ m, n = m + 1 := ⟨n - 1, by omega⟩
  rfl
theorem oN_up {n : Nat} (h : 1 ≤ n) : oN (n + 1) = 12 + 3 * oN n := by
  obtain ⟨m, rfl⟩ : ∃ m, n = m + 1 := ⟨n - 1, by omega⟩
  rfl
theorem gN_le {a b : Nat} (h : a ≤ b) : gN a ≤ gN b := by
  induction b with
  | zero =>
    have : a = 0 := by omega
    subst this
    exact Nat.le_refl _
  | succ b ih =>
    by_cases e : a = b + 1
    · subst e
      exact Nat.le_refl _
    · refine Nat.le_trans (ih (by omega)) ?_
      cases b with
      | zero => exact Nat.zero_le _
      | succ b =>
        show gN (b + 1) ≤ 89 + 3 * gN (b + 1)
        omega
theorem oN_le {a b : Nat} (h : a ≤ b) : oN a ≤ oN b := by
  induction b with
  | zero =>
    have : a = 0 := by omega
    subst this
    exact Nat.le_refl _
  | succ b ih =>
    by_cases e : a = b + 1
    · subst e
      exact Nat.le_refl _
    · refine Nat.le_trans (ih (by omega)) ?_
      cases b with
      | zero => exact Nat.zero_le _
      | succ b =>
        show oN (b + 1) ≤ 12 + 3 * oN (b + 1)
        omega
theorem Wr.put {d pn : Addr} {H : Hp} {p : Pn} {U t : Nat} {a : Addr} {o : HO} (W : Wr d pn H p U t) (h1 : a ≠ d) (h2 : a ≠ pn) : Wr d pn (upd H a o) p U t :=
  ⟨W.dr.put h1, W.dp, ⟨by rw [upd_ne h2.symm]; exact W.pe.hp, W.pe.ok, W.pe.fr⟩, W.col, W.txt, W.cnt⟩
theorem Wr.new {d pn : Addr} {H : Hp} {p : Pn} {U t : Nat} {a : Addr} (W : Wr d pn H p U t) (h : H a = none) : a ≠ d ∧ a ≠ pn :=
  ⟨W.dr.ne h, fun z => by have := W.pe.hp; rw [← z, h] at this; cases this⟩
theorem Wr.mono {d pn : Addr} {H : Hp} {p : Pn} {U U' t t' : Nat} (W : Wr d pn H p U t) (h1 : U ≤ U') (h2 : t ≤ t') : Wr d pn H p U' t' :=
  ⟨W.dr, W.dp, W.pe, Nat.le_trans W.col h1, Nat.le_trans W.txt (Nat.mul_le_mul_left _ h2), Nat.le_trans W.cnt h2⟩
theorem Wr.fr' {d pn : Addr} {H H' : Hp} {p : Pn} {U t : Nat} (W : Wr d pn H p U t) (f : Fr [] H H') : Wr d pn H' p U t := ⟨W.dr.fr f (by simp), W.dp, W.pe.fr' f (by simp), W.col, W.txt, W.cnt⟩
def spWord15 : Sp := fun vs H Q _ => ∃ (d pn : Addr) (k w : Str) (z : Int) (least : Nat) (free : Bool) (p : Pn) (U t : Nat), vs = [.ref d, .ref pn, .str w, .int z, .bl free] ∧ z = (least : Int) ∧ Wr d pn H p U t ∧ WordOk k w ∧ least ≤ U ∧ U ≤ 5500 ∧ t + 1 ≤ 3000 ∧ (w = "=" ∨ w = "==" → LastNe p) ∧
  ∀ (r : V) (l c : Int) (p' : Pn) (H' : Hp), TD H' r (plD l c) → Wr d pn H' p' (U + 15) (t + 1) → p'.toks = p.toks ++ [⟨k, w, l, c⟩] → p'.fresh = false → p'.line = l → PosOk p (loOf free z) l c → Fr [d, pn] H H' → Q r H'
theorem word15 {vs : List V} {H : Hp} {Q : VK} {E : XK} (h : spWord15 vs H Q E) : spWord vs H Q E := by
  obtain ⟨d, pn, k, w, z, least, free, p, U, t, h1, h2, h3, h4, h5, h6, h7, h8, q⟩ := h
  refine ⟨d, pn, k, w, z, least, free, p, U, t, h1, h2, h3, h4, h5, h6, h7, h8, fun r l c p' H' td W e1 e2 e3 e4 f => q r l c p' H' td (W.mono ?_ (Nat.le_refl _)) e1 e2 e3 e4 f⟩
  have := (word_len h4).2
  omega
/-! ### what is written stands so -/
def First (p : Pn) (lo : Int) (ms : List M) : Prop := ∃ m rr, ms = m :: rr ∧ m.w ≠ "=" ∧ PosOk p lo m.l m.c
def Last (p : Pn) (ms : List M) : Prop := ∃ a, ms.getLast? = some a ∧ a.l = p.line ∧ a.w ≠ "="
theorem cont_of {p : Pn} {lo : Int} {a m : M} (hf : p.fresh = false) (ha : a.l = p.line) (h : PosOk p lo m.l m.c) : Cont lo a m := (h.2 hf).elim (fun e => .inl (e.trans ha.symm)) fun e => .inr ⟨by rw [ha]; exact e.1, e.2⟩
theorem hd_of {p : Pn} {lo : Int} {a : M} {ms : List M} (hf : p.fresh = false) (ha : a.l = p.line) (h : First p lo ms) : Hd lo a ms := by
  obtain ⟨m, rr, e, _, h⟩ := h
  exact ⟨m, rr, e, cont_of hf ha h⟩
theorem last_toks {p p' : Pn} {ms : List M} (h : Last p' ms) (e : p'.toks = p.toks ++ ms) : LastNe p' := fun m hm => by
  obtain ⟨a, ha, _, hw⟩ := h
  rw [e, last_app ha] at hm
  cases hm
  exact hw
theorem word_last {p p' : Pn} {m : M} (hw : m.w ≠ "=") (e : p'.toks = p.toks ++ [m]) : LastNe p' := fun a ha => by
  rw [e, last_app (b := m) rfl] at ha
  cases ha
  exact hw
theorem nm_ne {x : Str} (h : Nm x) : x ≠ "=" := fun z => by
  have := h.1 61 (by rw [z]; decide +kernel)
  omega
theorem Ex.kup {q k k' need : Nat} {least lo : Int} {ms : List M} {d : PyData} (h : Ex q k need least lo ms d) (hk : k ≤ k') : Ex q k' need least lo ms d := by
  refine ⟨h.last, fun S r => ?_⟩
  obtain ⟨ext, D, a1, a2, a3, a4⟩ := h.lays S r
  refine ⟨ext, D, a1, a2, a3, fun C hC => ⟨(a4 C hC).1, fun N hN => ?_⟩⟩
  have z := (a4 C hC).2 N hN
  match need, z with
  | 0, z => exact z
  | 1, z => exact z
  | 2, z => exact z
  | 3, z => exact z
  | 4, z => exact fun fu R hf => z fu R (Nat.le_trans hk hf)
  | 5, z => exact z
  | 6, z => exact z
  | 7, z => exact z
  | 8, z => exact z
  | _ + 9, z => exact z
def wordD : PyData → Str
  | .tuple (.str s :: _) => s
  | _ => ""
def Wrote (R : List M → PyData → Prop) (lo : Int) (d pn : Addr) (H : Hp) (p : Pn) (U t : Nat) (Q : VK) : Prop := ∀ (r : V) (dd : PyData) (ms : List M) (p' : Pn) (H' : Hp), TD H' r dd → Wr d pn H' p' U t → p'.toks = p.toks ++ ms → R ms dd → First p lo ms → Last p' ms → p'.fresh = false → Fr [d, pn] H H' → Q r H'
def spWrite (n : Nat) : Sp := fun vs H Q _ => ∃ (d pn : Addr) (tv : V) (dt : PyData) (z : Int) (least : Nat) (free : Bool) (nd : Int) (need : Nat) (p : Pn) (U t j : Nat), vs = [.ref d, .ref pn, tv, .int z, .bl free, .int nd] ∧ z = (least : Int) ∧ nd = (need : Int) ∧ Wr d pn H p U t ∧ TD H tv dt ∧ 1 ≤ j ∧ j ≤ n ∧ Tr j dt ∧ need ≤ 8 ∧ least ≤ U ∧ U + gN j ≤ 5500 ∧ t + oN j ≤ 3000 ∧
  Wrote (fun ms dd => Ex (2 * j - 1) j need z (loOf free z) ms dd ∧ Tr j dd) (loOf free z) d pn H p (U + gN j) (t + oN j) Q
def spWso (n : Nat) : Sp := fun vs H Q _ => ∃ (d pn : Addr) (tv : V) (dt : PyData) (z : Int) (least : Nat) (free : Bool) (p : Pn) (U t j lev : Nat), vs = [.ref d, .ref pn, tv, .int z, .bl free] ∧ z = (least : Int) ∧ Wr d pn H p U t ∧ TD H tv dt ∧ 1 ≤ j ∧ j ≤ n ∧ Tr j dt ∧ Lev dt lev ∧ least ≤ U ∧ U + (gN j - 8) ≤ 5500 ∧ t + (oN j - 2) ≤ 3000 ∧
  Wrote (fun ms dd => Ex (2 * j - 2) j lev z (loOf free z) ms dd ∧ Tr j dd) (loOf free z) d pn H p (U + (gN j - 8)) (t + (oN j - 2)) Q
def spWb (n : Nat) : Sp := fun vs H Q _ => ∃ (d pn : Addr) (tv : V) (dt : PyData) (z : Int) (least : Nat) (free : Bool) (p : Pn) (U t j : Nat), vs = [.ref d, .ref pn, tv, .int z, .bl free] ∧ z = (least : Int) ∧ Wr d pn H p U t ∧ TD H tv dt ∧ 1 ≤ j ∧ j ≤ n ∧ Tr j dt ∧ (wordD dt = "let" ∨ wordD dt = "case") ∧ least ≤ U ∧ U + (gN j - 8) ≤ 5500 ∧ t + (oN j - 2) ≤ 3000 ∧
  Wrote (fun ms dd => Ex (2 * j - 2) j 0 z (loOf free z) ms dd ∧ Tr j dd) (loOf free z) d pn H p (U + (gN j - 8)) (t + (oN j - 2)) Q
/-- words behind one another -/
def Ch (lo : Int) (hs : List M) : Prop := ∀ pre a b post, hs = pre ++ a :: b :: post → Cont lo a b
theorem ch_snoc {lo : Int} {hs : List M} {m : M} (h : Ch lo hs) (hc : ∀ a, hs.getLast? = some a → Cont lo a m) : Ch lo (hs ++ [m]) := fun pre a b post e => by
  rcases List.eq_nil_or_concat post with rfl | ⟨q, x, rfl⟩
  · have e1 : hs ++ [m] = (pre ++ [a]) ++ [b] := by rw [e]; simp
    have h1 := List.append_inj_left' e1 rfl
    have h2 := List.append_inj_right' e1 rfl
    cases h2
    exact hc a (by rw [h1, List.getLast?_append] <;> rfl)
  · have e1 : hs ++ [m] = (pre ++ a :: b :: q) ++ [x] := by rw [e]; simp
    exact h pre a b q (List.append_inj_left' e1 rfl)
theorem last_line {p' : Pn} {ms : List M} (h : Last p' ms) : ∃ a, ms.getLast? = some a ∧ a.l = p'.line := by
  obtain ⟨a, h1, h2, _⟩ := h
  exact ⟨a, h1, h2⟩
theorem td_word {m : Nat} {H : Hp} {v : V} {d : PyData} (h : TD H v d) (tr : Tr m d) : ∃ a xs, v = .ref a ∧ H a = some (.tup xs) ∧ atI xs 0 = some (.str (wordD d)) := by
  cases tr with
  | num hk => obtain ⟨a, vp, rfl, ha, _⟩ := td_num h; exact ⟨a, _, rfl, ha, at0⟩
  | nil => obtain ⟨a, vp, rfl, ha, _⟩ := td_nil h; exact ⟨a, _, rfl, ha, at0⟩
  | use hx h3 has => obtain ⟨a, vp, b, us, rfl, ha, _⟩ := td_use h; exact ⟨a, _, rfl, ha, at0⟩
  | op hs l r => obtain ⟨a, vp, vl, vr, rfl, ha, _⟩ := td_op h; exact ⟨a, _, rfl, ha, at0⟩
  | ite c y e => obtain ⟨a, vp, vc, vy, vn, rfl, ha, _⟩ := td_if h; exact ⟨a, _, rfl, ha, at0⟩
  | lt hx w b => obtain ⟨a, vp, vw, vb, rfl, ha, _⟩ := td_let h; exact ⟨a, _, rfl, ha, at0⟩
  | cas h1 h2 t e b => obtain ⟨a, vp, vt, ve, vb, rfl, ha, _⟩ := td_case h; exact ⟨a, _, rfl, ha, at0⟩
/-- a let's rows: each a level less deep -/
def RowsOk (j : Nat) (rows : List LRow) : Prop := ∀ (i : Nat) (r : LRow), rows[i]? = some r → i ≤ j ∧ Tr (j - i) r.w ∧ Nm r.x ∧ ∃ l c, r.p = plD l c
theorem letsD_snoc (rows : List LRow) (r : LRow) (d : PyData) : letsD (rows ++ [r]) d = letsD rows (letD r.p r.x r.w d) := by
  unfold letsD
  rw [List.foldr_append] <;> rfl
theorem lets_tr {j : Nat} : ∀ (n : Nat) (rows : List LRow) (m : Nat) (d : PyData), rows.length = n → RowsOk j rows → m + n = j + 1 → Tr m d → Tr (j + 1) (letsD rows d)
  | 0, rows, m, d, hn, _, hm, h => by
    have e : rows = [] := List.eq_nil_of_length_eq_zero hn
    subst e
    have : m = j + 1 := by omega
    rw [← this]
    exact h
  | n + 1, rows, m, d, hn, ho, hm, h => by
    rcases List.eq_nil_or_concat rows with e | ⟨r0, x, e⟩
    · rw [e] at hn
      cases hn
    · rw [List.concat_eq_append] at e
      subst e
      have l0 : r0.length = n := by
        rw [List.length_append] at hn
        exact Nat.succ.inj hn
      obtain ⟨q1, q2, q3, l, c, q4⟩ := ho n x (by rw [List.getElem?_append_right (Nat.le_of_eq l0), l0, Nat.sub_self] <;> rfl)
      rw [letsD_snoc]
      refine lets_tr n r0 (m + 1) _ l0 (fun i r hi => ho i r (by rw [List.getElem?_append_left (List.getElem?_eq_some_iff.mp hi).1]; exact hi)) (by omega) ?_
      rw [q4]
      have e2 : j - n = m := by omega
      rw [e2] at q2
      exact .lt q3 q2 h
theorem lrow_lay {j : Nat} {rows : List LRow} (h : RowsOk j rows) : PyData.canLayAll0 (rows.map LRow.py) = true ∧ PyData.depthAll (rows.map LRow.py) ≤ 2 * j + 4 := by
  refine tr_lays fun a ha => ?_
  obtain ⟨r, hr, rfl⟩ := List.mem_map.mp ha
  obtain ⟨i, hi⟩ := List.mem_iff_getElem?.mp hr
  obtain ⟨q1, q2, q3, l, c, q4⟩ := h i r hi
  have ly := tr_lay q2
  have pl := plD_lay l c
  unfold LRow.py
  rw [q4]
  constructor
  · simp [PyData.canLay0, PyData.canLayAll0, nm_strOk q3, ly.1, pl.1]
  · have h2 := ly.2
    have h3 := pl.2
    simp only [PyData.depth, PyData.depthAll]
    omega
end K10
namespace K10
open PySem PySem.Spec PyProof.Rows L2
open SX (S)
/-! ### the test of the rows' loop -/
theorem let_test {K : PySem.W.Frag} {j m : Nat} {σ : L2.St} {H : Hp} {Q : Bool → Hp → Prop} {d rA : Addr} {tv : V} {cdt : PyData} {rvs : List V} {rows : List LRow} (h0 : σ[0]? = some (some (.ref d))) (h2 : σ[2]? = some (some tv)) (h11 : σ[11]? = some (some (.ref rA)))
    (hj : j ≤ 6) (dr : Dr H d) (td : TD H tv cdt) (tr : Tr m cdt) (hr : H rA = some (.lst rvs)) (hrs : TDs H rvs (rows.map LRow.py)) (ho : RowsOk j rows) (nr : rA ≠ d)
    (q : ∀ b H3, (b = true → wordD cdt = "let") → (b = false → wordD cdt = "let" → rows ≠ []) → Fr [d] H H3 → Dr H3 d → Q b H3) :
    tAnd (tTest (tOp rEq (tOp (rIxT K) (tVar 2) (tC (.int 0))) (tC (.str "let")))) (tOr (tTest (tOp (rEqD K) (tVar 11) (tLst tNil))) (tTest (tOp rEq (tCall spDraw [] E0 (tCons (tVar 0) (tCons (tC (.int 2)) tNil))) (tC (.int 0))))) σ H Q := by
  obtain ⟨a, xs, rfl, ha, hw⟩ := td_word td tr
  refine ⟨_, h2, a, _, _, _, rfl, rfl, .of ha, hw, rfl, _, rfl, ite2 (fun c => ?_) (fun c => ?_)⟩
  · have cw : wordD cdt = "let" := by
      have := of_decide_eq_true c
      injection this
    refine ⟨_, h11, by show 0 ≤ sizeLine; decide, fun e0 he0 => ?_⟩
    have f1 : Fr [] H (upd H e0 (.lst [])) := .new he0
    have ly := lrow_lay ho
    refine ⟨.list (rows.map LRow.py), .list [], .lst (.of (f1.at hr (by simp))) (TDs.dp (hrs.mono f1.tups)), .lst (.of upd_same) .nil, shaped_of (by simpa [PyData.canLay0] using ly.1) (by have := ly.2; simp only [PyData.depth]; omega), by decide +kernel, _, rfl, ?_⟩
    rw [eqv_nil]
    refine ite2 (fun c2 => ?_) (fun c2 => ?_)
    · exact q true _ (fun _ => cw) (fun h => by cases h) (fr_0 f1) (dr.fr f1 (by simp))
    · have hne : rows ≠ [] := fun z => c2 (by rw [z]; decide +kernel)
      refine ⟨_, h0, d, _, rfl, dr.fr f1 (by simp), by decide, by decide, fun r H3 r0 r1 dr3 f3 => ⟨rfl, _, rfl, ?_⟩⟩
      exact q _ H3 (fun _ => cw) (fun _ _ => hne) ((fr_0 f1).trans f3) dr3
  · exact q false H (fun h => by cases h) (fun _ h => absurd (by rw [h] <;> rfl) c) (Fr.refl _) dr
section
variable {P : Program} {w : World} {K : PySem.W.Frag} {mg : Str → Option Value} {base : Heap} {f : Addr} {fd : FuncData} {kA sA CL CR eA : Addr}
theorem sc_LawWriteBlock : FnScope ["draws", "pen", "tree", "least", "free", "place", "what", "column", "empty", "word", "body", "rows", "found", "name", "worth"] ["draws", "pen", "tree", "least", "free"] (defScope sLawWriteBlock) := ⟨rfl, rfl, rfl, by decide +kernel, rfl, by decide +kernel, by decide +kernel⟩
theorem ok_wblock {n : Nat} (hn6 : n + 1 ≤ 6) (T : Facts K mg kA sA CL CR eA) (c_law_draw : Cal P w K mg base "_law_draw" 1 ["draws", "many"] spDraw) (c_law_word : Cal P w K mg base "_law_word" 3 ["draws", "pen", "word", "least", "free"] spWord15)
    (c_law_item : Cal P w K mg base "_law_item" 3 ["draws", "pen", "column"] spItem) (c_law_block : Cal P w K mg base "_law_block" 4 ["draws", "pen", "least"] spBlock)
    (c_law_write : Cal P w K mg base "_law_write" (3 * n + 5) ["draws", "pen", "tree", "least", "free", "need_d"] (spWrite n)) (F : FnP K "_law_write_block" "_law_write_block" sLawWriteBlock [] f fd) : FnOk P w K mg base CX0 (3 * n + 5 + 1) f fd ["draws", "pen", "tree", "least", "free"] (spWb (n + 1)) := by
  refine F.ok sc_LawWriteBlock (fun vs H Q E h => ?_) (fun cdv A outer s H vs Q E hr h => ?_)
  · obtain ⟨d, pn, tv, dt, z, least, free, p, U, t, j, rfl, _⟩ := h
    rfl
  obtain ⟨d, pn, tv, dt, z, least, free, p, U, t, j, rfl, hz, W, td, hj1, hjn, tr, hb, hl, hU, ht, q⟩ := h
  refine ⟨_, PSs.nox (pss_cons (ps_if (pt_cmpR op_eq (pe_ix (ixT K) (pv 2) pe_int (fun _ _ => rfl)) pe_str (nomark _))
    (pss_cons (ps_set (i := 5) sc_LawWriteBlock.nd rfl (.inl rfl) (pe_c c_law_word (hr.mono (by omega)) (by rfl) (pa_cons (pv 0) (pa_cons (pv 1) (pa_cons pe_str (pa_cons (pv 3) (pa_cons (pv 4) pa_nil)))))))
      (pss_cons (ps_set (i := 6) sc_LawWriteBlock.nd rfl (.inl rfl) (pe_c c_law_write (hr.mono (by omega)) (by rfl) (pa_cons (pv 0) (pa_cons (pv 1) (pa_cons (pe_ix (ixT K) (pv 2) pe_int (fun _ _ => rfl)) (pa_cons (pv 3) (pa_cons (pv 4) (pa_cons pe_int pa_nil))))))))
      (pss_cons (ps_expr (pe_c c_law_word (hr.mono (by omega)) (by rfl) (pa_cons (pv 0) (pa_cons (pv 1) (pa_cons pe_str (pa_cons (pv 3) (pa_cons (pv 4) pa_nil)))))))
      (pss_cons (ps_set (i := 7) sc_LawWriteBlock.nd rfl (.inl rfl) (pe_c c_law_block (hr.mono (by omega)) (by rfl) (pa_cons (pv 0) (pa_cons (pv 1) (pa_cons (pv 3) pa_nil)))))
      (pss_cons (ps_expr (pe_c c_law_word (hr.mono (by omega)) (by rfl) (pa_cons (pv 0) (pa_cons (pv 1) (pa_cons pe_str (pa_cons (pv 7) (pa_cons pe_bl pa_nil)))))))
      (pss_cons (ps_expr (pe_c c_law_word (hr.mono (by omega)) (by rfl) (pa_cons (pv 0) (pa_cons (pv 1) (pa_cons pe_str (pa_cons (pv 7) (pa_cons pe_bl pa_nil)))))))
      (pss_cons (ps_set (i := 8) sc_LawWriteBlock.nd rfl (.inl rfl) (pe_c c_law_write (hr.mono (by omega)) (by rfl) (pa_cons (pv 0) (pa_cons (pv 1) (pa_cons (pe_ix (ixT K) (pv 2) pe_int (fun _ _ => rfl)) (pa_cons (pv 7) (pa_cons pe_bl (pa_cons pe_int pa_nil))))))))
      (pss_cons (ps_expr (pe_c c_law_item (hr.mono (by omega)) (by rfl) (pa_cons (pv 0) (pa_cons (pv 1) (pa_cons (pv 7) pa_nil)))))
      (pss_cons (ps_for PassesOwn.never rfl (piL K (pe_lst (pa_cons (pe_ix (ixT K) (pv 2) pe_int (fun _ _ => rfl)) (pa_cons pe_str (pa_cons (pe_ix (ixT K) (pv 2) pe_int (fun _ _ => rfl)) (pa_cons pe_str pa_nil)))))) (pg_name (i := 9) sc_LawWriteBlock.nd rfl (.inl rfl))
      (pss_one (ps_expr (pe_c c_law_word (hr.mono (by omega)) (by rfl) (pa_cons (pv 0) (pa_cons (pv 1) (pa_cons (pv 9) (pa_cons (pv 7) (pa_cons pe_bl pa_nil)))))))))
      (pss_cons (ps_set (i := 10) sc_LawWriteBlock.nd rfl (.inl rfl) (pe_c c_law_write (hr.mono (by omega)) (by rfl) (pa_cons (pv 0) (pa_cons (pv 1) (pa_cons (pe_ix (ixT K) (pv 2) pe_int (fun _ _ => rfl)) (pa_cons (pv 7) (pa_cons pe_bl (pa_cons pe_int pa_nil))))))))
      (pss_one (ps_ret (pe_tup (pa_cons pe_str (pa_cons (pv 5) (pa_cons (pv 6) (pa_cons (pv 8) (pa_cons (pe_ix (ixT K) (pv 2) pe_int (fun _ _ => rfl)) (pa_cons (pe_ix (ixT K) (pv 2) pe_int (fun _ _ => rfl)) (pa_cons (pv 10) pa_nil))))))))))))))))))))
    pss_nil)
    (pss_cons (ps_expr (pe_c c_law_word (hr.mono (by omega)) (by rfl) (pa_cons (pv 0) (pa_cons (pv 1) (pa_cons pe_str (pa_cons (pv 3) (pa_cons (pv 4) pa_nil)))))))
    (pss_cons (ps_set (i := 7) sc_LawWriteBlock.nd rfl (.inl rfl) (pe_c c_law_block (hr.mono (by omega)) (by rfl) (pa_cons (pv 0) (pa_cons (pv 1) (pa_cons (pv 3) pa_nil)))))
    (pss_cons (ps_set (i := 11) sc_LawWriteBlock.nd rfl (.inl rfl) (pe_lst pa_nil))
    (pss_cons (ps_while PassesOwn.never (PW.pt (pw_and (pt_cmpR op_eq (pe_ix (ixT K) (pv 2) pe_int (fun _ _ => rfl)) pe_str (nomark _)) (pw_and1 (PW.pt (pw_or (pt_cmpR (opEqD K hr.units) (pv 11) (pe_lst pa_nil) (nomark _)) (pw_or1 (pt_cmpR op_eq (pe_c c_law_draw (hr.mono (by omega)) (by rfl) (pa_cons (pv 0) (pa_cons pe_int pa_nil))) pe_int (nomark _))))))))
    (pss_cons (ps_set (i := 5) sc_LawWriteBlock.nd rfl (.inl rfl) (pe_c c_law_word (hr.mono (by omega)) (by rfl) (pa_cons (pv 0) (pa_cons (pv 1) (pa_cons (pe_ix (ixT K) (pv 2) pe_int (fun _ _ => rfl)) (pa_cons (pv 7) (pa_cons pe_bl pa_nil)))))))
      (pss_cons (ps_expr (pe_c c_law_word (hr.mono (by omega)) (by rfl) (pa_cons (pv 0) (pa_cons (pv 1) (pa_cons pe_str (pa_cons (pv 7) (pa_cons pe_bl pa_nil)))))))
      (pss_cons (ps_expr (pe_bm PySem.F.plainAttrs_list PySem.F.slot_list_append PySem.F.type_list_append mt_append (pv 11) (pa_cons (pe_tup (pa_cons (pv 5) (pa_cons (pe_ix (ixT K) (pv 2) pe_int (fun _ _ => rfl)) (pa_cons (pe_c c_law_write (hr.mono (by omega)) (by rfl) (pa_cons (pv 0) (pa_cons (pv 1) (pa_cons (pe_ix (ixT K) (pv 2) pe_int (fun _ _ => rfl)) (pa_cons (pv 7) (pa_cons pe_bl (pa_cons pe_int pa_nil))))))) pa_nil)))) pa_nil)))
      (pss_cons (ps_expr (pe_c c_law_item (hr.mono (by omega)) (by rfl) (pa_cons (pv 0) (pa_cons (pv 1) (pa_cons (pv 7) pa_nil)))))
      (pss_one (ps_set (i := 2) sc_LawWriteBlock.nd rfl (.inl rfl) (pe_ix (ixT K) (pv 2) pe_int (fun _ _ => rfl)))))))))
    (pss_cons (ps_set (i := 12) sc_LawWriteBlock.nd rfl (.inl rfl) (pe_c c_law_write (hr.mono (by omega)) (by rfl) (pa_cons (pv 0) (pa_cons (pv 1) (pa_cons (pv 2) (pa_cons (pv 7) (pa_cons pe_bl (pa_cons pe_int pa_nil))))))))
    (pss_cons (ps_for PassesOwn.never rfl (pi_reversed (by rfl) T.f_reversed (pa_cons (pv 11) pa_nil)) (pgT K 3 (pgs_cons (pg_name (i := 5) sc_LawWriteBlock.nd rfl (.inl rfl)) (pgs_cons (pg_name (i := 13) sc_LawWriteBlock.nd rfl (.inl rfl)) (pgs_cons (pg_name (i := 14) sc_LawWriteBlock.nd rfl (.inl rfl)) pgs_nil))))
    (pss_one (ps_set (i := 12) sc_LawWriteBlock.nd rfl (.inl rfl) (pe_tup (pa_cons pe_str (pa_cons (pv 5) (pa_cons (pv 13) (pa_cons (pv 14) (pa_cons (pv 12) pa_nil)))))))))
    (pss_one (ps_ret (pv 12)))))))))), ?_⟩
  have lf : loOf false z = z + 1 := rfl
  cases tr with
  | num hk => exact absurd hb (by show ¬ (("num" : Str) = "let" ∨ ("num" : Str) = "case"); decide +kernel)
  | nil => exact absurd hb (by show ¬ (("nil" : Str) = "let" ∨ ("nil" : Str) = "case"); decide +kernel)
  | use hx h3 has => exact absurd hb (by show ¬ (("use" : Str) = "let" ∨ ("use" : Str) = "case"); decide +kernel)
  | op hs l r => exact absurd hb (by show ¬ (("op" : Str) = "let" ∨ ("op" : Str) = "case"); decide +kernel)
  | ite c y e => exact absurd hb (by show ¬ (("if" : Str) = "let" ∨ ("if" : Str) = "case"); decide +kernel)
  | @cas j dl dc dt0 de x1 x2 db hx1 hx2 tr1 tr2 tr3 =>
    obtain ⟨a, vp, vt, ve, vb, rfl, ha, hp, tdt, tde, tdb⟩ := td_case td
    have hj0 : 1 ≤ j := by
      cases j with
      | zero => cases tr1
      | succ j => omega
    have g1 := gN_up hj0
    have o1 := oN_up hj0
    have g23 : 23 ≤ gN j := by
      obtain ⟨m, rfl⟩ : ∃ m, j = m + 1 := ⟨j - 1, by omega⟩
      exact gN_ge m
    refine ⟨_, rfl, a, _, _, _, rfl, rfl, .of ha, at0, rfl, _, rfl, ?_⟩
    have hw : decide (V.str "case" = V.str "case") = true := by decide +kernel
    rw [hw]
    refine iteT ?_
    -- case
    refine ⟨_, rfl, _, rfl, _, rfl, _, rfl, d, pn, "key", "case", z, least, free, p, U, t, rfl, hz, W, .key (by decide +kernel), hl, by omega, by omega, fun h => absurd h (by decide +kernel), fun r1 l1 c1 p1 H1 td1 W1 e1 n1 i1 s1 f1 => ?_⟩
    -- what
    refine ⟨_, rfl, _, rfl, _, rfl, a, _, _, _, rfl, rfl, .of (f1.tups _ _ ha), at2, _, rfl, _, rfl, d, pn, vt, dt0, z, least, free, 1, 1, p1, U + 15, t + 1, j, rfl, hz, rfl, W1, tdt.mono f1.tups, hj0, by omega, tr1, by decide, by omega, by omega, by omega, fun r2 d2 m2 p2 H2 td2 W2 e2 ⟨ex2, rt2⟩ s2 z2 n2 f2 => ?_⟩
    have F2 := f1.trans f2
    -- of
    refine ⟨_, rfl, _, rfl, _, rfl, _, rfl, d, pn, "key", "of", z, least, free, p2, _, _, rfl, hz, W2, .key (by decide +kernel), by omega, by omega, by omega, fun h => absurd h (by decide +kernel), fun r3 l3 c3 p3 H3 td3 W3 e3 n3 i3 s3 f3 => ?_⟩
    have F3 := F2.trans f3
    -- block
    refine ⟨_, rfl, _, rfl, _, rfl, d, pn, z, least, p3, _, _, rfl, hz, W3, by omega, by omega, by omega, fun col p4 H4 hcol W4 e4 k4 u4 n4 f4 => ?_⟩
    have F4 := F3.trans f4
    -- []
    refine ⟨_, rfl, _, rfl, _, rfl, d, pn, "sign", "[]", _, col, false, p4, _, _, rfl, rfl, W4, .sign (by decide +kernel), Nat.le_refl _, by omega, by omega, fun h => absurd h (by decide +kernel), fun r5 l5 c5 p5 H5 td5 W5 e5 n5 i5 s5 f5 => ?_⟩
    have F5 := F4.trans f5
    -- ->
    refine ⟨_, rfl, _, rfl, _, rfl, d, pn, "sign", "->", _, col, false, p5, _, _, rfl, rfl, W5, .sign (by decide +kernel), by omega, by omega, by omega, fun h => absurd h (by decide +kernel), fun r6 l6 c6 p6 H6 td6 W6 e6 n6 i6 s6 f6 => ?_⟩
    have F6 := F5.trans f6
    -- empty
    refine ⟨_, rfl, _, rfl, _, rfl, a, _, _, _, rfl, rfl, .of (F6.tups _ _ ha), atI_nat (j := 3) rfl, _, rfl, d, pn, ve, de, _, col, false, 0, 0, p6, _, _, j, rfl, rfl, rfl, W6, tde.mono F6.tups, hj0, by omega, tr2, by decide, by omega, by omega, by omega, fun r7 d7 m7 p7 H7 td7 W7 e7 ⟨ex7, rt7⟩ s7 z7 n7 f7 => ?_⟩
    have F7 := F6.trans f7
    -- item
    refine ⟨_, rfl, _, rfl, _, rfl, d, pn, _, col, p7, _, _, rfl, rfl, W7, by omega, by omega, fun v8 p8 H8 W8 e8 b8 k8 n8 f8 => ?_⟩
    have F8 := F7.trans f8
    -- four words
    refine ⟨_, rfl, a, _, _, _, rfl, rfl, .of (F8.tups _ _ ha), atI_nat (j := 4) rfl, _, rfl, a, _, _, _, rfl, rfl, .of (F8.tups _ _ ha), atI_nat (j := 5) rfl, by show 4 ≤ sizeLine; decide, fun L9 hL9 => ?_⟩
    have nL : L9 ≠ d ∧ L9 ≠ pn := ⟨W8.dr.ne hL9, fun z => by have := W8.pe.hp; rw [← z, hL9] at this; cases this⟩
    have f9 : Fr [] H8 (upd H8 L9 (.lst [.str x1, .str ":", .str x2, .str "->"])) := .new hL9
    have h9 : upd H8 L9 (.lst [.str x1, .str ":", .str x2, .str "->"]) L9 = some (.lst [.str x1, .str ":", .str x2, .str "->"]) := upd_same
    have W9 := W8.fr' f9
    have F9 := F8.trans (fr_0 f9)
    generalize upd H8 L9 (.lst [.str x1, .str ":", .str x2, .str "->"]) = H9 at f9 h9 W9 F9
    refine ⟨L9, rfl, ⟨_, .of h9⟩, for_list (K := K) (a := L9) (xs := [.str x1, .str ":", .str x2, .str "->"]) (fun i σ H' => ∃ (y9 : Option V) (hs : List M) (p' : Pn), σ = [some (.ref d), some (.ref pn), some (.ref a), some (.int z), some (.bl free), some r1, some r2, some (.int (col : Int)), some r7, y9, none, none, none, none, none] ∧
      Wr d pn H' p' (col + 15 * i) (t + 1 + oN j + 1 + 1 + 1 + 1 + oN j + 1 + i) ∧ p'.toks = p8.toks ++ hs ∧ hs.length = i ∧ (∀ (k : Nat) (m : M), hs[k]? = some m → [(("name" : Str), x1), ("sign", ":"), ("name", x2), ("sign", "->")][k]? = some (m.k, m.w)) ∧ Ch ((col : Int) + 1) hs ∧ (i = 0 → p' = p8) ∧
      (0 < i → p'.fresh = false ∧ ∃ m, hs.getLast? = some m ∧ m.l = p'.line) ∧ (∀ m, hs[0]? = some m → m.l = p8.line ∧ m.c = (col : Int)) ∧ Fr [d, pn] H9 H')
      ⟨none, [], p8, rfl, W9.mono (by omega) (by omega), by simp, rfl, by simp, fun pre a b post e => by simp at e, fun _ => rfl, by omega, by simp, Fr.refl _⟩ (fun i σ H' _ ⟨_, _, _, _, _, _, _, _, _, _, _, _, fr⟩ => .of (fr.at h9 (nmem2 nL.1 nL.2))) ?_ ?_⟩
    · rintro i x σ H10 hi ⟨y9, hs, p9, rfl, V1, V2, V3, V4, V5, V6, V7, V8, V9⟩
      obtain ⟨k, wd, rfl, hkw, hwo, hne⟩ : ∃ k wd, x = .str wd ∧ [(("name" : Str), x1), ("sign", ":"), ("name", x2), ("sign", "->")][i]? = some (k, wd) ∧ WordOk k wd ∧ ¬ (wd = "=" ∨ wd = "==") := by
        match i, hi with
        | 0, hi => cases hi; exact ⟨"name", x1, rfl, rfl, .name hx1, fun h => h.elim (nm_ne hx1) fun h => by have := hx1.1 61 (by rw [h]; decide +kernel); omega⟩
        | 1, hi => cases hi; exact ⟨"sign", ":", rfl, rfl, .sign (by decide +kernel), by decide +kernel⟩
        | 2, hi => cases hi; exact ⟨"name", x2, rfl, rfl, .name hx2, fun h => h.elim (nm_ne hx2) fun h => by have := hx2.1 61 (by rw [h]; decide +kernel); omega⟩
        | 3, hi => cases hi; exact ⟨"sign", "->", rfl, rfl, .sign (by decide +kernel), by decide +kernel⟩
        | i + 4, hi => cases hi
      have hi4 : i < 4 := (List.getElem?_eq_some_iff.mp hi).1
      refine ⟨_, rfl, _, rfl, _, rfl, _, rfl, d, pn, k, wd, _, col, false, p9, _, _, rfl, rfl, V1, hwo, by omega, by omega, by omega, fun h => absurd h hne, fun r10 l10 c10 p10 H11 td10 W10 e10 n10 i10 s10 f10 => ?_⟩
      refine ⟨_, hs ++ [⟨k, wd, l10, c10⟩], p10, rfl, W10.mono (by omega) (by omega), by rw [e10, V2, List.append_assoc], by rw [List.length_append, V3] <;> rfl, fun k' m hm => ?_, ch_snoc V5 fun a ha => ?_, by omega, fun _ => ⟨n10, _, by rw [List.getLast?_append] <;> rfl, i10.symm⟩, fun m hm => ?_, V9.trans f10⟩
      · rcases Nat.lt_or_ge k' hs.length with h | h
        · rw [List.getElem?_append_left h] at hm
          exact V4 k' m hm
        · rw [List.getElem?_append_right h] at hm
          have hk0 : k' - hs.length = 0 := by
            have := (List.getElem?_eq_some_iff.mp hm).1
            simp at this
            omega
          rw [hk0] at hm
          cases hm
          have : k' = i := by omega
          rw [this]
          exact hkw
      · have hi0 : 0 < i := by
          rw [← V3]
          exact List.length_pos_iff.mpr fun z => by rw [z] at ha; cases ha
        obtain ⟨q1, m, q2, q3⟩ := V7 hi0
        rw [q2] at ha
        cases ha
        exact cont_of q1 q3 s10
      · cases hs with
        | nil =>
          have e0 : i = 0 := V3.symm
          have ep := V6 e0
          cases hm
          have := s10.1 (by rw [ep]; exact n8)
          rw [ep, k8] at this
          exact this
        | cons y ys => exact V8 m hm
    rintro σ H10 ⟨y9, hs, p9, rfl, V1, V2, V3, V4, V5, V6, V7, V8, V9⟩
    have F10 := F9.trans V9
    obtain ⟨mh, mc, mt, mg, rfl⟩ : ∃ a b c e, hs = [a, b, c, e] := by
      match hs, V3 with
      | [a, b, c, e], _ => exact ⟨a, b, c, e, rfl⟩
    obtain ⟨n9, mz, hmz, hlz⟩ := V7 (by show 0 < 4; decide)
    have emz : mg = mz := by
      have z : [mh, mc, mt, mg].getLast? = some mg := rfl
      rw [z] at hmz
      exact Option.some.inj hmz
    subst emz
    have k0 := V4 0 mh rfl
    have k1 := V4 1 mc rfl
    have k2 := V4 2 mt rfl
    have k3 := V4 3 mg rfl
    simp only [List.getElem?_cons_zero, List.getElem?_cons_succ, Option.some.injEq, Prod.mk.injEq] at k0 k1 k2 k3
    obtain ⟨q0l, q0c⟩ := V8 mh rfl
    -- body
    refine ⟨_, rfl, _, rfl, _, rfl, a, _, _, _, rfl, rfl, .of (F10.tups _ _ ha), atI_nat (j := 6) rfl, _, rfl, d, pn, vb, db, _, col, false, 0, 0, p9, _, _, j, rfl, rfl, rfl, V1, tdb.mono F10.tups, hj0, by omega, tr3, by decide, by omega, by show _ + 60 + _ ≤ _; omega, by show _ + 4 + _ ≤ _; omega, fun r11 d11 m11 p11 H11 td11 W11 e11 ⟨ex11, rt11⟩ s11 z11 n11 f11 => ?_⟩
    have F11 := F10.trans f11
    refine ⟨_, rfl, _, rfl, _, rfl, _, rfl, a, _, _, _, rfl, rfl, .of (F11.tups _ _ ha), atI_nat (j := 4) rfl, _, rfl, a, _, _, _, rfl, rfl, .of (F11.tups _ _ ha), atI_nat (j := 5) rfl, _, rfl, by show 7 ≤ sizeLine; decide, fun o ho => ?_⟩
    have fo : Fr [] H11 (upd H11 o (.tup [.str "case", r1, r2, r7, .str x1, .str x2, r11])) := .new ho
    have FO := F11.trans (fr_0 fo)
    have T16 : Tp H6 (upd H11 o (.tup [.str "case", r1, r2, r7, .str x1, .str x2, r11])) := fun b xs e => fo.tups _ _ (f11.tups _ _ (V9.tups _ _ (f9.tups _ _ (f8.tups _ _ (f7.tups _ _ e)))))
    have T12 : Tp H2 (upd H11 o (.tup [.str "case", r1, r2, r7, .str x1, .str x2, r11])) := fun b xs e => T16 _ _ (f6.tups _ _ (f5.tups _ _ (f4.tups _ _ (f3.tups _ _ e))))
    have T7 : Tp H7 (upd H11 o (.tup [.str "case", r1, r2, r7, .str x1, .str x2, r11])) := fun b xs e => fo.tups _ _ (f11.tups _ _ (V9.tups _ _ (f9.tups _ _ (f8.tups _ _ e))))
    have T1 : Tp H1 (upd H11 o (.tup [.str "case", r1, r2, r7, .str x1, .str x2, r11])) := fun b xs e => T12 _ _ (f2.tups _ _ e)
    obtain ⟨a2, la2, ll2⟩ := last_line z2
    obtain ⟨a7, la7, ll7⟩ := last_line z7
    obtain ⟨a11, la11, ll11, lw11⟩ := z11
    have ex := ex_case (q := 2 * j - 1) (k := j) (least := z) (lo := loOf free z) (col := (col : Int)) (line := 0) (line' := 0) (cs := ⟨"key", "case", l1, c1⟩) (f := ⟨"key", "of", l3, c3⟩) (b := ⟨"sign", "[]", l5, c5⟩) (g := ⟨"sign", "->", l6, c6⟩) (h := mh) (co := mc) (t := mt) (g2 := mg)
      hj0 (by omega) (by omega) ⟨rfl, rfl⟩ ex2 (hd_of n1 i1.symm s2) ⟨rfl, rfl⟩ ⟨a2, la2, cont_of n2 ll2 s3⟩ ⟨rfl, rfl⟩ ((s5.1 n4).2.trans (by rw [k4])) ⟨rfl, rfl⟩ (cont_of n5 i5.symm s6) ex7 (hd_of n6 i6.symm s7) k0.1.symm q0c ⟨a7, la7, by rw [ll7, q0l]; exact b8⟩
      ⟨k1.1.symm, k1.2.symm⟩ (V5 [] mh mc [mt, mg] rfl) k2.1.symm (V5 [mh] mc mt [mg] rfl) ⟨k3.1.symm, k3.2.symm⟩ (V5 [mh, mc] mt mg [] rfl) ex11 (hd_of n9 hlz s11)
    have ec : caseD (M.pl ⟨"key", "case", l1, c1⟩) d2 d7 mh.w mt.w d11 = caseD (plD l1 c1) d2 d7 x1 x2 d11 := by rw [← k0.2, ← k2.2] <;> rfl
    rw [ec] at ex
    refine q (.ref o) (caseD (plD l1 c1) d2 d7 x1 x2 d11) (⟨"key", "case", l1, c1⟩ :: (m2 ++ ⟨"key", "of", l3, c3⟩ :: ⟨"sign", "[]", l5, c5⟩ :: ⟨"sign", "->", l6, c6⟩ :: (m7 ++ mh :: mc :: mt :: mg :: m11))) p11 _
      (.tup upd_same (.cons (.str _) (.cons (td1.mono T1) (.cons (td2.mono T12) (.cons (td7.mono T7) (.cons (.str _) (.cons (.str _) (.cons (td11.mono fo.tups) .nil)))))))) ((W11.fr' fo).mono (by show _ + 60 + _ ≤ _; omega) (by show _ + 4 + _ ≤ _; omega)) ?_ ?_ ⟨_, _, rfl, (show ("case" : Str) ≠ "=" by decide +kernel), s1⟩ ⟨a11, ?_, ll11, lw11⟩ n11 FO
    · rw [e11, V2, e8, e7, e6, e5, e4, e3, e2, e1]
      simp
    · have eq2 : 2 * (j + 1) - 2 = 2 * j - 1 + 1 := by omega
      rw [eq2]
      exact ⟨ex, .cas hx1 hx2 rt2 rt7 rt11⟩
    · have z1 : ∀ (A : List M) (x : M), (A ++ x :: m11).getLast? = some a11 := fun A x => by
        have : A ++ x :: m11 = (A ++ [x]) ++ m11 := by simp
        rw [this]
        exact last_app la11
      have z2' := z1 (⟨"key", "case", l1, c1⟩ :: (m2 ++ ⟨"key", "of", l3, c3⟩ :: ⟨"sign", "[]", l5, c5⟩ :: ⟨"sign", "->", l6, c6⟩ :: (m7 ++ [mh, mc, mt]))) mg
      simpa using z2'
  | @lt j dl dc x dw db hx trw trb =>
    obtain ⟨a, vp, vw, vb, rfl, ha, hp, tdw, tdb⟩ := td_let td
    have hj0 : 1 ≤ j := by
      cases j with
      | zero => cases trw
      | succ j => omega
    have g1 := gN_up hj0
    have o1 := oN_up hj0
    refine ⟨_, rfl, a, _, _, _, rfl, rfl, .of ha, at0, rfl, _, rfl, ?_⟩
    have hw : decide (V.str "let" = V.str "case") = false := by decide +kernel
    rw [hw]
    refine iteF ?_
    -- let
    refine ⟨_, rfl, _, rfl, _, rfl, _, rfl, d, pn, "key", "let", z, least, free, p, U, t, rfl, hz, W, .key (by decide +kernel), hl, by omega, by omega, fun h => absurd h (by decide +kernel), fun r1 l1 c1 p1 H1 td1 W1 e1 n1 i1 s1 f1 => ?_⟩
    -- block
    refine ⟨_, rfl, _, rfl, _, rfl, d, pn, z, least, p1, _, _, rfl, hz, W1, by omega, by omega, by omega, fun col p2 H2 hcol W2 e2 k2 u2 n2 f2 => ?_⟩
    have F2 := f1.trans f2
    -- rows
    refine ⟨by show 0 ≤ sizeLine; decide, fun rA hrA => ?_⟩
    have nR := W2.new hrA
    have f3 : Fr [] H2 (upd H2 rA (.lst [])) := .new hrA
    let IV : Nat → L2.St → Hp → Prop := fun m σ H' => ∃ (tv : V) (cdt : PyData) (y5 : Option V) (rvs : List V) (rows : List LRow) (p' : Pn) (tt : Nat) (rest : List M), σ = [some (.ref d), some (.ref pn), some tv, some (.int z), some (.bl free), y5, none, some (.int (col : Int)), none, none, none, some (.ref rA), none, none, none] ∧
      TD H' tv cdt ∧ Tr m cdt ∧ m + rows.length = j + 1 ∧ (rows = [] → wordD cdt = "let") ∧ H' rA = some (.lst rvs) ∧ TDs H' rvs (rows.map LRow.py) ∧ RowsOk j rows ∧ Wr d pn H' p' col tt ∧ (rows = [] → tt ≤ t + 2) ∧ (rows ≠ [] → tt + oN m ≤ t + 5 + 2 * oN j) ∧ p'.fresh = true ∧ p'.coln = col ∧
      LetI (2 * j - 1) z (loOf free z) (⟨"key", "let", l1, c1⟩ :: rest) rows (col : Int) p'.line ∧ p'.toks = p.toks ++ (⟨"key", "let", l1, c1⟩ :: rest) ∧ Fr [d, pn] H2 H'
    refine ⟨IV, ⟨j + 1, _, letD (plD dl dc) x dw db, _, [], [], p2, t + 2, [], rfl, td.mono (F2.trans (fr_0 f3)).tups, .lt hx trw trb, by simp, fun _ => rfl, upd_same, .nil, fun i r h => by simp at h, (W2.fr' f3).mono (Nat.le_refl _) (by omega), fun _ => Nat.le_refl _, fun h => absurd rfl h, n2, k2, letI_nil ⟨rfl, rfl⟩ (by omega), by rw [e2, e1], fr_0 f3⟩, ?_⟩
    rintro m σ H3 ⟨tv, cdt, y5, rvs, rows, p3, tt, rest, rfl, v1, v2, v3, v4, v5, v6, v7, v8, v9, v10, v11, v12, v13, v14, v15⟩
    refine let_test (j := j) rfl rfl rfl (by omega) v8.dr v1 v2 v5 v6 v7 nR.1 fun b H4 q1 q2 f4 dr4 => ?_
    have v1' := v1.mono f4.tups
    have v5' := f4.at v5 (nmem1 nR.1)
    have v6' := v6.mono f4.tups
    have W4 : Wr d pn H4 p3 col tt := ⟨dr4, v8.dp, v8.pe.fr' f4 (nmem1 v8.dp.symm), v8.col, v8.txt, v8.cnt⟩
    have F24 := v15.trans (fr_d f4)
    cases b with
    | true =>
      refine iteT ?_
      cases v2 with
      | num hk => exact absurd (q1 rfl) (by show ("num" : Str) ≠ "let"; decide +kernel)
      | nil  => exact absurd (q1 rfl) (by show ("nil" : Str) ≠ "let"; decide +kernel)
      | use h1 h3 has => exact absurd (q1 rfl) (by show ("use" : Str) ≠ "let"; decide +kernel)
      | op hs l r => exact absurd (q1 rfl) (by show ("op" : Str) ≠ "let"; decide +kernel)
      | ite c y e => exact absurd (q1 rfl) (by show ("if" : Str) ≠ "let"; decide +kernel)
      | cas h1 h2 t e b => exact absurd (q1 rfl) (by show ("case" : Str) ≠ "let"; decide +kernel)
      | @lt m ml mc y dw' db' hy trw' trb' =>
        obtain ⟨a', vp', vw', vb', rfl, ha', hp', tdw', tdb'⟩ := td_let v1'
        have hm1 : 1 ≤ m := by
          cases m with
          | zero => cases trw'
          | succ m => omega
        have gm := gN_le (show m ≤ j by omega)
        have om := oN_le (show m ≤ j by omega)
        have om1 := oN_up hm1
        have tle : tt + 3 + (oN m + oN m) ≤ t + 5 + oN j + oN j := by
          by_cases hr : rows = []
          · have := v9 hr
            omega
          · have := v10 hr
            omega
        refine ⟨IV m, fun σ' H' h => ⟨m, Nat.lt_succ_self _, h⟩, ?_⟩
        -- the name
        refine ⟨_, rfl, _, rfl, _, rfl, a', _, _, _, rfl, rfl, .of ha', at2, _, rfl, d, pn, "name", y, _, col, false, p3, _, _, rfl, rfl, W4, .name hy, Nat.le_refl _, by omega, by omega, fun h => ?_, fun r5 l5 c5 p5 H5 td5 W5 e5 n5 i5 s5 f5 => ?_⟩
        · exact (h.elim (nm_ne hy) fun h => by have := hy.1 61 (by rw [h]; decide +kernel); omega).elim
        have F5 := F24.trans f5
        -- =
        refine ⟨_, rfl, _, rfl, _, rfl, d, pn, "sign", "=", _, col, false, p5, _, _, rfl, rfl, W5, .sign (by decide +kernel), by omega, by omega, by omega, fun _ => word_last (nm_ne hy) e5, fun r6 l6 c6 p6 H6 td6 W6 e6 n6 i6 s6 f6 => ?_⟩
        have f46 := f5.trans f6
        -- the worth
        refine ⟨_, rfl, .inl ⟨rfl, _, .of (f46.at v5' (nmem2 nR.1 nR.2))⟩, _, rfl, _, rfl, a', _, _, _, rfl, rfl, .of (f46.tups _ _ ha'), at2, _, rfl, _, rfl, _, rfl, a', _, _, _, rfl, rfl, .of (f46.tups _ _ ha'), atI_nat (j := 3) rfl, _, rfl, d, pn, vw', dw', _, col, false, 0, 0, p6, _, _, m, rfl, rfl, rfl, W6, tdw'.mono f46.tups, hm1, by omega, trw', by decide, by omega, by omega, by omega, fun r7 d7 m7 p7 H7 td7 W7 e7 ⟨ex7, rt7⟩ s7 z7 n7 f7 => ?_⟩
        refine ⟨by show 3 ≤ sizeLine; decide, fun o ho => ?_⟩
        have f8 : Fr [] H7 (upd H7 o (.tup [r5, .str y, r7])) := .new ho
        have h8 : upd H7 o (.tup [r5, .str y, r7]) o = some (.tup [r5, .str y, r7]) := upd_same
        have W8 := W7.fr' f8
        generalize upd H7 o (.tup [r5, .str y, r7]) = H8 at f8 h8 W8
        have f48 := f46.trans (f7.trans (fr_0 f8))
        have R8 := f48.at v5' (nmem2 nR.1 nR.2)
        have lr := v6.len
        rw [List.length_map] at lr
        refine ⟨rA, _, _, rfl, rfl, R8, szl (by omega), ?_⟩
        have tp9 : Tp H8 (upd H8 rA (.lst (rvs ++ [.ref o]))) := Tp.wr R8
        have h9 : upd H8 rA (.lst (rvs ++ [.ref o])) rA = some (.lst (rvs ++ [.ref o])) := upd_same
        have W9 := W8.put (o := .lst (rvs ++ [.ref o])) nR.1 nR.2
        have F9 : Fr [d, pn] H2 (upd H8 rA (.lst (rvs ++ [.ref o]))) := (F24.trans f48).put hrA
        have rows9 : TDs (upd H8 rA (.lst (rvs ++ [.ref o]))) (rvs ++ [.ref o]) ((rows ++ [(⟨plD l5 c5, y, d7⟩ : LRow)]).map LRow.py) := by
          rw [List.map_append]
          exact ((v6'.mono f48.tups).mono tp9).snoc (.tup (tp9 _ _ h8) (.cons ((td5.mono (f6.trans (f7.trans (fr_0 f8))).tups).mono tp9) (.cons (.str _) (.cons ((td7.mono f8.tups).mono tp9) .nil))))
        have ha9 := tp9 _ _ (f48.tups _ _ ha')
        have td9 := (tdb'.mono f48.tups).mono tp9
        generalize upd H8 rA (.lst (rvs ++ [.ref o])) = H9 at tp9 h9 W9 F9 rows9 ha9 td9
        -- item
        refine ⟨_, rfl, _, rfl, _, rfl, d, pn, _, col, p7, _, _, rfl, rfl, W9, by omega, by omega, fun v10 p10 H10 W10 e10 b10 k10 n10 f10 => ?_⟩
        refine ⟨_, rfl, a', _, _, _, rfl, rfl, .of (f10.tups _ _ ha9), atI_nat (j := 4) rfl, ?_⟩
        obtain ⟨a7, la7, ll7⟩ := last_line z7
        have hex : Ex (2 * j - 1) j 0 (col : Int) ((col : Int) + 1) m7 d7 := (Ex.down ex7 (show 2 * m - 1 ≤ 2 * j - 1 by omega) hm1 (by omega) (by omega) (Nat.le_refl 0)).kup (by omega)
        have pc := s5.1 v11
        have li := letI_snoc (x := ⟨"name", y, l5, c5⟩) (e := ⟨"sign", "=", l6, c6⟩) (line' := p10.line) hj0 (by omega) (by omega) v13 rfl (pc.2.trans (by rw [v12])) pc.1 ⟨rfl, rfl⟩ hex (cont_of n5 i5.symm s6) (hd_of n6 i6.symm s7) ⟨a7, la7, by rw [ll7]; exact b10⟩
        refine ⟨vb', db', _, _, rows ++ [(⟨plD l5 c5, y, d7⟩ : LRow)], p10, _, rest ++ ((⟨"name", y, l5, c5⟩ : M) :: (⟨"sign", "=", l6, c6⟩ : M) :: m7), rfl, td9.mono f10.tups, trb', by rw [List.length_append]; show m + (rows.length + 1) = j + 1; omega, fun h => by simp at h, f10.at h9 (nmem2 nR.1 nR.2), rows9.mono f10.tups, fun i r hi => ?_, W10, fun h => by simp at h, fun _ => ?_, n10, k10, by simpa [M.pl] using li, ?_, F9.trans f10⟩
        · rcases Nat.lt_or_ge i rows.length with h | h
          · rw [List.getElem?_append_left h] at hi
            exact v7 i r hi
          · rw [List.getElem?_append_right h] at hi
            have hk0 : i - rows.length = 0 := by
              have := (List.getElem?_eq_some_iff.mp hi).1
              simp at this
              omega
            rw [hk0] at hi
            cases hi
            have e : j - i = m := by omega
            rw [e]
            exact ⟨by omega, rt7, hy, _, _, rfl⟩
        · omega
        · rw [e10, e7, e6, e5, v14]
          simp
    | false =>
      refine iteF ?_
      have hne : rows ≠ [] := fun z => q2 rfl (v4 z) z
      have hm1 : 1 ≤ m := by
        cases m with
        | zero => cases v2
        | succ m => omega
      have rl : 1 ≤ rows.length := List.length_pos_iff.mpr hne
      have gm := gN_le (show m ≤ j by omega)
      have om := oN_le (show m ≤ j by omega)
      have tle := v10 hne
      refine ⟨_, rfl, _, rfl, _, rfl, _, rfl, d, pn, tv, cdt, _, col, false, 0, 0, p3, _, _, m, rfl, rfl, rfl, W4, v1', hm1, by omega, v2, by decide, Nat.le_refl _, by omega, by omega, fun r5 d5 m5 p5 H5 td5 W5 e5 ⟨ex5, rt5⟩ s5 z5 n5 f5 => ?_⟩
      have F5 := F24.trans f5
      have R5 := f5.at v5' (nmem2 nR.1 nR.2)
      have rows5 := v6'.mono f5.tups
      have lr := v6.len
      rw [List.length_map] at lr
      refine ⟨_, rfl, rA, rvs, rfl, .of R5, for_it (walk_rev (xs := rvs)) (fun i σ H' => ∃ (y5 y13 y14 : Option V) (fv : V), σ = [some (.ref d), some (.ref pn), some tv, some (.int z), some (.bl free), y5, none, some (.int (col : Int)), none, none, none, some (.ref rA), some fv, y13, y14] ∧ TD H' fv (letsD (rows.drop (rows.length - i)) d5) ∧ Fr [] H5 H')
        ⟨_, _, _, r5, rfl, by rw [Nat.sub_zero, List.drop_length]; exact td5, Fr.refl _⟩ (fun i σ H' _ ⟨_, _, _, _, _, _, fr⟩ => .of (fr.at R5 (by simp))) ?_ ?_⟩
      · rintro i x σ H6 H6' hi ⟨y5, y13, y14, fv, rfl, u1, u2⟩ ⟨rfl, hx⟩
        have hx' := hx
        have hil : rows.length - 1 - i < rows.length := by omega
        obtain ⟨dd, hdd, tdd⟩ := rows5.getV hx'
        rw [List.getElem?_map, lr] at hdd
        rw [List.getElem?_eq_getElem hil] at hdd
        obtain rfl := (Option.some.inj hdd).symm
        have tdd' : TD H6' x (.tuple [rows[rows.length - 1 - i].p, .str rows[rows.length - 1 - i].x, rows[rows.length - 1 - i].w]) := tdd.mono u2.tups
        obtain ⟨b, us, rfl, hb', hus⟩ := tdd'.tuple
        cases hus with
        | @cons v1 _ _ _ h1 hus => cases hus with
          | cons h2 hus => cases h2; cases hus with
            | @cons v3 _ _ _ h3 hus =>
              cases hus
              refine ⟨b, _, rfl, .of hb', rfl, _, _, rfl, _, _, rfl, _, _, rfl, rfl, ?_⟩
              refine ⟨_, rfl, _, rfl, _, rfl, _, rfl, by show 5 ≤ sizeLine; decide, fun o ho => ?_⟩
              have fo : Fr [] H6' (upd H6' o (.tup [.str "let", v1, .str (rows[rows.length - 1 - i].x), v3, fv])) := .new ho
              refine ⟨_, _, _, _, rfl, ?_, u2.trans fo⟩
              have ed : rows.length - (i + 1) = rows.length - 1 - i := by omega
              have ed2 : rows.length - i = rows.length - 1 - i + 1 := by omega
              rw [ed, List.drop_eq_getElem_cons hil]
              rw [ed2] at u1
              exact .tup upd_same (.cons (.str _) (.cons (h1.mono fo.tups) (.cons (.str _) (.cons (h3.mono fo.tups) (.cons (u1.mono fo.tups) .nil)))))
      rintro σ H6 ⟨y5, y13, y14, fv, rfl, u1, u2⟩
      rw [lr, Nat.sub_self] at u1
      have hex : Ex (2 * j - 1) j 0 (col : Int) ((col : Int) + 1) m5 d5 := (Ex.down ex5 (show 2 * m - 1 ≤ 2 * j - 1 by omega) hm1 (by omega) (by omega) (Nat.le_refl 0)).kup (by omega)
      obtain ⟨mf, rr, em, hmw, hpos⟩ := s5
      have pc := hpos.1 v11
      have ex := ex_let hj0 (by omega) (by omega) v13 hne (by omega) hex ⟨mf, rr, em, pc.2.trans (by rw [v12]), pc.1⟩
      obtain ⟨a5, la5, ll5, lw5⟩ := z5
      have eq2 : 2 * (j + 1) - 2 = 2 * j - 1 + 1 := by omega
      refine ⟨_, rfl, q fv (letsD rows d5) ((⟨"key", "let", l1, c1⟩ : M) :: rest ++ m5) p5 H6 u1 ((W5.fr' u2).mono (by omega) (by omega)) (by rw [e5, v14, List.append_assoc]) ⟨by rw [eq2]; exact ex, lets_tr rows.length rows m d5 rfl v7 v3 rt5⟩ ⟨_, _, rfl, (show ("let" : Str) ≠ "=" by decide +kernel), s1⟩ ⟨a5, last_app la5, ll5, lw5⟩ n5 (F2.trans (F5.trans (fr_0 u2)))⟩
end
end K10
namespace K10
open PySem PySem.Spec PyProof.Rows L2
open SX (S)
def levD : PyData → Nat
  | .tuple (.str w :: rest) => if w = "op" then (match rest with | _ :: .str s :: _ => levO s | _ => 0) else if w = "use" then (match rest with | [_, _, .tuple (_ :: _)] => 7 | _ => 8) else if w = "if" ∨ w = "let" ∨ w = "case" then 0 else 8
  | _ => 8
theorem lev_fun {d : PyData} {n : Nat} (h : Lev d n) : n = levD d := by
  cases h with
  | num => show 8 = (if ("num" : Str) = "op" then 0 else if ("num" : Str) = "use" then 8 else if ("num" : Str) = "if" ∨ ("num" : Str) = "let" ∨ ("num" : Str) = "case" then 0 else 8); rw [if_neg (by decide +kernel), if_neg (by decide +kernel), if_neg (by decide +kernel)]
  | nil => show 8 = (if ("nil" : Str) = "op" then 0 else if ("nil" : Str) = "use" then 8 else if ("nil" : Str) = "if" ∨ ("nil" : Str) = "let" ∨ ("nil" : Str) = "case" then 0 else 8); rw [if_neg (by decide +kernel), if_neg (by decide +kernel), if_neg (by decide +kernel)]
  | @use0 p x => show 8 = (if ("use" : Str) = "op" then levO x else if ("use" : Str) = "use" then 8 else if ("use" : Str) = "if" ∨ ("use" : Str) = "let" ∨ ("use" : Str) = "case" then 0 else 8); rw [if_neg (by decide +kernel), if_pos rfl]
  | @use p x a as => show 7 = (if ("use" : Str) = "op" then levO x else if ("use" : Str) = "use" then 7 else if ("use" : Str) = "if" ∨ ("use" : Str) = "let" ∨ ("use" : Str) = "case" then 0 else 8); rw [if_neg (by decide +kernel), if_pos rfl]
  | @op p l r s => show levO s = (if ("op" : Str) = "op" then levO s else if ("op" : Str) = "use" then 8 else if ("op" : Str) = "if" ∨ ("op" : Str) = "let" ∨ ("op" : Str) = "case" then 0 else 8); rw [if_pos rfl]
  | ite => simp only [levD, ifD]; rw [if_neg (by decide +kernel), if_neg (by decide +kernel), if_pos (by decide +kernel)]
  | lt => simp only [levD, letD]; rw [if_neg (by decide +kernel), if_neg (by decide +kernel), if_pos (by decide +kernel)]
  | cas => simp only [levD, caseD]; rw [if_neg (by decide +kernel), if_neg (by decide +kernel), if_pos (by decide +kernel)]
theorem lev_uniq {d : PyData} {a b : Nat} (h : Lev d a) (h2 : Lev d b) : a = b := (lev_fun h).trans (lev_fun h2).symm
theorem int_txt : ∀ k ∈ numsI, ((toString k : String) : Str) ∈ numsS ∧ ((((toString k : String) : Str), k) ∈ [(("0" : Str), (0 : Int)), ("1", 1), ("2", 2), ("3", 3), ("7", 7), ("999999999", 999999999), ("12", 12)]) ∧ k.natAbs.log2 < 1920 := by decide +kernel
section
variable {P : Program} {w : World} {K : PySem.W.Frag} {mg : Str → Option Value} {base : Heap} {f : Addr} {fd : FuncData} {kA sA CL CR eA : Addr}
theorem sc_LawWriteSo : FnScope ["draws", "pen", "tree", "least", "free", "word", "place", "args", "level", "left", "right", "test", "yes", "one"] ["draws", "pen", "tree", "least", "free"] (defScope sLawWriteSo) := ⟨rfl, rfl, rfl, by decide +kernel, rfl, by decide +kernel, by decide +kernel⟩
theorem ok_wso {n : Nat} (hn6 : n + 1 ≤ 5) (T : Facts K mg kA sA CL CR eA) (c_law_draw : Cal P w K mg base "_law_draw" 1 ["draws", "many"] spDraw) (c_law_word : Cal P w K mg base "_law_word" 3 ["draws", "pen", "word", "least", "free"] spWord15)
    (c_law_item : Cal P w K mg base "_law_item" 3 ["draws", "pen", "column"] spItem) (c_law_level : Cal P w K mg base "_law_level" 1 ["tree"] spLevel) (c_law_write_block : Cal P w K mg base "_law_write_block" (3 * n + 6) ["draws", "pen", "tree", "least", "free"] (spWb (n + 1)))
    (c_law_write : Cal P w K mg base "_law_write" (3 * n + 5) ["draws", "pen", "tree", "least", "free", "need_d"] (spWrite n)) (F : FnP K "_law_write_so" "_law_write_so" sLawWriteSo [] f fd) : FnOk P w K mg base CX0 (3 * n + 6 + 1) f fd ["draws", "pen", "tree", "least", "free"] (spWso (n + 1)) := by
  refine F.ok sc_LawWriteSo (fun vs H Q E h => ?_) (fun cdv A outer s H vs Q E hr h => ?_)
  · obtain ⟨d, pn, tv, dt, z, least, free, p, U, t, j, lev, rfl, _⟩ := h
    rfl
  obtain ⟨d, pn, tv, dt, z, least, free, p, U, t, j, lev, rfl, hz, W, td, hj1, hjn, tr, hlev, hl, hU, ht, q⟩ := h
  refine ⟨_, PSs.nox (pss_cons (ps_set (i := 5) sc_LawWriteSo.nd rfl (.inl rfl) (pe_ix (ixT K) (pv 2) pe_int (fun _ _ => rfl)))
    (pss_cons (ps_if (pt_cmpR (opIn K) (pv 5) (pe_tup (pa_cons pe_str (pa_cons pe_str pa_nil))) (by rfl))
    (pss_one (ps_ret (pe_c c_law_write_block (hr.mono (by omega)) (by rfl) (pa_cons (pv 0) (pa_cons (pv 1) (pa_cons (pv 2) (pa_cons (pv 3) (pa_cons (pv 4) pa_nil))))))))
    pss_nil)
    (pss_cons (ps_if (pt_cmpR op_eq (pv 5) pe_str (nomark _))
    (pss_one (ps_ret (pe_tup (pa_cons (pv 5) (pa_cons (pe_c c_law_word (hr.mono (by omega)) (by rfl) (pa_cons (pv 0) (pa_cons (pv 1) (pa_cons (pe_callTy call_str_int (by rfl) T.f_str boot_str (pa_cons (pe_ix (ixT K) (pv 2) pe_int (fun _ _ => rfl)) pa_nil)) (pa_cons (pv 3) (pa_cons (pv 4) pa_nil)))))) (pa_cons (pe_ix (ixT K) (pv 2) pe_int (fun _ _ => rfl)) pa_nil))))))
    pss_nil)
    (pss_cons (ps_if (pt_cmpR op_eq (pv 5) pe_str (nomark _))
    (pss_one (ps_ret (pe_tup (pa_cons (pv 5) (pa_cons (pe_c c_law_word (hr.mono (by omega)) (by rfl) (pa_cons (pv 0) (pa_cons (pv 1) (pa_cons pe_str (pa_cons (pv 3) (pa_cons (pv 4) pa_nil)))))) pa_nil)))))
    pss_nil)
    (pss_cons (ps_if (pt_cmpR op_eq (pv 5) pe_str (nomark _))
    (pss_cons (ps_set (i := 6) sc_LawWriteSo.nd rfl (.inl rfl) (pe_c c_law_word (hr.mono (by omega)) (by rfl) (pa_cons (pv 0) (pa_cons (pv 1) (pa_cons (pe_ix (ixT K) (pv 2) pe_int (fun _ _ => rfl)) (pa_cons (pv 3) (pa_cons (pv 4) pa_nil)))))))
      (pss_cons (ps_setLc (i := 7) (own := [("one", 13)]) (by rfl) sc_LawWriteSo.nd rfl rfl (sw_true rfl rfl rfl (by decide +kernel)) (piT K (pe_ix (ixT K) (pv 2) pe_int (fun _ _ => rfl))) (blkOk_by (N := ["draws", "pen", "tree", "least", "free", "word", "place", "args", "level", "left", "right", "test", "yes", "one"]) (sc := defScope sLawWriteSo) (by decide +kernel)) (fun _ _ _ _ _ => (pg_name (i := 13) sc_LawWriteSo.nd rfl (.inl rfl))) (fun _ _ _ _ _ => pts_nil) (fun _ _ _ _ _ => (pe_c c_law_write (hr.mono (by omega)) (by rfl) (pa_cons (pv 0) (pa_cons (pv 1) (pa_cons (pv 13) (pa_cons (pv 3) (pa_cons (pv 4) (pa_cons pe_int pa_nil)))))))))
      (pss_one (ps_ret (pe_tup (pa_cons (pv 5) (pa_cons (pv 6) (pa_cons (pe_ix (ixT K) (pv 2) pe_int (fun _ _ => rfl)) (pa_cons (pe_callTy (clTup K) (by rfl) T.f_tuple boot_tuple (pa_cons (pv 7) pa_nil)) pa_nil)))))))))
    pss_nil)
    (pss_cons (ps_if (pt_cmpR op_eq (pv 5) pe_str (nomark _))
    (pss_cons (ps_set (i := 8) sc_LawWriteSo.nd rfl (.inl rfl) (pe_c c_law_level (hr.mono (by omega)) (by rfl) (pa_cons (pv 2) pa_nil)))
      (pss_cons (ps_set (i := 9) sc_LawWriteSo.nd rfl (.inl rfl) (pe_c c_law_write (hr.mono (by omega)) (by rfl) (pa_cons (pv 0) (pa_cons (pv 1) (pa_cons (pe_ix (ixT K) (pv 2) pe_int (fun _ _ => rfl)) (pa_cons (pv 3) (pa_cons (pv 4) (pa_cons (pe_op op_add (pv 8) (pe_callTy call_int1 (by rfl) T.f_int boot_int (pa_cons (pe_cmpR op_lt (pv 8) pe_int (nomark _)) pa_nil))) pa_nil))))))))
      (pss_cons (ps_set (i := 6) sc_LawWriteSo.nd rfl (.inl rfl) (pe_c c_law_word (hr.mono (by omega)) (by rfl) (pa_cons (pv 0) (pa_cons (pv 1) (pa_cons (pe_ix (ixT K) (pv 2) pe_int (fun _ _ => rfl)) (pa_cons (pv 3) (pa_cons (pv 4) pa_nil)))))))
      (pss_cons (ps_set (i := 10) sc_LawWriteSo.nd rfl (.inl rfl) (pe_c c_law_write (hr.mono (by omega)) (by rfl) (pa_cons (pv 0) (pa_cons (pv 1) (pa_cons (pe_ix (ixT K) (pv 2) pe_int (fun _ _ => rfl)) (pa_cons (pv 3) (pa_cons (pv 4) (pa_cons (pe_op op_add (pv 8) (pe_callTy call_int1 (by rfl) T.f_int boot_int (pa_cons (pe_cmpR op_ne (pv 8) pe_int (nomark _)) pa_nil))) pa_nil))))))))
      (pss_one (ps_ret (pe_tup (pa_cons (pv 5) (pa_cons (pv 6) (pa_cons (pe_ix (ixT K) (pv 2) pe_int (fun _ _ => rfl)) (pa_cons (pv 9) (pa_cons (pv 10) pa_nil))))))))))))
    pss_nil)
    (pss_cons (ps_set (i := 6) sc_LawWriteSo.nd rfl (.inl rfl) (pe_c c_law_word (hr.mono (by omega)) (by rfl) (pa_cons (pv 0) (pa_cons (pv 1) (pa_cons pe_str (pa_cons (pv 3) (pa_cons (pv 4) pa_nil)))))))
    (pss_cons (ps_set (i := 11) sc_LawWriteSo.nd rfl (.inl rfl) (pe_c c_law_write (hr.mono (by omega)) (by rfl) (pa_cons (pv 0) (pa_cons (pv 1) (pa_cons (pe_ix (ixT K) (pv 2) pe_int (fun _ _ => rfl)) (pa_cons (pv 3) (pa_cons (pv 4) (pa_cons pe_int pa_nil))))))))
    (pss_cons (ps_expr (pe_c c_law_word (hr.mono (by omega)) (by rfl) (pa_cons (pv 0) (pa_cons (pv 1) (pa_cons pe_str (pa_cons (pv 3) (pa_cons (pv 4) pa_nil)))))))
    (Evl.pss_cut (ps_if (PW.pt (pw_and (pt_cmpR (opIn K) (pe_ix (ixT K) (pe_ix (ixT K) (pv 2) pe_int (fun _ _ => rfl)) pe_int (fun _ _ => rfl)) (pe_tup (pa_cons pe_str (pa_cons pe_str pa_nil))) (by rfl)) (pw_and1 (pt_cmpR op_eq (pe_c c_law_draw (hr.mono (by omega)) (by rfl) (pa_cons (pv 0) (pa_cons pe_int pa_nil))) pe_int (nomark _)))))
    (pss_cons (ps_set (i := 12) sc_LawWriteSo.nd rfl (.inl rfl) (pe_c c_law_write_block (hr.mono (by omega)) (by rfl) (pa_cons (pv 0) (pa_cons (pv 1) (pa_cons (pe_ix (ixT K) (pv 2) pe_int (fun _ _ => rfl)) (pa_cons (pe_op op_add (pv 3) pe_int) (pa_cons (pv 4) pa_nil)))))))
      (pss_one (ps_expr (pe_c c_law_item (hr.mono (by omega)) (by rfl) (pa_cons (pv 0) (pa_cons (pv 1) (pa_cons (pe_op op_add (pv 3) pe_int) pa_nil)))))))
    (pss_one (ps_set (i := 12) sc_LawWriteSo.nd rfl (.inl rfl) (pe_c c_law_write (hr.mono (by omega)) (by rfl) (pa_cons (pv 0) (pa_cons (pv 1) (pa_cons (pe_ix (ixT K) (pv 2) pe_int (fun _ _ => rfl)) (pa_cons (pv 3) (pa_cons (pv 4) (pa_cons pe_int pa_nil))))))))))
    (pss_cons (ps_expr (pe_c c_law_word (hr.mono (by omega)) (by rfl) (pa_cons (pv 0) (pa_cons (pv 1) (pa_cons pe_str (pa_cons (pv 3) (pa_cons (pv 4) pa_nil)))))))
    (pss_one (ps_ret (pe_tup (pa_cons (pv 5) (pa_cons (pv 6) (pa_cons (pv 11) (pa_cons (pv 12) (pa_cons (pe_c c_law_write (hr.mono (by omega)) (by rfl) (pa_cons (pv 0) (pa_cons (pv 1) (pa_cons (pe_ix (ixT K) (pv 2) pe_int (fun _ _ => rfl)) (pa_cons (pv 3) (pa_cons (pv 4) (pa_cons pe_int pa_nil))))))) pa_nil))))))))))))))))))), ?_⟩
  have td' := td
  cases tr with
  | @num j pl pc k hk =>
    obtain ⟨a, vp, rfl, ha, hp⟩ := td_num td
    have hl8 := lev_uniq hlev .num
    subst hl8
    have g23 := gN_ge j
    have o3 := oN_ge j
    have it := int_txt k hk
    refine ⟨_, rfl, a, _, _, _, rfl, rfl, .of ha, at0, ?_⟩
    refine ⟨_, rfl, by show 2 ≤ sizeLine; decide, fun T0 hT0 => ⟨T0, _, rfl, .inr (.of upd_same), rfl, rfl, _, rfl, ?_⟩⟩
    have f0 : Fr [] H (upd H T0 (.tup [.str "let", .str "case"])) := .new hT0
    have h0 : inV (.str "num") [.str "let", .str "case"] = false := by decide +kernel
    rw [if_neg (by decide : ¬ false = true), h0]
    have W0 := W.fr' f0
    have ha0 := f0.at ha (by simp)
    have td0 := td'.mono f0.tups
    generalize upd H T0 (.tup [.str "let", .str "case"]) = H0 at f0 W0 ha0 td0
    refine iteF ?_
    refine ⟨_, rfl, rfl, _, rfl, ?_⟩
    rw [show decide (V.str "num" = V.str "num") = true by decide +kernel]
    refine iteT ?_
    refine ⟨_, rfl, _, rfl, _, rfl, _, rfl, a, _, _, _, rfl, rfl, .of ha0, at2, _, rfl, it.2.2, _, rfl, _, rfl, d, pn, "number", _, z, least, free, p, U, t, rfl, hz, W0, .number it.1, hl, by omega, by omega, fun h => ?_, fun r1 l1 c1 p1 H1 td1 W1 e1 n1 i1 s1 f1 => ?_⟩
    · have hf := (num_figures _ it.1).1
      rcases h with h | h
      · have := hf 61 (by rw [h]; decide +kernel)
        omega
      · have := hf 61 (by rw [h]; decide +kernel)
        omega
    refine ⟨_, rfl, a, _, _, _, rfl, rfl, .of (f1.tups _ _ ha0), at2, by show 3 ≤ sizeLine; decide, fun o ho => ?_⟩
    have fo : Fr [] H1 (upd H1 o (.tup [.str "num", r1, .int k])) := .new ho
    have ex := Ex.down (ex_num (q := 2 * (j + 1) - 2) (k := j + 1) (least := z) (lo := loOf free z) (m := ⟨"number", ((toString k : String) : Str), l1, c1⟩) (i := k) rfl it.2.1) (Nat.le_refl _) (by omega) (by omega) (Nat.le_refl 8) (Nat.le_refl 8)
    have nw : ((toString k : String) : Str) ≠ "=" := fun h => by
      have := (num_figures _ it.1).1 61 (by rw [h]; decide +kernel)
      omega
    exact q (.ref o) (numD (plD l1 c1) k) _ p1 _ (.tup upd_same (.cons (.str _) (.cons (td1.mono fo.tups) (.cons (.int _) .nil)))) ((W1.fr' fo).mono (by omega) (by omega)) e1 ⟨ex, .num hk⟩ ⟨_, _, rfl, nw, s1⟩ ⟨_, rfl, i1.symm, nw⟩ n1 ((fr_0 f0).trans (f1.trans (fr_0 fo)))
  | @nil j pl pc =>
    obtain ⟨a, vp, rfl, ha, hp⟩ := td_nil td
    have hl8 := lev_uniq hlev .nil
    subst hl8
    have g23 := gN_ge j
    have o3 := oN_ge j
    refine ⟨_, rfl, a, _, _, _, rfl, rfl, .of ha, at0, ?_⟩
    refine ⟨_, rfl, by show 2 ≤ sizeLine; decide, fun T0 hT0 => ⟨T0, _, rfl, .inr (.of upd_same), rfl, rfl, _, rfl, ?_⟩⟩
    have f0 : Fr [] H (upd H T0 (.tup [.str "let", .str "case"])) := .new hT0
    have h0 : inV (.str "nil") [.str "let", .str "case"] = false := by decide +kernel
    rw [if_neg (by decide : ¬ false = true), h0]
    have W0 := W.fr' f0
    have ha0 := f0.at ha (by simp)
    have td0 := td'.mono f0.tups
    generalize upd H T0 (.tup [.str "let", .str "case"]) = H0 at f0 W0 ha0 td0
    refine iteF ?_
    refine ⟨_, rfl, rfl, _, rfl, ?_⟩
    rw [show decide (V.str "nil" = V.str "num") = false by decide +kernel]
    refine iteF ?_
    refine ⟨_, rfl, rfl, _, rfl, ?_⟩
    rw [show decide (V.str "nil" = V.str "nil") = true by decide +kernel]
    refine iteT ?_
    refine ⟨_, rfl, _, rfl, _, rfl, _, rfl, _, rfl, d, pn, "sign", "[]", z, least, free, p, U, t, rfl, hz, W0, .sign (by decide +kernel), hl, by omega, by omega, fun h => absurd h (by decide +kernel), fun r1 l1 c1 p1 H1 td1 W1 e1 n1 i1 s1 f1 => ?_⟩
    refine ⟨by show 2 ≤ sizeLine; decide, fun o ho => ?_⟩
    have fo : Fr [] H1 (upd H1 o (.tup [.str "nil", r1])) := .new ho
    have ex := Ex.down (ex_nil (q := 2 * (j + 1) - 2) (k := j + 1) (least := z) (lo := loOf free z) (m := ⟨"sign", "[]", l1, c1⟩) rfl rfl) (Nat.le_refl _) (by omega) (by omega) (Nat.le_refl 8) (Nat.le_refl 8)
    have nw : ("[]" : Str) ≠ "=" := by decide +kernel
    exact q (.ref o) (nilD (plD l1 c1)) _ p1 _ (.tup upd_same (.cons (.str _) (.cons (td1.mono fo.tups) .nil))) ((W1.fr' fo).mono (by omega) (by omega)) e1 ⟨ex, .nil⟩ ⟨_, _, rfl, nw, s1⟩ ⟨_, rfl, i1.symm, nw⟩ n1 ((fr_0 f0).trans (f1.trans (fr_0 fo)))
  | @use j pl pc x as hx h3 has =>
    obtain ⟨a, vp, b, us, rfl, ha, hp, hb, hus⟩ := td_use td
    have g23 := gN_ge j
    have o3 := oN_ge j
    refine ⟨_, rfl, a, _, _, _, rfl, rfl, .of ha, at0, ?_⟩
    refine ⟨_, rfl, by show 2 ≤ sizeLine; decide, fun T0 hT0 => ⟨T0, _, rfl, .inr (.of upd_same), rfl, rfl, _, rfl, ?_⟩⟩
    have f0 : Fr [] H (upd H T0 (.tup [.str "let", .str "case"])) := .new hT0
    have h0 : inV (.str "use") [.str "let", .str "case"] = false := by decide +kernel
    rw [if_neg (by decide : ¬ false = true), h0]
    have W0 := W.fr' f0
    have ha0 := f0.at ha (by simp)
    have td0 := td'.mono f0.tups
    generalize upd H T0 (.tup [.str "let", .str "case"]) = H0 at f0 W0 ha0 td0
    refine iteF ?_
    refine ⟨_, rfl, rfl, _, rfl, ?_⟩
    rw [show decide (V.str "use" = V.str "num") = false by decide +kernel]
    refine iteF ?_
    refine ⟨_, rfl, rfl, _, rfl, ?_⟩
    rw [show decide (V.str "use" = V.str "nil") = false by decide +kernel]
    refine iteF ?_
    refine ⟨_, rfl, rfl, _, rfl, ?_⟩
    rw [show decide (V.str "use" = V.str "use") = true by decide +kernel]
    refine iteT ?_
    -- the name
    refine ⟨_, rfl, _, rfl, _, rfl, a, _, _, _, rfl, rfl, .of ha0, at2, _, rfl, _, rfl, d, pn, "name", x, z, least, free, p, U, t, rfl, hz, W0, .name hx, hl, by omega, by omega, fun h => (h.elim (nm_ne hx) fun h => by have := hx.1 61 (by rw [h]; decide +kernel); omega).elim, fun r1 l1 c1 p1 H1 td1 W1 e1 n1 i1 s1 f1 => ?_⟩
    have ha1 := f1.tups _ _ ha0
    have hb1 := f1.tups _ _ (f0.tups _ _ hb)
    have hus1 := (hus.mono f0.tups).mono f1.tups
    have lus := hus.len
    have hcost : as.length * gN j + 23 ≤ gN (j + 1) ∧ as.length * oN j + 3 ≤ oN (j + 1) := by
      cases as with
      | nil => simp [g23, o3]
      | cons y ys =>
        have hj0 : 1 ≤ j := by
          cases j with
          | zero => cases has y List.mem_cons_self
          | succ j => omega
        have g1 := gN_up hj0
        have o1 := oN_up hj0
        have m1 := Nat.mul_le_mul_right (gN j) h3
        have m2 := Nat.mul_le_mul_right (oN j) h3
        omega
    -- the arguments
    refine ⟨_, rfl, a, _, _, _, rfl, rfl, .of ha1, atI_nat (j := 3) rfl, b, rfl, ⟨us, .of hb1⟩, fun D hD => lc_it (walk_tup (xs := us)) (fun i H' => ∃ (vs' : List V) (ds' : List PyData) (ms : List M) (p' : Pn), H' D = some (.lst vs') ∧ TDs H' vs' ds' ∧ ds'.length = i ∧ (∀ dd ∈ ds', Tr j dd) ∧ Wr d pn H' p' (U + 15 + i * gN j) (t + 1 + i * oN j) ∧ p'.toks = p1.toks ++ ms ∧
      ArgsI (2 * j - 1) j z (loOf free z) ⟨"name", x, l1, c1⟩ ms ds' ∧ p'.fresh = false ∧ (∃ m, ((⟨"name", x, l1, c1⟩ : M) :: ms).getLast? = some m ∧ m.l = p'.line ∧ m.w ≠ "=") ∧ (i = 0 → ms = []) ∧ Fr [d, pn] H1 H')
      ⟨[], [], [], p1, upd_same, .nil, rfl, by simp, (W1.fr' (.new hD)).mono (by omega) (by omega), by simp, argsI_nil (.inl rfl), n1, ⟨_, rfl, i1.symm, nm_ne hx⟩, fun _ => rfl, .new hD⟩ (fun i H' _ ⟨_, _, _, _, _, _, _, _, _, _, _, _, _, _, fr⟩ => .of (fr.tups _ _ hb1)) ?_ ?_⟩
    · rintro i y H2 H3 hi ⟨vs', ds', ms, p2, u1, u2, u3, u4, u5, u6, u7, u8, ⟨mz, u9, u10, u11⟩, _, u12⟩ ⟨rfl, hy⟩
      obtain ⟨dd, hdd, tdd⟩ := hus1.getV hy
      have hdm := List.mem_of_getElem? hdd
      have hj0 : 1 ≤ j := by
        cases j with
        | zero => cases has dd hdm
        | succ j => omega
      have il : i < as.length := (List.getElem?_eq_some_iff.mp hdd).1
      have nD := W1.new hD
      have c1' := Nat.mul_le_mul_right (gN j) (show i + 1 ≤ as.length from il)
      have c2' := Nat.mul_le_mul_right (oN j) (show i + 1 ≤ as.length from il)
      rw [Nat.add_mul, Nat.one_mul] at c1' c2'
      refine ⟨rfl, ?_⟩
      refine yesI ?_
      refine ⟨_, rfl, _, rfl, _, rfl, _, rfl, _, rfl, d, pn, y, dd, z, least, free, 8, 8, p2, _, _, j, rfl, hz, rfl, u5, tdd.mono u12.tups, hj0, by omega, has dd hdm, Nat.le_refl _, by omega, by omega, by omega, fun r4 d4 m4 p4 H4 td4 W4 e4 ⟨ex4, rt4⟩ s4 z4 n4 f4 => ?_⟩
      have lv := u2.len
      have u1' := f4.at u1 (nmem2 nD.1 nD.2)
      refine ⟨_, u1', szl (by omega), vs' ++ [r4], ds' ++ [d4], ms ++ m4, p4, upd_same, ?_, by rw [List.length_append, u3] <;> rfl, fun e he => ?_, (W4.put nD.1 nD.2).mono (by rw [Nat.add_mul, Nat.one_mul]; omega) (by rw [Nat.add_mul, Nat.one_mul]; omega), by rw [e4, u6, List.append_assoc], argsI_snoc u7 ex4 (fun m r e => ?_) ⟨mz, u9, hd_of u8 u10 s4⟩, n4, ?_, fun h => by omega, (u12.trans f4).put hD⟩
      · exact ((u2.mono f4.tups).snoc td4).mono (Tp.wr u1')
      · rcases List.mem_append.mp he with he | he
        · exact u4 e he
        · rw [List.mem_singleton.mp he]
          exact rt4
      · obtain ⟨m0, rr, em, hmw, _⟩ := s4
        rw [em] at e
        cases e
        exact hmw
      · obtain ⟨a4, la4, ll4, lw4⟩ := z4
        exact ⟨a4, last_cons (last_app la4), ll4, lw4⟩
    rintro H2 ⟨vs', ds', ms, p2, u1, u2, u3, u4, u5, u6, u7, u8, ⟨mz, u9, u10, u11⟩, u0, u12⟩
    refine ⟨_, rfl, _, rfl, _, rfl, a, _, _, _, rfl, rfl, .of (u12.tups _ _ ha1), at2, _, rfl, D, _, rfl, .inl ⟨.of u1, fun u hu => ⟨by show 4 ≤ sizeLine; decide, fun o ho => ?_⟩⟩⟩
    have f5 : Fr [] H2 (upd H2 u (.tup vs')) := .new hu
    have fo : Fr [] (upd H2 u (.tup vs')) (upd (upd H2 u (.tup vs')) o (.tup [.str "use", r1, .str x, .ref u])) := .new ho
    have f25 := f5.trans fo
    have tdr : TD (upd (upd H2 u (.tup vs')) o (.tup [.str "use", r1, .str x, .ref u])) (.ref o) (useD (plD l1 c1) x ds') := .tup upd_same (.cons (.str _) (.cons ((td1.mono u12.tups).mono f25.tups) (.cons (.str _) (.cons (.tup (fo.tups _ _ upd_same) (u2.mono f25.tups)) .nil))))
    have lus2 : ds'.length = as.length := by rw [u3, lus]
    have ex := ex_use (m := ⟨"name", x, l1, c1⟩) rfl (nm_ne hx) (by omega) u7
    have exF : Ex (2 * (j + 1) - 2) (j + 1) lev z (loOf free z) ((⟨"name", x, l1, c1⟩ : M) :: ms) (useD (plD l1 c1) x ds') := by
      cases as with
      | nil =>
        have hl8 := lev_uniq hlev .use0
        subst hl8
        have e0 : ds' = [] := List.eq_nil_of_length_eq_zero lus2
        subst e0
        have em := u0 (by rw [← u3] <;> rfl)
        subst em
        exact Ex.down (ex_use0 (q := 2 * (j + 1) - 2) (k := j + 1) (m := ⟨"name", x, l1, c1⟩) rfl) (Nat.le_refl _) (by omega) (by omega) (Nat.le_refl 8) (Nat.le_refl 8)
      | cons y ys =>
        have hl8 := lev_uniq hlev .use
        subst hl8
        exact Ex.down ex (by omega) (by omega) (by omega) (by decide) (Nat.le_refl _)
    exact q (.ref o) (useD (plD l1 c1) x ds') ((⟨"name", x, l1, c1⟩ : M) :: ms) p2 _ tdr ((u5.fr' f25).mono (by rw [← lus] at hcost; omega) (by rw [← lus] at hcost; omega)) (by rw [u6, e1]; simp) ⟨exF, .use hx (by omega) u4⟩ ⟨_, _, rfl, nm_ne hx, s1⟩ ⟨mz, u9, u10, u11⟩ u8 ((fr_0 f0).trans (f1.trans (u12.trans (fr_0 f25))))
  | @op j pl pc sg dl dr hs trl trr =>
    obtain ⟨a, vp, vl, vr, rfl, ha, hp, hvl, hvr⟩ := td_op td
    have hj0 : 1 ≤ j := by
      cases j with
      | zero => cases trl
      | succ j => omega
    have g1 := gN_up hj0
    have o1 := oN_up hj0
    have hl8 := lev_uniq hlev .op
    subst hl8
    have lo8 := op_facts hs
    refine ⟨_, rfl, a, _, _, _, rfl, rfl, .of ha, at0, ?_⟩
    refine ⟨_, rfl, by show 2 ≤ sizeLine; decide, fun T0 hT0 => ⟨T0, _, rfl, .inr (.of upd_same), rfl, rfl, _, rfl, ?_⟩⟩
    have f0 : Fr [] H (upd H T0 (.tup [.str "let", .str "case"])) := .new hT0
    have h0 : inV (.str "op") [.str "let", .str "case"] = false := by decide +kernel
    rw [if_neg (by decide : ¬ false = true), h0]
    have W0 := W.fr' f0
    have ha0 := f0.at ha (by simp)
    have td0 := td'.mono f0.tups
    generalize upd H T0 (.tup [.str "let", .str "case"]) = H0 at f0 W0 ha0 td0
    refine iteF ?_
    refine ⟨_, rfl, rfl, _, rfl, ?_⟩
    rw [show decide (V.str "op" = V.str "num") = false by decide +kernel]
    refine iteF ?_
    refine ⟨_, rfl, rfl, _, rfl, ?_⟩
    rw [show decide (V.str "op" = V.str "nil") = false by decide +kernel]
    refine iteF ?_
    refine ⟨_, rfl, rfl, _, rfl, ?_⟩
    rw [show decide (V.str "op" = V.str "use") = false by decide +kernel]
    refine iteF ?_
    refine ⟨_, rfl, rfl, _, rfl, ?_⟩
    rw [show decide (V.str "op" = V.str "op") = true by decide +kernel]
    refine iteT ?_
    -- the level
    refine ⟨_, rfl, .ref a, _, j + 1, rfl, td0, .op hs trl trr, by omega, fun lev H1 hl1 f1 => ?_⟩
    obtain rfl := lev_uniq hl1 .op
    have W1 := W0.fr' f1
    have ha1 := f1.at ha0 (by simp)
    have nl : ((levO sg : Nat) : Int) + (if decide (((levO sg : Nat) : Int) < 5) = true then 1 else 0) = ((needL sg : Nat) : Int) := by
      unfold needL
      by_cases h : levO sg < 5
      · rw [if_pos h, decide_eq_true (by omega), if_pos rfl]
        omega
      · rw [if_neg h, decide_eq_false (by omega), if_neg (by decide)]
        omega
    have nr : ((levO sg : Nat) : Int) + (if (!decide (V.int ((levO sg : Nat) : Int) = V.int 4)) = true then 1 else 0) = ((needR sg : Nat) : Int) := by
      unfold needR
      by_cases h : levO sg = 4
      · rw [if_pos h, h]
        have : decide (V.int ((4 : Nat) : Int) = V.int 4) = true := by decide
        rw [this]
        rfl
      · rw [if_neg h, decide_eq_false (fun e => h (by injection e; omega))]
        show _ + (1 : Int) = _
        omega
    have l8 : needL sg ≤ 8 ∧ needR sg ≤ 8 := by
      unfold needL needR levO
      constructor <;> (repeat' split) <;> omega
    -- left
    refine ⟨_, rfl, _, rfl, _, rfl, a, _, _, _, rfl, rfl, .of ha1, atI_nat (j := 3) rfl, _, rfl, _, rfl, _, rfl, _, rfl, _, _, rfl, rfl, .inr ⟨_, rfl, ?_⟩⟩
    refine ⟨_, _, rfl, rfl, d, pn, vl, dl, z, least, free, _, needL sg, p, U, t, j, rfl, hz, nl, W1, (hvl.mono f0.tups).mono f1.tups, hj0, by omega, trl, l8.1, hl, by omega, by omega, fun r2 d2 m2 p2 H2 td2 W2 e2 ⟨ex2, rt2⟩ s2 z2 n2 f2 => ?_⟩
    have ha2 := f2.tups _ _ ha1
    -- the sign
    have hwo : WordOk (kindO sg) sg := by
      have := hs
      unfold opsS at this
      simp only [List.mem_cons, List.not_mem_nil, or_false] at this
      rcases this with rfl | rfl | rfl | rfl | rfl | rfl | rfl | rfl
      · exact .sign (by decide +kernel)
      · exact .sign (by decide +kernel)
      · exact .sign (by decide +kernel)
      · exact .key (by decide +kernel)
      · exact .key (by decide +kernel)
      · exact .sign (by decide +kernel)
      · exact .sign (by decide +kernel)
      · exact .sign (by decide +kernel)
    refine ⟨_, rfl, _, rfl, _, rfl, a, _, _, _, rfl, rfl, .of ha2, at2, _, rfl, _, rfl, d, pn, kindO sg, sg, z, least, free, p2, _, _, rfl, hz, W2, hwo, by omega, by omega, by omega, fun _ => last_toks z2 e2, fun r3 l3 c3 p3 H3 td3 W3 e3 n3 i3 s3 f3 => ?_⟩
    have ha3 := f3.tups _ _ ha2
    -- right
    refine ⟨_, rfl, _, rfl, _, rfl, a, _, _, _, rfl, rfl, .of ha3, atI_nat (j := 4) rfl, _, rfl, _, rfl, _, rfl, _, rfl, rfl, .inr ⟨_, rfl, ?_⟩⟩
    refine ⟨_, _, rfl, rfl, d, pn, vr, dr, z, least, free, _, needR sg, p3, _, _, j, rfl, hz, nr, W3, hvr.mono (f0.trans (f1.trans (Fr.refl _))).tups |>.mono (f2.trans f3).tups, hj0, by omega, trr, l8.2, by omega, by omega, by omega, fun r4 d4 m4 p4 H4 td4 W4 e4 ⟨ex4, rt4⟩ s4 z4 n4 f4 => ?_⟩
    have ha4 := f4.tups _ _ ha3
    refine ⟨_, rfl, _, rfl, _, rfl, a, _, _, _, rfl, rfl, .of ha4, at2, _, rfl, _, rfl, by show 5 ≤ sizeLine; decide, fun o ho => ?_⟩
    have fo : Fr [] H4 (upd H4 o (.tup [.str "op", r3, .str sg, r2, r4])) := .new ho
    obtain ⟨a2, la2, ll2⟩ := last_line z2
    obtain ⟨a4, la4, ll4, lw4⟩ := z4
    have ex := ex_op (k := j) (m := ⟨kindO sg, sg, l3, c3⟩) (by omega) hs ⟨rfl, rfl⟩ ex2 ex4 ⟨a2, la2, cont_of n2 ll2 s3⟩ (hd_of n3 i3.symm s4)
    have ex' := Ex.down ex (show 2 * j - 1 ≤ 2 * (j + 1) - 2 by omega) (by omega) (by omega) lo8.2.2.2.2.2.2.2.2 (Nat.le_refl _)
    obtain ⟨mf, rr, em, hmw, hpos⟩ := s2
    exact q (.ref o) (opD (plD l3 c3) sg d2 d4) (m2 ++ (⟨kindO sg, sg, l3, c3⟩ : M) :: m4) p4 _ (.tup upd_same (.cons (.str _) (.cons ((td3.mono f4.tups).mono fo.tups) (.cons (.str _) (.cons ((td2.mono (f3.trans f4).tups).mono fo.tups) (.cons (td4.mono fo.tups) .nil)))))) ((W4.fr' fo).mono (by omega) (by omega)) (by rw [e4, e3, e2]; simp) ⟨ex', .op hs rt2 rt4⟩ ⟨mf, rr ++ (⟨kindO sg, sg, l3, c3⟩ : M) :: m4, by rw [em] <;> rfl, hmw, hpos⟩ ⟨a4, by
      have : m2 ++ (⟨kindO sg, sg, l3, c3⟩ : M) :: m4 = (m2 ++ [(⟨kindO sg, sg, l3, c3⟩ : M)]) ++ m4 := by simp
      rw [this]
      exact last_app la4, ll4, lw4⟩ n4 ((fr_0 (f0.trans f1)).trans (f2.trans (f3.trans (f4.trans (fr_0 fo)))))
  | @ite j pl pc dc dy dn trc try' trn =>
    obtain ⟨a, vp, vc, vy, vn, rfl, ha, hp, hvc, hvy, hvn⟩ := td_if td
    have hj0 : 1 ≤ j := by
      cases j with
      | zero => cases trc
      | succ j => omega
    have g1 := gN_up hj0
    have o1 := oN_up hj0
    have hl8 := lev_uniq hlev .ite
    subst hl8
    refine ⟨_, rfl, a, _, _, _, rfl, rfl, .of ha, at0, ?_⟩
    refine ⟨_, rfl, by show 2 ≤ sizeLine; decide, fun T0 hT0 => ⟨T0, _, rfl, .inr (.of upd_same), rfl, rfl, _, rfl, ?_⟩⟩
    have f0 : Fr [] H (upd H T0 (.tup [.str "let", .str "case"])) := .new hT0
    have h0 : inV (.str "if") [.str "let", .str "case"] = false := by decide +kernel
    rw [if_neg (by decide : ¬ false = true), h0]
    have W0 := W.fr' f0
    have ha0 := f0.at ha (by simp)
    have td0 := td'.mono f0.tups
    generalize upd H T0 (.tup [.str "let", .str "case"]) = H0 at f0 W0 ha0 td0
    refine iteF ?_
    refine ⟨_, rfl, rfl, _, rfl, ?_⟩
    rw [show decide (V.str "if" = V.str "num") = false by decide +kernel]
    refine iteF ?_
    refine ⟨_, rfl, rfl, _, rfl, ?_⟩
    rw [show decide (V.str "if" = V.str "nil") = false by decide +kernel]
    refine iteF ?_
    refine ⟨_, rfl, rfl, _, rfl, ?_⟩
    rw [show decide (V.str "if" = V.str "use") = false by decide +kernel]
    refine iteF ?_
    refine ⟨_, rfl, rfl, _, rfl, ?_⟩
    rw [show decide (V.str "if" = V.str "op") = false by decide +kernel]
    refine iteF ?_
    -- if
    refine ⟨_, rfl, _, rfl, _, rfl, _, rfl, d, pn, "key", "if", z, least, free, p, U, t, rfl, hz, W0, .key (by decide +kernel), hl, by omega, by omega, fun h => absurd h (by decide +kernel), fun r1 l1 c1 p1 H1 td1 W1 e1 n1 i1 s1 f1 => ?_⟩
    have ha1 := f1.tups _ _ ha0
    -- test
    refine ⟨_, rfl, _, rfl, _, rfl, a, _, _, _, rfl, rfl, .of ha1, at2, _, rfl, _, rfl, d, pn, vc, dc, z, least, free, 1, 1, p1, _, _, j, rfl, hz, rfl, W1, (hvc.mono f0.tups).mono f1.tups, hj0, by omega, trc, by decide, by omega, by omega, by omega, fun r2 d2 m2 p2 H2 td2 W2 e2 ⟨ex2, rt2⟩ s2 z2 n2 f2 => ?_⟩
    have ha2 := f2.tups _ _ ha1
    -- then
    refine ⟨_, rfl, _, rfl, _, rfl, _, rfl, d, pn, "key", "then", z, least, free, p2, _, _, rfl, hz, W2, .key (by decide +kernel), by omega, by omega, by omega, fun h => absurd h (by decide +kernel), fun r3 l3 c3 p3 H3 td3 W3 e3 n3 i3 s3 f3 => ?_⟩
    have ha3 := f3.tups _ _ ha2
    have F3 : Fr [d, pn] H H3 := (fr_0 f0).trans (f1.trans (f2.trans f3))
    have T3 : Tp H H3 := F3.tups
    -- yes
    refine ⟨fun σ' H' => ∃ (r4 : V) (d4 : PyData) (m4 : List M) (p4 : Pn), σ' = [some (.ref d), some (.ref pn), some (.ref a), some (.int z), some (.bl free), some (.str "if"), some r1, none, none, none, none, some r2, some r4, none] ∧ TD H' r4 d4 ∧ Tr j d4 ∧ Wr d pn H' p4 (U + 15 + gN j + 15 + gN j) (t + 1 + oN j + 1 + oN j + 1) ∧ p4.toks = p3.toks ++ m4 ∧ (∃ az, m4.getLast? = some az) ∧
      (∀ l5 c5, PosOk p4 (loOf free z) l5 c5 → YesI (2 * j - 1) z (loOf free z) ⟨"key", "then", l3, c3⟩ m4 ⟨"key", "else", l5, c5⟩ d4) ∧ Fr [d, pn] H3 H', ?_, ?_⟩
    · have els : ∀ (Hx : Hp) (D0 : Ends), Wr d pn Hx p3 (U + 15 + gN j + 15) (t + 1 + oN j + 1) → Fr [d, pn] H3 Hx → (∀ σ' H', (∃ (r4 : V) (d4 : PyData) (m4 : List M) (p4 : Pn), σ' = [some (.ref d), some (.ref pn), some (.ref a), some (.int z), some (.bl free), some (.str "if"), some r1, none, none, none, none, some r2, some r4, none] ∧ TD H' r4 d4 ∧ Tr j d4 ∧ Wr d pn H' p4 (U + 15 + gN j + 15 + gN j) (t + 1 + oN j + 1 + oN j + 1) ∧ p4.toks = p3.toks ++ m4 ∧ (∃ az, m4.getLast? = some az) ∧
          (∀ l5 c5, PosOk p4 (loOf free z) l5 c5 → YesI (2 * j - 1) z (loOf free z) ⟨"key", "then", l3, c3⟩ m4 ⟨"key", "else", l5, c5⟩ d4) ∧ Fr [d, pn] H3 H') → D0.nx σ' H') →
          tAsg (tCall (spWrite n) [] E0 (tCons (tVar 0) (tCons (tVar 1) (tCons (tOp (rIxT K) (tVar 2) (tC (.int 3))) (tCons (tVar 3) (tCons (tVar 4) (tCons (tC (.int 1)) tNil))))))) (gName 12) D0 [some (.ref d), some (.ref pn), some (.ref a), some (.int z), some (.bl free), some (.str "if"), some r1, none, none, none, none, some r2, none, none] Hx := by
        intro Hx D0 Wx fx hq
        refine ⟨_, rfl, _, rfl, _, rfl, a, _, _, _, rfl, rfl, .of (fx.tups _ _ ha3), atI_nat (j := 3) rfl, _, rfl, _, rfl, d, pn, vy, dy, z, least, free, 1, 1, p3, _, _, j, rfl, hz, rfl, Wx, (hvy.mono T3).mono fx.tups, hj0, by omega, try', by decide, by omega, by omega, by omega, fun r4 d4 m4 p4 H4 td4 W4 e4 ⟨ex4, rt4⟩ s4 z4 n4 f4 => ?_⟩
        obtain ⟨a4, la4, ll4⟩ := last_line z4
        exact hq _ _ ⟨r4, d4, m4, p4, rfl, td4, rt4, W4.mono (Nat.le_refl _) (by omega), e4, ⟨a4, la4⟩, fun l5 c5 hp5 => yes_plain hj0 (by omega) ⟨rfl, rfl⟩ ⟨rfl, rfl⟩ ex4 (hd_of n3 i3.symm s4) ⟨a4, la4, cont_of n4 ll4 hp5⟩, fx.trans f4⟩
      obtain ⟨ay, ys, rfl, hay, hwy⟩ := td_word (hvy.mono T3) try'
      refine ⟨_, rfl, a, _, _, _, rfl, rfl, .of ha3, atI_nat (j := 3) rfl, ay, _, _, _, rfl, rfl, .of hay, hwy, by show 2 ≤ sizeLine; decide, fun T4 hT4 => ⟨T4, _, rfl, .inr (.of upd_same), rfl, rfl, _, rfl, ?_⟩⟩
      have f4 : Fr [] H3 (upd H3 T4 (.tup [.str "let", .str "case"])) := .new hT4
      have W4 := W3.fr' f4
      generalize upd H3 T4 (.tup [.str "let", .str "case"]) = H4 at f4 W4
      rw [if_neg (by decide : ¬ false = true)]
      have hin : inV (.str (wordD dy)) [.str "let", .str "case"] = decide (wordD dy ∈ (["let", "case"] : List Str)) := inV_strs _ ["let", "case"]
      rw [hin]
      refine ite2 (fun hbw => ?_) (fun _ => iteF (els H4 _ W4 (fr_0 f4) fun σ' H' h => h))
      have hbw' : wordD dy = "let" ∨ wordD dy = "case" := by
        have := of_decide_eq_true hbw
        simpa using this
      refine ⟨_, rfl, d, _, rfl, W4.dr, by decide, by decide, fun r H5 q0 q1 dr5 f5 => ?_⟩
      have W5 : Wr d pn H5 p3 (U + 15 + gN j + 15) (t + 1 + oN j + 1) := ⟨dr5, W4.dp, W4.pe.fr' f5 (nmem1 W4.dp.symm), W4.col, W4.txt, W4.cnt⟩
      have f35 : Fr [d, pn] H3 H5 := (fr_0 f4).trans (fr_d f5)
      refine ⟨rfl, _, rfl, ite2 (fun _ => ?_) (fun _ => els H5 _ W5 f35 fun σ' H' h => h)⟩
      -- a block
      refine ⟨_, rfl, _, rfl, _, rfl, a, _, _, _, rfl, rfl, .of (f35.tups _ _ ha3), atI_nat (j := 3) rfl, _, rfl, _, _, rfl, rfl, _, rfl, d, pn, .ref ay, dy, z + 1, least + 1, free, p3, _, _, j, rfl, by omega, W5, (hvy.mono T3).mono f35.tups, hj0, by omega, try', hbw', by omega, by omega, by omega, fun r4 d4 m4 p4 H6 td4 W6 e4 ⟨ex4, rt4⟩ s4 z4 n4 f6 => ?_⟩
      have f36 := f35.trans f6
      -- item
      refine ⟨_, rfl, _, rfl, _, rfl, _, _, rfl, rfl, d, pn, z + 1, least + 1, p4, _, _, rfl, by omega, W6, by omega, by omega, fun v7 p7 H7 W7 e7 b7 k7 n7 f7 => ?_⟩
      obtain ⟨a4, la4, ll4⟩ := last_line z4
      have lo1 : loOf free z ≤ loOf free (z + 1) ∧ loOf free z ≤ z + 1 := by
        unfold loOf
        cases free
        · exact ⟨by show z + 1 ≤ z + 1 + 1; omega, Int.le_refl _⟩
        · exact ⟨Int.le_refl _, by show (0 : Int) ≤ z + 1; omega⟩
      refine ⟨r4, d4, m4, p7, rfl, td4.mono f7.tups, rt4, W7.mono (by omega) (by omega), by rw [e7, e4], ⟨a4, la4⟩, fun l5 c5 hp5 => ?_, f36.trans f7⟩
      have pp := hp5.1 n7
      refine yes_block hj0 (by omega) ⟨rfl, rfl⟩ ⟨rfl, rfl⟩ lo1.1 lo1.2 (Ex.down ex4 (by omega) hj0 (by omega) (by omega) (Nat.le_refl 0)) (hd_of n3 i3.symm s4) ⟨a4, la4, by rw [ll4]; show p4.line < l5; rw [pp.1]; exact b7⟩ ?_
      show c5 = z + 1
      rw [pp.2, k7]
      omega
    rintro σ' H4 ⟨r4, d4, m4, p4, rfl, td4, rt4, W4, e4, ⟨az4, laz4⟩, hyes, f4⟩
    -- else
    refine ⟨_, rfl, _, rfl, _, rfl, _, rfl, d, pn, "key", "else", z, least, free, p4, _, _, rfl, hz, W4, .key (by decide +kernel), by omega, by omega, by omega, fun h => absurd h (by decide +kernel), fun r5 l5 c5 p5 H5 td5 W5 e5 n5 i5 s5 f5 => ?_⟩
    have f35 := f4.trans f5
    refine ⟨_, rfl, _, rfl, _, rfl, _, rfl, _, rfl, _, rfl, _, rfl, a, _, _, _, rfl, rfl, .of (f35.tups _ _ ha3), atI_nat (j := 4) rfl, _, rfl, _, rfl, d, pn, vn, dn, z, least, free, 0, 0, p5, _, _, j, rfl, hz, rfl, W5, (hvn.mono T3).mono f35.tups, hj0, by omega, trn, by decide, by omega, by omega, by omega, fun r6 d6 m6 p6 H6 td6 W6 e6 ⟨ex6, rt6⟩ s6 z6 n6 f6 => ?_⟩
    refine ⟨by show 5 ≤ sizeLine; decide, fun o ho => ?_⟩
    have fo : Fr [] H6 (upd H6 o (.tup [.str "if", r1, r2, r4, r6])) := .new ho
    have T16 : Tp H1 H6 := fun b xs e => f6.tups _ _ (f35.tups _ _ (f3.tups _ _ (f2.tups _ _ e)))
    have T26 : Tp H2 H6 := fun b xs e => f6.tups _ _ (f35.tups _ _ (f3.tups _ _ e))
    obtain ⟨a2, la2, ll2⟩ := last_line z2
    obtain ⟨a6, la6, ll6, lw6⟩ := z6
    have ex := ex_if (i := ⟨"key", "if", l1, c1⟩) (t := ⟨"key", "then", l3, c3⟩) (e := ⟨"key", "else", l5, c5⟩) hj0 (by omega) ⟨rfl, rfl⟩ ⟨rfl, rfl⟩ ⟨rfl, rfl⟩ ex2 (hyes l5 c5 s5) ex6 (hd_of n1 i1.symm s2) ⟨a2, la2, cont_of n2 ll2 s3⟩ (hd_of n5 i5.symm s6)
    have eq2 : 2 * (j + 1) - 2 = 2 * j - 1 + 1 := by omega
    exact q (.ref o) (ifD (plD l1 c1) d2 d4 d6) ((⟨"key", "if", l1, c1⟩ : M) :: (m2 ++ (⟨"key", "then", l3, c3⟩ : M) :: (m4 ++ (⟨"key", "else", l5, c5⟩ : M) :: m6))) p6 _ (.tup upd_same (.cons (.str _) (.cons ((td1.mono T16).mono fo.tups) (.cons ((td2.mono T26).mono fo.tups) (.cons ((td4.mono (f5.trans f6).tups).mono fo.tups) (.cons (td6.mono fo.tups) .nil)))))) ((W6.fr' fo).mono (by omega) (by omega)) (by rw [e6, e5, e4, e3, e2, e1]; simp) ⟨by rw [eq2]; exact ex, .ite rt2 rt4 rt6⟩ ⟨_, _, rfl, (show ("if" : Str) ≠ "=" by decide +kernel), s1⟩ ⟨a6, by
      have : (⟨"key", "if", l1, c1⟩ : M) :: (m2 ++ (⟨"key", "then", l3, c3⟩ : M) :: (m4 ++ (⟨"key", "else", l5, c5⟩ : M) :: m6)) = ((⟨"key", "if", l1, c1⟩ : M) :: (m2 ++ (⟨"key", "then", l3, c3⟩ : M) :: (m4 ++ [(⟨"key", "else", l5, c5⟩ : M)]))) ++ m6 := by simp
      rw [this]
      exact last_app la6, ll6, lw6⟩ n6 (F3.trans (f35.trans (f6.trans (fr_0 fo))))
  | @lt j pl pc x dw db hx trw trb =>
    obtain ⟨a, vp, vw, vb, rfl, ha, hp, hvw, hvb⟩ := td_let td
    have hl8 := lev_uniq hlev .lt
    subst hl8
    refine ⟨_, rfl, a, _, _, _, rfl, rfl, .of ha, at0, ?_⟩
    refine ⟨_, rfl, by show 2 ≤ sizeLine; decide, fun T0 hT0 => ⟨T0, _, rfl, .inr (.of upd_same), rfl, rfl, _, rfl, ?_⟩⟩
    have f0 : Fr [] H (upd H T0 (.tup [.str "let", .str "case"])) := .new hT0
    have h0 : inV (.str "let") [.str "let", .str "case"] = true := by decide +kernel
    rw [if_neg (by decide : ¬ false = true), h0]
    have W0 := W.fr' f0
    have ha0 := f0.at ha (by simp)
    have td0 := td'.mono f0.tups
    generalize upd H T0 (.tup [.str "let", .str "case"]) = H0 at f0 W0 ha0 td0
    refine iteT ?_
    exact ⟨_, rfl, _, rfl, _, rfl, _, rfl, _, rfl, d, pn, _, _, z, least, free, p, U, t, j + 1, rfl, hz, W0, td0, hj1, hjn, .lt hx trw trb, .inl rfl, hl, hU, ht, fun r dd ms p1 H1 td1 W1 e1 R1 s1 z1 n1 f1 => q r dd ms p1 H1 td1 W1 e1 R1 s1 z1 n1 ((fr_0 f0).trans f1)⟩
  | @cas j pl pc dt0 de x1 x2 db hx1 hx2 tr1 tr2 tr3 =>
    obtain ⟨a, vp, vt, ve, vb, rfl, ha, hp, hvt, hve, hvb⟩ := td_case td
    have hl8 := lev_uniq hlev .cas
    subst hl8
    refine ⟨_, rfl, a, _, _, _, rfl, rfl, .of ha, at0, ?_⟩
    refine ⟨_, rfl, by show 2 ≤ sizeLine; decide, fun T0 hT0 => ⟨T0, _, rfl, .inr (.of upd_same), rfl, rfl, _, rfl, ?_⟩⟩
    have f0 : Fr [] H (upd H T0 (.tup [.str "let", .str "case"])) := .new hT0
    have h0 : inV (.str "case") [.str "let", .str "case"] = true := by decide +kernel
    rw [if_neg (by decide : ¬ false = true), h0]
    have W0 := W.fr' f0
    have ha0 := f0.at ha (by simp)
    have td0 := td'.mono f0.tups
    generalize upd H T0 (.tup [.str "let", .str "case"]) = H0 at f0 W0 ha0 td0
    refine iteT ?_
    exact ⟨_, rfl, _, rfl, _, rfl, _, rfl, _, rfl, d, pn, _, _, z, least, free, p, U, t, j + 1, rfl, hz, W0, td0, hj1, hjn, .cas hx1 hx2 tr1 tr2 tr3, .inr rfl, hl, hU, ht, fun r dd ms p1 H1 td1 W1 e1 R1 s1 z1 n1 f1 => q r dd ms p1 H1 td1 W1 e1 R1 s1 z1 n1 ((fr_0 f0).trans f1)⟩
end
end K10
namespace K10
open PySem PySem.Spec PyProof.Rows L2
open SX (S)
theorem lev_ex {n : Nat} {d : PyData} (h : Tr n d) : ∃ lev, Lev d lev ∧ lev ≤ 8 := by
  cases h with
  | num _ => exact ⟨8, .num, Nat.le_refl _⟩
  | nil => exact ⟨8, .nil, Nat.le_refl _⟩
  | @use _ _ _ _ as _ _ _ => cases as with
    | nil => exact ⟨8, .use0, Nat.le_refl _⟩
    | cons a r => exact ⟨7, .use, by decide⟩
  | op hs _ _ => exact ⟨_, .op, (op_facts hs).2.2.2.2.2.2.2.2⟩
  | ite _ _ _ => exact ⟨0, .ite, by decide⟩
  | lt _ _ _ => exact ⟨0, .lt, by decide⟩
  | cas _ _ _ _ _ => exact ⟨0, .cas, by decide⟩
section
variable {P : Program} {w : World} {K : PySem.W.Frag} {mg : Str → Option Value} {base : Heap} {f : Addr} {fd : FuncData} {kA sA CL CR eA : Addr}
theorem sc_LawWrite : FnScope ["draws", "pen", "tree", "least", "free", "need_d", "found"] ["draws", "pen", "tree", "least", "free", "need_d"] (defScope sLawWrite) := ⟨rfl, rfl, rfl, by decide +kernel, rfl, by decide +kernel, by decide +kernel⟩
theorem ok_write {n : Nat} (hn6 : n + 1 ≤ 5) (T : Facts K mg kA sA CL CR eA) (c_law_draw : Cal P w K mg base "_law_draw" 1 ["draws", "many"] spDraw) (c_law_word : Cal P w K mg base "_law_word" 3 ["draws", "pen", "word", "least", "free"] spWord)
    (c_law_level : Cal P w K mg base "_law_level" 1 ["tree"] spLevel) (c_law_write_so : Cal P w K mg base "_law_write_so" (3 * n + 7) ["draws", "pen", "tree", "least", "free"] (spWso (n + 1)))
    (F : FnP K "_law_write" "_law_write" sLawWrite [] f fd) : FnOk P w K mg base CX0 (3 * n + 7 + 1) f fd ["draws", "pen", "tree", "least", "free", "need_d"] (spWrite (n + 1)) := by
  refine F.ok sc_LawWrite (fun vs H Q E h => ?_) (fun cdv A outer s H vs Q E hr h => ?_)
  · obtain ⟨d, pn, tv, dt, z, least, free, nd, need, p, U, t, j, rfl, _⟩ := h
    rfl
  obtain ⟨d, pn, tv, dt, z, least, free, nd, need, p, U, t, j, rfl, hz, rfl, W, td, hj1, hjn, tr, hn8, hl, hU, ht, q⟩ := h
  refine ⟨_, PSs.nox (pss_cons (ps_if (PW.pt (pw_and (pt_cmpR op_ge (pe_c c_law_level (hr.mono (by omega)) (by rfl) (pa_cons (pv 2) pa_nil)) (pv 5) (nomark _)) (pw_and1 (pt_cmpR op_gt (pe_c c_law_draw (hr.mono (by omega)) (by rfl) (pa_cons (pv 0) (pa_cons pe_int pa_nil))) pe_int (nomark _)))))
    (pss_one (ps_ret (pe_c c_law_write_so (hr.mono (by omega)) (by rfl) (pa_cons (pv 0) (pa_cons (pv 1) (pa_cons (pv 2) (pa_cons (pv 3) (pa_cons (pv 4) pa_nil))))))))
    pss_nil)
    (pss_cons (ps_expr (pe_c c_law_word (hr.mono (by omega)) (by rfl) (pa_cons (pv 0) (pa_cons (pv 1) (pa_cons pe_str (pa_cons (pv 3) (pa_cons (pv 4) pa_nil)))))))
    (pss_cons (ps_set (i := 6) sc_LawWrite.nd rfl (.inl rfl) (pe_c c_law_write_so (hr.mono (by omega)) (by rfl) (pa_cons (pv 0) (pa_cons (pv 1) (pa_cons (pv 2) (pa_cons (pv 3) (pa_cons pe_bl pa_nil)))))))
    (pss_cons (ps_asg (pe_op op_add_str (pe_ix (ixL K) (pv 1) pe_int (fun _ _ => rfl)) pe_str) (pg_sub (pv 1) pe_int set_list))
    (pss_cons (ps_asg (pe_op op_add (pe_ix (ixL K) (pv 1) pe_int (fun _ _ => rfl)) pe_int) (pg_sub (pv 1) pe_int set_list))
    (pss_one (ps_ret (pv 6)))))))), ?_⟩
  have g23 : 23 ≤ gN j := by
    obtain ⟨m, rfl⟩ : ∃ m, j = m + 1 := ⟨j - 1, by omega⟩
    exact gN_ge m
  have o3 : 3 ≤ oN j := by
    obtain ⟨m, rfl⟩ : ∃ m, j = m + 1 := ⟨j - 1, by omega⟩
    exact oN_ge m
  refine ⟨_, rfl, tv, dt, j, rfl, td, tr, by omega, fun lev H1 hlev f1 => ?_⟩
  have W1 := W.fr' f1
  have td1 := td.mono f1.tups
  have l8 : lev ≤ 8 := by
    obtain ⟨lv, h1, h2⟩ := lev_ex tr
    rw [lev_uniq hlev h1]
    exact h2
  have par : ∀ (Hx : Hp) (Q1 : VK), Wr d pn Hx p U t → Fr [d, pn] H Hx → TD Hx tv dt → Q1 = Q →
      tSeq (tDrop (tCall spWord [] E0 (tCons (tVar 0) (tCons (tVar 1) (tCons (tC (.str "(")) (tCons (tVar 3) (tCons (tVar 4) tNil)))))))
        (tSeq (tAsg (tCall (spWso (n + 1)) [] E0 (tCons (tVar 0) (tCons (tVar 1) (tCons (tVar 2) (tCons (tVar 3) (tCons (tC (.bl true)) tNil)))))) (gName 6))
          (tSeq (tAsg (tOp rAddS (tOp (rIxL K) (tVar 1) (tC (.int 0))) (tC (.str ")"))) (gSub (tVar 1) (tC (.int 0)) rSetL))
            (tSeq (tAsg (tOp (rI0 fun i j => .int (i + j)) (tOp (rIxL K) (tVar 1) (tC (.int 2))) (tC (.int 1))) (gSub (tVar 1) (tC (.int 2)) rSetL)) (tRet (tVar 6))))) { nx := fun x H' => Q V.non H', rt := Q1 } [some (.ref d), some (.ref pn), some tv, some (.int z), some (.bl free), some (.int (need : Int)), none] Hx := by
    intro Hx Q1 Wx fx tdx hQ
    subst hQ
    have ew : ("(" : Str).length = 1 := by decide +kernel
    have ew2 : (")" : Str).length = 1 := by decide +kernel
    refine ⟨_, rfl, _, rfl, _, rfl, _, rfl, d, pn, "sign", "(", z, least, free, p, U, t, rfl, hz, Wx, .sign (by decide +kernel), hl, by omega, by omega, fun h => absurd h (by decide +kernel), fun r1 l1 c1 p1 H1 td1 W1 e1 n1 i1 s1 f1 => ?_⟩
    rw [ew] at W1
    refine ⟨_, rfl, _, rfl, _, rfl, _, rfl, d, pn, tv, dt, z, least, true, p1, _, _, j, lev, rfl, hz, W1, tdx.mono f1.tups, hj1, hjn, tr, hlev, by omega, by omega, by omega, fun r2 d2 m2 p2 H2 td2 W2 e2 ⟨ex2, rt2⟩ s2 z2 n2 f2 => ?_⟩
    have txt2 := W2.txt
    have l3 : (S p2.text).length + (")" : Str).length ≤ 16700000 := by
      rw [SX.S_len, ew2]
      omega
    refine ⟨_, rfl, pn, _, _, _, rfl, rfl, .of W2.pe.hp, at0, _, _, rfl, rfl, sz16 (by omega), _, rfl, pn, _, _, 0, rfl, rfl, W2.pe.hp, Evl.ixN_nat (j := 0) (by simp [penV]), ?_⟩
    have f4 : Fr [pn] H2 (upd H2 pn (.lst ((penV p2).set 0 (V.str (S p2.text ++ (")" : Str)))))) := .wr W2.pe.hp mem1
    have h4 : upd H2 pn (.lst ((penV p2).set 0 (V.str (S p2.text ++ (")" : Str))))) pn = some (.lst [V.str (S p2.text ++ (")" : Str)), .int p2.line, .int (p2.coln : Int), .bl p2.fresh]) := upd_same
    have dr4 := W2.dr.put (o := .lst ((penV p2).set 0 (V.str (S p2.text ++ (")" : Str))))) W2.dp.symm
    have td4 := td2.mono f4.tups
    generalize upd H2 pn (.lst ((penV p2).set 0 (V.str (S p2.text ++ (")" : Str))))) = H4 at f4 h4 dr4 td4
    refine ⟨_, rfl, pn, _, _, _, rfl, rfl, .of h4, at2, _, _, rfl, rfl, _, rfl, pn, _, _, 2, rfl, rfl, h4, Evl.ixN_nat (j := 2) (by simp), ?_⟩
    have f5 : Fr [pn] H4 (upd H4 pn (.lst ([V.str (S p2.text ++ (")" : Str)), .int p2.line, .int (p2.coln : Int), .bl p2.fresh].set 2 (V.int ((p2.coln : Int) + 1))))) := .wr h4 mem1
    have nx : Next p2.cur (.wd "sign" ")") := fun k0 w0 _ k' w' e => by
      cases e
      exact ⟨fun h => absurd h.2 (by show ¬ (("sign" : Str) = "name" ∨ ("sign" : Str) = "key"); decide +kernel), fun h => absurd h.2 (by decide +kernel), fun h => absurd h.2 (by decide +kernel)⟩
    have ok3 := W2.pe.ok.word (k := "sign") (w := ")") (.sign (by decide +kernel)) nx
    obtain ⟨a2, la2, ll2⟩ := last_line z2
    have ex := ex_par (lo' := 0) (e := ⟨"sign", ")", p2.line, (p2.coln : Int)⟩) (b := ⟨"sign", "(", l1, c1⟩) (lo := loOf free z) (need := need) (show Ex (2 * j - 2) j lev z 0 m2 d2 from ex2) hj1 (by omega) l8 ⟨rfl, rfl⟩ ⟨rfl, rfl⟩ (hd_of n1 i1.symm s2) ⟨a2, la2, ll2.symm⟩ hn8
    have eq1 : 2 * j - 2 + 1 = 2 * j - 1 := by omega
    rw [eq1] at ex
    refine ⟨_, rfl, q r2 d2 ((⟨"sign", "(", l1, c1⟩ : M) :: (m2 ++ [(⟨"sign", ")", p2.line, (p2.coln : Int)⟩ : M)])) (p2.word "sign" ")") _ (td4.mono f5.tups) ⟨dr4.put W2.dp.symm, W2.dp, ⟨?_, ok3, fun h => by cases h⟩, ?_, ?_, (by rw [Pn.toks_word, List.length_append]; have := W2.cnt; show _ + 1 ≤ _; omega)⟩ (by rw [Pn.toks_word, e2, e1]; simp) ⟨ex, rt2⟩ ⟨_, _, rfl, (show ("(" : Str) ≠ "=" by decide +kernel), s1⟩ ⟨⟨"sign", ")", p2.line, (p2.coln : Int)⟩, ?_, rfl, (show (")" : Str) ≠ "=" by decide +kernel)⟩ rfl (fx.trans (f1.trans (f2.trans (fr_w (f4.trans f5)))))⟩
    · rw [upd_same]
      unfold penV
      rw [Pn.coln_word, Pn.text_word, n2, ew2]
      have e1 : S p2.text ++ (")" : Str) = S (p2.text ++ (")" : Str).cps.toList) := by
        rw [← SX.S_cat] <;> rfl
      have e2 : ((p2.coln + 1 : Nat) : Int) = (p2.coln : Int) + 1 := by omega
      rw [e1, e2] <;> rfl
    · rw [Pn.coln_word, ew2]
      have := W2.col
      omega
    · rw [Pn.text_word, List.length_append, str_len, ew2]
      omega
    · have : (⟨"sign", "(", l1, c1⟩ : M) :: (m2 ++ [(⟨"sign", ")", p2.line, (p2.coln : Int)⟩ : M)]) = ((⟨"sign", "(", l1, c1⟩ : M) :: m2) ++ [(⟨"sign", ")", p2.line, (p2.coln : Int)⟩ : M)] := by simp
      rw [this]
      exact last_app rfl
  refine ⟨_, rfl, _, _, rfl, rfl, _, rfl, ite2 (fun hge => ?_) (fun _ => iteF (par H1 Q W1 (fr_0 f1) td1 rfl))⟩
  have hge' : ((need : Nat) : Int) ≤ (lev : Int) := of_decide_eq_true hge
  refine ⟨_, rfl, d, _, rfl, W1.dr, by decide, by decide, fun r H2 r0 r1 dr2 f2 => ?_⟩
  have W2 : Wr d pn H2 p U t := ⟨dr2, W1.dp, W1.pe.fr' f2 (nmem1 W1.dp.symm), W1.col, W1.txt, W1.cnt⟩
  have f02 : Fr [d, pn] H H2 := (fr_0 f1).trans (fr_d f2)
  refine ⟨_, _, rfl, rfl, _, rfl, ite2 (fun _ => ?_) (fun _ => par H2 Q W2 f02 (td1.mono f2.tups) rfl)⟩
  exact ⟨_, rfl, _, rfl, _, rfl, _, rfl, _, rfl, d, pn, tv, dt, z, least, free, p, _, _, j, lev, rfl, hz, W2, td1.mono f2.tups, hj1, hjn, tr, hlev, by omega, by omega, by omega, fun r2 d2 m2 p2 H3 td3 W3 e3 ⟨ex3, rt3⟩ s3 z3 n3 f3 =>
    q r2 d2 m2 p2 H3 td3 (W3.mono (by omega) (by omega)) e3 ⟨Ex.down ex3 (by omega) hj1 (by omega) l8 (by omega), rt3⟩ s3 z3 n3 (f02.trans f3)⟩
end
end K10
namespace K10
open PySem PySem.Spec PyProof.Rows L2
theorem meets_enum1 {v : Value} {o : Obj} {H : Heap → Prop} (B : Begins v o H) :
    Meets (Builtin.«enumerate.__new__» ⟨[.type "enumerate", v], []⟩) (fun _ R s => H s.heap ∧
      R (.ok (.ret (.ref (s.heap.push o).objs.size))) { s with heap := (s.heap.push o).push { cls := .type "enumerate", data := .fields #[.none, .bool false, .ref s.heap.objs.size, rawInt 0, .none, .none] } }) :=
  .of_wp fun prog w A R s h => by
    obtain ⟨hp, g, d, tk, os⟩ := s; obtain ⟨h1, h⟩ := h
    have hsub := sub_enumerate
    have q1 : ∀ {A' : Around} {E : Value → Shared → Prop} {Q : Value → Shared → Prop}, Q (.ref hp.objs.size) ⟨hp.push o, g, d, tk, os⟩ → wpAny (model prog w) A' (pyIter v) Q E ⟨hp, g, d, tk, os⟩ :=
      fun q => B.iter prog w _ _ ⟨hp, g, d, tk, os⟩ _ h1 q
    wp_walk using q1
    refine wpAny_stack_any fun st => wpAny_pure ?_
    split
    · rename_i c _ _ _ _ _
      cases (c == Value.type "enumerate")
      · wp_walk using q1
        exact ⟨_, rfl, h⟩
      · wp_walk using q1
        exact ⟨_, rfl, h⟩
    · wp_walk using q1
      exact ⟨_, rfl, h⟩
section
variable {prog : Program} {w : World} {A : Around} {E : Value → Shared → Prop} {s : Shared}
theorem call_enum1 {v : Value} {o : Obj} {H : Heap → Prop} {Q : Value → Shared → Prop} (B : Begins v o H) (h1 : H s.heap)
    (h : ∀ h', IsEnum h' (s.heap.objs.size + 1) s.heap.objs.size 0 .none → h'.get? s.heap.objs.size = some o → h'.objs.size = s.heap.objs.size + 2 →
      (∀ b o, s.heap.get? b = some o → h'.get? b = some o) → Q (.ref (s.heap.objs.size + 1)) { s with heap := h' }) :
    wpAny (model prog w) A (call (.type "enumerate") [v]) Q E s := by
  refine callType_new F.called_enumerate (by decide) (F.typeCall_enumerate_1 _) (F.newCall_enumerate_1 _) (fun obj => F.args_object_init_2 obj _) F.entry_enumerate_new
    (meets_enum1 B) ⟨h1, ?_⟩
  have hz : (s.heap.push o).objs.size = s.heap.objs.size + 1 := Heap.size_push ..
  show _ ∧ _
  rw [hz]
  have he : IsEnum ((s.heap.push o).push { cls := .type "enumerate", data := .fields #[.none, .bool false, .ref s.heap.objs.size, rawInt 0, .none, .none] }) (s.heap.objs.size + 1) s.heap.objs.size 0 .none := by
    have := Heap.get?_push_size (s.heap.push o) (o := { cls := .type "enumerate", data := .fields #[.none, .bool false, .ref s.heap.objs.size, rawInt 0, .none, .none] }) rfl
    rw [hz] at this; exact this
  refine ⟨⟨_, he, rfl⟩, h _ he (Heap.get?_push_of_some _ (Heap.get?_push_size _ B.free)) (by rw [Heap.size_push, hz]) fun b o x => Heap.get?_push_of_some _ (Heap.get?_push_of_some _ x)⟩
end
/-- the tuple at a as it stands at each turn, each item in a new pair -/
def IteT (K : PySem.W.Frag) (a : Addr) : L2.It :=
  ⟨fun i H => ∃ (xs : List V) (x : V), SqT K H a xs ∧ xs[i]? = some x, fun i H v H' => ∃ T x, v = .ref T ∧ H T = none ∧ H' = upd H T (.tup [.int (i : Nat), x]) ∧ ∀ xs, SqT K H a xs → xs[i]? = some x, fun i H => ∃ xs : List V, SqT K H a xs ∧ xs.length ≤ i⟩
theorem turn_enumT {P : Program} {w : World} {K : PySem.W.Frag} {elts : List Expr} {kk : Nat} {tpos : Pos} (a e it : Addr) :
    Turn P w K (.Tuple elts kk tpos) (IteT K a) [e, it] e (fun i h => (∃ old, IsEnum h e it ((i : Nat) : Int) old) ∧ h.IsTupleIter it a i ∧ e ≠ it ∧ a ≠ it ∧ a ≠ e) where
  mem := by simp
  obj := fun i h st b hb => by
    obtain ⟨⟨old, he⟩, ⟨o, ho, hc, hd⟩, _⟩ := st
    have e' : b = e ∨ b = it := by simpa using hb
    rcases e' with z | z
    · rw [z]; exact ⟨_, he, fun v q => nomatch q⟩
    · rw [z]; exact ⟨o, ho, fun v q => by rw [hd] at q; cases q⟩
  keep := fun i h h' st k => let ⟨⟨old, he⟩, hi, hne⟩ := st; ⟨⟨old, k e (by simp) _ he⟩, hi.at fun o q => k it (by simp) o q, hne⟩
  item := by
    intro X hP hw hK hc i pins s σ H E I hf st hg
    subst hP hw hK
    obtain ⟨⟨old, he⟩, hit, hne, hai, hae⟩ := st
    obtain ⟨xs, x, hq, hx⟩ := hg
    obtain ⟨its, rv, p, hz⟩ := I.tuple hq
    obtain ⟨u, hu, ru⟩ := rv.get hx
    have hel : e < s.heap.objs.size := Heap.lt_size he
    have hil : it < s.heap.objs.size := by obtain ⟨_, q, _⟩ := hit; exact Heap.lt_size q
    have hlt : i < its.toArray.size := by
      have := (List.getElem?_eq_some_iff.mp hu).1
      simpa using this
    have D : Draws X.prog X.w X.A.in1 it [it, a] its.toArray.size (fun i v => its.toArray[i]? = some v) (fun i h => h.IsTupleIter it a i ∧ h.IsTuple a its.toArray) := Draws.tuple (A := X.A.in1) (show X.A.in1.handled = none from I.ok.hd hc) it a hai _
    have hef : e ∉ [it, a] := fun z => by
      rcases List.mem_cons.mp z with z | z
      · exact hne z
      · exact hae (List.mem_singleton.mp z).symm
    refine wpAny_pyNext_enum_itemD D he ⟨hit, p⟩ hlt hne hef fun v h' tk hv ho st' hT hsz hk => ?_
    have ev : u = v := by
      have hu' : its.toArray[i]? = some u := by simpa using hu
      rw [hu'] at hv
      exact Option.some.inj hv
    subst ev
    refine ⟨_, rfl, wpAny_letOwnedTupleGo_enum (s := { s with heap := h', toks := tk + 1 }) ho fun h'' he' sb => ?_⟩
    have hT2 : h''.get? s.heap.objs.size = some { cls := .type "tuple", data := .seq #[.int i tk, u] } := (sb.2 _ (Nat.ne_of_gt hel)).trans hT
    have new : ObjOk X.prog X.w (upd H s.heap.objs.size (.tup [.int (i : Nat), x])) h'' s.heap.objs.size (.tup [.int (i : Nat), x]) :=
      ⟨by show 2 ≤ sizeLine; decide, [.int i tk, u], .cons ⟨_, rfl⟩ (.cons ru .nil), ⟨_, hT2, rfl, _, rfl⟩⟩
    have I1 : Inv X pins σ (upd H s.heap.objs.size (.tup [.int (i : Nat), x])) { s with heap := h'', toks := tk + 1 } :=
      I.turnedNew (ch := [e, it]) (fun b ob hb q => (sb.2 b (fun z => hb (by simp [z]))).trans (hk b ob (fun z => hb (by simp [z])) (fun z => hb (by simp [z])) q)) hf (Nat.le_refl _) new
    refine ⟨.ref s.heap.objs.size, _, I1, rfl, ⟨_, x, rfl, I.hok.fresh (Nat.le_refl _), rfl, fun ys hy => by rw [I.tuple_inj hy hq]; exact hx⟩, ⟨⟨u, ?_⟩, st'.1.at fun o q => (sb.2 it (Ne.symm hne)).trans q, hne, hai, hae⟩, fun b hb => ?_⟩
    · have e1 : ((i + 1 : Nat) : Int) = (i : Int) + 1 := by omega
      rw [e1]; exact he'
    · have hb' : b < s.heap.objs.size := by
        have e' : b = e ∨ b = it := by simpa using hb
        rcases e' with z | z
        · rw [z]; exact hel
        · rw [z]; exact hil
      rw [upd_ne (Nat.ne_of_lt hb')]
      exact (hf b hb).1
  done := by
    intro X hP hw hK hc i pins s σ H E I hf st hg
    subst hP hw hK
    obtain ⟨⟨old, he⟩, hit, hne, hai, hae⟩ := st
    obtain ⟨xs, hq, hx⟩ := hg
    obtain ⟨its, rv, p, hz⟩ := I.tuple hq
    obtain ⟨f0, f1, f2, f3, f4, f5⟩ := hf it (by simp)
    have hl := rv.length
    have hh := I.ok.hd hc
    have hT : s.TypeIs (.ref e) "enumerate" := ⟨_, he, rfl⟩
    have key : ∀ {Q : Option Value → Shared → Prop} {E : Value → Shared → Prop}, (∀ h', Heap.ExtBut it s.heap h' → Q none { s with heap := h' }) → wpAny (model X.prog X.w) X.A (pyNext (.ref e)) Q E s := fun {Q E} hQ => by
      unfold pyNext
      refine wpAny_bind (wpAny_attempt (wpAny_callSpecial?_slot (name := Str.ofString "__next__") hT F.slot_enumerate_next
        (wpAny_call_entry F.slot_enumerate_next hT F.entry_enumerate_next ?_ (F.args_enumerate_next_1 _))))
      show wpAny _ _ (field (.ref e) 2 >>= _) _ _ _
      refine wpAny_bind (wpAny_field he rfl (x := .ref it) rfl ?_)
      refine wpAny_bind (wpAny_nextOf_tuple_end hh hit p (by simp; omega) fun h' x he' hx' => ?_)
      obtain ⟨o, ho, hc⟩ := hx'
      refine wpAny_bind (wpAny_isInstance (T := "StopIteration") (b := true) ⟨o, ho, hc⟩ isSubtype_stop ?_)
      exact wpAny_pure (hQ _ he')
    exact key fun h' eb => ⟨rfl, I.turned (t' := s.toks) (fun b o hb q => eb b o hb q) f0 f1 f3 f4 f5⟩
  self := fun A i s Q E st h => let ⟨⟨_, he⟩, _⟩ := st; wpAny_pyIter_enum he h
def iEnumT (K : PySem.W.Frag) (ta : TA) : TI := fun σ H R => ta σ H fun vs H1 => ∃ a xs, vs = [.ref a] ∧ SqT K H1 a xs ∧ R (IteT K a) H1
theorem pi_enumT {X : Cx} {K : PySem.W.Frag} (hK : X.K = K) {e : Expr} {ta : TA} {p pos tpos : Pos} {elts : List Expr} {kk : Nat} (hg : Gl X "enumerate") (hm : X.mg "enumerate" = none) (ha : PA X [e] ta) (hs : starEach [e] X.env = [(false, eval e X.env)] := by rfl) :
    PI X (.Tuple elts kk tpos) (.Call (.Name "enumerate" p) [e] [] pos) (iEnumT K ta) := by
  subst hK
  refine ⟨fun pins s σ H R I h => ?_⟩
  refine Call_ (ld_blt I hg hm boot_enumerate (PyProof.Rows.callWith_type1 (thn (ha.run pos pins s σ H _ I h) fun us s1 ⟨vs, H1, I1, r1, q1⟩ => ?_) hs rfl))
  obtain ⟨a, xs, ex, hq, q⟩ := q1
  subst ex
  cases r1 with
  | cons r rr =>
    cases rr
    cases r
    obtain ⟨its, rv, p', hz⟩ := I1.tuple hq
    obtain ⟨oa, hoa, _⟩ := id p'
    have la := Heap.lt_size hoa
    refine call_enum1 (begins_tuple a its.toArray) p' fun h' he hit hsz hk => wpAny_pyIter_enum he ?_
    have I2 : Inv X pins σ H1 { s1 with heap := h' } := I1.kept (t' := s1.toks) hk
    refine ⟨s1.heap.objs.size + 1, [s1.heap.objs.size + 1, s1.heap.objs.size], _, _, H1, rfl, I2, turn_enumT a (s1.heap.objs.size + 1) s1.heap.objs.size, ⟨⟨.none, he⟩, ⟨_, hit, rfl, rfl⟩, Nat.succ_ne_self _, Nat.ne_of_lt la, Nat.ne_of_lt (Nat.lt_succ_of_lt la)⟩, fun b hb => ?_, q⟩
    have e' : b = s1.heap.objs.size + 1 ∨ b = s1.heap.objs.size := by simpa using hb
    have hle : s1.heap.objs.size ≤ b := by
      rcases e' with z | z
      · rw [z]; exact Nat.le_add_right _ _
      · rw [z]; exact Nat.le_refl _
    exact I1.fpOk hle (I1.hok.fresh hle)
theorem for_enumT {K : PySem.W.Frag} {a : Addr} {xs : List V} {g : TG} {tb : TS} {D : Ends} {σ : L2.St} {H : Hp} (Pv : Nat → L2.St → Hp → Prop) (h0 : Pv 0 σ H) (hq : ∀ i σ H, Pv i σ H → SqT K H a xs)
    (hs : ∀ (i : Nat) (x : V) (T : Addr) (σ : L2.St) (H : Hp), xs[i]? = some x → Pv i σ H → H T = none → g (.ref T) σ (upd H T (.tup [.int (i : Nat), x])) fun σ2 H2 => tb { D with nx := Pv (i + 1), ct := Pv (i + 1), bk := D.nx } σ2 H2) (hd : ∀ σ H, Pv xs.length σ H → D.nx σ H) :
    ∃ W : Nat → Nat → L2.St → Hp → Prop, (∃ m, W 0 m σ H) ∧ ∀ i m σ H, W i m σ H →
      ((IteT K a).stop i H ∧ D.nx σ H) ∨ ((IteT K a).go i H ∧ ∃ N : L2.St → Hp → Prop, (∀ σ' H', N σ' H' → ∃ m', m' < m ∧ W (i + 1) m' σ' H') ∧ ∀ v H', (IteT K a).yld i H v H' → g v σ H' fun σ2 H2 => tb { D with nx := N, ct := N, bk := D.nx } σ2 H2) := by
  refine ⟨fun i m σ H => m = xs.length - i ∧ i ≤ xs.length ∧ Pv i σ H, ⟨xs.length, rfl, Nat.zero_le _, h0⟩, ?_⟩
  rintro i m σ H ⟨rfl, hi, p⟩
  have qx := hq i σ H p
  by_cases hlt : i < xs.length
  · have hx : xs[i]? = some xs[i] := List.getElem?_eq_getElem hlt
    refine .inr ⟨⟨xs, _, qx, hx⟩, Pv (i + 1), fun σ' H' p' => ⟨xs.length - (i + 1), by omega, rfl, hlt, p'⟩, fun v H' y => ?_⟩
    obtain ⟨T, x', rfl, hT, rfl, f1⟩ := y
    exact hs i x' T σ H (f1 xs qx) p hT
  · have e : i = xs.length := by omega
    subst e
    exact .inl ⟨⟨xs, qx, Nat.le_refl _⟩, hd σ H p⟩
end K10
namespace K10
open PySem PySem.Spec PyProof.Rows L2
open SX (S)
theorem tds_strs {H : Hp} : ∀ {l : List Str} {us : List V}, TDs H us (l.map .str) → us = l.map V.str
  | [], us, h => by cases h; rfl
  | x :: l, us, h => by
    cases h with
    | cons h1 h2 =>
      cases h1
      rw [tds_strs h2] <;> rfl
theorem td_def {H : Hp} {v : V} {p b : PyData} {x : Str} {ps : List Str} (h : TD H v (defD p x ps b)) : ∃ a vp c vb, v = .ref a ∧ H a = some (.tup [.str "def", vp, .str x, .ref c, vb]) ∧ TD H vp p ∧ H c = some (.tup (ps.map V.str)) ∧ TD H vb b := by
  obtain ⟨a, xs, rfl, ha, hs⟩ := h.tuple
  cases hs with
  | cons h1 hs => cases h1; cases hs with
    | cons h2 hs => cases hs with
      | cons h3 hs => cases h3; cases hs with
        | cons h4 hs => cases hs with
          | cons h5 hs =>
            cases hs
            obtain ⟨c, us, rfl, hc, hu⟩ := h4.tuple
            rw [tds_strs hu] at hc
            exact ⟨_, _, _, _, rfl, ha, h2, hc, h5⟩
def DefOut (d : PyData) : Prop := ∃ (l c : Int) (x : Str) (ps : List Str) (b : PyData), d = defD (plD l c) x ps b ∧ Nm x ∧ (∀ p ∈ ps, Nm p) ∧ Tr 5 b
def TextOf (p : Pn) (dds : List PyData) : Prop := ∃ S D, LayN [] none p.toks S D ∧ D ≠ [] ∧ (∀ s ∈ S, s ≠ -1) ∧ ∀ C, Cl S.length C → ∀ N, 10 ≤ N → ProgR (PEx 6 N) (D ++ C) dds
def spWritten : Sp := fun vs H Q _ => ∃ (d pa : Addr) (xs : List V) (ds : List PyData), vs = [.ref d, .ref pa] ∧ Dr H d ∧ H pa = some (.tup xs) ∧ TDs H xs ds ∧ 1 ≤ ds.length ∧ ds.length ≤ 4 ∧ (∀ x ∈ ds, DefIn x) ∧
  ∀ (r : Addr) (pv : V) (dds : List PyData) (p : Pn) (H' : Hp), H' r = some (.tup [.str (S p.text), pv]) → TD H' pv (.tuple dds) → p.Ok → p.text.length ≤ 16700000 → p.toks.length ≤ 3000 → TextOf p dds → (∀ x ∈ dds, DefOut x) → Dr H' d → Fr [d] H H' → Q (.ref r) H'
def pn0 : Pn := ⟨[], [], false⟩
section
variable {P : Program} {w : World} {K : PySem.W.Frag} {mg : Str → Option Value} {base : Heap} {f : Addr} {fd : FuncData} {kA sA CL CR eA : Addr}
theorem sc_LawWritten : FnScope ["draws", "program", "column", "pen", "found", "k", "word", "place", "name", "params", "body", "param"] ["draws", "program"] (defScope sLawWritten) := ⟨rfl, rfl, rfl, by decide +kernel, rfl, by decide +kernel, by decide +kernel⟩
theorem ok_written (T : Facts K mg kA sA CL CR eA) (c_law_draw : Cal P w K mg base "_law_draw" 1 ["draws", "many"] spDraw) (c_law_line : Cal P w K mg base "_law_line" 2 ["draws", "pen", "column"] spLine) (c_law_word : Cal P w K mg base "_law_word" 3 ["draws", "pen", "word", "least", "free"] spWord)
    (c_law_write : Cal P w K mg base "_law_write" 20 ["draws", "pen", "tree", "least", "free", "need_d"] (spWrite 5)) (F : FnP K "_law_written" "_law_written" sLawWritten [] f fd) : FnOk P w K mg base CX0 21 f fd ["draws", "program"] spWritten := by
  refine F.ok sc_LawWritten (fun vs H Q E h => ?_) (fun cdv A outer s H vs Q E hr h => ?_)
  · obtain ⟨d, pa, xs, ds, rfl, _⟩ := h
    rfl
  obtain ⟨d, pa, xs, ds, rfl, dr, hpa, hxs, hd1, hd4, hdi, q⟩ := h
  refine ⟨_, PSs.nox (pss_cons (ps_set (i := 2) sc_LawWritten.nd rfl (.inl rfl) (pe_ix (ixL K) (pe_lst (pa_cons pe_int (pa_cons pe_int (pa_cons pe_int (pa_cons pe_int pa_nil))))) (pe_c c_law_draw (hr.mono (by omega)) (by rfl) (pa_cons (pv 0) (pa_cons pe_int pa_nil))) (fun _ _ => rfl)))
    (pss_cons (ps_set (i := 3) sc_LawWritten.nd rfl (.inl rfl) (pe_lst (pa_cons pe_str (pa_cons pe_int (pa_cons pe_int (pa_cons pe_bl pa_nil))))))
    (pss_cons (ps_set (i := 4) sc_LawWritten.nd rfl (.inl rfl) (pe_lst pa_nil))
    (Evl.pss_cut (ps_if (PW.pt (pw_or (pt_cmpR op_gt (pv 2) pe_int (nomark _)) (pw_or1 (pt_cmpR op_eq (pe_c c_law_draw (hr.mono (by omega)) (by rfl) (pa_cons (pv 0) (pa_cons pe_int pa_nil))) pe_int (nomark _)))))
    (pss_one (ps_expr (pe_c c_law_line (hr.mono (by omega)) (by rfl) (pa_cons (pv 0) (pa_cons (pv 3) (pa_cons (pv 2) pa_nil))))))
    pss_nil)
    (pss_cons (ps_for PassesOwn.never rfl (pi_enumT (K := K) rfl (by rfl) T.f_enumerate (pa_cons (pv 1) pa_nil)) (pgT K 2 (pgs_cons (pg_name (i := 5) sc_LawWritten.nd rfl (.inl rfl)) (pgs_cons (pgT K 5 (pgs_cons (pg_name (i := 6) sc_LawWritten.nd rfl (.inl rfl)) (pgs_cons (pg_name (i := 7) sc_LawWritten.nd rfl (.inl rfl)) (pgs_cons (pg_name (i := 8) sc_LawWritten.nd rfl (.inl rfl)) (pgs_cons (pg_name (i := 9) sc_LawWritten.nd rfl (.inl rfl)) (pgs_cons (pg_name (i := 10) sc_LawWritten.nd rfl (.inl rfl)) pgs_nil)))))) pgs_nil)))
    (Evl.pss_cut (ps_if (pt_cmpR op_gt (pv 5) pe_int (nomark _))
      (pss_one (ps_expr (pe_c c_law_line (hr.mono (by omega)) (by rfl) (pa_cons (pv 0) (pa_cons (pv 3) (pa_cons (pv 2) pa_nil))))))
      pss_nil)
      (pss_cons (ps_asg pe_bl (pg_sub (pv 3) pe_int set_list))
      (pss_cons (ps_set (i := 7) sc_LawWritten.nd rfl (.inl rfl) (pe_c c_law_word (hr.mono (by omega)) (by rfl) (pa_cons (pv 0) (pa_cons (pv 3) (pa_cons (pv 8) (pa_cons (pv 2) (pa_cons pe_bl pa_nil)))))))
      (pss_cons (ps_for PassesOwn.never rfl (piT K (pv 9)) (pg_name (i := 11) sc_LawWritten.nd rfl (.inl rfl))
      (pss_one (ps_expr (pe_c c_law_word (hr.mono (by omega)) (by rfl) (pa_cons (pv 0) (pa_cons (pv 3) (pa_cons (pv 11) (pa_cons (pv 2) (pa_cons pe_bl pa_nil)))))))))
      (pss_cons (ps_expr (pe_c c_law_word (hr.mono (by omega)) (by rfl) (pa_cons (pv 0) (pa_cons (pv 3) (pa_cons pe_str (pa_cons (pv 2) (pa_cons pe_bl pa_nil)))))))
      (pss_one (ps_expr (pe_bm PySem.F.plainAttrs_list PySem.F.slot_list_append PySem.F.type_list_append mt_append (pv 4) (pa_cons (pe_tup (pa_cons pe_str (pa_cons (pv 7) (pa_cons (pv 8) (pa_cons (pv 9) (pa_cons (pe_c c_law_write (hr.mono (by omega)) (by rfl) (pa_cons (pv 0) (pa_cons (pv 3) (pa_cons (pv 10) (pa_cons (pv 2) (pa_cons pe_bl (pa_cons pe_int pa_nil))))))) pa_nil)))))) pa_nil))))))))))
    (Evl.pss_cut (ps_if (pt_cmpR op_eq (pe_c c_law_draw (hr.mono (by omega)) (by rfl) (pa_cons (pv 0) (pa_cons pe_int pa_nil))) pe_int (nomark _))
    (pss_one (ps_expr (pe_c c_law_line (hr.mono (by omega)) (by rfl) (pa_cons (pv 0) (pa_cons (pv 3) (pa_cons (pe_c c_law_draw (hr.mono (by omega)) (by rfl) (pa_cons (pv 0) (pa_cons pe_int pa_nil))) pa_nil))))))
    pss_nil)
    (pss_one (ps_ret (pe_tup (pa_cons (pe_ix (ixL K) (pv 3) pe_int (fun _ _ => rfl)) (pa_cons (pe_callTy (clTup K) (by rfl) T.f_tuple boot_tuple (pa_cons (pv 4) pa_nil)) pa_nil))))))))))), ?_⟩
  have lx := hxs.len
  have g5 : gN 5 = 5423 := by decide +kernel
  have o5 : oN 5 = 723 := by decide +kernel
  -- column
  refine ⟨by show 4 ≤ sizeLine; decide, fun p2 hp2 => ?_⟩
  have f2 : Fr [] H (upd H p2 (.lst [.int 0, .int 0, .int 3, .int 1])) := .new hp2
  refine ⟨_, rfl, d, _, rfl, dr.fr f2 (by simp), by decide, by decide, fun r3 H3 u0 u1 dr3 f3 => ?_⟩
  have h3 : H3 p2 = some (.lst (([0, 0, 3, 1] : List Int).map V.int)) := f3.at upd_same (nmem1 (dr.ne hp2))
  obtain ⟨ci, hci, eci⟩ := numI_of (xs := [0, 0, 3, 1]) u0 (by exact u1)
  have hci' : 0 ≤ ci ∧ ci ≤ 3 := by
    simp only [List.mem_cons, List.not_mem_nil, or_false] at hci
    omega
  obtain ⟨col, rfl⟩ : ∃ col : Nat, ci = (col : Int) := ⟨ci.toNat, by omega⟩
  have hc3 : col ≤ 3 := by omega
  refine ⟨p2, _, _, _, rfl, rfl, .of h3, eci, ?_⟩
  have f03 : Fr [d] H H3 := (fr_0 f2).trans f3
  -- pen
  refine ⟨by show 4 ≤ sizeLine; decide, fun pn hpn => ?_⟩
  have f4 : Fr [] H3 (upd H3 pn (.lst [.str "", .int 0, .int 0, .bl false])) := .new hpn
  have npn := dr3.ne hpn
  have hpn0 : H pn = none := f03.free hpn (nmem1 npn)
  have epn : penV pn0 = [.str "", .int 0, .int 0, .bl false] := by
    have e : ("" : Str) = S [] := by decide +kernel
    rw [e] <;> rfl
  have W4 : Wr d pn (upd H3 pn (.lst [.str "", .int 0, .int 0, .bl false])) pn0 0 0 := ⟨dr3.fr f4 (by simp), npn.symm, ⟨by rw [epn]; exact upd_same, ⟨(by intro r h; cases h), trivial⟩, (by intro h; cases h)⟩, Nat.le_refl _, Nat.le_refl _, Nat.le_refl _⟩
  have f04 := f03.trans (fr_0 f4)
  generalize upd H3 pn (.lst [.str "", .int 0, .int 0, .bl false]) = H4 at f4 W4 f04
  -- found
  refine ⟨by show 0 ≤ sizeLine; decide, fun fo hfo => ?_⟩
  have nfo := W4.new hfo
  have f5 : Fr [] H4 (upd H4 fo (.lst [])) := .new hfo
  have W5 := W4.fr' f5
  have f05 := f04.trans (fr_0 f5)
  have h5 : upd H4 fo (.lst []) fo = some (.lst []) := upd_same
  have hfo0 : H fo = none := f04.free hfo (nmem1 nfo.1)
  generalize upd H4 fo (.lst []) = H5 at f5 W5 f05 h5
  -- the first line
  refine ⟨fun σ' H' => σ' = [some (.ref d), some (.ref pa), some (.int (col : Int)), some (.ref pn), some (.ref fo), none, none, none, none, none, none, none] ∧ ∃ p', Wr d pn H' p' 3 1 ∧ p'.toks = [] ∧ p'.cur = List.replicate col .sp ∧ Fr [d, pn] H5 H', ?_, ?_⟩
  · have line : ∀ (Hx : Hp) (D0 : Ends), Wr d pn Hx pn0 0 0 → Fr [d, pn] H5 Hx → (∀ σ' H', (σ' = [some (.ref d), some (.ref pa), some (.int (col : Int)), some (.ref pn), some (.ref fo), none, none, none, none, none, none, none] ∧ ∃ p', Wr d pn H' p' 3 1 ∧ p'.toks = [] ∧ p'.cur = List.replicate col .sp ∧ Fr [d, pn] H5 H') → D0.nx σ' H') →
        tDrop (tCall spLine [] E0 (tCons (tVar 0) (tCons (tVar 3) (tCons (tVar 2) tNil)))) D0 [some (.ref d), some (.ref pa), some (.int (col : Int)), some (.ref pn), some (.ref fo), none, none, none, none, none, none, none] Hx := by
      intro Hx D0 Wx fx hq
      refine ⟨_, rfl, _, rfl, _, rfl, d, pn, col, pn0, rfl, Wx.dr, Wx.dp, Wx.pe, by decide, by omega, fun v p' H7 dr7 pe7 e1 e2 e3 e4 e5 f7 => hq _ _ ⟨rfl, p', ⟨dr7, Wx.dp, pe7, ?_, ?_, (by rw [e1]; exact Nat.zero_le _)⟩, e1, e3, fx.trans f7⟩⟩
      · unfold Pn.coln
        rw [e3, rowC_sps, List.length_replicate]
        exact hc3
      · have : pn0.text.length = 0 := rfl
        omega
    refine ⟨_, rfl, _, _, rfl, rfl, _, rfl, ite2 (fun _ => iteT (line H5 _ W5 (Fr.refl _) fun σ' H' h => h)) (fun hc => ?_)⟩
    have hc0 : col = 0 := by
      have : ¬ ((0 : Int) < (col : Int)) := fun z => hc (decide_eq_true z)
      omega
    refine ⟨_, rfl, d, _, rfl, W5.dr, by decide, by decide, fun r H6 r0 r1 dr6 f6 => ?_⟩
    have W6 : Wr d pn H6 pn0 0 0 := ⟨dr6, W5.dp, W5.pe.fr' f6 (nmem1 W5.dp.symm), W5.col, W5.txt, W5.cnt⟩
    refine ⟨rfl, _, rfl, ite2 (fun _ => line H6 _ W6 (fr_d f6) fun σ' H' h => h) (fun _ => ⟨rfl, pn0, W6.mono (by omega) (by omega), rfl, ?_, fr_d f6⟩)⟩
    rw [hc0] <;> rfl
  rintro σ' H6 ⟨rfl, p6, W6, t6, k6, f6⟩
  have nfo2 : fo ∉ [d, pn] := nmem2 nfo.1 nfo.2
  have hpa6 : H6 pa = some (.tup xs) := f6.tups _ _ (f05.tups _ _ hpa)
  have lin : pn ≠ d := npn
  -- the defs
  refine ⟨_, rfl, pa, xs, rfl, .of hpa6, for_enumT (K := K) (a := pa) (xs := xs) (fun i σ H' => ∃ (y5 y6 y7 y8 y9 y10 y11 : Option V) (fs : List V) (dds : List PyData) (p' : Pn), σ = [some (.ref d), some (.ref pa), some (.int (col : Int)), some (.ref pn), some (.ref fo), y5, y6, y7, y8, y9, y10, y11] ∧ H' fo = some (.lst fs) ∧ TDs H' fs dds ∧ dds.length = i ∧ (∀ x ∈ dds, DefOut x) ∧
      Wr d pn H' p' 5500 (1 + 729 * i) ∧ (i = 0 → p'.toks = [] ∧ p'.cur = List.replicate col .sp) ∧ (0 < i → PgI 9 (col : Int) p'.toks dds ∧ ∃ z, p'.toks.getLast? = some z ∧ z.l = p'.line) ∧ Fr [d, pn] H4 H')
    ⟨none, none, none, none, none, none, none, [], [], p6, rfl, f6.at h5 nfo2, .nil, rfl, by simp, W6.mono (by omega) (by omega), fun _ => ⟨t6, k6⟩, by omega, (fr_0 f5).trans f6⟩ (fun i σ H' ⟨_, _, _, _, _, _, _, _, _, _, _, _, _, _, _, _, _, _, fr⟩ => .of (fr.tups _ _ (f04.tups _ _ hpa))) ?_ ?_⟩
  · rintro i x Te σ H7 hi ⟨y5, y6, y7, y8, y9, y10, y11, fs, dds, p7, rfl, v1, v2, v3, v4, v5, v6, v7, v8⟩ hTe
    obtain ⟨dt, hdt, tdt⟩ := hxs.getV hi
    obtain ⟨pl, pc, xn, ps, bt, rfl, hxn, hps3, hpsN, hbt⟩ := hdi dt (List.mem_of_getElem? hdt)
    have il : i < ds.length := (List.getElem?_eq_some_iff.mp hdt).1
    -- the pair
    have f7a : Fr [] H7 (upd H7 Te (.tup [.int (i : Nat), x])) := .new hTe
    have h7 : upd H7 Te (.tup [.int (i : Nat), x]) Te = some (.tup [.int (i : Nat), x]) := upd_same
    have W8 := v5.fr' f7a
    have v8' := v8.trans (fr_0 f7a)
    have v1' := f7a.at v1 (by simp)
    have v2' := v2.mono f7a.tups
    generalize upd H7 Te (.tup [.int (i : Nat), x]) = H8 at h7 W8 v8' v1' v2'
    have tdt8 := tdt.mono (fun b ys e => v8'.tups _ _ (f04.tups _ _ e))
    obtain ⟨a, vp, cA, vb, rfl, ha, hvp, hcA, hvb⟩ := td_def tdt8
    refine ⟨Te, _, rfl, .of h7, rfl, _, _, rfl, _, _, rfl, a, _, rfl, .of ha, rfl, _, _, rfl, _, _, rfl, _, _, rfl, _, _, rfl, _, _, rfl, rfl, rfl, ?_⟩
    -- the line ahead
    refine ⟨fun σ' H' => σ' = [some (.ref d), some (.ref pa), some (.int (col : Int)), some (.ref pn), some (.ref fo), some (.int (i : Nat)), some (.str "def"), some vp, some (.str xn), some (.ref cA), some vb, y11] ∧ ∃ p', Wr d pn H' p' 3 (2 + 729 * i) ∧ p'.coln = col ∧ p'.toks = p7.toks ∧ p'.cur = List.replicate col .sp ∧ (0 < i → ∃ z, p7.toks.getLast? = some z ∧ z.l < p'.line) ∧ Fr [d, pn] H8 H', ?_, ?_⟩
    · refine ⟨_, rfl, _, _, rfl, rfl, _, rfl, ite2 (fun hk => ?_) (fun hk => ?_)⟩
      · have hi0 : 0 < i := by
          have : (0 : Int) < ((i : Nat) : Int) := of_decide_eq_true hk
          omega
        obtain ⟨pg, z, hz1, hz2⟩ := v7 hi0
        have txt := W8.txt
        refine ⟨_, rfl, _, rfl, _, rfl, d, pn, col, p7, rfl, W8.dr, W8.dp, W8.pe, by omega, by omega, fun v p' H9 dr9 pe9 e1 e2 e3 e4 e5 f9 => ⟨rfl, p', ⟨dr9, W8.dp, pe9, ?_, by omega, (by rw [e1]; have := W8.cnt; omega)⟩, ?_, e1, e3, fun _ => ⟨z, hz1, by rw [hz2]; exact e2⟩, f9⟩⟩
        · unfold Pn.coln
          rw [e3, rowC_sps, List.length_replicate]
          exact hc3
        · unfold Pn.coln
          rw [e3, rowC_sps, List.length_replicate]
      · have hi0 : i = 0 := by
          have : ¬ ((0 : Int) < ((i : Nat) : Int)) := fun z => hk (decide_eq_true z)
          omega
        obtain ⟨w1, w2⟩ := v6 hi0
        have ec : p7.coln = col := by
          unfold Pn.coln
          rw [w2, rowC_sps, List.length_replicate]
        exact ⟨rfl, p7, ⟨W8.dr, W8.dp, W8.pe, by omega, by have := W8.txt; omega, by have := W8.cnt; omega⟩, ec, rfl, w2, fun h => by omega, Fr.refl _⟩
    rintro σ' H9 ⟨rfl, p9, W9, k9, t9, c9, l9, f9⟩
    -- the flag
    refine ⟨_, rfl, pn, _, _, 3, rfl, rfl, W9.pe.hp, Evl.ixN_nat (j := 3) (by simp [penV]), ?_⟩
    have f10 : Fr [d, pn] H9 (upd H9 pn (.lst ((penV p9).set 3 (V.bl true)))) := .wr W9.pe.hp (by simp)
    have W10 : Wr d pn (upd H9 pn (.lst ((penV p9).set 3 (V.bl true)))) (p9.flag true) 3 (2 + 729 * i) := ⟨W9.dr.put W9.dp.symm, W9.dp, ⟨upd_same, W9.pe.ok.flag _, fun _ k w e => by
      have e' : p9.cur.getLast? = some (.wd k w) := e
      rw [c9] at e'
      have := List.mem_of_getLast? e'
      rw [List.mem_replicate] at this
      cases this.2⟩, W9.col, W9.txt, W9.cnt⟩
    generalize upd H9 pn (.lst ((penV p9).set 3 (V.bl true))) = H10 at f10 W10
    have f810 := f9.trans f10
    -- the name
    refine ⟨_, rfl, _, rfl, _, rfl, _, rfl, d, pn, "name", xn, _, col, false, p9.flag true, _, _, rfl, rfl, W10, .name hxn, hc3, by omega, by omega, fun h => (h.elim (nm_ne hxn) fun h => by have := hxn.1 61 (by rw [h]; decide +kernel); omega).elim, fun r11 l11 c11 p11 H11 td11 W11 e11 n11 i11 s11 f11 => ?_⟩
    have f811 := f810.trans f11
    have W11' : Wr d pn H11 p11 17 (3 + 729 * i) := W11.mono (by have := hxn.2.2.1; omega) (by omega)
    have pc := s11.1 rfl
    have hcA11 := f811.tups _ _ hcA
    -- the parameters
    refine ⟨_, rfl, cA, rfl, ⟨_, .of hcA11⟩, for_it (walk_tup (xs := ps.map V.str)) (fun k σ H' => ∃ (y11 : Option V) (p' : Pn) (ms : List M), σ = [some (.ref d), some (.ref pa), some (.int (col : Int)), some (.ref pn), some (.ref fo), some (.int (i : Nat)), some (.str "def"), some r11, some (.str xn), some (.ref cA), some vb, y11] ∧ Wr d pn H' p' (17 + 14 * k) (3 + 729 * i + k) ∧ p'.toks = p11.toks ++ ms ∧ ms.map (·.w) = ps.take k ∧ ChainN ((col : Int) + 1) ⟨"name", xn, l11, c11⟩ ms ∧ p'.fresh = false ∧
      (∃ z, ((⟨"name", xn, l11, c11⟩ : M) :: ms).getLast? = some z ∧ z.l = p'.line ∧ z.w ≠ "=") ∧ Fr [d, pn] H11 H')
      ⟨_, p11, [], rfl, W11', by simp, by simp, chainN_nil, n11, ⟨_, rfl, i11.symm, nm_ne hxn⟩, Fr.refl _⟩ (fun k σ H' _ ⟨_, _, _, _, _, _, _, _, _, _, fr⟩ => .of (fr.tups _ _ hcA11)) ?_ ?_⟩
    · rintro k y σ H12 H12' hk ⟨y11, p12, ms, rfl, u1, u2, u3, u4, u5, ⟨z, u6, u7, u8⟩, u9⟩ ⟨rfl, hy⟩
      rw [List.length_map] at hk
      have hy' : y = .str ps[k] := by
        rw [List.getElem?_map, List.getElem?_eq_getElem hk] at hy
        exact (Option.some.inj hy).symm
      subst hy'
      have hpn := hpsN _ (List.getElem_mem hk)
      refine ⟨_, rfl, _, rfl, _, rfl, _, rfl, d, pn, "name", _, _, col, false, p12, _, _, rfl, rfl, u1, .name hpn, by omega, by omega, by omega, fun h => (h.elim (nm_ne hpn) fun h => by have := hpn.1 61 (by rw [h]; decide +kernel); omega).elim, fun r13 l13 c13 p13 H13 td13 W13 e13 n13 i13 s13 f13 => ?_⟩
      refine ⟨_, p13, ms ++ [⟨"name", ps[k], l13, c13⟩], rfl, W13.mono (by have := hpn.2.2.1; omega) (by omega), by rw [e13, u2, List.append_assoc], ?_, chainN_snoc u4 rfl rfl ⟨z, u6, (show Cont ((col : Int) + 1) z ⟨"name", ps[k], l13, c13⟩ from cont_of u5 u7 s13)⟩, n13, ⟨⟨"name", ps[k], l13, c13⟩, last_cons (last_app rfl), i13.symm, nm_ne hpn⟩, u9.trans f13⟩
      rw [List.map_append, u3, List.take_succ, List.getElem?_eq_getElem hk] <;> rfl
    rintro σ H12 ⟨y11', p12, ms, rfl, u1, u2, u3, u4, u5, ⟨z, u6, u7, u8⟩, u9⟩
    rw [List.length_map] at u1 u3
    rw [List.take_length] at u3
    have f812 := f811.trans u9
    have lne : LastNe p12 := fun m hm => by
      rw [u2, e11, List.append_assoc] at hm
      have := last_app (ms := (p9.flag true).toks) u6
      rw [show [(⟨"name", xn, l11, c11⟩ : M)] ++ ms = (⟨"name", xn, l11, c11⟩ : M) :: ms from rfl, this] at hm
      cases hm
      exact u8
    have ew : ("=" : Str).length = 1 := by decide +kernel
    -- =
    refine ⟨_, rfl, _, rfl, _, rfl, d, pn, "sign", "=", _, col, false, p12, _, _, rfl, rfl, u1, .sign (by decide +kernel), by omega, by omega, by omega, fun _ => lne, fun r14 l14 c14 p14 H14 td14 W14 e14 n14 i14 s14 f14 => ?_⟩
    rw [ew] at W14
    have f814 := f812.trans f14
    have fo14 := f814.at v1' nfo2
    -- the body
    refine ⟨_, rfl, .inl ⟨rfl, _, .of fo14⟩, _, rfl, _, rfl, _, rfl, _, rfl, _, rfl, _, rfl, _, rfl, d, pn, vb, bt, _, col, false, 0, 0, p14, _, _, 5, rfl, rfl, rfl, W14, hvb.mono f814.tups, by decide, by decide, hbt, by decide, by omega, by omega, by omega, fun r15 d15 m15 p15 H15 td15 W15 e15 ⟨ex15, rt15⟩ s15 z15 n15 f15 => ?_⟩
    refine ⟨by show 5 ≤ sizeLine; decide, fun o ho => ?_⟩
    have f16 : Fr [] H15 (upd H15 o (.tup [.str "def", r11, .str xn, .ref cA, r15])) := .new ho
    have W16 := W15.fr' f16
    have f816 := f814.trans (f15.trans (fr_0 f16))
    have fo16 := f816.at v1' nfo2
    have td16 : TD (upd H15 o (.tup [.str "def", r11, .str xn, .ref cA, r15])) (.ref o) (defD (plD l11 c11) xn ps d15) :=
      .tup upd_same (.cons (.str _) (.cons ((td11.mono (fun b xs e => f15.tups _ _ (f14.tups _ _ (u9.tups _ _ e)))).mono f16.tups) (.cons (.str _) (.cons (.tup (f816.tups _ _ hcA) (TDs.strs ps)) (.cons (td15.mono f16.tups) .nil)))))
    generalize upd H15 o (.tup [.str "def", r11, .str xn, .ref cA, r15]) = H16 at f16 W16 f816 fo16 td16
    have lfs := v2.len
    refine ⟨fo, _, _, rfl, rfl, fo16, szl (by omega), ?_⟩
    have tp : Tp H16 (upd H16 fo (.lst (fs ++ [.ref o]))) := Tp.wr fo16
    obtain ⟨az, la, ll, lw⟩ := z15
    have toks15 : p15.toks = p7.toks ++ ((⟨"name", xn, l11, c11⟩ : M) :: (ms ++ (⟨"sign", "=", l14, c14⟩ : M) :: m15)) := by
      rw [e15, e14, u2, e11]
      show ((p9.toks ++ _) ++ _) ++ _ ++ _ = _
      rw [t9]
      simp
    have cE : ∃ z, ((⟨"name", xn, l11, c11⟩ : M) :: ms).getLast? = some z ∧ Cont ((col : Int) + 1) z ⟨"sign", "=", l14, c14⟩ := ⟨z, u6, cont_of u5 u7 s14⟩
    have hb := hd_of (a := ⟨"sign", "=", l14, c14⟩) n14 i14.symm s15
    have l4 : ms.length ≤ 4 := by
      have : (ms.map (·.w)).length = ps.length := by rw [u3]
      rw [List.length_map] at this
      omega
    have xc : c11 = (col : Int) := by
      rw [pc.2]
      show ((p9.coln : Nat) : Int) = _
      rw [k9]
    have eD : defD (M.pl ⟨"name", xn, l11, c11⟩) xn (ms.map (·.w)) d15 = defD (plD l11 c11) xn ps d15 := by rw [u3] <;> rfl
    refine ⟨_, _, _, _, _, _, _, fs ++ [.ref o], dds ++ [_], p15, rfl, upd_same, (v2'.mono (fun b xs e => tp _ _ (f816.tups _ _ e))).snoc (td16.mono tp), by rw [List.length_append, v3] <;> rfl, fun e he => ?_, (W16.put nfo.1 nfo.2).mono (by omega) (by omega), fun h => by omega, fun _ => ⟨?_, az, ?_, ll⟩, (v8'.trans f816).put hfo⟩
    · rcases List.mem_append.mp he with he | he
      · exact v4 e he
      · rw [List.mem_singleton.mp he]
        exact ⟨l11, c11, xn, ps, d15, rfl, hxn, hpsN, rt15⟩
    · rw [toks15]
      by_cases hi0 : i = 0
      · have e0 : dds = [] := List.eq_nil_of_length_eq_zero (by rw [v3]; exact hi0)
        rw [(v6 hi0).1, e0]
        have := pi_one (x := ⟨"name", xn, l11, c11⟩) (by omega : 1 ≤ 5) (by omega) (by omega) (by omega) rfl xc u4 l4 ⟨rfl, rfl⟩ cE ex15 hb
        rw [← eD]
        exact this
      · obtain ⟨pg, _⟩ := v7 (by omega)
        obtain ⟨z9, lz9, lt9⟩ := l9 (by omega)
        have := pi_snoc (x := ⟨"name", xn, l11, c11⟩) pg ⟨z9, lz9, by show z9.l < l11; rw [pc.1]; exact lt9⟩ (by omega : 1 ≤ 5) (by omega) (by omega) (by omega) rfl xc u4 l4 ⟨rfl, rfl⟩ cE ex15 hb
        rw [← eD]
        exact this
    · rw [e15]
      exact last_app la
  rintro σ H7 ⟨y5, y6, y7, y8, y9, y10, y11, fs, dds, p7, rfl, v1, v2, v3, v4, v5, v6, v7, v8⟩
  obtain ⟨pg, _⟩ := v7 (by omega)
  have txt := v5.txt
  have hT : TextOf p7 dds := pi_end pg (by omega) (by omega)
  refine ⟨fun σ' H' => σ' = [some (.ref d), some (.ref pa), some (.int (col : Int)), some (.ref pn), some (.ref fo), y5, y6, y7, y8, y9, y10, y11] ∧ ∃ p', Dr H' d ∧ Pe pn H' p' ∧ p'.toks = p7.toks ∧ p'.text.length ≤ 16700000 ∧ Fr [d, pn] H7 H', ?_, ?_⟩
  · refine ⟨_, rfl, d, _, rfl, v5.dr, by decide, by decide, fun r H8 r0 r1 dr8 f8 => ?_⟩
    refine ⟨rfl, _, rfl, ite2 (fun _ => ?_) (fun _ => ⟨rfl, p7, dr8, v5.pe.fr' f8 (nmem1 v5.dp.symm), rfl, by omega, fr_d f8⟩)⟩
    refine ⟨_, rfl, _, rfl, _, rfl, d, _, rfl, dr8, by decide, by decide, fun r' H9 q0 q1 dr9 f9 => ?_⟩
    refine ⟨d, pn, r'.toNat, p7, by rw [show ((r'.toNat : Nat) : Int) = r' by omega] <;> rfl, dr9, v5.dp, (v5.pe.fr' f8 (nmem1 v5.dp.symm)).fr' f9 (nmem1 v5.dp.symm), by omega, by omega, fun v p' H10 dr10 pe10 e1 e2 e3 e4 e5 f10 => ⟨rfl, p', dr10, pe10, e1, by omega, (fr_d f8).trans ((fr_d f9).trans f10)⟩⟩
  rintro σ' H8 ⟨rfl, p8, dr8, pe8, e8, l8, f8⟩
  refine ⟨_, rfl, pn, _, _, _, rfl, rfl, .of pe8.hp, at0, _, rfl, fo, _, rfl, .inl ⟨.of (f8.at v1 nfo2), fun u hu => ⟨by show 2 ≤ sizeLine; decide, fun o ho => ?_⟩⟩⟩
  have f9a : Fr [] H8 (upd H8 u (.tup fs)) := .new hu
  have f9b : Fr [] (upd H8 u (.tup fs)) (upd (upd H8 u (.tup fs)) o (.tup [.str (S p8.text), .ref u])) := .new ho
  have f9 := f9a.trans f9b
  refine q o (.ref u) dds p8 _ upd_same (.tup (f9b.tups _ _ upd_same) ((v2.mono f8.tups).mono f9.tups)) pe8.ok l8 (by rw [e8]; have := v5.cnt; omega) ?_ v4 (dr8.fr f9 (by simp)) ((f04.drop (v8.trans (f8.trans (fr_0 f9)))) fun y hy => ?_)
  · unfold TextOf
    rw [e8]
    exact hT
  · rcases List.mem_cons.mp hy with z | z
    · exact .inl (by rw [z]; exact mem1)
    · rw [List.mem_singleton.mp z]
      exact .inr hpn0
end
end K10
namespace K10
open PySem PySem.Spec PyProof.Rows L2
open SX (S)
open C8 (Mak)
/-! ### marks can be compared -/
def Sane (m : M) : Prop := PyData.strOk m.k = true ∧ PyData.strOk m.w = true
theorem wordOk_sane {k w : Str} (h : WordOk k w) : PyData.strOk k = true ∧ PyData.strOk w = true := by
  cases h with
  | name h => exact ⟨by decide +kernel, nm_strOk h⟩
  | key h => exact ⟨by decide +kernel, (by decide +kernel : ∀ x ∈ keysS, PyData.strOk x = true) _ h⟩
  | number h => exact ⟨by decide +kernel, (by decide +kernel : ∀ x ∈ numsS, PyData.strOk x = true) _ h⟩
  | sign h => exact ⟨by decide +kernel, (by decide +kernel : ∀ x ∈ signsS, PyData.strOk x = true) _ h⟩
theorem tk_sane (l : Int) : ∀ (r : List It) (c : Nat), RowOk r → ∀ m ∈ tk l c r, Sane m
  | [], _, _, m, hm => by cases hm
  | .sp :: r, c, h, m, hm => tk_sane l r (c + 1) (rowOk_tail h) m hm
  | .wd k w :: r, c, h, m, hm => by
    rcases List.mem_cons.mp hm with e | e
    · rw [e]
      exact wordOk_sane (rowOk_word h)
    · exact tk_sane l r (c + w.length) (rowOk_tail h) m e
theorem toks_sane : ∀ (rows : List Row) (l : Int), (∀ r ∈ rows, RowFit r) → ∀ m ∈ toksR l rows, Sane m
  | [], _, _, m, hm => by cases hm
  | r :: rs, l, h, m, hm => by
    rcases List.mem_append.mp hm with e | e
    · exact tk_sane l r.1 0 (h r List.mem_cons_self).ok m e
    · exact toks_sane rs (l + 1) (fun x hx => h x (List.mem_cons_of_mem _ hx)) m e
def LayTok (m : M) : Prop := m.k = "lay" ∧ (m.w = "{" ∨ m.w = "}" ∨ m.w = ";")
theorem layTok_sane {m : M} (h : LayTok m) : Sane m := by
  obtain ⟨h1, h2⟩ := h
  refine ⟨by rw [h1]; decide +kernel, ?_⟩
  rcases h2 with e | e | e <;> (rw [e]; decide +kernel)
theorem clos_tok {n : Nat} {m x : M} (h : x ∈ clos n m) : LayTok x := by
  rw [(List.mem_replicate.mp h).2]
  exact ⟨rfl, .inr (.inl rfl)⟩
theorem pre_tok {S S1 : List Int} {a : Option M} {m : M} {D : List M} (h : Pre S a m S1 D) : ∀ x ∈ D, LayTok x := by
  intro x hx
  cases h with
  | blk _ _ _ _ =>
    rw [List.mem_singleton.mp hx]
    exact ⟨rfl, .inl rfl⟩
  | same _ _ => cases hx
  | line _ _ _ _ =>
    rcases List.mem_append.mp hx with e | e
    · exact clos_tok e
    · split at e
      · rw [List.mem_singleton.mp e]
        exact ⟨rfl, .inr (.inr rfl)⟩
      · cases e
theorem core_tok {S S1 : List Int} {m : M} {D : List M} (h : Core S m S1 D) : ∀ x ∈ D, x = m ∨ LayTok x := by
  intro x hx
  cases h with
  | opn _ _ => exact .inl (List.mem_singleton.mp hx)
  | cls _ _ =>
    rcases List.mem_append.mp hx with e | e
    · exact .inr (clos_tok e)
    · exact .inl (List.mem_singleton.mp e)
  | oth _ _ => exact .inl (List.mem_singleton.mp hx)
theorem lay_mem : ∀ {ms : List M} {S S' : List Int} {a : Option M} {D : List M}, LayN S a ms S' D → ∀ x ∈ D, x ∈ ms ∨ LayTok x
  | [], S, S', a, D, h, x, hx => by
    obtain ⟨_, rfl⟩ := h
    cases hx
  | m :: r, S, S', a, D, h, x, hx => by
    obtain ⟨S1, D1, S2, D2, D3, p, c, l, rfl⟩ := h
    rcases List.mem_append.mp hx with e | e
    · exact .inr (pre_tok p x e)
    · rcases List.mem_append.mp e with e | e
      · exact (core_tok c x e).imp (fun z => by rw [z]; exact List.mem_cons_self) id
      · exact (lay_mem l x e).imp (List.mem_cons_of_mem _) id
theorem marks_shaped {L : List M} (h : ∀ m ∈ L, Sane m) : SeqAt.shaped (.list (L.map M.py)) = true := by
  have t : PyData.canLayAll0 (L.map M.py) = true ∧ PyData.depthAll (L.map M.py) ≤ 3 := tr_lays fun a ha => by
    obtain ⟨m, hm, rfl⟩ := List.mem_map.mp ha
    obtain ⟨h1, h2⟩ := h m hm
    constructor
    · simp [M.py, PyData.canLay0, PyData.canLayAll0, h1, h2]
    · simp only [M.py, PyData.depth, PyData.depthAll]
      omega
  exact shaped_of (by simpa [PyData.canLay0] using t.1) (by have := t.2; simp only [PyData.depth]; omega)
/-! ### read -/
def ReadsTo (rows : List Row) (ds : List PyData) : Prop := ∃ (S1 : List Int) (D : List M), rows ≠ [] ∧ (∀ r ∈ rows, RowFit r) ∧ (textR rows).length ≤ 16760000 ∧ (toksR 0 rows).length ≤ 5000 ∧ LayN [] none (toksR 0 rows) S1 D ∧ (∀ s ∈ S1, s ≠ -1) ∧
  ((D = [] ∧ S1 = [] ∧ ds = []) ∨ (D ≠ [] ∧ (∀ C, Cl S1.length C → ProgR (PEx 6 10) (D ++ C) ds) ∧ ∀ x ∈ ds, DefOut x))
def spRead : Sp := fun vs H Q _ => ∃ (rows : List Row) (ds : List PyData), vs = [.str (S (textR rows))] ∧ ReadsTo rows ds ∧ ∀ (p : Addr) (xs : List V) (H' : Hp), H' p = some (.tup xs) → TDs H' xs ds → Fr [] H H' → Q (.ref p) H'
section
variable {P : Program} {w : World} {K : PySem.W.Frag} {mg : Str → Option Value} {base : Heap} {f : Addr} {fd : FuncData} {kA0 sA CL CR eA : Addr}
theorem sc_Read : FnScope ["text", "row", "found", "one"] ["text"] (defScope sRead) := ⟨rfl, rfl, rfl, by decide +kernel, rfl, by decide +kernel, by decide +kernel⟩
theorem ok_read {lv : Nat} (hlv : 4 ≤ lv) (T : Facts K mg kA0 sA CL CR eA) (c_laid : Cal P w K mg base "laid" 4 ["text"] spLaid) (c_Reader : Mak P w K mg base 1 "Reader" CR (spInitR CR) []) (c_defs : MCal P w K mg base CR "defs" lv ["self"] [] (spDefs CR (PEx 6 10))) (c_depth : Cal P w K mg base "depth" 2 ["tree"] spDepth)
    (F : FnP K "read" "read" sRead [] f fd) : FnOk P w K mg base CX0 (lv + 1) f fd ["text"] spRead := by
  refine F.ok sc_Read (fun vs H Q E h => ?_) (fun cdv A outer s H vs Q E hr h => ?_)
  · obtain ⟨rows, ds, rfl, _⟩ := h
    rfl
  obtain ⟨rows, ds, rfl, ⟨S1, D, hne, hfit, hsz, hcnt, hlay, hS1, hcase⟩, q⟩ := h
  refine ⟨_, PSs.nox (pss_cons (ps_set (i := 1) sc_Read.nd rfl (.inl rfl) (pe_c c_laid (hr.mono (by omega)) (by rfl) (pa_cons (pv 0) pa_nil)))
    (pss_cons (ps_if (pt_cmpR (opEqD K hr.units) (pv 1) (pe_lst pa_nil) (nomark _))
    (pss_one (ps_ret (pe_tup pa_nil)))
    pss_nil)
    (pss_cons (ps_set (i := 2) sc_Read.nd rfl (.inl rfl) (pe_m0 c_defs (hr.mono (by omega)) T.cl_R (C8.pe_mk c_Reader hr (by omega) (by rfl) (pa_cons (pv 1) pa_nil))))
    (pss_cons (ps_for PassesOwn.never rfl (piT K (pv 2)) (pg_name (i := 3) sc_Read.nd rfl (.inl rfl))
    (pss_one (ps_if (pt_cmpR op_gt (pe_c c_depth (hr.mono (by omega)) (by rfl) (pa_cons (pe_ix (ixT K) (pv 3) pe_int (fun _ _ => rfl)) pa_nil)) (pe_g T.g_DEEP (by rfl)) (nomark _))
      (pss_one ps_never)
      pss_nil)))
    (pss_one (ps_ret (pv 2))))))), ?_⟩
  refine ⟨_, rfl, rows, S1, D, rfl, hne, hfit, hsz, hcnt, hlay, hS1, fun p us C H1 hp0 hp td hC f1 => ?_⟩
  have sane : ∀ m ∈ D ++ C, Sane m := fun m hm => by
    rcases List.mem_append.mp hm with e | e
    · rcases lay_mem hlay m e with z | z
      · exact toks_sane rows 0 hfit m z
      · exact layTok_sane z
    · obtain ⟨z1, z2⟩ := hC.2 m e
      exact layTok_sane ⟨z1, .inr (.inl z2)⟩
  refine ⟨_, rfl, by show 0 ≤ sizeLine; decide, fun e0 he0 => ?_⟩
  have f2 : Fr [] H1 (upd H1 e0 (.lst [])) := .new he0
  have hp2 := f2.at hp (by simp)
  have td2 := td.mono f2.tups
  refine ⟨.list ((D ++ C).map M.py), .list [], .lst (.of hp2) td2.dp, .lst (.of upd_same) .nil, marks_shaped sane, by decide +kernel, _, rfl, ?_⟩
  rw [eqv_nil]
  generalize upd H1 e0 (.lst []) = H2 at f2 hp2 td2
  have f02 := f1.trans f2
  rcases hcase with ⟨rfl, rfl, rfl⟩ | ⟨hD, hprog, hout⟩
  · obtain rfl : C = [] := List.eq_nil_of_length_eq_zero hC.1
    rw [decide_eq_true (by rfl)]
    refine iteT ⟨by show 0 ≤ sizeLine; decide, fun t ht => ?_⟩
    exact q t [] _ upd_same .nil (f02.trans (.new ht))
  rw [decide_eq_false (fun z => hD (List.append_eq_nil_iff.mp (List.map_eq_nil_iff.mp z)).1)]
  refine iteF ?_
  refine ⟨_, rfl, fun ro dx hro hdx hd => ?_⟩
  have f3 : Fr [] H2 (upd (upd H2 dx (.own ro)) ro (.ins CR dx [])) := (Fr.new (T := []) hdx).put hro
  refine ⟨ro, dx, p, us, D ++ C, rfl, upd_same, f3.at hp2 (by simp), td2.mono f3.tups, fun rA H4 L4 f4 => ⟨rfl, ?_⟩⟩
  refine ⟨ro, dx, _, rfl, L4.ins, rfl, ro, dx, rA, D ++ C, 0, ds, rfl, L4, hprog C hC, fun pf xs H5 hpf tdf f5 => ?_⟩
  have f25 : Fr [] H2 H5 := f3.drop (f4.trans f5) fun x hx => .inr (by rw [List.mem_singleton.mp hx]; exact hro)
  refine ⟨_, rfl, pf, rfl, ⟨_, .of hpf⟩, for_it (walk_tup (xs := xs)) (fun i σ H' => ∃ y3 : Option V, σ = [some (.str (S (textR rows))), some (.ref p), some (.ref pf), y3] ∧ Fr [] H5 H') ⟨none, rfl, Fr.refl _⟩ (fun i σ H' _ ⟨_, _, fr⟩ => .of (fr.tups _ _ hpf)) ?_ ?_⟩
  · rintro i x σ H6 H6' hi ⟨y3, rfl, f6⟩ ⟨rfl, hx⟩
    obtain ⟨dd, hdd, tdd⟩ := (tdf.mono f6.tups).getV hx
    obtain ⟨l, c, xn, ps, b, rfl, _, _, htr⟩ := hout dd (List.mem_of_getElem? hdd)
    obtain ⟨a, vp, cc, vb, rfl, ha, _, _, hb⟩ := td_def tdd
    refine ⟨_, rfl, a, _, _, _, rfl, rfl, .of ha, atI_nat (j := 4) rfl, vb, b, rfl, hb, htr, fun k H7 hk f7 => ?_⟩
    refine ⟨_, _, rfl, rfl, _, rfl, ?_⟩
    rw [decide_eq_false (by omega)]
    exact iteF ⟨_, rfl, f6.trans f7⟩
  rintro σ H6 ⟨y3, rfl, f6⟩
  exact ⟨_, rfl, q pf xs H6 (f6.tups _ _ hpf) (tdf.mono f6.tups) (f02.trans (f25.trans f6))⟩
end
end K10
namespace K10
open PySem PySem.Spec PyProof.Rows L2
open SX (S)
open C8 (Mak)
/-! ### _law_told -/
def TTold2 : (XK → Hp → VK → Prop) → Hp → VK → Prop := fun tl H Q => ∀ Q' : VK, (∀ v H', (∀ o, H' o = none → Q (.ref o) (upd H' o (.tup [.str "told", v]))) → Q' v H') → tl C8.E0 H Q'
theorem sc_LawTold : FnScope ["deed", "found", "e"] ["deed"] (defScope sLawTold) := ⟨rfl, rfl, rfl, by decide +kernel, rfl, by decide +kernel, by decide +kernel⟩
theorem told_gives {X : Cx} {g CT : Addr} {cdg : Value} {q : Str} (hm : X.mg "TierError" = some (.ref CT)) : LamX.GivesTo X ["deed", "found", "e"] "_law_told" (defScope sLawTold) g cdg (defBody sLawTold) "deed" q TTold2 := by
  intro f c' s H Q tl act hc h
  have nd := sc_LawTold.nd
  refine ⟨_, pss_cons (ps_set (i := 1) nd rfl (.inl rfl) pe_non) (pss_cons (L2.ps_try_as (i := 2) rfl rfl nd rfl rfl ⟨rfl, by decide, .inl hm⟩ LamX.takes0
    (fun W pn xe tk _ => pss_one (ps_set (i := 1) nd rfl (.inl rfl) (pe_tup (pa_cons pe_str (pa_cons (act W pn xe C8.E0 _ _ tk (fun _ _ _ _ z => z.elim)) pa_nil)))))
    (fun a oe cls d pn _ _ => pss_one ps_never)) (pss_one (ps_ret (pv 1)))), ?_⟩
  exact ⟨rfl, hc, h _ fun v H' k => ⟨by show 2 ≤ sizeLine; decide, fun o ho => ⟨_, rfl, k o ho⟩⟩⟩
/-! ### data at the law's level -/
theorem defOut_lay {d : PyData} (h : DefOut d) : d.canLay0 = true ∧ d.depth ≤ 14 := by
  obtain ⟨l, c, x, ps, b, rfl, hx, hps, tr⟩ := h
  have h1 := tr_lay tr
  have h2 := plD_lay l c
  have h3 := canLay_strs ps fun p hp => nm_strOk (hps p hp)
  have h4 := depth_strs ps
  have h5 : PyData.strOk "def" = true := by decide +kernel
  constructor
  · simp [defD, PyData.canLay0, PyData.canLayAll0, h1.1, h2.1, h3, h5, nm_strOk hx]
  · have a1 := h1.2
    have a2 := h2.2
    simp only [defD, PyData.depth, PyData.depthAll]
    omega
theorem due_lay {ds : List PyData} (h : ∀ d ∈ ds, DefOut d) : (PyData.tuple ds).canLay0 = true ∧ (PyData.tuple ds).depth ≤ 15 := lay5 (tr_lays fun a ha => defOut_lay (h a ha))
theorem told_lay {d : PyData} (h : d.canLay0 = true ∧ d.depth ≤ 15) : (PyData.tuple [.str "told", d]).canLay0 = true ∧ (PyData.tuple [.str "told", d]).depth ≤ 16 := by
  have h5 : PyData.strOk "told" = true := by decide +kernel
  obtain ⟨h1, h2⟩ := h
  constructor
  · simp [PyData.canLay0, PyData.canLayAll0, h1, h5]
  · simp only [PyData.depth, PyData.depthAll]
    omega
/-- != of what is the same -/
theorem ne_same {K : PySem.W.Frag} {H : Hp} {v v' : V} {d : PyData} {Q : VK} (h1 : TD H v d) (h2 : TD H v' d) (hl : d.canLay0 = true) (hd : d.depth ≤ 60) (q : Q (.bl false) H) : rNeD K v v' H Q := by
  refine ⟨d, d, h1.dp, h2.dp, shaped_of hl (by omega), shaped_of hl (by omega), ?_⟩
  rw [SeqAt.eqv_refl d hl]
  exact q
/-! ### texts at the law's level -/
def remF : List Nat := ("# f = 1" : Str).cps.toList
theorem rem_fit : RowFit ([], remF) := ⟨trivial, .inr ⟨[32, 102, 32, 61, 32, 49], by decide +kernel⟩, by decide +kernel⟩
theorem nil_fit : RowFit ([], []) := ⟨trivial, .inl rfl, by simp⟩
theorem reads_nil {rows : List Row} (hne : rows ≠ []) (hfit : ∀ r ∈ rows, RowFit r) (hsz : (textR rows).length ≤ 16760000) (ht : toksR 0 rows = []) : ReadsTo rows [] :=
  ⟨[], [], hne, hfit, hsz, by rw [ht]; decide, by rw [ht]; exact ⟨rfl, rfl⟩, by simp, .inl ⟨rfl, rfl, rfl⟩⟩
theorem reads_empty : ReadsTo [([], [])] [] := reads_nil (by simp) (fun r hr => by rw [List.mem_singleton.mp hr]; exact nil_fit) (by decide) rfl
theorem reads_rem : ReadsTo [([], remF), ([], []), ([], [])] [] := reads_nil (by simp) (fun r hr => by
  simp only [List.mem_cons, List.not_mem_nil, or_false] at hr
  rcases hr with rfl | rfl | rfl
  · exact rem_fit
  · exact nil_fit
  · exact nil_fit) (by decide +kernel) rfl
theorem reads_text {p : Pn} {ds : List PyData} (h1 : p.Ok) (h2 : p.text.length ≤ 16700000) (h3 : p.toks.length ≤ 3000) (h4 : TextOf p ds) (h5 : ∀ x ∈ ds, DefOut x) : ReadsTo p.rows ds := by
  obtain ⟨S1, D, l, hD, hS, hP⟩ := h4
  have e1 : textR p.rows = p.text := rfl
  have e2 : toksR 0 p.rows = p.toks := rfl
  exact ⟨S1, D, by simp [Pn.rows], h1.rows, by rw [e1]; omega, by rw [e2]; omega, l, hS, .inr ⟨hD, fun C hC => hP C hC 10 (Nat.le_refl _), h5⟩⟩
theorem reads_more {rows : List Row} {ds : List PyData} (h : ReadsTo rows ds) (hs : (textR rows).length ≤ 16700000) : ReadsTo (rows ++ [([], remF)]) ds := by
  obtain ⟨S1, D, hne, hfit, hsz, hcnt, l, hS, hc⟩ := h
  have et : toksR 0 (rows ++ [([], remF)]) = toksR 0 rows := by
    rw [toksR_app]
    show toksR 0 rows ++ [] = _
    rw [List.append_nil]
  have el : remF.length = 7 := by decide +kernel
  refine ⟨S1, D, by simp, fun r hr => ?_, ?_, by rw [et]; exact hcnt, by rw [et]; exact l, hS, hc⟩
  · rcases List.mem_append.mp hr with e | e
    · exact hfit r e
    · rw [List.mem_singleton.mp e]
      exact rem_fit
  · rw [textR_snoc _ hne, List.length_append, List.length_cons]
    show (textR rows).length + ((rowC [] ++ remF).length + 1) ≤ _
    rw [List.length_append, el]
    show (textR rows).length + (0 + 7 + 1) ≤ _
    omega
theorem str_more {rows : List Row} (hne : rows ≠ []) : S (textR rows) ++ ("\n# f = 1" : Str) = S (textR (rows ++ [([], remF)])) := by
  have e : ("\n# f = 1" : Str) = S (10 :: remF) := by decide +kernel
  rw [e, SX.S_cat, textR_snoc _ hne] <;> rfl
theorem str_nil : ("" : Str) = S (textR [([], [])]) := by decide +kernel
theorem str_rem : ("# f = 1\n\n" : Str) = S (textR [([], remF), ([], []), ([], [])]) := by decide +kernel
end K10
namespace K10
open PySem PySem.Spec PyProof.Rows L2
open SX (S)
open C8 (Mak)
/-! ### law -/
def lamQ : Str := (("law" : Str) ++ ".<locals>.") ++ "<lambda>"
def spLaw (K : PySem.W.Frag) (Pt : Addr) : Sp := fun vs H Q _ => ∃ (a : Addr) (ns : List Int), vs = [.ref a] ∧ SqL K H a (ns.map V.int) ∧ ns.length ≤ 63 ∧ LamX.Tabs [(Pt, lamQ)] H ∧ ∀ H', Q (.bl true) H'
theorem extn_sq {K : PySem.W.Frag} {H H' : Hp} {a : Addr} {xs : List V} (e : LamX.ExtN H H') (h : SqL K H a xs) : SqL K H' a xs := by
  rcases h with (h | ⟨o, h⟩) | h
  · exact .inl (.inl (e _ _ h fun ps z => by cases z))
  · exact .inl (.inr ⟨o, e _ _ h fun ps z => by cases z⟩)
  · exact .inr h
theorem extn_tp {H H' : Hp} (e : LamX.ExtN H H') : Tp H H' := fun b xs h => e _ _ h fun ps z => by cases z
theorem tabs_fr {T : List (Addr × Str)} {H H' : Hp} (h : LamX.Tabs T H) (f : Fr [] H H') : LamX.Tabs T H' := h.ext fun b o e => f.keep b o e (by simp)
section
variable {P : Program} {w : World} {K : PySem.W.Frag} {mg : Str → Option Value} {base : Heap} {f g : Addr} {fd fdT : FuncData} {kA0 sA CL CR eA CT : Addr}
theorem sc_Law : FnScope ["script", "k", "draws", "program", "heads", "text", "due"] ["script"] (defScope sLaw) := ⟨rfl, rfl, rfl, by decide +kernel, rfl, by decide +kernel, by decide +kernel⟩
theorem ok_law {lr : Nat} {c Pt : Addr} (hlr : 21 ≤ lr) (T : Facts K mg kA0 sA CL CR eA) (hCT : mg "TierError" = some (.ref CT)) (c_law_draws : Cal P w K mg base "_law_draws" 1 ["script", "k"] (spDraws K)) (c_law_program : Cal P w K mg base "_law_program" 12 ["draws", "size", "deep"] spProgram)
    (c_law_written : Cal P w K mg base "_law_written" 21 ["draws", "program"] spWritten) (c_read : Cal P w K mg base "read" lr ["text"] spRead) (hgT : mg "_law_told" = some (.ref g)) (FT : FnP K "_law_told" "_law_told" sLawTold [] g fdT)
    (TB : LamX.TabB base mg c Pt) (hcode : fd.code = .ref c) (F : FnP K "law" "law" sLaw [] f fd) : FnOk P w K mg base CX0 (lr + 3) f fd ["script"] (spLaw K Pt) := by
  obtain ⟨oc, od, dV, kV, doc, pm, an, cdv, ct, osl, rfl, lk, hcd, _, _⟩ := F.ex
  have bT : L2.Binds K fdT ["deed"] [] := FT.bindsN fun _ _ _ _ _ _ us hl => match us, hl with | [_], _ => rfl
  have kT := FT.kp
  obtain ⟨ocT, odT, dVT, kVT, docT, pmT, anT, cdvT, ctT, oslT, rfl, lkT, hcdT, _, _⟩ := FT.ex
  refine fn_of lk hcd sc_Law (fun vs H Q E h => ?_) (fun A outer s H vs Q E hr h => ?_)
  · obtain ⟨a, ns, rfl, _⟩ := h
    rfl
  obtain ⟨a, ns, rfl, hS, h63, hTab, q⟩ := h
  refine ⟨_, PSs.nox (pss_cons (ps_for PassesOwn.never rfl (pi_range1 (by rfl) T.f_range (pa_cons (pe_callB (call_max2 rfl) (by rfl) T.f_max boot_max (pa_cons pe_int (pa_cons (pe_callB (call_min2 rfl) (by rfl) T.f_min boot_min (pa_cons pe_int (pa_cons (pe_callB (clLen K) (by rfl) T.f_len boot_len (pa_cons (pv 0) pa_nil)) pa_nil))) pa_nil))) pa_nil)) (pg_name (i := 1) sc_Law.nd rfl (.inl rfl))
    (pss_cons (ps_set (i := 2) sc_Law.nd rfl (.inl rfl) (pe_c c_law_draws (hr.mono (by omega)) (by rfl) (pa_cons (pv 0) (pa_cons (pv 1) pa_nil))))
      (pss_cons (ps_asg (pe_c c_law_program (hr.mono (by omega)) (by rfl) (pa_cons (pv 2) (pa_cons pe_int (pa_cons pe_int pa_nil)))) (pgT K 2 (pgs_cons (pg_name (i := 3) sc_Law.nd rfl (.inl rfl)) (pgs_cons (pg_name (i := 4) sc_Law.nd rfl (.inl rfl)) pgs_nil))))
      (pss_cons (ps_asg (pe_c c_law_written (hr.mono (by omega)) (by rfl) (pa_cons (pv 2) (pa_cons (pv 3) pa_nil))) (pgT K 2 (pgs_cons (pg_name (i := 5) sc_Law.nd rfl (.inr rfl)) (pgs_cons (pg_name (i := 6) sc_Law.nd rfl (.inl rfl)) pgs_nil))))
      (pss_cons (ps_if (pt_cmpR (opNeD K hr.units) (LamX.pe_lamcall (T := [(Pt, lamQ)]) (TT := TTold2) (c := c) (P := Pt) (k := lr) (by rfl) hgT kT lkT hcdT bT sc_LawTold rfl (.inl rfl) (told_gives hCT) TB hcode (List.mem_singleton.mpr rfl) (fun p hp _ => by rw [List.mem_singleton.mp hp] <;> rfl) hr (LamX.lamS_by (by rfl)) (by rfl) (fun _ _ _ _ _ => by rfl)
          (fun A outer s H E f c' hr2 => pe_c c_read hr2 (by rfl) (pa_cons (pv 5) pa_nil))) (pe_tup (pa_cons pe_str (pa_cons (pv 6) pa_nil))) (nomark _))
      (pss_one (ps_ret pe_bl))
      pss_nil)
      (pss_one (ps_if (PW.pt (pw_or (pt_cmpR (opNeD K hr.units) (pe_c c_read (hr.mono (by omega)) (by rfl) (pa_cons (pe_op op_add_str (pv 5) pe_str) pa_nil)) (pv 6) (nomark _)) (pw_or (pt_cmpR (opNeD K hr.units) (pe_c c_read (hr.mono (by omega)) (by rfl) (pa_cons pe_str pa_nil)) (pe_tup pa_nil) (nomark _)) (pw_or1 (pt_cmpR (opNeD K hr.units) (pe_c c_read (hr.mono (by omega)) (by rfl) (pa_cons pe_str pa_nil)) (pe_tup pa_nil) (nomark _))))))
      (pss_one (ps_ret pe_bl))
      pss_nil)))))))
    (pss_one (ps_ret pe_bl))), ?_⟩
  have hl : (ns.map V.int).length = ns.length := List.length_map _
  refine ⟨_, rfl, a, _, rfl, .inl hS, _, _, rfl, _, _, rfl, _, rfl, ?_, ?_, for_range (fun i σ H' => ∃ y1 y2 y3 y4 y5 y6 : Option V, σ = [some (.ref a), y1, y2, y3, y4, y5, y6] ∧ SqL K H' a (ns.map V.int) ∧ LamX.Tabs [(Pt, lamQ)] H')
    ⟨none, none, none, none, none, none, rfl, hS, hTab⟩ ?_ ?_⟩
  · split <;> (try split) <;> omega
  · split <;> (try split) <;> omega
  · rintro i σ H1 hi ⟨y1, y2, y3, y4, y5, y6, rfl, hS1, hT1⟩
    have hi9 : i ≤ 9 := by
      revert hi
      split <;> (try split) <;> omega
    -- the draws
    refine ⟨_, rfl, _, rfl, a, ns, i, by simp, hS1, h63, hi9, fun d H2 hd0 dr2 f2 => ?_⟩
    -- the program
    refine ⟨_, rfl, d, 36, rfl, dr2, fun p hA pv0 ds H3 hp td3 l1 l2 hin dr3 f3 => ?_⟩
    obtain ⟨pa, xs, rfl, hpa, hxs⟩ := td3.tuple
    refine ⟨p, _, rfl, .of hp, rfl, _, _, rfl, _, _, rfl, rfl, ?_⟩
    -- its text
    refine ⟨_, rfl, _, rfl, d, pa, xs, ds, rfl, dr3, hpa, hxs, l1, l2, hin, fun r pv1 dds pn H4 hr4 td4 ok4 len4 tok4 txt4 out4 dr4 f4 => ?_⟩
    refine ⟨r, _, rfl, .of hr4, rfl, _, _, rfl, _, _, rfl, rfl, ?_⟩
    have fa : Fr [] H1 H4 := f2.drop (f3.trans f4) fun x hx => .inr (by rw [List.mem_singleton.mp hx]; exact hd0)
    have hS4 := fa.sq (by simp) hS1
    have hT4 := tabs_fr hT1 fa
    have rt := reads_text ok4 len4 tok4 txt4 out4
    have dl := due_lay out4
    have tl := told_lay dl
    -- the lambda, told
    refine ⟨hT4, fun H5 e5 t5 Q' k => ?_⟩
    refine ⟨_, rfl, pn.rows, dds, rfl, rt, fun p6 xs6 H6 hp6 td6 f6 => k (.ref p6) H6 fun o ho => ?_⟩
    refine ⟨_, rfl, by show 2 ≤ sizeLine; decide, fun o2 ho2 => ?_⟩
    have g1 : Fr [] H6 (upd H6 o (.tup [.str "told", .ref p6])) := .new ho
    have g2 : Fr [] (upd H6 o (.tup [.str "told", .ref p6])) (upd (upd H6 o (.tup [.str "told", .ref p6])) o2 (.tup [.str "told", pv1])) := .new ho2
    have tdue : TD (upd (upd H6 o (.tup [.str "told", .ref p6])) o2 (.tup [.str "told", pv1])) pv1 (.tuple dds) := (((td4.mono (extn_tp e5)).mono f6.tups).mono g1.tups).mono g2.tups
    have h1 : TD (upd (upd H6 o (.tup [.str "told", .ref p6])) o2 (.tup [.str "told", pv1])) (.ref o) (.tuple [.str "told", .tuple dds]) :=
      .tup (g2.tups _ _ upd_same) (.cons (.str _) (.cons ((((TD.tup hp6 td6).mono g1.tups).mono g2.tups)) .nil))
    have h2 : TD (upd (upd H6 o (.tup [.str "told", .ref p6])) o2 (.tup [.str "told", pv1])) (.ref o2) (.tuple [.str "told", .tuple dds]) :=
      .tup upd_same (.cons (.str _) (.cons tdue .nil))
    refine ne_same h1 h2 tl.1 (by have := tl.2; omega) ⟨_, rfl, iteF ?_⟩
    have hS5 := extn_sq e5 hS4
    have f68 := f6.trans (g1.trans g2)
    generalize upd (upd H6 o (.tup [.str "told", .ref p6])) o2 (.tup [.str "told", pv1]) = H8 at tdue h1 h2 f68
    -- more behind the text
    have hne : pn.rows ≠ [] := by simp [Pn.rows]
    have el : (S pn.text).length = pn.text.length := by rw [← str_len] <;> rfl
    refine ⟨_, rfl, _, _, rfl, rfl, ?_, pn.rows ++ [([], remF)], dds, by rw [← str_more hne] <;> rfl, reads_more rt len4, fun p9 xs9 H9 hp9 td9 f9 => ?_⟩
    · rw [el]
      have : ("\n# f = 1" : Str).length = 8 := by decide +kernel
      rw [this]
      exact Nat.le_trans (by omega : _ ≤ 16700008) (by decide)
    refine ⟨_, rfl, ne_same (.tup hp9 td9) (tdue.mono f9.tups) dl.1 (by have := dl.2; omega) ⟨_, rfl, iteF ?_⟩⟩
    -- the empty text
    refine ⟨[([], [])], [], by rw [← str_nil] <;> rfl, reads_empty, fun p10 xs10 H10 hp10 td10 f10 => ?_⟩
    refine ⟨by show 0 ≤ sizeLine; decide, fun o11 ho11 => ?_⟩
    have f11 : Fr [] H10 (upd H10 o11 (.tup [])) := .new ho11
    refine ne_same (.tup (f11.tups _ _ hp10) (td10.mono f11.tups)) (.tup upd_same .nil) (by decide +kernel) (by decide +kernel) ⟨_, rfl, iteF ?_⟩
    -- a remark
    refine ⟨[([], remF), ([], []), ([], [])], [], by rw [← str_rem] <;> rfl, reads_rem, fun p12 xs12 H12 hp12 td12 f12 => ?_⟩
    refine ⟨by show 0 ≤ sizeLine; decide, fun o13 ho13 => ?_⟩
    have f13 : Fr [] H12 (upd H12 o13 (.tup [])) := .new ho13
    refine ne_same (.tup (f13.tups _ _ hp12) (td12.mono f13.tups)) (.tup upd_same .nil) (by decide +kernel) (by decide +kernel) ⟨_, rfl, iteF ?_⟩
    have f5 := f68.trans (f9.trans (f10.trans (f11.trans (f12.trans f13))))
    exact ⟨_, _, _, _, _, _, rfl, f5.sq (by simp) hS5, tabs_fr t5 f5⟩
  · rintro σ H1 ⟨y1, y2, y3, y4, y5, y6, rfl, hS1, hT1⟩
    exact q H1
end
end K10
namespace K10
open PySem PySem.Spec PyProof.Rows L2
open SX (S)
open C8 (Mak)
/-! ### the promises joined -/
def GF (K : PySem.W.Frag) (mg : Str → Option Value) (x : Str) (st : Stmt) : Prop := ∃ f fd, mg x = some (.ref f) ∧ FnP K x x st [] f fd
def MF (K : PySem.W.Frag) (C : Addr) (m qual : Str) (st : Stmt) (dvs : List V) : Prop := ∃ f fd, Meth K C m f ∧ FnP K m qual st dvs f fd
section
variable {P : Program} {w : World} {K : PySem.W.Frag} {mg : Str → Option Value} {base : Heap}
theorem GF.cal {x : Str} {st : Stmt} {ps : List Str} {k : Nat} {sp : Sp} (hg : GF K mg x st) (b : ∀ {f fd}, FnP K x x st [] f fd → L2.Binds K fd ps []) (ok : ∀ {f fd}, FnP K x x st [] f fd → FnOk P w K mg base CX0 k f fd ps sp) : Cal P w K mg base x k ps sp := by
  obtain ⟨f, fd, h1, F⟩ := hg
  exact ⟨f, fd, h1, F.kp, b F, ok F⟩
theorem MF.cal {C : Addr} {m qual : Str} {st : Stmt} {ps : List Str} {k : Nat} {sp : Sp} (hm : MF K C m qual st []) (b : ∀ {f fd}, FnP K m qual st [] f fd → L2.Binds K fd ps []) (ok : ∀ {f fd}, FnP K m qual st [] f fd → FnOk P w K mg base CX0 k f fd ps sp) : MCal P w K mg base C m k ps [] sp := by
  obtain ⟨f, fd, h1, F⟩ := hm
  exact ⟨f, fd, [], h1, b F, .nil, ok F⟩

/-- where the defs stand -/
structure Stand (K : PySem.W.Frag) (mg : Str → Option Value) : Prop where
  g_run_of : GF K mg "run_of" sRunOf
  g_mark_at : GF K mg "mark_at" sMarkAt
  g_marks : GF K mg "marks" sMarks
  g_laid : GF K mg "laid" sLaid
  g_subtrees : GF K mg "subtrees" sSubtrees
  g_depth : GF K mg "depth" sDepth
  g_read : GF K mg "read" sRead
  g_law_draws : GF K mg "_law_draws" sLawDraws
  g_law_draw : GF K mg "_law_draw" sLawDraw
  g_law_keys : GF K mg "_law_keys" sLawKeys
  g_law_names : GF K mg "_law_names" sLawNames
  g_law_place : GF K mg "_law_place" sLawPlace
  g_law_leaf : GF K mg "_law_leaf" sLawLeaf
  g_law_loop : GF K mg "_law_loop" sLawLoop
  g_law_op : GF K mg "_law_op" sLawOp
  g_law_call : GF K mg "_law_call" sLawCall
  g_law_tree : GF K mg "_law_tree" sLawTree
  g_law_program : GF K mg "_law_program" sLawProgram
  g_law_line : GF K mg "_law_line" sLawLine
  g_law_word : GF K mg "_law_word" sLawWord
  g_law_level : GF K mg "_law_level" sLawLevel
  g_law_item : GF K mg "_law_item" sLawItem
  g_law_block : GF K mg "_law_block" sLawBlock
  g_law_write_block : GF K mg "_law_write_block" sLawWriteBlock
  g_law_write_so : GF K mg "_law_write_so" sLawWriteSo
  g_law_write : GF K mg "_law_write" sLawWrite
  g_law_written : GF K mg "_law_written" sLawWritten
  g_law_told : GF K mg "_law_told" sLawTold
  g_law : GF K mg "law" sLaw
  m_lay : MF K (He.ga K "Layout") "lay" "Layout.lay" sLayoutLay []
  m_begin : MF K (He.ga K "Layout") "begin" "Layout.begin" sLayoutBegin []
  m_block : MF K (He.ga K "Layout") "block" "Layout.block" sLayoutBlock []
  m_first_of_line : MF K (He.ga K "Layout") "first_of_line" "Layout.first_of_line" sLayoutFirstOfLine []
  m_bracket : MF K (He.ga K "Layout") "bracket" "Layout.bracket" sLayoutBracket []
  m_put : MF K (He.ga K "Layout") "put" "Layout.put" sLayoutPut []
  m_defs : MF K (He.ga K "Reader") "defs" "Reader.defs" sReaderDefs []
  m_one_def : MF K (He.ga K "Reader") "one_def" "Reader.one_def" sReaderOneDef []
  m_expr : MF K (He.ga K "Reader") "expr" "Reader.expr" sReaderExpr []
  m_let_rows : MF K (He.ga K "Reader") "let_rows" "Reader.let_rows" sReaderLetRows []
  m_let_row : MF K (He.ga K "Reader") "let_row" "Reader.let_row" sReaderLetRow []
  m_both_rows : MF K (He.ga K "Reader") "both_rows" "Reader.both_rows" sReaderBothRows []
  m_either : MF K (He.ga K "Reader") "either" "Reader.either" sReaderEither []
  m_both : MF K (He.ga K "Reader") "both" "Reader.both" sReaderBoth []
  m_like : MF K (He.ga K "Reader") "like" "Reader.like" sReaderLike []
  m_in_row : MF K (He.ga K "Reader") "in_row" "Reader.in_row" sReaderInRow []
  m_sums : MF K (He.ga K "Reader") "sums" "Reader.sums" sReaderSums []
  m_term : MF K (He.ga K "Reader") "term" "Reader.term" sReaderTerm []
  m_piece : MF K (He.ga K "Reader") "piece" "Reader.piece" sReaderPiece []
  m_begins_atom : MF K (He.ga K "Reader") "begins_atom" "Reader.begins_atom" sReaderBeginsAtom []
  m_atom : MF K (He.ga K "Reader") "atom" "Reader.atom" sReaderAtom []
  m_sees : MF K (He.ga K "Reader") "sees" "Reader.sees" sReaderSees [.ref (He.dflAt ("Reader", some "sees") 0 K)]
  m_take : MF K (He.ga K "Reader") "take" "Reader.take" sReaderTake [.ref (eB K)]
  i_Layout : ∃ f fd, Mk K (He.ga K "Layout") f ∧ FnP K "__init__" "Layout.__init__" sLayoutInit [] f fd
  i_Reader : ∃ f fd, Mk K (He.ga K "Reader") f ∧ FnP K "__init__" "Reader.__init__" sReaderInit [] f fd
theorem stand_of {h : Heap} (X : K.In h) (G : h.Ns mainGlobals mg) (Sd : He.SaysD faS fnS K) : Stand K mg where
  g_run_of := by
    obtain ⟨fd, F⟩ := Sd.def_ 0 (d := dRunOf) rfl
    exact ⟨He.ga K "run_of", fd, He.glo_ok X G (Sd.fact 0 (f := .glo "run_of") rfl), F⟩
  g_mark_at := by
    obtain ⟨fd, F⟩ := Sd.def_ 1 (d := dMarkAt) rfl
    exact ⟨He.ga K "mark_at", fd, He.glo_ok X G (Sd.fact 1 (f := .glo "mark_at") rfl), F⟩
  g_marks := by
    obtain ⟨fd, F⟩ := Sd.def_ 2 (d := dMarks) rfl
    exact ⟨He.ga K "marks", fd, He.glo_ok X G (Sd.fact 2 (f := .glo "marks") rfl), F⟩
  g_laid := by
    obtain ⟨fd, F⟩ := Sd.def_ 10 (d := dLaid) rfl
    exact ⟨He.ga K "laid", fd, He.glo_ok X G (Sd.fact 3 (f := .glo "laid") rfl), F⟩
  g_subtrees := by
    obtain ⟨fd, F⟩ := Sd.def_ 11 (d := dSubtrees) rfl
    exact ⟨He.ga K "subtrees", fd, He.glo_ok X G (Sd.fact 4 (f := .glo "subtrees") rfl), F⟩
  g_depth := by
    obtain ⟨fd, F⟩ := Sd.def_ 12 (d := dDepth) rfl
    exact ⟨He.ga K "depth", fd, He.glo_ok X G (Sd.fact 5 (f := .glo "depth") rfl), F⟩
  g_read := by
    obtain ⟨fd, F⟩ := Sd.def_ 31 (d := dRead) rfl
    exact ⟨He.ga K "read", fd, He.glo_ok X G (Sd.fact 6 (f := .glo "read") rfl), F⟩
  g_law_draws := by
    obtain ⟨fd, F⟩ := Sd.def_ 32 (d := dLawDraws) rfl
    exact ⟨He.ga K "_law_draws", fd, He.glo_ok X G (Sd.fact 7 (f := .glo "_law_draws") rfl), F⟩
  g_law_draw := by
    obtain ⟨fd, F⟩ := Sd.def_ 33 (d := dLawDraw) rfl
    exact ⟨He.ga K "_law_draw", fd, He.glo_ok X G (Sd.fact 8 (f := .glo "_law_draw") rfl), F⟩
  g_law_keys := by
    obtain ⟨fd, F⟩ := Sd.def_ 34 (d := dLawKeys) rfl
    exact ⟨He.ga K "_law_keys", fd, He.glo_ok X G (Sd.fact 9 (f := .glo "_law_keys") rfl), F⟩
  g_law_names := by
    obtain ⟨fd, F⟩ := Sd.def_ 35 (d := dLawNames) rfl
    exact ⟨He.ga K "_law_names", fd, He.glo_ok X G (Sd.fact 10 (f := .glo "_law_names") rfl), F⟩
  g_law_place := by
    obtain ⟨fd, F⟩ := Sd.def_ 36 (d := dLawPlace) rfl
    exact ⟨He.ga K "_law_place", fd, He.glo_ok X G (Sd.fact 11 (f := .glo "_law_place") rfl), F⟩
  g_law_leaf := by
    obtain ⟨fd, F⟩ := Sd.def_ 37 (d := dLawLeaf) rfl
    exact ⟨He.ga K "_law_leaf", fd, He.glo_ok X G (Sd.fact 12 (f := .glo "_law_leaf") rfl), F⟩
  g_law_loop := by
    obtain ⟨fd, F⟩ := Sd.def_ 38 (d := dLawLoop) rfl
    exact ⟨He.ga K "_law_loop", fd, He.glo_ok X G (Sd.fact 13 (f := .glo "_law_loop") rfl), F⟩
  g_law_op := by
    obtain ⟨fd, F⟩ := Sd.def_ 39 (d := dLawOp) rfl
    exact ⟨He.ga K "_law_op", fd, He.glo_ok X G (Sd.fact 14 (f := .glo "_law_op") rfl), F⟩
  g_law_call := by
    obtain ⟨fd, F⟩ := Sd.def_ 40 (d := dLawCall) rfl
    exact ⟨He.ga K "_law_call", fd, He.glo_ok X G (Sd.fact 15 (f := .glo "_law_call") rfl), F⟩
  g_law_tree := by
    obtain ⟨fd, F⟩ := Sd.def_ 41 (d := dLawTree) rfl
    exact ⟨He.ga K "_law_tree", fd, He.glo_ok X G (Sd.fact 16 (f := .glo "_law_tree") rfl), F⟩
  g_law_program := by
    obtain ⟨fd, F⟩ := Sd.def_ 42 (d := dLawProgram) rfl
    exact ⟨He.ga K "_law_program", fd, He.glo_ok X G (Sd.fact 17 (f := .glo "_law_program") rfl), F⟩
  g_law_line := by
    obtain ⟨fd, F⟩ := Sd.def_ 43 (d := dLawLine) rfl
    exact ⟨He.ga K "_law_line", fd, He.glo_ok X G (Sd.fact 18 (f := .glo "_law_line") rfl), F⟩
  g_law_word := by
    obtain ⟨fd, F⟩ := Sd.def_ 44 (d := dLawWord) rfl
    exact ⟨He.ga K "_law_word", fd, He.glo_ok X G (Sd.fact 19 (f := .glo "_law_word") rfl), F⟩
  g_law_level := by
    obtain ⟨fd, F⟩ := Sd.def_ 45 (d := dLawLevel) rfl
    exact ⟨He.ga K "_law_level", fd, He.glo_ok X G (Sd.fact 20 (f := .glo "_law_level") rfl), F⟩
  g_law_item := by
    obtain ⟨fd, F⟩ := Sd.def_ 46 (d := dLawItem) rfl
    exact ⟨He.ga K "_law_item", fd, He.glo_ok X G (Sd.fact 21 (f := .glo "_law_item") rfl), F⟩
  g_law_block := by
    obtain ⟨fd, F⟩ := Sd.def_ 47 (d := dLawBlock) rfl
    exact ⟨He.ga K "_law_block", fd, He.glo_ok X G (Sd.fact 22 (f := .glo "_law_block") rfl), F⟩
  g_law_write_block := by
    obtain ⟨fd, F⟩ := Sd.def_ 48 (d := dLawWriteBlock) rfl
    exact ⟨He.ga K "_law_write_block", fd, He.glo_ok X G (Sd.fact 23 (f := .glo "_law_write_block") rfl), F⟩
  g_law_write_so := by
    obtain ⟨fd, F⟩ := Sd.def_ 49 (d := dLawWriteSo) rfl
    exact ⟨He.ga K "_law_write_so", fd, He.glo_ok X G (Sd.fact 24 (f := .glo "_law_write_so") rfl), F⟩
  g_law_write := by
    obtain ⟨fd, F⟩ := Sd.def_ 50 (d := dLawWrite) rfl
    exact ⟨He.ga K "_law_write", fd, He.glo_ok X G (Sd.fact 25 (f := .glo "_law_write") rfl), F⟩
  g_law_written := by
    obtain ⟨fd, F⟩ := Sd.def_ 51 (d := dLawWritten) rfl
    exact ⟨He.ga K "_law_written", fd, He.glo_ok X G (Sd.fact 26 (f := .glo "_law_written") rfl), F⟩
  g_law_told := by
    obtain ⟨fd, F⟩ := Sd.def_ 52 (d := dLawTold) rfl
    exact ⟨He.ga K "_law_told", fd, He.glo_ok X G (Sd.fact 27 (f := .glo "_law_told") rfl), F⟩
  g_law := by
    obtain ⟨fd, F⟩ := Sd.def_ 53 (d := dLaw) rfl
    exact ⟨He.ga K "law", fd, He.glo_ok X G (Sd.fact 28 (f := .glo "law") rfl), F⟩
  m_lay := by
    obtain ⟨fd, F⟩ := Sd.def_ 4 (d := dLayoutLay) rfl
    exact ⟨_, fd, He.meth_ok (Sd.fact 50 (f := .meth "Layout" "lay") rfl), F⟩
  m_begin := by
    obtain ⟨fd, F⟩ := Sd.def_ 5 (d := dLayoutBegin) rfl
    exact ⟨_, fd, He.meth_ok (Sd.fact 51 (f := .meth "Layout" "begin") rfl), F⟩
  m_block := by
    obtain ⟨fd, F⟩ := Sd.def_ 6 (d := dLayoutBlock) rfl
    exact ⟨_, fd, He.meth_ok (Sd.fact 52 (f := .meth "Layout" "block") rfl), F⟩
  m_first_of_line := by
    obtain ⟨fd, F⟩ := Sd.def_ 7 (d := dLayoutFirstOfLine) rfl
    exact ⟨_, fd, He.meth_ok (Sd.fact 53 (f := .meth "Layout" "first_of_line") rfl), F⟩
  m_bracket := by
    obtain ⟨fd, F⟩ := Sd.def_ 8 (d := dLayoutBracket) rfl
    exact ⟨_, fd, He.meth_ok (Sd.fact 54 (f := .meth "Layout" "bracket") rfl), F⟩
  m_put := by
    obtain ⟨fd, F⟩ := Sd.def_ 9 (d := dLayoutPut) rfl
    exact ⟨_, fd, He.meth_ok (Sd.fact 55 (f := .meth "Layout" "put") rfl), F⟩
  m_defs := by
    obtain ⟨fd, F⟩ := Sd.def_ 16 (d := dReaderDefs) rfl
    exact ⟨_, fd, He.meth_ok (Sd.fact 59 (f := .meth "Reader" "defs") rfl), F⟩
  m_one_def := by
    obtain ⟨fd, F⟩ := Sd.def_ 17 (d := dReaderOneDef) rfl
    exact ⟨_, fd, He.meth_ok (Sd.fact 60 (f := .meth "Reader" "one_def") rfl), F⟩
  m_expr := by
    obtain ⟨fd, F⟩ := Sd.def_ 18 (d := dReaderExpr) rfl
    exact ⟨_, fd, He.meth_ok (Sd.fact 61 (f := .meth "Reader" "expr") rfl), F⟩
  m_let_rows := by
    obtain ⟨fd, F⟩ := Sd.def_ 19 (d := dReaderLetRows) rfl
    exact ⟨_, fd, He.meth_ok (Sd.fact 62 (f := .meth "Reader" "let_rows") rfl), F⟩
  m_let_row := by
    obtain ⟨fd, F⟩ := Sd.def_ 20 (d := dReaderLetRow) rfl
    exact ⟨_, fd, He.meth_ok (Sd.fact 63 (f := .meth "Reader" "let_row") rfl), F⟩
  m_both_rows := by
    obtain ⟨fd, F⟩ := Sd.def_ 21 (d := dReaderBothRows) rfl
    exact ⟨_, fd, He.meth_ok (Sd.fact 64 (f := .meth "Reader" "both_rows") rfl), F⟩
  m_either := by
    obtain ⟨fd, F⟩ := Sd.def_ 22 (d := dReaderEither) rfl
    exact ⟨_, fd, He.meth_ok (Sd.fact 65 (f := .meth "Reader" "either") rfl), F⟩
  m_both := by
    obtain ⟨fd, F⟩ := Sd.def_ 23 (d := dReaderBoth) rfl
    exact ⟨_, fd, He.meth_ok (Sd.fact 66 (f := .meth "Reader" "both") rfl), F⟩
  m_like := by
    obtain ⟨fd, F⟩ := Sd.def_ 24 (d := dReaderLike) rfl
    exact ⟨_, fd, He.meth_ok (Sd.fact 67 (f := .meth "Reader" "like") rfl), F⟩
  m_in_row := by
    obtain ⟨fd, F⟩ := Sd.def_ 25 (d := dReaderInRow) rfl
    exact ⟨_, fd, He.meth_ok (Sd.fact 68 (f := .meth "Reader" "in_row") rfl), F⟩
  m_sums := by
    obtain ⟨fd, F⟩ := Sd.def_ 26 (d := dReaderSums) rfl
    exact ⟨_, fd, He.meth_ok (Sd.fact 69 (f := .meth "Reader" "sums") rfl), F⟩
  m_term := by
    obtain ⟨fd, F⟩ := Sd.def_ 27 (d := dReaderTerm) rfl
    exact ⟨_, fd, He.meth_ok (Sd.fact 70 (f := .meth "Reader" "term") rfl), F⟩
  m_piece := by
    obtain ⟨fd, F⟩ := Sd.def_ 28 (d := dReaderPiece) rfl
    exact ⟨_, fd, He.meth_ok (Sd.fact 71 (f := .meth "Reader" "piece") rfl), F⟩
  m_begins_atom := by
    obtain ⟨fd, F⟩ := Sd.def_ 29 (d := dReaderBeginsAtom) rfl
    exact ⟨_, fd, He.meth_ok (Sd.fact 72 (f := .meth "Reader" "begins_atom") rfl), F⟩
  m_atom := by
    obtain ⟨fd, F⟩ := Sd.def_ 30 (d := dReaderAtom) rfl
    exact ⟨_, fd, He.meth_ok (Sd.fact 73 (f := .meth "Reader" "atom") rfl), F⟩
  m_sees := by
    obtain ⟨fd, F⟩ := Sd.def_ 14 (d := dReaderSees) rfl
    exact ⟨_, fd, He.meth_ok (Sd.fact 57 (f := .meth "Reader" "sees") rfl), F⟩
  m_take := by
    obtain ⟨fd, F⟩ := Sd.def_ 15 (d := dReaderTake) rfl
    exact ⟨_, fd, He.meth_ok (Sd.fact 58 (f := .meth "Reader" "take") rfl), F⟩
  i_Layout := by
    obtain ⟨fd, F⟩ := Sd.def_ 3 (d := dLayoutInit) rfl
    exact ⟨_, fd, He.mkr_ok (Sd.fact 42 (f := .mkr "Layout") rfl), F⟩
  i_Reader := by
    obtain ⟨fd, F⟩ := Sd.def_ 13 (d := dReaderInit) rfl
    exact ⟨_, fd, He.mkr_ok (Sd.fact 46 (f := .mkr "Reader") rfl), F⟩
theorem tupAt_ok {a : Addr} {vs : List V} (h : tupAtB K a vs = true) (H : Hp) : SqT K H a vs := by
  unfold tupAtB at h
  cases q : K.lookup a with
  | none =>
    rw [q] at h
    cases h
  | some o =>
    obtain ⟨oc, od, dt, osl⟩ := o
    rw [q] at h
    cases oc with
    | type c => cases dt with
      | seq its n =>
        obtain ⟨h1, h2⟩ := He.ba h
        obtain ⟨h3, h4⟩ := He.ba h2
        exact .inr ⟨_, its, n, q, congrArg Value.type (of_decide_eq_true h1), rfl, of_decide_eq_true h3, He.relAll_ok h4⟩
      | _ => cases h
    | _ => cases dt <;> cases h
theorem facts_of {h : Heap} (X : K.In h) (G : h.Ns mainGlobals mg) (Sd : He.SaysD faS fnS K) (hex : exS K = true) : Facts K mg (He.ga K "KEYS") (He.ga K "SIGNS") (He.ga K "Layout") (He.ga K "Reader") (He.dflAt ("Reader", some "sees") 0 K) := by
  obtain ⟨x1, hex⟩ := He.ba hex
  obtain ⟨x2, hex⟩ := He.ba hex
  obtain ⟨x3, x4⟩ := He.ba hex
  refine {
    f_len := He.free_ok X G (Sd.fact 74 (f := .free "len") rfl)
    f_list := He.free_ok X G (Sd.fact 75 (f := .free "list") rfl)
    f_enumerate := He.free_ok X G (Sd.fact 76 (f := .free "enumerate") rfl)
    f_max := He.free_ok X G (Sd.fact 77 (f := .free "max") rfl)
    f_min := He.free_ok X G (Sd.fact 78 (f := .free "min") rfl)
    f_reversed := He.free_ok X G (Sd.fact 79 (f := .free "reversed") rfl)
    f_range := He.free_ok X G (Sd.fact 80 (f := .free "range") rfl)
    f_int := He.free_ok X G (Sd.fact 81 (f := .free "int") rfl)
    f_str := He.free_ok X G (Sd.fact 82 (f := .free "str") rfl)
    f_tuple := He.free_ok X G (Sd.fact 83 (f := .free "tuple") rfl)
    f_zip := He.free_ok X G (Sd.fact 84 (f := .free "zip") rfl)
    g_KEYS := ⟨_, He.glo_ok X G (Sd.fact 32 (f := .glo "KEYS") rfl), rfl⟩
    g_SIGNS := ⟨_, He.glo_ok X G (Sd.fact 33 (f := .glo "SIGNS") rfl), rfl⟩
    g_LETTERS := by
      obtain ⟨t, e⟩ := He.str_ok X G (Sd.fact 39 (f := .str "LETTERS" "abcdefghijklmnopqrstuvwxyz") rfl)
      exact ⟨_, e, ⟨t, rfl⟩⟩
    g_FIGURES := by
      obtain ⟨t, e⟩ := He.str_ok X G (Sd.fact 40 (f := .str "FIGURES" "0123456789") rfl)
      exact ⟨_, e, ⟨t, rfl⟩⟩
    g_MOST_OPEN := by
      obtain ⟨t, e⟩ := He.int_ok X G (Sd.fact 34 (f := .int "MOST_OPEN" 24) rfl)
      exact ⟨_, e, ⟨t, rfl⟩⟩
    g_BRACKET := by
      obtain ⟨t, e⟩ := He.int_ok X G (Sd.fact 35 (f := .int "BRACKET" (-1)) rfl)
      exact ⟨_, e, ⟨t, rfl⟩⟩
    g_DEEP := by
      obtain ⟨t, e⟩ := He.int_ok X G (Sd.fact 36 (f := .int "DEEP" 10) rfl)
      exact ⟨_, e, ⟨t, rfl⟩⟩
    g_MOST_DEFS := by
      obtain ⟨t, e⟩ := He.int_ok X G (Sd.fact 37 (f := .int "MOST_DEFS" 8) rfl)
      exact ⟨_, e, ⟨t, rfl⟩⟩
    g_MOST_PARTS := by
      obtain ⟨t, e⟩ := He.int_ok X G (Sd.fact 38 (f := .int "MOST_PARTS" 4) rfl)
      exact ⟨_, e, ⟨t, rfl⟩⟩
    keys := fun H => He.tupB_ok x1 H
    signs := fun H => He.tupB_ok x2 H
    emp := fun H => tupAt_ok x3 H
    emp2 := fun H => tupAt_ok x4 H
    g_Layout := He.glo_ok X G (Sd.fact 30 (f := .glo "Layout") rfl)
    g_Reader := He.glo_ok X G (Sd.fact 31 (f := .glo "Reader") rfl)
    cl_L := He.cls_ok (Sd.fact 41 (f := .cls "Layout") rfl)
    cl_R := He.cls_ok (Sd.fact 45 (f := .cls "Reader") rfl)
    nTold := He.noat_ok (Sd.fact 43 (f := .noat "Layout" "told") rfl)
    nStack := He.noat_ok (Sd.fact 44 (f := .noat "Layout" "stack") rfl)
    nRow := He.noat_ok (Sd.fact 47 (f := .noat "Reader" "row") rfl)
    nAt := He.noat_ok (Sd.fact 48 (f := .noat "Reader" "at") rfl) }
end
end K10
namespace K10
open PySem PySem.Spec PyProof.Rows L2
open SX (S)
open C8 (Mak)
section
variable {P : Program} {w : World} {K : PySem.W.Frag} {mg : Str → Option Value} {base : Heap} {kA sA CL CR eA : Addr}
/-! ### sees and take, with and without their default -/
theorem sees_cal (T : Facts K mg kA sA CL CR eA) (h : MF K CR "sees" "Reader.sees" sReaderSees [.ref eA]) : MCal P w K mg base CR "sees" 1 ["self", "kind", "words"] [] (spSees K CR) ∧ MCal P w K mg base CR "sees" 1 ["self", "kind", "words"] [.ref eA] (spSees K CR) := by
  obtain ⟨f, fd, hM, F⟩ := h
  have ok : FnOk P w K mg base CX0 1 f fd ["self", "kind", "words"] (spSees K CR) := ok_sees T F
  obtain ⟨ds0, v0, b0⟩ := F.binds1 (ps := ["self", "kind", "words"]) 3 1 (by simp) rfl fun Tt kV doc pm an cdv ct us its hu hi => match us, its, hu, hi with | [_, _, _], [_], _, _ => ⟨_, rfl, rfl⟩
  obtain ⟨ds1, v1, b1⟩ := F.binds1 (ps := ["self", "kind", "words"]) 2 0 (by simp) rfl fun Tt kV doc pm an cdv ct us its hu hi => match us, its, hu, hi with | [_, _], [_], _, _ => ⟨_, rfl, rfl⟩
  exact ⟨⟨f, fd, ds0, hM, b0, v0, ok⟩, ⟨f, fd, ds1, hM, b1, v1, ok⟩⟩
theorem take_cal {eT : Addr} (T : Facts K mg kA sA CL CR eA) (cs : MCal P w K mg base CR "sees" 1 ["self", "kind", "words"] [] (spSees K CR)) (h : MF K CR "take" "Reader.take" sReaderTake [.ref eT]) : MCal P w K mg base CR "take" 2 ["self", "kind", "words"] [] (spTake K CR) ∧ MCal P w K mg base CR "take" 2 ["self", "kind", "words"] [.ref eT] (spTake K CR) := by
  obtain ⟨f, fd, hM, F⟩ := h
  have ok : FnOk P w K mg base CX0 2 f fd ["self", "kind", "words"] (spTake K CR) := ok_take T cs F
  obtain ⟨ds0, v0, b0⟩ := F.binds1 (ps := ["self", "kind", "words"]) 3 1 (by simp) rfl fun Tt kV doc pm an cdv ct us its hu hi => match us, its, hu, hi with | [_, _, _], [_], _, _ => ⟨_, rfl, rfl⟩
  obtain ⟨ds1, v1, b1⟩ := F.binds1 (ps := ["self", "kind", "words"]) 2 0 (by simp) rfl fun Tt kV doc pm an cdv ct us its hu hi => match us, its, hu, hi with | [_, _], [_], _, _ => ⟨_, rfl, rfl⟩
  exact ⟨⟨f, fd, ds0, hM, b0, v0, ok⟩, ⟨f, fd, ds1, hM, b1, v1, ok⟩⟩
end
section
variable {P : Program} {w : World} {K : PySem.W.Frag} {mg : Str → Option Value} {base : Heap} {kA sA CL eA : Addr}
abbrev CRd (K : PySem.W.Frag) : Addr := He.ga K "Reader"
abbrev CLd (K : PySem.W.Frag) : Addr := He.ga K "Layout"
/-! ### the reader's expr, n within one another -/
theorem inrow_tower {E1 : Rel} {lv : Nat} (hlv : 3 ≤ lv) (T : Facts K mg kA sA CL (CRd K) eA) (N : Stand K mg) (c_sees : MCal P w K mg base (CRd K) "sees" 1 ["self", "kind", "words"] [] (spSees K (CRd K))) (c_take1 : MCal P w K mg base (CRd K) "take" 2 ["self", "kind", "words"] [.ref (eB K)] (spTake K (CRd K)))
    (c_sums : MCal P w K mg base (CRd K) "sums" lv ["self"] [] (spRel (CRd K) (Sums E1))) : ∀ k, MCal P w K mg base (CRd K) "in_row" (lv + k) ["self"] [] (spRel (CRd K) (InRow E1 k))
  | 0 => by
    obtain ⟨l, rfl⟩ : ∃ l, lv = l + 1 := ⟨lv - 1, by omega⟩
    refine N.m_in_row.cal (fun F => F.bindsN fun _ _ _ _ _ _ us hl => match us, hl with | [_], _ => rfl) fun F => F.ok sc_ReaderInRow (fun vs H Q E h => ?_) (fun cdv A outer s H vs Q E hr h => ?_)
    · obtain ⟨ro, dx, rA, W, n, d, R', _, _, hrel, _⟩ := h
      cases hrel
    · obtain ⟨ro, dx, rA, W, n, d, R', _, _, hrel, _⟩ := h
      cases hrel
  | k + 1 => N.m_in_row.cal (fun F => F.bindsN fun _ _ _ _ _ _ us hl => match us, hl with | [_], _ => rfl) fun F => ok_inrow (lv := lv + k) (by omega) T c_sees c_take1 (c_sums.mono (by omega)) (inrow_tower hlv T N c_sees c_take1 c_sums k) F
theorem expr_tower (T : Facts K mg kA sA CL (CRd K) eA) (N : Stand K mg) (c_sees : MCal P w K mg base (CRd K) "sees" 1 ["self", "kind", "words"] [] (spSees K (CRd K))) (c_sees1 : MCal P w K mg base (CRd K) "sees" 1 ["self", "kind", "words"] [.ref eA] (spSees K (CRd K)))
    (c_take : MCal P w K mg base (CRd K) "take" 2 ["self", "kind", "words"] [] (spTake K (CRd K))) (c_take1 : MCal P w K mg base (CRd K) "take" 2 ["self", "kind", "words"] [.ref (eB K)] (spTake K (CRd K))) : ∀ n, MCal P w K mg base (CRd K) "expr" (2 + 14 * n) ["self"] [] (spRel (CRd K) (PEx 6 n))
  | 0 => by
    refine N.m_expr.cal (fun F => F.bindsN fun _ _ _ _ _ _ us hl => match us, hl with | [_], _ => rfl) fun F => F.ok (k := 1) sc_ReaderExpr (fun vs H Q E h => ?_) (fun cdv A outer s H vs Q E hr h => ?_)
    · obtain ⟨ro, dx, rA, W, n, d, R', _, _, hrel, _⟩ := h
      exact (show False from hrel).elim
    · obtain ⟨ro, dx, rA, W, n, d, R', _, _, hrel, _⟩ := h
      exact (show False from hrel).elim
  | n + 1 => by
    have c_expr := expr_tower T N c_sees c_sees1 c_take c_take1 n
    generalize hl : 2 + 14 * n = lv at c_expr
    have hlv : 2 ≤ lv := by omega
    have c_begins : MCal P w K mg base (CRd K) "begins_atom" 2 ["self"] [] (spAtomH (CRd K)) := N.m_begins_atom.cal (fun F => F.bindsN fun _ _ _ _ _ _ us hl => match us, hl with | [_], _ => rfl) fun F => ok_begins T c_sees1 c_sees F
    have c_atom : MCal P w K mg base (CRd K) "atom" (lv + 1) ["self"] [] (spRel (CRd K) (Atom (PEx 6 n))) := N.m_atom.cal (fun F => F.bindsN fun _ _ _ _ _ _ us hl => match us, hl with | [_], _ => rfl) fun F => ok_atom hlv T c_sees1 c_sees c_take c_expr F
    have c_piece : MCal P w K mg base (CRd K) "piece" (lv + 2) ["self"] [] (spRel (CRd K) (Piece (PEx 6 n))) := N.m_piece.cal (fun F => F.bindsN fun _ _ _ _ _ _ us hl => match us, hl with | [_], _ => rfl) fun F => ok_piece (by omega) T c_sees1 c_take1 c_begins c_atom F
    have c_term : MCal P w K mg base (CRd K) "term" (lv + 3) ["self"] [] (spRel (CRd K) (Term (PEx 6 n))) := N.m_term.cal (fun F => F.bindsN fun _ _ _ _ _ _ us hl => match us, hl with | [_], _ => rfl) fun F => ok_term (by omega) T c_sees c_piece F
    have c_sums : MCal P w K mg base (CRd K) "sums" (lv + 4) ["self"] [] (spRel (CRd K) (Sums (PEx 6 n))) := N.m_sums.cal (fun F => F.bindsN fun _ _ _ _ _ _ us hl => match us, hl with | [_], _ => rfl) fun F => ok_sums (by omega) T c_sees c_take1 c_term F
    have c_in_row := inrow_tower (by omega) T N c_sees c_take1 c_sums 6
    have c_like : MCal P w K mg base (CRd K) "like" (lv + 4 + 6 + 1) ["self"] [] (spRel (CRd K) (Like (PEx 6 n) 6)) := N.m_like.cal (fun F => F.bindsN fun _ _ _ _ _ _ us hl => match us, hl with | [_], _ => rfl) fun F => ok_like (by omega) T c_sees c_take1 c_in_row F
    have c_both : MCal P w K mg base (CRd K) "both" (lv + 4 + 6 + 2) ["self"] [] (spRel (CRd K) (LikeN (PEx 6 n))) := N.m_both.cal (fun F => F.bindsN fun _ _ _ _ _ _ us hl => match us, hl with | [_], _ => rfl) fun F => ok_both (by omega) T c_sees c_like F
    have c_either : MCal P w K mg base (CRd K) "either" (lv + 4 + 6 + 3) ["self"] [] (spRel (CRd K) (LikeN (PEx 6 n))) := N.m_either.cal (fun F => F.bindsN fun _ _ _ _ _ _ us hl => match us, hl with | [_], _ => rfl) fun F => ok_either (by omega) T c_sees c_both F
    have c_let_row : MCal P w K mg base (CRd K) "let_row" (lv + 1) ["self"] [] (spRel (CRd K) (LetRowR (PEx 6 n))) := N.m_let_row.cal (fun F => F.bindsN fun _ _ _ _ _ _ us hl => match us, hl with | [_], _ => rfl) fun F => ok_letrow hlv T c_take1 c_take c_expr F
    have c_let_rows : MCal P w K mg base (CRd K) "let_rows" (lv + 2) ["self"] [] (spRel (CRd K) (LetsR (PEx 6 n))) := N.m_let_rows.cal (fun F => F.bindsN fun _ _ _ _ _ _ us hl => match us, hl with | [_], _ => rfl) fun F => ok_letrows hlv T c_sees1 c_take c_let_row c_expr F
    have c_both_rows : MCal P w K mg base (CRd K) "both_rows" (lv + 1) ["self", "place"] [] (spRelP (CRd K) (BothR (PEx 6 n))) := N.m_both_rows.cal (fun F => F.bindsN fun _ _ _ _ _ _ us hl => match us, hl with | [_, _], _ => rfl) fun F => ok_bothrows hlv T c_take1 c_take c_expr F
    have e : 2 + 14 * (n + 1) = lv + 4 + 6 + 3 + 1 := by omega
    rw [e]
    exact N.m_expr.cal (fun F => F.bindsN fun _ _ _ _ _ _ us hl => match us, hl with | [_], _ => rfl) fun F => ok_expr hlv (by omega) T c_sees c_take (c_let_rows.mono (by omega)) (c_both_rows.mono (by omega)) c_either c_expr F
/-! ### the law's trees and texts, n deep -/
theorem tree_tower (T : Facts K mg kA sA CL (CRd K) eA) (N : Stand K mg) (c_draw : Cal P w K mg base "_law_draw" 1 ["draws", "many"] spDraw) (c_place : Cal P w K mg base "_law_place" 1 ["way"] spPlace) (c_leaf : Cal P w K mg base "_law_leaf" 2 ["draws", "way", "want", "near"] spLeaf) :
    ∀ n, Cal P w K mg base "_law_tree" (2 * n + 1) ["draws", "way", "want", "near", "deep"] (spTree n)
  | 0 => by
    refine N.g_law_tree.cal (fun F => F.bindsN fun _ _ _ _ _ _ us hl => match us, hl with | [_, _, _, _, _], _ => rfl) fun F => F.ok (k := 0) sc_LawTree (fun vs H Q E h => ?_) (fun cdv A outer s H vs Q E hr h => ?_)
    · obtain ⟨_, _, _, _, _, _, _, _, _, _, _, _, h1, _⟩ := h
      exact absurd h1 (by decide)
    · obtain ⟨_, _, _, _, _, _, _, _, _, _, _, _, h1, _⟩ := h
      exact absurd h1 (by decide)
  | n + 1 => by
    have c_tree := tree_tower T N c_draw c_place c_leaf n
    have c_op : Cal P w K mg base "_law_op" (2 * n + 2) ["draws", "way", "want", "near", "deep"] (spTree2 n) := N.g_law_op.cal (fun F => F.bindsN fun _ _ _ _ _ _ us hl => match us, hl with | [_, _, _, _, _], _ => rfl) fun F => ok_op c_draw c_place c_tree F
    have c_call : Cal P w K mg base "_law_call" (2 * n + 2) ["draws", "way", "want", "near", "deep"] (spTree2 n) := by
      by_cases hn : 1 ≤ n
      · exact N.g_law_call.cal (fun F => F.bindsN fun _ _ _ _ _ _ us hl => match us, hl with | [_, _, _, _, _], _ => rfl) fun F => ok_call T c_draw c_place c_leaf c_tree F hn
      · refine N.g_law_call.cal (fun F => F.bindsN fun _ _ _ _ _ _ us hl => match us, hl with | [_, _, _, _, _], _ => rfl) fun F => F.ok (k := 2 * n + 1) sc_LawCall (fun vs H Q E h => ?_) (fun cdv A outer s H vs Q E hr h => ?_)
        · obtain ⟨_, _, _, _, _, _, _, _, _, _, _, _, h1, _⟩ := h
          exact absurd h1 hn
        · obtain ⟨_, _, _, _, _, _, _, _, _, _, _, _, h1, _⟩ := h
          exact absurd h1 hn
    have e : 2 * (n + 1) + 1 = 2 * n + 2 + 1 := by omega
    rw [e]
    exact N.g_law_tree.cal (fun F => F.bindsN fun _ _ _ _ _ _ us hl => match us, hl with | [_, _, _, _, _], _ => rfl) fun F => ok_tree T c_draw c_place c_leaf c_op c_call c_tree F
theorem write_tower (T : Facts K mg kA sA CL (CRd K) eA) (N : Stand K mg) (c_draw : Cal P w K mg base "_law_draw" 1 ["draws", "many"] spDraw) (c_word : Cal P w K mg base "_law_word" 3 ["draws", "pen", "word", "least", "free"] spWord)
    (c_item : Cal P w K mg base "_law_item" 3 ["draws", "pen", "column"] spItem) (c_block : Cal P w K mg base "_law_block" 4 ["draws", "pen", "least"] spBlock) (c_level : Cal P w K mg base "_law_level" 1 ["tree"] spLevel) :
    ∀ n, n ≤ 5 → Cal P w K mg base "_law_write" (3 * n + 5) ["draws", "pen", "tree", "least", "free", "need_d"] (spWrite n)
  | 0, _ => by
    refine N.g_law_write.cal (fun F => F.bindsN fun _ _ _ _ _ _ us hl => match us, hl with | [_, _, _, _, _, _], _ => rfl) fun F => F.ok (k := 4) sc_LawWrite (fun vs H Q E h => ?_) (fun cdv A outer s H vs Q E hr h => ?_)
    · obtain ⟨_, _, _, _, _, _, _, _, _, _, _, _, _, _, _, _, _, _, h1, h2, _⟩ := h
      omega
    · obtain ⟨_, _, _, _, _, _, _, _, _, _, _, _, _, _, _, _, _, _, h1, h2, _⟩ := h
      omega
  | n + 1, h => by
    have c_write := write_tower T N c_draw c_word c_item c_block c_level n (by omega)
    have c_word15 : Cal P w K mg base "_law_word" 3 ["draws", "pen", "word", "least", "free"] spWord15 := c_word.imp fun _ _ _ _ h => word15 h
    have c_wb : Cal P w K mg base "_law_write_block" (3 * n + 5 + 1) ["draws", "pen", "tree", "least", "free"] (spWb (n + 1)) := N.g_law_write_block.cal (fun F => F.bindsN fun _ _ _ _ _ _ us hl => match us, hl with | [_, _, _, _, _], _ => rfl) fun F => ok_wblock (by omega) T c_draw c_word15 c_item c_block c_write F
    have c_wso : Cal P w K mg base "_law_write_so" (3 * n + 6 + 1) ["draws", "pen", "tree", "least", "free"] (spWso (n + 1)) := N.g_law_write_so.cal (fun F => F.bindsN fun _ _ _ _ _ _ us hl => match us, hl with | [_, _, _, _, _], _ => rfl) fun F => ok_wso h T c_draw c_word15 c_item c_level c_wb c_write F
    have e : 3 * (n + 1) + 5 = 3 * n + 7 + 1 := by omega
    rw [e]
    exact N.g_law_write.cal (fun F => F.bindsN fun _ _ _ _ _ _ us hl => match us, hl with | [_, _, _, _, _, _], _ => rfl) fun F => ok_write h T c_draw c_word c_level c_wso F
/-! ### the law -/
theorem read_cal (T : Facts K mg kA sA (CLd K) (CRd K) (He.dflAt ("Reader", some "sees") 0 K)) (N : Stand K mg) : Cal P w K mg base "read" 145 ["text"] spRead := by
  obtain ⟨c_sees, c_sees1⟩ := sees_cal (P := P) (w := w) (base := base) T N.m_sees
  obtain ⟨c_take, c_take1⟩ := take_cal (P := P) (w := w) (base := base) T c_sees N.m_take
  have c_expr := expr_tower T N c_sees c_sees1 c_take c_take1 10
  have c_one_def : MCal P w K mg base (CRd K) "one_def" 143 ["self"] [] (spRel (CRd K) (DefR (PEx 6 10))) := N.m_one_def.cal (fun F => F.bindsN fun _ _ _ _ _ _ us hl => match us, hl with | [_], _ => rfl) fun F => ok_onedef (lv := 142) (by decide) T c_sees1 c_take1 c_take c_expr F
  have c_defs : MCal P w K mg base (CRd K) "defs" 144 ["self"] [] (spDefs (CRd K) (PEx 6 10)) := N.m_defs.cal (fun F => F.bindsN fun _ _ _ _ _ _ us hl => match us, hl with | [_], _ => rfl) fun F => ok_defs (lv := 143) (by decide) T c_sees c_take c_one_def F
  have c_Reader : Mak P w K mg base 1 "Reader" (CRd K) (spInitR (CRd K)) [] := by
    obtain ⟨f, fd, M, F⟩ := N.i_Reader
    exact ⟨f, fd, ["self", "row"], [], M, ok_initR T F, T.g_Reader, F.bindsN fun _ _ _ _ _ _ us hl => match us, hl with | [_, _], _ => rfl, .nil⟩
  have c_Layout : Mak P w K mg base 1 "Layout" (CLd K) (spInitL (CLd K)) [] := by
    obtain ⟨f, fd, M, F⟩ := N.i_Layout
    exact ⟨f, fd, ["self"], [], M, ok_initL T F, T.g_Layout, F.bindsN fun _ _ _ _ _ _ us hl => match us, hl with | [_], _ => rfl, .nil⟩
  have c_subtrees : Cal P w K mg base "subtrees" 1 ["tree"] spSubs := N.g_subtrees.cal (fun F => F.bindsN fun _ _ _ _ _ _ us hl => match us, hl with | [_], _ => rfl) fun F => ok_subs T F
  have c_depth : Cal P w K mg base "depth" 2 ["tree"] spDepth := N.g_depth.cal (fun F => F.bindsN fun _ _ _ _ _ _ us hl => match us, hl with | [_], _ => rfl) fun F => ok_depth T c_subtrees F
  have c_run : Cal P w K mg base "run_of" 1 ["row", "at", "signs"] spRun := N.g_run_of.cal (fun F => F.bindsN fun _ _ _ _ _ _ us hl => match us, hl with | [_, _, _], _ => rfl) fun F => ok_runof T F
  have c_mark : Cal P w K mg base "mark_at" 2 ["row", "at", "line"] spMark := N.g_mark_at.cal (fun F => F.bindsN fun _ _ _ _ _ _ us hl => match us, hl with | [_, _, _], _ => rfl) fun F => ok_markat T c_run F
  have c_marks : Cal P w K mg base "marks" 3 ["text"] spMarks := N.g_marks.cal (fun F => F.bindsN fun _ _ _ _ _ _ us hl => match us, hl with | [_], _ => rfl) fun F => ok_marks T c_mark F
  have c_lay : MCal P w K mg base (CLd K) "lay" 1 ["self", "sign", "line", "column"] [] (spLay (CLd K)) := N.m_lay.cal (fun F => F.bindsN fun _ _ _ _ _ _ us hl => match us, hl with | [_, _, _, _], _ => rfl) fun F => ok_lay T F
  have c_begin : MCal P w K mg base (CLd K) "begin" 1 ["self", "column", "mark"] [] (spBegin (CLd K)) := N.m_begin.cal (fun F => F.bindsN fun _ _ _ _ _ _ us hl => match us, hl with | [_, _, _], _ => rfl) fun F => ok_begin T F
  have c_block : MCal P w K mg base (CLd K) "block" 2 ["self", "mark"] [] (spBlockL (CLd K)) := N.m_block.cal (fun F => F.bindsN fun _ _ _ _ _ _ us hl => match us, hl with | [_, _], _ => rfl) fun F => ok_blockL T c_begin c_lay F
  have c_first : MCal P w K mg base (CLd K) "first_of_line" 2 ["self", "mark"] [] (spFirst (CLd K)) := N.m_first_of_line.cal (fun F => F.bindsN fun _ _ _ _ _ _ us hl => match us, hl with | [_, _], _ => rfl) fun F => ok_first T c_lay F
  have c_bracket : MCal P w K mg base (CLd K) "bracket" 2 ["self", "mark"] [] (spBracket (CLd K)) := N.m_bracket.cal (fun F => F.bindsN fun _ _ _ _ _ _ us hl => match us, hl with | [_, _], _ => rfl) fun F => ok_bracket T c_begin c_lay F
  have c_put : MCal P w K mg base (CLd K) "put" 3 ["self", "mark", "ahead"] [] (spPut (CLd K)) := N.m_put.cal (fun F => F.bindsN fun _ _ _ _ _ _ us hl => match us, hl with | [_, _, _], _ => rfl) fun F => ok_put T c_block c_first c_bracket F
  have c_laid : Cal P w K mg base "laid" 4 ["text"] spLaid := N.g_laid.cal (fun F => F.bindsN fun _ _ _ _ _ _ us hl => match us, hl with | [_], _ => rfl) fun F => ok_laid T c_marks c_Layout c_put c_lay F
  exact N.g_read.cal (fun F => F.bindsN fun _ _ _ _ _ _ us hl => match us, hl with | [_], _ => rfl) fun F => ok_read (lv := 144) (by decide) T c_laid c_Reader c_defs c_depth F
theorem program_cal (T : Facts K mg kA sA (CLd K) (CRd K) eA) (N : Stand K mg) : Cal P w K mg base "_law_program" 12 ["draws", "size", "deep"] spProgram ∧ Cal P w K mg base "_law_written" 21 ["draws", "program"] spWritten := by
  have c_draw : Cal P w K mg base "_law_draw" 1 ["draws", "many"] spDraw := N.g_law_draw.cal (fun F => F.bindsN fun _ _ _ _ _ _ us hl => match us, hl with | [_, _], _ => rfl) fun F => ok_draw F
  have c_place : Cal P w K mg base "_law_place" 1 ["way"] spPlace := N.g_law_place.cal (fun F => F.bindsN fun _ _ _ _ _ _ us hl => match us, hl with | [_], _ => rfl) fun F => ok_place F
  have c_keys : Cal P w K mg base "_law_keys" 1 [] spKeys := N.g_law_keys.cal (fun F => F.bindsN fun _ _ _ _ _ _ us hl => match us, hl with | [], _ => rfl) fun F => ok_keys F
  have c_names : Cal P w K mg base "_law_names" 2 ["draws", "many"] spNames := N.g_law_names.cal (fun F => F.bindsN fun _ _ _ _ _ _ us hl => match us, hl with | [_, _], _ => rfl) fun F => ok_names T c_draw c_keys F
  have c_leaf : Cal P w K mg base "_law_leaf" 2 ["draws", "way", "want", "near"] spLeaf := N.g_law_leaf.cal (fun F => F.bindsN fun _ _ _ _ _ _ us hl => match us, hl with | [_, _, _, _], _ => rfl) fun F => ok_leaf T c_draw c_place F
  have c_loop : Cal P w K mg base "_law_loop" 3 ["draws", "way", "head", "names"] spLoop := N.g_law_loop.cal (fun F => F.bindsN fun _ _ _ _ _ _ us hl => match us, hl with | [_, _, _, _], _ => rfl) fun F => ok_loop T c_draw c_place c_leaf F
  have c_tree := tree_tower T N c_draw c_place c_leaf 5
  have c_line : Cal P w K mg base "_law_line" 2 ["draws", "pen", "column"] spLine := N.g_law_line.cal (fun F => F.bindsN fun _ _ _ _ _ _ us hl => match us, hl with | [_, _, _], _ => rfl) fun F => ok_line T c_draw F
  have c_word : Cal P w K mg base "_law_word" 3 ["draws", "pen", "word", "least", "free"] spWord := N.g_law_word.cal (fun F => F.bindsN fun _ _ _ _ _ _ us hl => match us, hl with | [_, _, _, _, _], _ => rfl) fun F => ok_word T c_draw c_line F
  have c_level : Cal P w K mg base "_law_level" 1 ["tree"] spLevel := N.g_law_level.cal (fun F => F.bindsN fun _ _ _ _ _ _ us hl => match us, hl with | [_], _ => rfl) fun F => ok_level F
  have c_item : Cal P w K mg base "_law_item" 3 ["draws", "pen", "column"] spItem := N.g_law_item.cal (fun F => F.bindsN fun _ _ _ _ _ _ us hl => match us, hl with | [_, _, _], _ => rfl) fun F => ok_item c_line F
  have c_block : Cal P w K mg base "_law_block" 4 ["draws", "pen", "least"] spBlock := N.g_law_block.cal (fun F => F.bindsN fun _ _ _ _ _ _ us hl => match us, hl with | [_, _, _], _ => rfl) fun F => ok_block c_draw c_item F
  have c_write := write_tower T N c_draw c_word c_item c_block c_level 5 (Nat.le_refl _)
  exact ⟨N.g_law_program.cal (fun F => F.bindsN fun _ _ _ _ _ _ us hl => match us, hl with | [_, _, _], _ => rfl) fun F => ok_program T c_draw c_place c_names c_loop c_tree F, N.g_law_written.cal (fun F => F.bindsN fun _ _ _ _ _ _ us hl => match us, hl with | [_, _], _ => rfl) fun F => ok_written T c_draw c_line c_word c_write F⟩
theorem code_law {fd : FuncData} (F : FnP K "law" "law" sLaw [] (He.ga K "law") fd) : fd.code = .ref (He.cT K ("law", none)).1 := by
  obtain ⟨oc, od, dV, kV, doc, pm, an, cdv, ct, osl, rfl, lk, hcd, _, _⟩ := F.ex
  obtain ⟨c0, rfl⟩ := He.codeIn_ref hcd
  have e := He.codeOf_eq (p := ("law", none)) lk rfl
  show Value.ref c0 = .ref (He.codeOf K ("law", none))
  rw [e]
theorem law_cal {CT : Addr} (T : Facts K mg kA sA (CLd K) (CRd K) (He.dflAt ("Reader", some "sees") 0 K)) (N : Stand K mg) (hCT : mg "TierError" = some (.ref CT)) (TB : LamX.TabB base mg (He.cT K ("law", none)).1 (He.cT K ("law", none)).2) {fd : FuncData} (F : FnP K "law" "law" sLaw [] (He.ga K "law") fd) :
    FnOk P w K mg base CX0 148 (He.ga K "law") fd ["script"] (spLaw K (He.cT K ("law", none)).2) := by
  have c_draws : Cal P w K mg base "_law_draws" 1 ["script", "k"] (spDraws K) := N.g_law_draws.cal (fun F => F.bindsN fun _ _ _ _ _ _ us hl => match us, hl with | [_, _], _ => rfl) fun F => ok_draws T F
  obtain ⟨c_program, c_written⟩ := program_cal (P := P) (w := w) (base := base) T N
  obtain ⟨g, fdT, hgT, FT⟩ := N.g_law_told
  exact ok_law (lr := 145) (by decide) T hCT c_draws c_program c_written (read_cal T N) hgT FT TB (code_law F) F
end
end K10
namespace K10
open PySem PySem.Spec PyProof.Rows L2
open SX (S)
theorem law_at {w : World} {mg : Str → Option Value} {fa : Addr} {h : Heap} (Y : hkS.says w h) (G : h.Ns mainGlobals mg) (hmg : mg "law" = some (.ref fa)) :
    ∃ K : PySem.W.Frag, K.In h ∧ LamX.LawAtS PySem.Challenge.rw_tierpile_k10_whole_texts_read w K CX0 148 63 "script" mg fa h := by
  obtain ⟨K, KX, c⟩ := Y
  refine ⟨K, KX, ?_⟩
  have Sd : He.SaysD faS fnS K := c.t.d
  have N : Stand K mg := stand_of KX G Sd
  have T := facts_of KX G Sd c.more
  have ht : ((("law" : Str), (none : Option Str)) : He.Defn) ∈ tfS := List.mem_singleton.mpr rfl
  have hCT := He.glo_ok KX G (Sd.facts (f := .glo "TierError") (by simp [faS, faS0]))
  obtain ⟨fd, F⟩ := Sd.defs (d := dLaw) (by simp [fnS])
  have F : FnP K "law" "law" sLaw [] (He.ga K "law") fd := F
  have e : fa = He.ga K "law" := by
    have e1 := He.glo_ok KX G (Sd.facts (f := .glo "law") (by simp [faS, faS0]))
    rw [hmg] at e1
    injection e1 with e2
    injection e2
  subst e
  have b := FunD.bindsA (ps := ["script"]) F fun _ _ _ _ _ _ us hl => match us, hl with | [_], _ => rfl
  refine ⟨fd, [He.cT K ("law", none)], spLaw K (He.cT K ("law", none)).2, fun p hp => by rw [List.mem_singleton.mp hp]; exact c.empty _ ht, fun p hp => by rw [List.mem_singleton.mp hp]; exact c.out _ ht, fun p hp => by rw [List.mem_singleton.mp hp]; exact PySem.W.codeHd_of_K KX (c.hd _ ht), fun s v => b s [v] rfl, ?_, ?_⟩
  · intro H a ns hlen _ hT hS
    exact ⟨a, ns, rfl, hS, hlen, fun p hp => by rw [List.mem_singleton.mp hp]; exact LamX.TabS.nil (hT _ (List.mem_singleton.mpr rfl)), fun _ => rfl⟩
  · intro base _ _ TB
    exact law_cal T N hCT (TB _ (List.mem_singleton.mpr rfl)) F
end K10
open PySem PySem.W PySem.Calls PyProof.Rows
theorem PySem.Challenge.cw_tierpile_k10_whole_texts_read_holds : PySem.Challenge.rw_tierpile_k10_whole_texts_read.Holds := by
  w_on; o_law
  refine HandSHeadRun.head_any (r := OpenLaw.row PySem.Challenge.rw_tierpile_k10_whole_texts_read) (q := view (OpenLaw.row PySem.Challenge.rw_tierpile_k10_whole_texts_read).prog [64]) (H := K10.hkS) (ob := K10.obS) (M := 20000) (loose := K10.loS) (d := HandSHeadRun.topDef (OpenLaw.row PySem.Challenge.rw_tierpile_k10_whole_texts_read).prog 64) (kwd := []) K10.obS_eq
    (by kernel_rfl) (fun s => by kernel_rfl) K10.runS (by kernel_rfl) (by kernel_rfl) (by kernel_rfl) (by rfl) (by first | assumption | decide +kernel) (by decide +kernel) ⟨rfl, rfl, rfl, rfl, rfl, by decide +kernel⟩ ?hw ?hc
  case hw => w_witness2
  case hc =>
    refine LamX.walk_ofTsE (l := PySem.Challenge.rw_tierpile_k10_whole_texts_read) (n := 63) (k := 148) (x := "script") (CX := fun _ => L2.CX0) rfl (by decide) (by kernel_rfl) ⟨rfl, by decide, by decide⟩ ?F (fun _ _ _ _ _ z => z)
    intro w mg fa h Y G hmg0
    refine K10.law_at Y G ?_
    have e : (HandSHeadRun.topDef (OpenLaw.row PySem.Challenge.rw_tierpile_k10_whole_texts_read).prog 64).name = ("law" : PySem.Str) := by kernel_rfl
    rw [← e]
    exact hmg0
