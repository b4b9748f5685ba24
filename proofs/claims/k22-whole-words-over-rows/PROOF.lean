import PyProof.Rows.All
import Wide.All
import OpenK.AllK
import Wide.FinOn
import HandS.ForMost
import HandS.Defaults
import PySem.Challenge.RW_aheadsums_k22_whole_words_over_rows
import KE.KStateDown
import Lean
import HandS.Codes
import HandS.IsInst
import HandS.Head0
import HandS.Head1
import HandS.Head2
import KE.OsHead
import KE.HD0
import KE.HD1
import KE.HD2
import KE.HD3
import KE.HD4
import HandS.HeadEnd
import HandS.HeadHook1
import HandS.HeadHook2
import HandS.HeadHook3
import HandS.HeadHook4
import PyProof.EqAt
import PyProof.EqKinds
import PyProof.TupleCall
import PyProof.ListMulRoad
import PyProof.FactsAll.tuple_2
import PyProof.NeKinds
import PyProof.Draws
import KE.KMathG
import KE.KRevSl
import KE.GoesZip
import KE.GoesMore
import KE.GoesEnum
import HandS.TupMul
import HandS.TupAny
import HandS.Gcd
import HandS.OwnEq
import HandS.Walk
import PyProof.InstNe
import HandS.More
import HandS.MakeKwOnly
import HandS.Wide
import HandS.WideBits
import HandS.Style
set_option Elab.async false
set_option linter.all false
set_option maxRecDepth 100000
set_option maxHeartbeats 4000000
/-! The text by places: each def that the law reaches, the names of its frame. Printed by gen_text.py. -/
namespace K22
open PySem PySem.Spec PyProof.Rows L2
def top (i : Nat) : Stmt := PySem.Challenge.pw_aheadsums_k22_whole_words_over_rows.main.body.getD i (.Pass ⟨0, 0, 0, 0⟩)
abbrev s_is_integer : Stmt := top 15
theorem sc_is_integer : FnScope ["value"] ["value"] (defScope s_is_integer) := ⟨rfl, rfl, rfl, by decide +kernel, rfl, by decide +kernel, by decide +kernel⟩
abbrev s_is_count : Stmt := top 16
theorem sc_is_count : FnScope ["value"] ["value"] (defScope s_is_count) := ⟨rfl, rfl, rfl, by decide +kernel, rfl, by decide +kernel, by decide +kernel⟩
abbrev s_is_list : Stmt := top 17
theorem sc_is_list : FnScope ["value"] ["value"] (defScope s_is_list) := ⟨rfl, rfl, rfl, by decide +kernel, rfl, by decide +kernel, by decide +kernel⟩
abbrev s_want_at_most : Stmt := top 18
theorem sc_want_at_most : FnScope ["what", "limit", "number"] ["what", "limit", "number"] (defScope s_want_at_most) := ⟨rfl, rfl, rfl, by decide +kernel, rfl, by decide +kernel, by decide +kernel⟩
abbrev s_divisor_of : Stmt := top 22
theorem sc_divisor_of : FnScope ["one", "other"] ["one", "other"] (defScope s_divisor_of) := ⟨rfl, rfl, rfl, by decide +kernel, rfl, by decide +kernel, by decide +kernel⟩
abbrev s_Ratio_init : Stmt := inClass (top 23) 0
theorem sc_Ratio_init : FnScope ["self", "top", "bottom", "common"] ["self", "top", "bottom"] (defScope s_Ratio_init) := ⟨rfl, rfl, rfl, by decide +kernel, rfl, by decide +kernel, by decide +kernel⟩
abbrev s_Ratio_eq : Stmt := inClass (top 23) 17
theorem sc_Ratio_eq : FnScope ["self", "other"] ["self", "other"] (defScope s_Ratio_eq) := ⟨rfl, rfl, rfl, by decide +kernel, rfl, by decide +kernel, by decide +kernel⟩
abbrev s_is_number : Stmt := top 25
theorem sc_is_number : FnScope ["value"] ["value"] (defScope s_is_number) := ⟨rfl, rfl, rfl, by decide +kernel, rfl, by decide +kernel, by decide +kernel⟩
abbrev s_ratio_of : Stmt := top 26
theorem sc_ratio_of : FnScope ["number"] ["number"] (defScope s_ratio_of) := ⟨rfl, rfl, rfl, by decide +kernel, rfl, by decide +kernel, by decide +kernel⟩
abbrev s_wholes : Stmt := top 28
theorem sc_wholes : FnScope ["ratios", "bottom", "ratio"] ["ratios"] (defScope s_wholes) := ⟨rfl, rfl, rfl, by decide +kernel, rfl, by decide +kernel, by decide +kernel⟩
abbrev s_want_columns : Stmt := top 33
theorem sc_want_columns : FnScope ["value"] ["value"] (defScope s_want_columns) := ⟨rfl, rfl, rfl, by decide +kernel, rfl, by decide +kernel, by decide +kernel⟩
abbrev s_is_row : Stmt := top 34
theorem sc_is_row : FnScope ["columns", "value", "number"] ["columns", "value"] (defScope s_is_row) := ⟨rfl, rfl, rfl, by decide +kernel, rfl, by decide +kernel, by decide +kernel⟩
abbrev s_told_row : Stmt := top 35
theorem sc_told_row : FnScope ["row", "number"] ["row"] (defScope s_told_row) := ⟨rfl, rfl, rfl, by decide +kernel, rfl, by decide +kernel, by decide +kernel⟩
abbrev s_Table_init : Stmt := inClass (top 36) 0
theorem sc_Table_init : FnScope ["self", "columns", "rows", "row"] ["self", "columns", "rows"] (defScope s_Table_init) := ⟨rfl, rfl, rfl, by decide +kernel, rfl, by decide +kernel, by decide +kernel⟩
abbrev s_table_of : Stmt := top 37
theorem sc_table_of : FnScope ["columns", "rows", "row"] ["columns", "rows"] (defScope s_table_of) := ⟨rfl, rfl, rfl, by decide +kernel, rfl, by decide +kernel, by decide +kernel⟩
abbrev s_want_table : Stmt := top 38
theorem sc_want_table : FnScope ["value"] ["value"] (defScope s_want_table) := ⟨rfl, rfl, rfl, by decide +kernel, rfl, by decide +kernel, by decide +kernel⟩
abbrev s_want_like : Stmt := top 39
theorem sc_want_like : FnScope ["near", "far"] ["near", "far"] (defScope s_want_like) := ⟨rfl, rfl, rfl, by decide +kernel, rfl, by decide +kernel, by decide +kernel⟩
abbrev s_joined : Stmt := top 40
theorem sc_joined : FnScope ["table", "other", "near", "far"] ["table", "other"] (defScope s_joined) := ⟨rfl, rfl, rfl, by decide +kernel, rfl, by decide +kernel, by decide +kernel⟩
abbrev s_turned : Stmt := top 41
theorem sc_turned : FnScope ["table", "told"] ["table"] (defScope s_turned) := ⟨rfl, rfl, rfl, by decide +kernel, rfl, by decide +kernel, by decide +kernel⟩
abbrev s_is_letter_of : Stmt := top 45
theorem sc_is_letter_of : FnScope ["columns", "value", "power"] ["columns", "value"] (defScope s_is_letter_of) := ⟨rfl, rfl, rfl, by decide +kernel, rfl, by decide +kernel, by decide +kernel⟩
abbrev s_is_word_of : Stmt := top 46
theorem sc_is_word_of : FnScope ["columns", "value", "letter"] ["columns", "value"] (defScope s_is_word_of) := ⟨rfl, rfl, rfl, by decide +kernel, rfl, by decide +kernel, by decide +kernel⟩
abbrev s_want_word : Stmt := top 47
theorem sc_want_word : FnScope ["columns", "value"] ["columns", "value"] (defScope s_want_word) := ⟨rfl, rfl, rfl, by decide +kernel, rfl, by decide +kernel, by decide +kernel⟩
abbrev s_worth_at : Stmt := top 48
theorem sc_worth_at : FnScope ["letter", "row", "top", "bottom", "power", "number", "turn"] ["letter", "row"] (defScope s_worth_at) := ⟨rfl, rfl, rfl, by decide +kernel, rfl, by decide +kernel, by decide +kernel⟩
abbrev s_worths_at : Stmt := top 49
theorem sc_worths_at : FnScope ["letter", "rows", "row"] ["letter", "rows"] (defScope s_worths_at) := ⟨rfl, rfl, rfl, by decide +kernel, rfl, by decide +kernel, by decide +kernel⟩
abbrev s_ahead_sums : Stmt := top 50
theorem sc_ahead_sums : FnScope ["rows", "word", "found", "below", "letter", "bottom", "worths", "total", "late", "before", "worth", "number"] ["rows", "word"] (defScope s_ahead_sums) := ⟨rfl, rfl, rfl, by decide +kernel, rfl, by decide +kernel, by decide +kernel⟩
abbrev s_behind_sums : Stmt := top 51
theorem sc_behind_sums : FnScope ["rows", "word"] ["rows", "word"] (defScope s_behind_sums) := ⟨rfl, rfl, rfl, by decide +kernel, rfl, by decide +kernel, by decide +kernel⟩
abbrev s_word_cuts : Stmt := top 52
theorem sc_word_cuts : FnScope ["word", "at"] ["word"] (defScope s_word_cuts) := ⟨rfl, rfl, rfl, by decide +kernel, rfl, by decide +kernel, by decide +kernel⟩
abbrev s_word_sum : Stmt := top 53
theorem sc_word_sum : FnScope ["table", "word"] ["table", "word"] (defScope s_word_sum) := ⟨rfl, rfl, rfl, by decide +kernel, rfl, by decide +kernel, by decide +kernel⟩
abbrev s_sums_ahead : Stmt := top 54
theorem sc_sums_ahead : FnScope ["table", "word", "told"] ["table", "word"] (defScope s_sums_ahead) := ⟨rfl, rfl, rfl, by decide +kernel, rfl, by decide +kernel, by decide +kernel⟩
abbrev s_sums_behind : Stmt := top 55
theorem sc_sums_behind : FnScope ["table", "word", "told"] ["table", "word"] (defScope s_sums_behind) := ⟨rfl, rfl, rfl, by decide +kernel, rfl, by decide +kernel, by decide +kernel⟩
abbrev s_cuts : Stmt := top 56
theorem sc_cuts : FnScope ["columns", "word"] ["columns", "word"] (defScope s_cuts) := ⟨rfl, rfl, rfl, by decide +kernel, rfl, by decide +kernel, by decide +kernel⟩
abbrev s_turned_word : Stmt := top 57
theorem sc_turned_word : FnScope ["columns", "word"] ["columns", "word"] (defScope s_turned_word) := ⟨rfl, rfl, rfl, by decide +kernel, rfl, by decide +kernel, by decide +kernel⟩
abbrev s_L_pot : Stmt := top 59
theorem sc_L_pot : FnScope ["_law_script", "_law_k", "_law_cell"] ["_law_script", "_law_k"] (defScope s_L_pot) := ⟨rfl, rfl, rfl, by decide +kernel, rfl, by decide +kernel, by decide +kernel⟩
abbrev s_L_draw : Stmt := top 60
theorem sc_L_draw : FnScope ["_law_pot_here", "_law_many", "_law_digit"] ["_law_pot_here", "_law_many"] (defScope s_L_draw) := ⟨rfl, rfl, rfl, by decide +kernel, rfl, by decide +kernel, by decide +kernel⟩
abbrev s_L_divisor : Stmt := top 61
theorem sc_L_divisor : FnScope ["_law_one", "_law_other"] ["_law_one", "_law_other"] (defScope s_L_divisor) := ⟨rfl, rfl, rfl, by decide +kernel, rfl, by decide +kernel, by decide +kernel⟩
abbrev s_L_low : Stmt := top 62
theorem sc_L_low : FnScope ["_law_top", "_law_bottom", "_law_part"] ["_law_top", "_law_bottom"] (defScope s_L_low) := ⟨rfl, rfl, rfl, by decide +kernel, rfl, by decide +kernel, by decide +kernel⟩
abbrev s_L_plus : Stmt := top 63
theorem sc_L_plus : FnScope ["_law_one", "_law_other"] ["_law_one", "_law_other"] (defScope s_L_plus) := ⟨rfl, rfl, rfl, by decide +kernel, rfl, by decide +kernel, by decide +kernel⟩
abbrev s_L_times : Stmt := top 64
theorem sc_L_times : FnScope ["_law_one", "_law_other"] ["_law_one", "_law_other"] (defScope s_L_times) := ⟨rfl, rfl, rfl, by decide +kernel, rfl, by decide +kernel, by decide +kernel⟩
abbrev s_L_ratio : Stmt := top 65
theorem sc_L_ratio : FnScope ["_law_number_here"] ["_law_number_here"] (defScope s_L_ratio) := ⟨rfl, rfl, rfl, by decide +kernel, rfl, by decide +kernel, by decide +kernel⟩
abbrev s_L_number : Stmt := top 66
theorem sc_L_number : FnScope ["_law_pot_here", "_law_top"] ["_law_pot_here"] (defScope s_L_number) := ⟨rfl, rfl, rfl, by decide +kernel, rfl, by decide +kernel, by decide +kernel⟩
abbrev s_L_rows : Stmt := top 67
theorem sc_L_rows : FnScope ["_law_pot_here", "_law_columns", "_law_many", "_law_found", "_law_turn", "_law_row", "_law_column"] ["_law_pot_here", "_law_columns", "_law_many"] (defScope s_L_rows) := ⟨rfl, rfl, rfl, by decide +kernel, rfl, by decide +kernel, by decide +kernel⟩
abbrev s_L_passed : Stmt := top 68
theorem sc_L_passed : FnScope ["_law_pot_here", "_law_row", "_law_number_here"] ["_law_pot_here", "_law_row"] (defScope s_L_passed) := ⟨rfl, rfl, rfl, by decide +kernel, rfl, by decide +kernel, by decide +kernel⟩
abbrev s_L_table : Stmt := top 69
theorem sc_L_table : FnScope ["_law_pot_here", "_law_columns", "_law_rows_here", "_law_row"] ["_law_pot_here", "_law_columns", "_law_rows_here"] (defScope s_L_table) := ⟨rfl, rfl, rfl, by decide +kernel, rfl, by decide +kernel, by decide +kernel⟩
abbrev s_L_letter : Stmt := top 70
theorem sc_L_letter : FnScope ["_law_pot_here", "_law_columns", "_law_most", "_law_powers", "_law_column"] ["_law_pot_here", "_law_columns", "_law_most"] (defScope s_L_letter) := ⟨rfl, rfl, rfl, by decide +kernel, rfl, by decide +kernel, by decide +kernel⟩
abbrev s_L_word : Stmt := top 71
theorem sc_L_word : FnScope ["_law_pot_here", "_law_columns", "_law_many", "_law_found", "_law_turn"] ["_law_pot_here", "_law_columns", "_law_many"] (defScope s_L_word) := ⟨rfl, rfl, rfl, by decide +kernel, rfl, by decide +kernel, by decide +kernel⟩
abbrev s_L_worth : Stmt := top 72
theorem sc_L_worth : FnScope ["_law_letter_here", "_law_row", "_law_found", "_law_power", "_law_number_here", "_law_turn"] ["_law_letter_here", "_law_row"] (defScope s_L_worth) := ⟨rfl, rfl, rfl, by decide +kernel, rfl, by decide +kernel, by decide +kernel⟩
abbrev s_L_choices : Stmt := top 73
theorem sc_L_choices : FnScope ["_law_below", "_law_many", "_law_found", "_law_turn", "_law_longer", "_law_one", "_law_at"] ["_law_below", "_law_many"] (defScope s_L_choices) := ⟨rfl, rfl, rfl, by decide +kernel, rfl, by decide +kernel, by decide +kernel⟩
abbrev s_L_sum : Stmt := top 74
theorem sc_L_sum : FnScope ["_law_rows_here", "_law_word_here", "_law_total", "_law_choice", "_law_part", "_law_at", "_law_letter_here"] ["_law_rows_here", "_law_word_here"] (defScope s_L_sum) := ⟨rfl, rfl, rfl, by decide +kernel, rfl, by decide +kernel, by decide +kernel⟩
abbrev s_L_one_right : Stmt := top 75
theorem sc_L_one_right : FnScope ["_law_pot_here", "_law_columns", "_law_rows_here", "_law_word_here", "_law_table_here", "_law_many", "_law_whole", "_law_ahead", "_law_behind", "_law_due", "_law_told", "_law_others", "_law_more", "_law_total", "_law_near", "_law_far", "_law_at"] ["_law_pot_here", "_law_columns", "_law_rows_here", "_law_word_here"] (defScope s_L_one_right) := ⟨rfl, rfl, rfl, by decide +kernel, rfl, by decide +kernel, by decide +kernel⟩
abbrev s_L_right : Stmt := top 76
theorem sc_L_right : FnScope ["_law_pot_here", "_law_columns", "_law_rows_here", "_law_word_here", "_law_alike", "_law_many"] ["_law_pot_here"] (defScope s_L_right) := ⟨rfl, rfl, rfl, by decide +kernel, rfl, by decide +kernel, by decide +kernel⟩
abbrev s_law : Stmt := top 77
theorem sc_law : FnScope ["_law_script"] ["_law_script"] (defScope s_law) := ⟨rfl, rfl, rfl, by decide +kernel, rfl, by decide +kernel, by decide +kernel⟩
end K22
set_option Elab.async false
set_option linter.all false
set_option maxRecDepth 100000
set_option maxHeartbeats 0
/-! The head: the top's run, the facts that it leaves. Printed by gen_head.py. -/
namespace K22
open PySem PySem.Spec PyProof.Rows L2
/-- a plain def of the module -/
structure At (K : PySem.W.Frag) (mg : Str → Option Value) (x : Str) (st : Stmt) : Prop where
  fn : ∃ (f : Addr) (fd : FuncData), FunD K x x (defArgs st) (defBody st) (defScope st) [] [] f fd ∧ mg x = some (.ref f)
/-- what the top has written -/
structure Txt (K : PySem.W.Frag) (mg : Str → Option Value) (CR CT fR fE fT : Addr) : Prop where
  a_is_integer : At K mg "is_integer" s_is_integer
  a_is_count : At K mg "is_count" s_is_count
  a_is_list : At K mg "is_list" s_is_list
  a_want_at_most : At K mg "want_at_most" s_want_at_most
  a_divisor_of : At K mg "divisor_of" s_divisor_of
  a_is_number : At K mg "is_number" s_is_number
  a_ratio_of : At K mg "ratio_of" s_ratio_of
  a_wholes : At K mg "wholes" s_wholes
  a_want_columns : At K mg "want_columns" s_want_columns
  a_is_row : At K mg "is_row" s_is_row
  a_told_row : At K mg "told_row" s_told_row
  a_table_of : At K mg "table_of" s_table_of
  a_want_table : At K mg "want_table" s_want_table
  a_want_like : At K mg "want_like" s_want_like
  a_joined : At K mg "joined" s_joined
  a_turned : At K mg "turned" s_turned
  a_is_letter_of : At K mg "is_letter_of" s_is_letter_of
  a_is_word_of : At K mg "is_word_of" s_is_word_of
  a_want_word : At K mg "want_word" s_want_word
  a_worth_at : At K mg "worth_at" s_worth_at
  a_worths_at : At K mg "worths_at" s_worths_at
  a_ahead_sums : At K mg "ahead_sums" s_ahead_sums
  a_behind_sums : At K mg "behind_sums" s_behind_sums
  a_word_cuts : At K mg "word_cuts" s_word_cuts
  a_word_sum : At K mg "word_sum" s_word_sum
  a_sums_ahead : At K mg "sums_ahead" s_sums_ahead
  a_sums_behind : At K mg "sums_behind" s_sums_behind
  a_cuts : At K mg "cuts" s_cuts
  a_turned_word : At K mg "turned_word" s_turned_word
  a_L_pot : At K mg "_law_pot" s_L_pot
  a_L_draw : At K mg "_law_draw" s_L_draw
  a_L_divisor : At K mg "_law_divisor" s_L_divisor
  a_L_low : At K mg "_law_low" s_L_low
  a_L_plus : At K mg "_law_plus" s_L_plus
  a_L_times : At K mg "_law_times" s_L_times
  a_L_ratio : At K mg "_law_ratio" s_L_ratio
  a_L_number : At K mg "_law_number" s_L_number
  a_L_rows : At K mg "_law_rows" s_L_rows
  a_L_passed : At K mg "_law_passed" s_L_passed
  a_L_table : At K mg "_law_table" s_L_table
  a_L_letter : At K mg "_law_letter" s_L_letter
  a_L_word : At K mg "_law_word" s_L_word
  a_L_worth : At K mg "_law_worth" s_L_worth
  a_L_choices : At K mg "_law_choices" s_L_choices
  a_L_sum : At K mg "_law_sum" s_L_sum
  a_L_one_right : At K mg "_law_one_right" s_L_one_right
  a_L_right : At K mg "_law_right" s_L_right
  a_law : At K mg "law" s_law
  n_isinstance : mg "isinstance" = none
  n_len : mg "len" = none
  n_all : mg "all" = none
  n_tuple : mg "tuple" = none
  n_list : mg "list" = none
  n_range : mg "range" = none
  n_zip : mg "zip" = none
  n_abs : mg "abs" = none
  n_max : mg "max" = none
  n_int : mg "int" = none
  n_divmod : mg "divmod" = none
  n_bool : mg "bool" = none
  i_MOST_COLUMNS : ∃ t, mg "MOST_COLUMNS" = some (.int 3 t)
  i_MOST_ROWS : ∃ t, mg "MOST_ROWS" = some (.int 40 t)
  i_MOST_POWER : ∃ t, mg "MOST_POWER" = some (.int 8 t)
  i_MOST_LETTERS : ∃ t, mg "MOST_LETTERS" = some (.int 8 t)
  gcd : mg "gcd" = some (.builtin "math.gcd")
  lcm : mg "lcm" = some (.builtin "math.lcm")
  gR : mg "Ratio" = some (.ref CR)
  gT : mg "Table" = some (.ref CT)
  mkR : Mk K CR fR
  mkT : Mk K CT fT
  insR : C8.InsC K CR
  insT : C8.InsC K CT
  eqR : Meth K CR "__eq__" fE
  neR : PySem.W.findIn K (.ref CR) "__ne__" = some (some (.builtin "object.__ne__"))
  nR1 : NoAttr K CR "own_top"
  nR2 : NoAttr K CR "own_bottom"
  nT1 : NoAttr K CT "own_columns"
  nT2 : NoAttr K CT "own_rows"
  kiR : PySem.W.kitOne K (.type "int") (.ref CR) = some false
  kRi : PySem.W.kitOne K (.ref CR) (.type "int") = some false
  fR : ∃ fd, FunD K "__init__" "Ratio.__init__" (defArgs s_Ratio_init) (defBody s_Ratio_init) (defScope s_Ratio_init) [.int 1] [] fR fd
  fE : ∃ fd, FunD K "__eq__" "Ratio.__eq__" (defArgs s_Ratio_eq) (defBody s_Ratio_eq) (defScope s_Ratio_eq) [] [] fE fd
  fT : ∃ fd, FunD K "__init__" "Table.__init__" (defArgs s_Table_init) (defBody s_Table_init) (defScope s_Table_init) [] [] fT fd
def dd (x : Str) (st : Stmt) : He.DefD := ⟨(x, none), x, x, defArgs st, defBody st, defScope st, [], []⟩
def fn : List He.DefD := [
  dd "is_integer" s_is_integer,
  dd "is_count" s_is_count,
  dd "is_list" s_is_list,
  dd "want_at_most" s_want_at_most,
  dd "divisor_of" s_divisor_of,
  dd "is_number" s_is_number,
  dd "ratio_of" s_ratio_of,
  dd "wholes" s_wholes,
  dd "want_columns" s_want_columns,
  dd "is_row" s_is_row,
  dd "told_row" s_told_row,
  dd "table_of" s_table_of,
  dd "want_table" s_want_table,
  dd "want_like" s_want_like,
  dd "joined" s_joined,
  dd "turned" s_turned,
  dd "is_letter_of" s_is_letter_of,
  dd "is_word_of" s_is_word_of,
  dd "want_word" s_want_word,
  dd "worth_at" s_worth_at,
  dd "worths_at" s_worths_at,
  dd "ahead_sums" s_ahead_sums,
  dd "behind_sums" s_behind_sums,
  dd "word_cuts" s_word_cuts,
  dd "word_sum" s_word_sum,
  dd "sums_ahead" s_sums_ahead,
  dd "sums_behind" s_sums_behind,
  dd "cuts" s_cuts,
  dd "turned_word" s_turned_word,
  dd "_law_pot" s_L_pot,
  dd "_law_draw" s_L_draw,
  dd "_law_divisor" s_L_divisor,
  dd "_law_low" s_L_low,
  dd "_law_plus" s_L_plus,
  dd "_law_times" s_L_times,
  dd "_law_ratio" s_L_ratio,
  dd "_law_number" s_L_number,
  dd "_law_rows" s_L_rows,
  dd "_law_passed" s_L_passed,
  dd "_law_table" s_L_table,
  dd "_law_letter" s_L_letter,
  dd "_law_word" s_L_word,
  dd "_law_worth" s_L_worth,
  dd "_law_choices" s_L_choices,
  dd "_law_sum" s_L_sum,
  dd "_law_one_right" s_L_one_right,
  dd "_law_right" s_L_right,
  dd "law" s_law,
  ⟨("Ratio", some "__init__"), "__init__", "Ratio.__init__", defArgs s_Ratio_init, defBody s_Ratio_init, defScope s_Ratio_init, [.int 1], []⟩,
  ⟨("Ratio", some "__eq__"), "__eq__", "Ratio.__eq__", defArgs s_Ratio_eq, defBody s_Ratio_eq, defScope s_Ratio_eq, [], []⟩,
  ⟨("Table", some "__init__"), "__init__", "Table.__init__", defArgs s_Table_init, defBody s_Table_init, defScope s_Table_init, [], []⟩]
def fa : List He.Fa := [.glo "is_integer", .glo "is_count", .glo "is_list", .glo "want_at_most", .glo "divisor_of", .glo "is_number", .glo "ratio_of", .glo "wholes", .glo "want_columns", .glo "is_row", .glo "told_row", .glo "table_of", .glo "want_table", .glo "want_like", .glo "joined", .glo "turned", .glo "is_letter_of", .glo "is_word_of", .glo "want_word", .glo "worth_at", .glo "worths_at", .glo "ahead_sums", .glo "behind_sums", .glo "word_cuts", .glo "word_sum", .glo "sums_ahead", .glo "sums_behind", .glo "cuts", .glo "turned_word", .glo "_law_pot", .glo "_law_draw", .glo "_law_divisor", .glo "_law_low", .glo "_law_plus", .glo "_law_times", .glo "_law_ratio", .glo "_law_number", .glo "_law_rows", .glo "_law_passed", .glo "_law_table", .glo "_law_letter", .glo "_law_word", .glo "_law_worth", .glo "_law_choices", .glo "_law_sum", .glo "_law_one_right", .glo "_law_right", .glo "law", .free "isinstance", .free "len", .free "all", .free "tuple", .free "list", .free "range", .free "zip", .free "abs", .free "max", .free "int", .free "divmod", .free "bool", .int "MOST_COLUMNS" 3, .int "MOST_ROWS" 40, .int "MOST_POWER" 8, .int "MOST_LETTERS" 8, .glo "Ratio", .glo "Table", .cls "Ratio", .cls "Table", .mkr "Ratio", .mkr "Table", .meth "Ratio" "__eq__", .noat "Ratio" "own_top", .noat "Ratio" "own_bottom", .noat "Table" "own_columns", .noat "Table" "own_rows"]
def insB (K : PySem.W.Frag) (C : Addr) : Bool := He.eqO (PySem.W.findIn K (.ref C) "__class__") (some (some (.builtin "object.__class__"))) && (He.eqO (PySem.W.specialIn K (.builtin "object.__class__") "__get__") (some (some (.builtin "getset_descriptor.__get__"))) &&
  (decide (PySem.W.takesIn K (.builtin "object.__class__") = some true) && (decide (PySem.W.mroIn K C (.type "object") = some true) && decide (PySem.W.kitOne K (.ref C) (.ref C) = some true))))
theorem insB_ok {K : PySem.W.Frag} {C : Addr} (c : Cls K C) (h : insB K C = true) : C8.InsC K C := by
  obtain ⟨h1, h⟩ := He.ba h
  obtain ⟨h2, h⟩ := He.ba h
  obtain ⟨h3, h⟩ := He.ba h
  obtain ⟨h4, h5⟩ := He.ba h
  exact ⟨c, He.eqO_ok h1, He.eqO_ok h2, of_decide_eq_true h3, of_decide_eq_true h4, of_decide_eq_true h5⟩
def ex (K : PySem.W.Frag) : Bool := He.eqO (PySem.W.nsIn K mainGlobals "gcd") (some (some (.builtin "math.gcd"))) && (He.eqO (PySem.W.nsIn K mainGlobals "lcm") (some (some (.builtin "math.lcm"))) &&
  (insB K (He.ga K "Ratio") && (insB K (He.ga K "Table") && (He.eqO (PySem.W.findIn K (.ref (He.ga K "Ratio")) "__ne__") (some (some (.builtin "object.__ne__"))) &&
  (decide (PySem.W.kitOne K (.type "int") (.ref (He.ga K "Ratio")) = some false) && decide (PySem.W.kitOne K (.ref (He.ga K "Ratio")) (.type "int") = some false))))))
abbrev R : PySem.W.OpenRow := PySem.W.OpenLaw.row PySem.Challenge.rw_aheadsums_k22_whole_words_over_rows
abbrev hk : PySem.W.Hook := He.hookX 5 fa fn [] [] ex
def ob (s : PySem.W.SharedT) : He.AlX := He.obsX 5 fa fn [] [] ex (HandSHeadRun.getT s)
theorem ob_eq (s : PySem.W.SharedT) : ob s = hk.obs s.abs := He.obsX_eq (HandSHeadRun.getT_eq s)
def loose0 : List Str := ["_wall", "SumsError", "StateError", "LimitError", "InvalidColumns", "InvalidNumber", "InvalidTable", "InvalidWord", "DividedByZero", "InvalidRows", "UnlikeColumns", "TooMany", "is_integer", "is_count", "is_list", "want_at_most", "PART", "digits_of", "divisor_of", "Ratio", "told_pair", "is_number", "ratio_of", "want_number", "wholes", "total_of", "MOST_COLUMNS", "MOST_ROWS", "want_columns", "is_row"]
def loose1 : List Str := ["told_row", "Table", "table_of", "want_table", "want_like", "joined", "turned", "MOST_POWER", "MOST_LETTERS", "is_letter_of", "is_word_of", "want_word", "worth_at", "worths_at", "ahead_sums", "behind_sums", "word_cuts", "word_sum", "sums_ahead", "sums_behind", "cuts", "turned_word", "_law_pot", "_law_draw", "_law_divisor", "_law_low", "_law_plus", "_law_times", "_law_ratio", "_law_number"]
def loose2 : List Str := ["_law_rows", "_law_passed", "_law_table", "_law_letter", "_law_word", "_law_worth", "_law_choices", "_law_sum", "_law_one_right", "_law_right"]
def loose : List Str := loose0 ++ loose1 ++ loose2
def lawAt : Nat := 77
abbrev qv : Program := PySem.W.view R.prog [0, 77]
noncomputable abbrev whole (w : World) : Option (Shared × PySem.W.SharedT) := HeadRun.wholeF (fun p => HeadRun.stepQ (HeadRun.denQ HeadRun.tabQ) p w) HeadRun.fenceQ 6000 R.prog
theorem run1 (w : World) : (whole w).map (fun x => HeadRun.looksF R.prog x.1.heap x.2.abs) = some true := by
  kernel_rfl
theorem run2 (w : World) : (whole w).map (fun x => HeadRun.seenQ qv loose (PySem.importedModules R.prog.main.body) (fun s => PySem.W.xlAt qv [] s && PySem.W.recOk R.toRowW.records s) x.2.abs) = some (PySem.W.openGood qv loose) := by
  kernel_rfl
theorem run3 (w : World) : (whole w).map (fun x => ob x.2) = some (hk.val w) := by
  kernel_rfl
theorem map_and {A B C D : Type} {o : Option A} {f : A → B} {g : A → C} {h : A → D} {b : B} {c : C} {d : D} (h1 : o.map f = some b) (h2 : o.map g = some c) (h3 : o.map h = some d) : o.map (fun x => (f x, g x, h x)) = some (b, c, d) := by
  cases o with
  | none => cases h1
  | some a =>
    have e1 := Option.some.inj h1
    have e2 := Option.some.inj h2
    have e3 := Option.some.inj h3
    show some (f a, g a, h a) = _
    rw [e1, e2, e3]
theorem run (w : World) : HeadRun.RunEqI R qv hk ob 6000 loose w := map_and (run1 w) (run2 w) (run3 w)
theorem at_of {K : PySem.W.Frag} {h : Heap} {mg : Str → Option Value} (X : K.In h) (G : h.Ns mainGlobals mg) (c : He.SaysD fa fn K) (i j : Nat) {x : Str} {st : Stmt} (h1 : fn[i]? = some (dd x st)) (h2 : fa[j]? = some (.glo x)) : At K mg x st := by
  obtain ⟨fd, F⟩ := c.def_ i h1
  exact ⟨He.ga K x, fd, F, He.glo_ok X G (c.fact j h2)⟩
theorem txt_of {K : PySem.W.Frag} {h : Heap} {mg : Str → Option Value} {w : World} (X : K.In h) (G : h.Ns mainGlobals mg) (s : He.SaysX fa fn [] [] ex w h K) :
    Txt K mg (He.ga K "Ratio") (He.ga K "Table") (He.ma K (He.ga K "Ratio") "__init__") (He.ma K (He.ga K "Ratio") "__eq__") (He.ma K (He.ga K "Table") "__init__") := by
  have c : He.SaysD fa fn K := s.t.d
  obtain ⟨e1, e⟩ := He.ba s.more
  obtain ⟨e2, e⟩ := He.ba e
  obtain ⟨e3, e⟩ := He.ba e
  obtain ⟨e4, e⟩ := He.ba e
  obtain ⟨e5, e⟩ := He.ba e
  obtain ⟨e6, e7⟩ := He.ba e
  exact {
    a_is_integer := at_of X G c 0 0 rfl rfl
    a_is_count := at_of X G c 1 1 rfl rfl
    a_is_list := at_of X G c 2 2 rfl rfl
    a_want_at_most := at_of X G c 3 3 rfl rfl
    a_divisor_of := at_of X G c 4 4 rfl rfl
    a_is_number := at_of X G c 5 5 rfl rfl
    a_ratio_of := at_of X G c 6 6 rfl rfl
    a_wholes := at_of X G c 7 7 rfl rfl
    a_want_columns := at_of X G c 8 8 rfl rfl
    a_is_row := at_of X G c 9 9 rfl rfl
    a_told_row := at_of X G c 10 10 rfl rfl
    a_table_of := at_of X G c 11 11 rfl rfl
    a_want_table := at_of X G c 12 12 rfl rfl
    a_want_like := at_of X G c 13 13 rfl rfl
    a_joined := at_of X G c 14 14 rfl rfl
    a_turned := at_of X G c 15 15 rfl rfl
    a_is_letter_of := at_of X G c 16 16 rfl rfl
    a_is_word_of := at_of X G c 17 17 rfl rfl
    a_want_word := at_of X G c 18 18 rfl rfl
    a_worth_at := at_of X G c 19 19 rfl rfl
    a_worths_at := at_of X G c 20 20 rfl rfl
    a_ahead_sums := at_of X G c 21 21 rfl rfl
    a_behind_sums := at_of X G c 22 22 rfl rfl
    a_word_cuts := at_of X G c 23 23 rfl rfl
    a_word_sum := at_of X G c 24 24 rfl rfl
    a_sums_ahead := at_of X G c 25 25 rfl rfl
    a_sums_behind := at_of X G c 26 26 rfl rfl
    a_cuts := at_of X G c 27 27 rfl rfl
    a_turned_word := at_of X G c 28 28 rfl rfl
    a_L_pot := at_of X G c 29 29 rfl rfl
    a_L_draw := at_of X G c 30 30 rfl rfl
    a_L_divisor := at_of X G c 31 31 rfl rfl
    a_L_low := at_of X G c 32 32 rfl rfl
    a_L_plus := at_of X G c 33 33 rfl rfl
    a_L_times := at_of X G c 34 34 rfl rfl
    a_L_ratio := at_of X G c 35 35 rfl rfl
    a_L_number := at_of X G c 36 36 rfl rfl
    a_L_rows := at_of X G c 37 37 rfl rfl
    a_L_passed := at_of X G c 38 38 rfl rfl
    a_L_table := at_of X G c 39 39 rfl rfl
    a_L_letter := at_of X G c 40 40 rfl rfl
    a_L_word := at_of X G c 41 41 rfl rfl
    a_L_worth := at_of X G c 42 42 rfl rfl
    a_L_choices := at_of X G c 43 43 rfl rfl
    a_L_sum := at_of X G c 44 44 rfl rfl
    a_L_one_right := at_of X G c 45 45 rfl rfl
    a_L_right := at_of X G c 46 46 rfl rfl
    a_law := at_of X G c 47 47 rfl rfl
    n_isinstance := He.free_ok X G (c.fact 48 (f := .free "isinstance") rfl)
    n_len := He.free_ok X G (c.fact 49 (f := .free "len") rfl)
    n_all := He.free_ok X G (c.fact 50 (f := .free "all") rfl)
    n_tuple := He.free_ok X G (c.fact 51 (f := .free "tuple") rfl)
    n_list := He.free_ok X G (c.fact 52 (f := .free "list") rfl)
    n_range := He.free_ok X G (c.fact 53 (f := .free "range") rfl)
    n_zip := He.free_ok X G (c.fact 54 (f := .free "zip") rfl)
    n_abs := He.free_ok X G (c.fact 55 (f := .free "abs") rfl)
    n_max := He.free_ok X G (c.fact 56 (f := .free "max") rfl)
    n_int := He.free_ok X G (c.fact 57 (f := .free "int") rfl)
    n_divmod := He.free_ok X G (c.fact 58 (f := .free "divmod") rfl)
    n_bool := He.free_ok X G (c.fact 59 (f := .free "bool") rfl)
    i_MOST_COLUMNS := He.int_ok X G (c.fact 60 (f := .int "MOST_COLUMNS" 3) rfl)
    i_MOST_ROWS := He.int_ok X G (c.fact 61 (f := .int "MOST_ROWS" 40) rfl)
    i_MOST_POWER := He.int_ok X G (c.fact 62 (f := .int "MOST_POWER" 8) rfl)
    i_MOST_LETTERS := He.int_ok X G (c.fact 63 (f := .int "MOST_LETTERS" 8) rfl)
    gcd := PySem.W.mg_of X G (He.eqO_ok e1)
    lcm := PySem.W.mg_of X G (He.eqO_ok e2)
    gR := He.glo_ok X G (c.fact 64 (f := .glo "Ratio") rfl)
    gT := He.glo_ok X G (c.fact 65 (f := .glo "Table") rfl)
    insR := insB_ok (He.cls_ok (c.fact 66 (f := .cls "Ratio") rfl)) e3
    insT := insB_ok (He.cls_ok (c.fact 67 (f := .cls "Table") rfl)) e4
    mkR := He.mkr_ok (c.fact 68 (f := .mkr "Ratio") rfl)
    mkT := He.mkr_ok (c.fact 69 (f := .mkr "Table") rfl)
    eqR := He.meth_ok (c.fact 70 (f := .meth "Ratio" "__eq__") rfl)
    neR := He.eqO_ok e5
    nR1 := He.noat_ok (c.fact 71 (f := .noat "Ratio" "own_top") rfl)
    nR2 := He.noat_ok (c.fact 72 (f := .noat "Ratio" "own_bottom") rfl)
    nT1 := He.noat_ok (c.fact 73 (f := .noat "Table" "own_columns") rfl)
    nT2 := He.noat_ok (c.fact 74 (f := .noat "Table" "own_rows") rfl)
    kiR := of_decide_eq_true e6
    kRi := of_decide_eq_true e7
    fR := c.def_ 48 (d := ⟨("Ratio", some "__init__"), "__init__", "Ratio.__init__", defArgs s_Ratio_init, defBody s_Ratio_init, defScope s_Ratio_init, [.int 1], []⟩) rfl
    fE := c.def_ 49 (d := ⟨("Ratio", some "__eq__"), "__eq__", "Ratio.__eq__", defArgs s_Ratio_eq, defBody s_Ratio_eq, defScope s_Ratio_eq, [], []⟩) rfl
    fT := c.def_ 50 (d := ⟨("Table", some "__init__"), "__init__", "Table.__init__", defArgs s_Table_init, defBody s_Table_init, defScope s_Table_init, [], []⟩) rfl }
end K22
set_option Elab.async false
set_option linter.all false
set_option maxRecDepth 100000
set_option maxHeartbeats 4000000
/-! Rules of our own over the hand layer: math.lcm, a tuple's [::-1], tuple * int of any count, zip of lists and tuples mixed, a call by keywords alone, != by an own __eq__ (instances, lists of them). -/
namespace K22
open PySem PySem.Spec PyProof.Rows L2
section
variable {X : Cx}
/-! ### math.lcm -/
def rLcm : List V → Hp → VK → Prop := fun vs H Q => ∃ a b : Int, vs = [.int a, .int b] ∧ a.natAbs < 2 ^ 64 ∧ b.natAbs < 2 ^ 64 ∧ Q (.int ((Nat.lcm a.natAbs b.natAbs : Nat) : Int)) H
theorem lcm_small {m n : Nat} (hm : m < 2 ^ 64) (hn : n < 2 ^ 64) : (((Nat.lcm m n : Nat) : Int)).natAbs.log2 < bitsLine := by
  have h1 : Nat.lcm m n < 2 ^ 128 := by
    refine Nat.lt_of_le_of_lt (PySem.W.mc_lcm_le m n) ?_
    have h := Nat.mul_lt_mul'' hm hn
    rw [← Nat.pow_add] at h
    exact h
  have h2 := PySem.Flt.log2_lt_of (by decide : 0 < 128) h1
  rw [Int.natAbs_natCast]
  have e : bitsLine = 134217728 := by decide
  omega
theorem cr_lcm : CallR X (.builtin "math.lcm") rLcm := by
  intro pins s σ H vs us Q I r h
  obtain ⟨a, b, rfl, ha, hb, q⟩ := h
  obtain ⟨t, u, rfl⟩ := Vals.int2 r
  refine PySem.W.mg_lcm_v ha hb (c := ((Nat.lcm a.natAbs b.natAbs : Nat) : Int)) ?_ (lcm_small ha hb) ⟨.int _, H, I.tok _, ⟨_, rfl⟩, q⟩
  rw [PySem.W.mc_lcm_one]
/-! ### tuple[::-1] -/
section
variable {prog : Program} {w : World} {A : Around} {E : Value → Shared → Prop} {s : Shared}
theorem back_adjust (n : Nat) : Builtin.Slice.sliceAdjust none none (-1) (n : Int) = ((n : Int) - 1, -1) := rfl
theorem back_places (n : Nat) : Builtin.Slice.slicePlaces ((n : Int) - 1) (-1) (-1) = n := by
  have h1 : ¬ ((-1 : Int) > 0) := by decide
  unfold Builtin.Slice.slicePlaces
  rw [if_neg h1]
  by_cases h : (n : Int) - 1 > -1
  · rw [if_pos h, show (-(-1) : Int) = 1 from rfl, Int.ediv_one]
    omega
  · rw [if_neg h]
    show (0 : Int).toNat = n
    omega
theorem back_pick (xs : Array Value) : ((List.range xs.size).filterMap fun (k : Nat) => xs[(((xs.size : Nat) : Int) - 1 + (k : Int) * -1).toNat]?).toArray = xs.toList.reverse.toArray := by
  have e : (fun (k : Nat) => xs[(((xs.size : Nat) : Int) - 1 + (k : Int) * -1).toNat]?) = (fun (i : Nat) => xs[i]?) ∘ fun (k : Nat) => (((xs.size : Nat) : Int) - 1 + (k : Int) * -1).toNat := rfl
  rw [e, ← List.filterMap_map]
  have e2 : (List.range xs.size).map (fun (k : Nat) => (((xs.size : Nat) : Int) - 1 + (k : Int) * -1).toNat) = (List.range xs.size).map fun k => xs.size - 1 - k := by
    apply List.map_congr_left
    intro k hk
    have := List.mem_range.mp hk
    omega
  rw [e2, PySem.W.krv_range, List.filterMap_reverse, PySem.W.krv_all]
theorem back_applied {sl : Addr} {vs : Value} {n : Nat} {Q : Int × Int × Nat → Shared → Prop} (hs : s.heap.IsSliceOf sl .none .none vs) (ps : IsPart vs (some (-1))) (h : Q ((n : Int) - 1, -1, n) s) :
    wpAny (model prog w) A (Builtin.Slice.sliceApplied (.ref sl) (pure (n : Int))) Q E s := by
  obtain ⟨os, hos, hcs, hds⟩ := id hs
  unfold Builtin.Slice.sliceApplied Builtin.Slice.sliceFields
  refine wpAny_bind (wpAny_bind (wpAny_field hos hds (x := .none) rfl (wpAny_bind (wpAny_field hos hds (x := .none) rfl (wpAny_bind (wpAny_field hos hds (x := vs) rfl (wpAny_pure ?_)))))))
  refine wpAny_bind (HT.slicePart_ ps ?_)
  show wpAny _ _ (if ((-1 : Int) == 0) = true then _ else _) _ _ s
  rw [if_neg (by decide)]
  refine wpAny_bind (HT.slicePart_ .none (wpAny_bind (HT.slicePart_ .none (wpAny_bind (wpAny_pure ?_)))))
  show wpAny _ _ (pure ((n : Int) - 1, (-1 : Int), Builtin.Slice.slicePlaces ((n : Int) - 1) (-1) (-1))) _ _ s
  rw [back_places]
  exact wpAny_pure h
theorem back_item {t sl : Addr} {items : Array Value} {vs : Value} {Q : Value → Shared → Prop} (ht : IsTup s.heap t items) (hs : s.heap.IsSliceOf sl .none .none vs) (ps : IsPart vs (some (-1)))
    (h : Q (.ref s.heap.objs.size) { s with heap := s.heap.push { cls := .type "tuple", data := .seq items.toList.reverse.toArray } }) (hsz : items.size ≤ sizeLine) : wpAny (model prog w) A (getItem (.ref t) (.ref sl)) Q E s := by
  have room : sizeOk (.seq items.toList.reverse.toArray) := by
    show items.toList.reverse.toArray.size ≤ sizeLine
    rw [List.size_toArray, List.length_reverse, Array.length_toList]
    exact hsz
  obtain ⟨os, hos, hcs, hds⟩ := id hs
  have hTs : s.TypeIs (.ref sl) "slice" := ⟨os, hos, hcs⟩
  unfold getItem
  try with_reducible refine wpAny_holding ?_
  first | refine wpAny_bind (wpAny_pure ?_) | skip
  refine wpAny_bind (wpAny_sequenceKey ht.typeIs (by decide) ?_)
  refine wpAny_bind (wpAny_callSpecial?_slot (name := Str.ofString "__getitem__") ht.typeIs PyProof.Rows.slot_tuple_getitem
    (wpAny_call_entry PyProof.Rows.slot_tuple_getitem ht.typeIs entry_tuple_getitem ?_ (args_tuple_getitem _ _)))
  show wpAny _ _ (Builtin.Tuple.tupleItemsOf (.ref t) >>= _) _ _ s
  refine wpAny_bind (tupleItemsOf_ ht (wpAny_bind (wpAny_typeOf hTs ?_)))
  rw [if_pos (by decide)]
  refine wpAny_bind (back_applied hs ps ?_)
  have no : ¬ ((((items.size : Int) - 1) == 0 && (-1 : Int) == 1 && items.size == items.size) = true) := by
    rw [show ((-1 : Int) == 1) = false from rfl, Bool.and_false, Bool.false_and]
    exact Bool.false_ne_true
  show wpAny _ _ (if (((items.size : Int) - 1) == 0 && (-1 : Int) == 1 && items.size == items.size) = true then _ else _) _ _ s
  rw [if_neg no, back_pick]
  first
    | exact wpAny_bind (m := Builtin.Tuple.tupleExact _) (wpAny_newObj_type (wpAny_pure ⟨_, rfl, wpAny_pure h⟩) room)
    | exact wpAny_bind (m := Builtin.Tuple.tupleExact _) (wpAny_newObj_type (wpAny_bind (wpAny_pure (wpAny_pure ⟨_, rfl, wpAny_pure h⟩))) room)
    | exact wpAny_bind (wpAny_bind (m := Builtin.Tuple.tupleExact _) (wpAny_newObj_type (wpAny_pure (wpAny_pure ⟨_, rfl, wpAny_pure h⟩)) room))
    | exact wpAny_bind (wpAny_bind (m := Builtin.Tuple.tupleExact _) (wpAny_newObj_type (wpAny_pure ⟨_, rfl, wpAny_pure h⟩) room))
end
def tRevT (K : PySem.W.Frag) (te : TE) : TE := fun σ H Q => te σ H fun x H1 => ∃ a xs, x = .ref a ∧ SqT K H1 a xs ∧ ∀ p, H1 p = none → Q (.ref p) (upd H1 p (.tup xs.reverse))
theorem pe_revT {e : Expr} {te : TE} {k : Nat} {p1 p2 p3 pos : Pos} (he : PE X e te) : PE X (.Subscript e (.Slice none none (some (.UnaryOp .USub (.Constant (.int 1) k p1) p2)) p3) pos) (tRevT X.K te) := by
  refine ⟨fun pins s σ H Q I h => ?_⟩
  refine Subscript_ (thn (he.run pins s σ H _ I h) fun v s1 ⟨x, H1, I1, r1, a, xs, ex, hx, q⟩ => ?_)
  subst ex
  cases r1
  have hst : PO X (some (.UnaryOp .USub (.Constant (.int 1) k p1) p2)) (tPart (tUn (rU fun i => .int (-i)) (tC (.int 1)))) := po_some (pe_un un_neg pe_int)
  refine wpAny_Slice (thn (po_none.run pins s1 σ H1 (fun o H2 => o = none ∧ H2 = H1) I1 ⟨rfl, rfl⟩) fun vl s2 ⟨l, H2, I2, pl, el, e2⟩ => ?_)
  subst el e2
  refine thn (po_none.run pins s2 σ H2 (fun o H3 => o = none ∧ H3 = H2) I2 ⟨rfl, rfl⟩) fun vu s3 ⟨u, H3, I3, pu, eu, e3⟩ => ?_
  subst eu e3
  refine thn (hst.run pins s3 σ H3 (fun o H4 => o = some (-1) ∧ H4 = H3) I3 ⟨1, rfl, -1, rfl, rfl, rfl⟩) fun vs s4 ⟨o, H4, I4, ps, eo, e4⟩ => ?_
  subst eo e4
  cases pl
  cases pu
  have I5 : Inv X pins σ H4 { s4 with heap := s4.heap.push { cls := .type "slice", data := .fields #[.none, .none, vs] } } := I4.kept (t' := s4.toks) fun b ob z => Heap.get?_push_of_some _ z
  obtain ⟨its, r, ht, hz⟩ := I5.tuple hx
  have hlen := r.length
  show wpAny (model X.prog X.w) X.A (subscriptTail e (.Slice none none (some (.UnaryOp .USub (.Constant (.int 1) k p1) p2)) p3) (.ref a) (.ref s4.heap.objs.size)) (EP X pins σ Q) X.xe { s4 with heap := s4.heap.push { cls := .type "slice", data := .fields #[.none, .none, vs] } }
  refine tail_any (ops := [.ref a, .ref s4.heap.objs.size]) ht.typeIs PyProof.Rows.slot_tuple_getitem.lookup ?_ (by with_unfolding_all rfl)
  refine back_item ht (Heap.IsSliceOf.new _ .none .none vs) ps ?_ (by rw [List.size_toArray]; omega)
  refine ⟨.ref _, _, I5.laid (t' := s4.toks) (o := .tup xs.reverse) (fun b ob z => Heap.get?_push_of_some _ z) (Nat.le_refl _) ?_, rfl, q _ (I5.hok.fresh (Nat.le_refl _))⟩
  exact ⟨by rw [List.length_reverse]; exact hz, _, r.reverse, IsTup.new _ _⟩
/-! ### tuple * int, any count -/
theorem tuple_mul_same (l : Addr) (items : Array Value) (n : Nat) (dd : Option Addr) (sl : Array (Option Value)) (x : Int) (u : Tok) (c0 : (decide (x < -(2 ^ 63)) || decide (x ≥ 2 ^ 63)) = false) (c1 : (items.isEmpty || x == 1) = true) :
    Meets (Builtin.«tuple.__mul__» ⟨[.ref l, .int x u], []⟩) (fun _ R s => s.heap.get? l = some { cls := .type "tuple", dict := dd, data := .seq items n, slots := sl } ∧ R (.ok (.ret (Value.ref l))) s) :=
  .of_wp fun prog w A R s h => by
    obtain ⟨hp, g, d, tk, os⟩ := s
    obtain ⟨hl, h⟩ := h
    have f1 := AutoSeq1.idx_int
    wp_walk using wpAny_loadPart' hl
    repeat (first
      | (refine wpAny_ite_false (decide_eq_false (by rw [c0]; exact Bool.false_ne_true)) ?_; wp_walk using wpAny_loadPart' hl)
      | (refine wpAny_ite_true (decide_eq_true (by rw [c1])) ?_; wp_walk using wpAny_loadPart' hl))
    exact ⟨_, rfl, h⟩
theorem tuple_mul_none (l : Addr) (items : Array Value) (n : Nat) (dd : Option Addr) (sl : Array (Option Value)) (x : Int) (u : Tok) (c0 : (decide (x < -(2 ^ 63)) || decide (x ≥ 2 ^ 63)) = false) (c1 : (items.isEmpty || x == 1) = false) (c2 : (decide (x ≤ 0) || items.isEmpty) = true) :
    Meets (Builtin.«tuple.__mul__» ⟨[.ref l, .int x u], []⟩) (fun _ R s => s.heap.get? l = some { cls := .type "tuple", dict := dd, data := .seq items n, slots := sl } ∧
      R (.ok (.ret (Value.ref s.heap.objs.size))) { s with heap := s.heap.push { cls := Value.type "tuple", data := Data.seq #[] }, toks := s.toks }) :=
  .of_wp fun prog w A R s h => by
    obtain ⟨hp, g, d, tk, os⟩ := s
    obtain ⟨hl, h⟩ := h
    have f1 := AutoSeq1.idx_int
    wp_walk using wpAny_loadPart' hl
    repeat (first
      | (refine wpAny_ite_false (decide_eq_false (by rw [c0]; exact Bool.false_ne_true)) ?_; wp_walk using wpAny_loadPart' hl)
      | (refine wpAny_ite_false (decide_eq_false (by rw [c1]; exact Bool.false_ne_true)) ?_; wp_walk using wpAny_loadPart' hl)
      | (refine wpAny_ite_true (decide_eq_true (by rw [c2])) ?_; wp_walk using wpAny_loadPart' hl))
    exact ⟨_, rfl, h⟩
theorem Same.new {H : Hp} {p : Addr} {o : HO} (h : H p = none) : Same H (upd H p o) := fun b u e => by
  rw [upd_ne (ne_of_none e h)]
  exact e
/-- t * k, 0 ≤ k: t itself or a new tuple, as it comes -/
def rRepU : R2 := fun x y H Q => ∃ l k xs, x = .ref l ∧ y = .int k ∧ H l = some (.tup xs) ∧ 0 ≤ k ∧ k ≤ 1000 ∧ xs.length ≤ 1000 ∧ ∀ p H', Same H H' → H' p = some (.tup (List.replicate k.toNat xs).flatten) → Q (.ref p) H'
theorem flat_nil {α : Type} (n : Nat) : (List.replicate n ([] : List α)).flatten = [] := by
  induction n with
  | zero => rfl
  | succ n ih => rw [List.replicate_succ, List.flatten_cons, ih] <;> rfl
theorem op_repU : OpR X (binaryOp .Mult) rRepU := by
  intro pins s σ H x y v u Q I rx ry h
  obtain ⟨l, k, xs, rfl, rfl, hT, h0, h2, hz, q⟩ := h
  by_cases big : xs ≠ [] ∧ 2 ≤ k
  · exact op_repT pins s σ H _ _ v u Q I rx ry ⟨l, k, xs, rfl, rfl, .inl (.inl hT), big.1, big.2, h2, hz, fun p hp => q p _ (Same.new hp) upd_same⟩
  · cases rx
    obtain ⟨t, rfl⟩ := ry
    obtain ⟨its, r, ⟨⟨cls, dd, data, sl⟩, ho, hc, n, hd⟩, hs⟩ := I.tuple (.inl (.inl hT))
    simp only at hc hd
    subst hc hd
    have hle : its.length = xs.length := r.length.symm
    have c0 : (decide (k < -(2 ^ 63)) || decide (k ≥ 2 ^ 63)) = false := by
      rw [decide_eq_false (by omega), decide_eq_false (by omega)] <;> rfl
    have ie : its.toArray.isEmpty = decide (xs = []) := by
      cases its with
      | nil =>
        cases r
        rfl
      | cons a b =>
        cases r
        rfl
    have road := fun (Q' : Value → Shared → Prop) (m : wpAny (model X.prog X.w) X.A (call (.builtin "tuple.__mul__") [.ref l, .int k t]) Q' X.xe s) =>
      show wpAny (model X.prog X.w) X.A (binaryOp .Mult (.ref l) (.int k t)) Q' X.xe s from wpAny_binaryOp_repeat_ref (T := "tuple") (U := "int") (by decide) ⟨_, ho, rfl⟩ (fun s' => typeIs_int s' k t) noFill_tuple_mul PySem.F.fills_int_mul PySem.F.slot_int_rmul repeat_tuple PySem.F.slot_int_index.lookup
        (call_meets PySem.F.slot_int_rmul (typeIs_int s k t) PySem.F.entry_int_rmul (PySem.F.args_int_rmul_2 _ _) (int_rmul_tuple k t l its.toArray n dd sl) ⟨ho, rfl, ⟨_, ho, rfl⟩, m⟩)
    by_cases same : xs = [] ∨ k = 1
    · have c1 : (its.toArray.isEmpty || k == 1) = true := by
        rw [ie]
        rcases same with z | z
        · rw [decide_eq_true z] <;> rfl
        · rw [z, Bool.or_eq_true]
          exact .inr rfl
      refine road _ (call_meets PySem.F.slot_tuple_mul ⟨_, ho, rfl⟩ PySem.F.entry_tuple_mul (PySem.F.args_tuple_mul_2 _ _) (tuple_mul_same l its.toArray n dd sl k t c0 c1) ⟨ho, ?_⟩)
      refine ⟨.ref l, H, I, rfl, q l H (Same.refl H) ?_⟩
      rw [hT]
      rcases same with z | z
      · rw [z, flat_nil]
      · rw [z]
        show some (HO.tup xs) = some (HO.tup (List.replicate 1 xs).flatten)
        rw [List.replicate_one, List.flatten_singleton]
    · have hx : xs ≠ [] := fun z => same (.inl z)
      have hk1 : k ≠ 1 := fun z => same (.inr z)
      have hk : k = 0 := by
        by_cases z : 2 ≤ k
        · exact absurd ⟨hx, z⟩ big
        · omega
      have c1 : (its.toArray.isEmpty || k == 1) = false := by
        rw [ie, decide_eq_false hx, Bool.false_or]
        exact beq_eq_false_iff_ne.mpr hk1
      have c2 : (decide (k ≤ 0) || its.toArray.isEmpty) = true := by
        rw [decide_eq_true (by omega)] <;> rfl
      refine road _ (call_meets PySem.F.slot_tuple_mul ⟨_, ho, rfl⟩ PySem.F.entry_tuple_mul (PySem.F.args_tuple_mul_2 _ _) (tuple_mul_none l its.toArray n dd sl k t c0 c1 c2) ⟨ho, ?_⟩)
      refine ⟨.ref s.heap.objs.size, _, I.laid (t' := s.toks) (o := .tup []) (fun b ob z => Heap.get?_push_of_some _ z) (Nat.le_refl _) ?_, rfl, q _ _ (Same.new (I.hok.fresh (Nat.le_refl _))) ?_⟩
      · exact ⟨Nat.zero_le _, [], .nil, IsTup.new _ _⟩
      · rw [upd_same, hk]
        rfl
/-- t + u, as it comes -/
def rCatU : R2 := fun x y H Q => ∃ a b xs ys, x = .ref a ∧ y = .ref b ∧ H a = some (.tup xs) ∧ H b = some (.tup ys) ∧ xs.length + ys.length ≤ sizeLine ∧ ∀ p H', Same H H' → H' p = some (.tup (xs ++ ys)) → Q (.ref p) H'
theorem op_catU : OpR X (binaryOp .Add) rCatU := fun pins s σ H x y v u Q I rx ry h => by
  obtain ⟨a, b, xs, ys, ex, ey, ha, hb, hz, q⟩ := h
  refine op_catA pins s σ H x y v u Q I rx ry ⟨a, b, xs, ys, ex, ey, .inl (.inl ha), .inl (.inl hb), hz, fun z => ?_, fun _ z => ?_, fun _ _ p hp => q p _ (Same.new hp) upd_same⟩
  · exact q b H (Same.refl H) (by rw [hb, z, List.nil_append])
  · exact q a H (Same.refl H) (by rw [ha, z, List.append_nil])
/-- t[lo:hi], as it comes -/
def rCutU : V → Option Int → Option Int → Hp → VK → Prop := fun x lo hi H Q => ∃ a xs, x = .ref a ∧ H a = some (.tup xs) ∧ ∀ p H', Same H H' → H' p = some (.tup (cutV xs lo hi)) → Q (.ref p) H'
theorem cut_all (xs : List V) {lo hi : Option Int} (h1 : HT.sIx xs.length 0 lo = 0) (h2 : HT.sIx xs.length xs.length hi = xs.length) : cutV xs lo hi = xs := by
  unfold cutV
  rw [h1, h2, List.drop_zero]
  exact List.take_of_length_le (by omega)
theorem sl_cutU : SlR X rCutU := fun pins s σ H x v vl vu lo hi sl Q I rx hs pl pu h => by
  obtain ⟨a, xs, ex, ha, q⟩ := h
  refine sl_tupA pins s σ H x v vl vu lo hi sl Q I rx hs pl pu ⟨a, xs, ex, .inl (.inl ha), fun z => ?_, fun _ p hp => q p _ (Same.new hp) upd_same⟩
  exact q a H (Same.refl H) (by rw [cut_all xs z.1 z.2]; exact ha)
end
end K22
set_option Elab.async false
set_option linter.all false
set_option maxRecDepth 100000
set_option maxHeartbeats 4000000
/-! zip of two sequences, each a list or a tuple (k: true for a tuple). -/
namespace K22
open PySem PySem.Spec PyProof.Rows L2
/-- a sequence that is to be read: a tuple or a list -/
def SqK (K : PySem.W.Frag) : Bool → Hp → Addr → List V → Prop
  | true => SqT K
  | false => SqL K
def ItrK : Bool → Heap → Addr → Addr → Nat → Prop
  | true => fun h it l i => h.IsTupleIter it l i
  | false => fun h it l i => h.IsListIter it l i
def SeqAtK : Bool → Heap → Addr → Array Value → Prop
  | true => fun h l its => h.IsTuple l its
  | false => fun h l its => h.IsList l its
def itObj (k : Bool) (l : Addr) : Obj := match k with
  | true => { cls := .type "tuple_iterator", data := .fields #[.ref l, .int 0 0] }
  | false => { cls := .type "list_iterator", data := .fields #[.ref l, .int 0 0] }
theorem begK (k : Bool) (l : Addr) (items : Array Value) : Begins (.ref l) (itObj k l) fun h => SeqAtK k h l items := by
  cases k
  · exact begins_list l items
  · exact begins_tuple l items
theorem drawsK {P : Program} {w : World} {A : Around} (hh : A.handled = none) (k : Bool) (it l : Addr) (hne : l ≠ it) (items : Array Value) :
    Draws P w A it [it, l] items.size (fun i v => items[i]? = some v) (fun i h => ItrK k h it l i ∧ SeqAtK k h l items) := by
  cases k
  · exact Draws.list hh it l hne items
  · exact Draws.tuple hh it l hne items
theorem itrK_new {k : Bool} {h : Heap} {it l : Addr} (e : h.get? it = some (itObj k l)) : ItrK k h it l 0 := by
  cases k
  · exact ⟨_, e, rfl, rfl⟩
  · exact ⟨_, e, rfl, rfl⟩
theorem itrK_obj {k : Bool} {h : Heap} {it l : Addr} {i : Nat} (e : ItrK k h it l i) : ∃ o, h.get? it = some o ∧ ∀ v, o.data ≠ .cell v := by
  cases k
  · obtain ⟨o, h1, _, h3⟩ := e
    exact ⟨o, h1, fun v q => by rw [h3] at q; cases q⟩
  · obtain ⟨o, h1, _, h3⟩ := e
    exact ⟨o, h1, fun v q => by rw [h3] at q; cases q⟩
theorem itrK_at {k : Bool} {h h' : Heap} {it l : Addr} {i : Nat} (e : ItrK k h it l i) (kp : ∀ o, h.get? it = some o → h'.get? it = some o) : ItrK k h' it l i := by
  cases k
  · exact Heap.IsListIter.at e kp
  · exact Heap.IsTupleIter.at e kp
section
variable {X : Cx} {pins : List (Addr × Obj)} {σ : L2.St} {H : Hp} {s : Shared}
theorem seqK {k : Bool} {a : Addr} {xs : List V} (I : Inv X pins σ H s) (h : SqK X.K k H a xs) : ∃ its : List Value, Vals xs its ∧ SeqAtK k s.heap a its.toArray := by
  cases k
  · obtain ⟨its, r, p, _⟩ := I.list h
    exact ⟨its, r, p.isList⟩
  · obtain ⟨its, r, p, _⟩ := I.tuple h
    exact ⟨its, r, p⟩
theorem seqK_lt {k : Bool} {h : Heap} {a : Addr} {its : Array Value} (e : SeqAtK k h a its) : a < h.objs.size := by
  cases k
  · obtain ⟨o, h1, _⟩ := e
    exact Heap.lt_size h1
  · obtain ⟨o, h1, _⟩ := e
    exact Heap.lt_size h1
theorem seqK_inj {k : Bool} {a : Addr} {xs ys : List V} (I : Inv X pins σ H s) (h1 : SqK X.K k H a xs) (h2 : SqK X.K k H a ys) : xs = ys := by
  cases k
  · exact I.list_inj h1 h2
  · exact I.tuple_inj h1 h2
end
/-- the two as they stand at each turn, the items in new pairs -/
def ItzK (K : PySem.W.Frag) (k1 k2 : Bool) (a b : Addr) : It :=
  ⟨fun i H => ∃ (xs ys : List V) (x y : V), SqK K k1 H a xs ∧ SqK K k2 H b ys ∧ xs[i]? = some x ∧ ys[i]? = some y,
    fun i H v H' => ∃ T x y, v = .ref T ∧ H T = none ∧ H' = upd H T (.tup [x, y]) ∧ (∀ xs, SqK K k1 H a xs → xs[i]? = some x) ∧ ∀ ys, SqK K k2 H b ys → ys[i]? = some y,
    fun i H => ∃ xs ys : List V, SqK K k1 H a xs ∧ SqK K k2 H b ys ∧ i ≤ xs.length ∧ i ≤ ys.length ∧ (i = xs.length ∨ i = ys.length)⟩
theorem turn_zipK {P : Program} {w : World} {K : PySem.W.Frag} {elts : List Expr} {kk : Nat} {tpos : Pos} {k1 k2 : Bool} {a b z TI TO i1 i2 : Addr} (S : ZipSep2 z TI TO i1 i2 [i1, a] [i2, b]) (n1 : a ≠ i1) (n2 : b ≠ i2) :
    Turn P w K (.Tuple elts kk tpos) (ItzK K k1 k2 a b) [z, TI, TO, i1, i2] z (fun i h => IsZip h z TI TO .none ∧ IsTupOf2 h TI (.ref i1) (.ref i2) ∧ (∃ x y, IsTupOf2 h TO x y) ∧ ItrK k1 h i1 a i ∧ ItrK k2 h i2 b i) where
  mem := List.mem_cons_self ..
  obj := fun i h st c hc => by
    obtain ⟨hz, hTI, ⟨x, y, hTO⟩, h1, h2⟩ := st
    have e' : c = z ∨ c = TI ∨ c = TO ∨ c = i1 ∨ c = i2 := by simpa using hc
    rcases e' with q | q | q | q | q <;> rw [q]
    · exact ⟨_, hz, fun v q => nomatch q⟩
    · exact ⟨_, hTI, fun v q => nomatch q⟩
    · exact ⟨_, hTO, fun v q => nomatch q⟩
    · exact itrK_obj h1
    · exact itrK_obj h2
  keep := fun i h h' st k => by
    obtain ⟨hz, hTI, ⟨x, y, hTO⟩, h1, h2⟩ := st
    exact ⟨k z (by simp) _ hz, k TI (by simp) _ hTI, ⟨x, y, k TO (by simp) _ hTO⟩, itrK_at h1 fun o q => k i1 (by simp) o q, itrK_at h2 fun o q => k i2 (by simp) o q⟩
  item := by
    intro X hP hw hK hc i pins s σ H E I hf st hg
    subst hP hw hK
    obtain ⟨hz, hTI, ⟨x0, y0, hTO⟩, h1, h2⟩ := st
    obtain ⟨xs, ys, x, y, hqx, hqy, hx, hy⟩ := hg
    obtain ⟨its, rv, p⟩ := seqK I hqx
    obtain ⟨its2, rv2, p2⟩ := seqK I hqy
    obtain ⟨u, hu, ru⟩ := rv.get hx
    obtain ⟨u2, hu2, ru2⟩ := rv2.get hy
    have hzl : z < s.heap.objs.size := Heap.lt_size hz
    have hh : X.A.in1.handled = none := I.ok.hd hc
    have D1 := drawsK (P := X.prog) (w := X.w) hh k1 i1 a n1 its.toArray
    have D2 := drawsK (P := X.prog) (w := X.w) hh k2 i2 b n2 its2.toArray
    have lt1 : i < its.toArray.size := by
      rw [List.size_toArray]
      exact (List.getElem?_eq_some_iff.mp hu).1
    have lt2 : i < its2.toArray.size := by
      rw [List.size_toArray]
      exact (List.getElem?_eq_some_iff.mp hu2).1
    refine wpAny_pyNext_zipD2_item S D1 D2 hz hTI hTO ⟨h1, p⟩ ⟨h2, p2⟩ lt1 lt2 fun v1 v2 h' tk e1 e2 z' TO' st1 st2 hT hsz hk => ?_
    have q1 : its[i]? = some v1 := by simpa using e1
    have q2 : its2[i]? = some v2 := by simpa using e2
    rw [hu] at q1
    rw [hu2] at q2
    have ev1 : v1 = u := (Option.some.inj q1).symm
    have ev2 : v2 = u2 := (Option.some.inj q2).symm
    rw [ev1, ev2] at hT
    rw [ev1, ev2] at TO'
    refine ⟨_, rfl, wpAny_letOwnedTupleGo_zip (s := { s with heap := h', toks := tk }) z' fun h'' z'' sb => ?_⟩
    have hT2 : h''.get? s.heap.objs.size = some { cls := .type "tuple", data := .seq #[u, u2] } := (sb.2 _ (Nat.ne_of_gt hzl)).trans hT
    have new : ObjOk X.prog X.w (upd H s.heap.objs.size (.tup [x, y])) h'' s.heap.objs.size (.tup [x, y]) :=
      ⟨by show 2 ≤ sizeLine; decide, [u, u2], .cons ru (.cons ru2 .nil), ⟨_, hT2, rfl, _, rfl⟩⟩
    have I1 : Inv X pins σ (upd H s.heap.objs.size (.tup [x, y])) { s with heap := h'', toks := tk } :=
      I.turnedNew (t' := tk) (ch := [z, TI, TO, i1, i2]) (fun c o hb q => (sb.2 c (fun q' => hb (by simp [q']))).trans (hk c o (fun q' => hb (by simp [q'])) (fun q' => hb (by simp [q'])) (fun q' => hb (by simp [q'])) (fun q' => hb (by simp [q'])) q)) hf (Nat.le_refl _) new
    refine ⟨.ref s.heap.objs.size, _, I1, rfl, ⟨_, x, y, rfl, I.hok.fresh (Nat.le_refl _), rfl, fun l hl => by rw [seqK_inj I hl hqx]; exact hx, fun l hl => by rw [seqK_inj I hl hqy]; exact hy⟩, ⟨z'', ?_, ⟨u, u2, ?_⟩, ?_, ?_⟩, fun c hcm => ?_⟩
    · exact (sb.2 _ S.TIz).trans (hk _ _ S.TIz S.TITO S.TIi1 S.TIi2 hTI)
    · exact (sb.2 _ S.TOz).trans TO'
    · exact itrK_at st1.1 fun o q => (sb.2 _ S.zi1.symm).trans q
    · exact itrK_at st2.1 fun o q => (sb.2 _ S.zi2.symm).trans q
    · have hlt : c < s.heap.objs.size := by
        have e' : c = z ∨ c = TI ∨ c = TO ∨ c = i1 ∨ c = i2 := by simpa using hcm
        rcases e' with q | q | q | q | q <;> rw [q]
        · exact hzl
        · exact Heap.lt_size hTI
        · exact Heap.lt_size hTO
        · obtain ⟨_, e1, _⟩ := itrK_obj h1
          exact Heap.lt_size e1
        · obtain ⟨_, e2, _⟩ := itrK_obj h2
          exact Heap.lt_size e2
      rw [upd_ne (Nat.ne_of_lt hlt)]
      exact (hf c hcm).1
  done := by
    intro X hP hw hK hc i pins s σ H E I hf st hg
    subst hP hw hK
    obtain ⟨hz, hTI, ⟨x0, y0, hTO⟩, h1, h2⟩ := st
    obtain ⟨xs, ys, hqx, hqy, le1, le2, hend⟩ := hg
    obtain ⟨its, rv, p⟩ := seqK I hqx
    obtain ⟨its2, rv2, p2⟩ := seqK I hqy
    have l1 : its.toArray.size = xs.length := by rw [List.size_toArray]; exact rv.length.symm
    have l2 : its2.toArray.size = ys.length := by rw [List.size_toArray]; exact rv2.length.symm
    have hh : X.A.in1.handled = none := I.ok.hd hc
    have D1 := drawsK (P := X.prog) (w := X.w) hh k1 i1 a n1 its.toArray
    have D2 := drawsK (P := X.prog) (w := X.w) hh k2 i2 b n2 its2.toArray
    refine wpAny_pyNext_zipD2_end S D1 D2 hz hTI hTO ⟨h1, p⟩ ⟨h2, p2⟩ (by rw [l1]; exact le1) (by rw [l2]; exact le2) (by rw [l1, l2]; exact hend) fun h' tk hk => ⟨rfl, ?_⟩
    exact I.turnedL (t' := tk) (ch := [z, TI, TO, i1, i2]) (fun c o hb q =>
      hk c o (fun q' => hb (by simp [q'])) (fun q' => hb (by simp [q'])) (fun q' => hb (by simp [q'])) (fun q' => hb (by simp [q'])) q) hf
  self := fun A i s Q E st h => wpAny_pyIter_zip st.1 h
def iZipK (K : PySem.W.Frag) (k1 k2 : Bool) (ta : TA) : TI := fun σ H R => ta σ H fun vs H1 => ∃ a b xs ys, vs = [.ref a, .ref b] ∧ SqK K k1 H1 a xs ∧ SqK K k2 H1 b ys ∧ R (ItzK K k1 k2 a b) H1
theorem pi_zipK {X : Cx} (k1 k2 : Bool) {e e2 : Expr} {ta : TA} {p pos tpos : Pos} {elts : List Expr} {kk : Nat} (hg : Gl X "zip") (hm : X.mg "zip" = none) (ha : PA X [e, e2] ta)
    (hs : starEach [e, e2] X.env = (false, eval e X.env) :: starEach [e2] X.env := by rfl) (hpl : (backTo pos (starEach [e2] X.env)).any (·.1) = false := by rfl) :
    PI X (.Tuple elts kk tpos) (.Call (.Name "zip" p) [e, e2] [] pos) (iZipK X.K k1 k2 ta) := by
  refine ⟨fun pins s σ H R I h => ?_⟩
  refine Call_ (ld_blt I hg hm PyProof.Rows.boot_zip (PyProof.Rows.callWith_type1 (thn (ha.run pos pins s σ H _ I h) fun us s1 ⟨vs, H1, I1, r1, a, b, xs, ys, ex, hqx, hqy, q⟩ => ?_) hs hpl))
  subst ex
  obtain ⟨u1, u2, rfl, r, r'⟩ := vals2 r1
  cases r
  cases r'
  obtain ⟨its, rv, p1⟩ := seqK I1 hqx
  obtain ⟨its2, rv2, p2⟩ := seqK I1 hqy
  have la := seqK_lt p1
  have lb := seqK_lt p2
  refine zip_begins2 (begK k1 a its.toArray) (begK k2 b its2.toArray) p1 p2 fun h' hz hTI hTO h1 h2 hsz hk => wpAny_pyIter_zip hz ?_
  have fresh5 : ∀ c, c ∈ [s1.heap.objs.size + 4, s1.heap.objs.size + 2, s1.heap.objs.size + 3, s1.heap.objs.size, s1.heap.objs.size + 1] → FpOk X pins H1 c := fun c hcm => by
    have hle : s1.heap.objs.size ≤ c := by
      have e' : c = s1.heap.objs.size + 4 ∨ c = s1.heap.objs.size + 2 ∨ c = s1.heap.objs.size + 3 ∨ c = s1.heap.objs.size ∨ c = s1.heap.objs.size + 1 := by simpa using hcm
      rcases e' with z | z | z | z | z <;> rw [z] <;> omega
    exact I1.fpOk hle (I1.hok.fresh hle)
  have I2 : Inv X pins σ H1 { s1 with heap := h' } := I1.kept (t' := s1.toks) hk
  have S : ZipSep2 (s1.heap.objs.size + 4) (s1.heap.objs.size + 2) (s1.heap.objs.size + 3) s1.heap.objs.size (s1.heap.objs.size + 1) [s1.heap.objs.size, a] [s1.heap.objs.size + 1, b] :=
    zip_sep2 (N := s1.heap.objs.size) (fp1 := [a]) (fp2 := [b]) (fun c hc => by rw [List.mem_singleton.mp hc]; exact la) (fun c hc => by rw [List.mem_singleton.mp hc]; exact lb)
  exact ⟨s1.heap.objs.size + 4, [s1.heap.objs.size + 4, s1.heap.objs.size + 2, s1.heap.objs.size + 3, s1.heap.objs.size, s1.heap.objs.size + 1], _, _, H1, rfl, I2,
    turn_zipK S (Nat.ne_of_lt la) (Nat.ne_of_lt (Nat.lt_succ_of_lt lb)), ⟨hz, hTI, ⟨_, _, hTO⟩, itrK_new h1, itrK_new h2⟩, fresh5, q⟩
theorem walk_zipK {K : PySem.W.Frag} {k1 k2 : Bool} {a b : Addr} {xs ys : List V} {n : Nat} (hn : n = min xs.length ys.length) : Walk (ItzK K k1 k2 a b) n (fun H => SqK K k1 H a xs ∧ SqK K k2 H b ys) (YPair (fun i => xs[i]?) (fun i => ys[i]?)) := by
  subst hn
  refine ⟨fun i _ hi q => ?_, fun _ q => ⟨xs, ys, q.1, q.2, by omega, by omega, by omega⟩, fun i H v H' _ q y => ?_⟩
  · have h1 : i < xs.length := by omega
    have h2 : i < ys.length := by omega
    exact ⟨xs, ys, xs[i], ys[i], q.1, q.2, by simp [h1], by simp [h2]⟩
  · obtain ⟨T, x, z, h1, h2, h3, h4, h5⟩ := y
    exact ⟨T, x, z, h1, h2, h3, h4 xs q.1, h5 ys q.2⟩
end K22
set_option Elab.async false
set_option linter.all false
set_option maxRecDepth 100000
set_option maxHeartbeats 4000000
/-! != where the two are equal by an own __eq__: of instances (object.__ne__ asks the own __eq__), of lists of what is equal. -/
namespace K22
open PySem PySem.Spec PyProof.Rows L2
/-! ### the machine's part: an instance -/
section
variable {prog : Program} {w : World} {A : Around} {E : Value → Shared → Prop} {s : Shared} {K : PySem.W.Frag} {x y f C : Addr} {ox oy : Obj} {od od' : Option Obj}
theorem ne_entry (X : K.In s.heap) (I : PySem.W.InstAt s.heap x ox C od) (hu : A.units < cLine) (he : PySem.W.findIn K (.ref C) "__eq__" = some (some (.ref f))) (hf : PySem.W.isFn K (.ref f) = true) {Q : Fin → Shared → Prop}
    (hcall : wpAny (model prog w) A (call (.ref f) [.ref x, .ref y]) (fun v s' => v = .bool true ∧ Q (.done (.ret (.bool false))) s') E s) : wpAny (model prog w) A (Builtin.«object.__ne__» ⟨[.ref x, .ref y], []⟩) Q E s := by
  have two : wpAny (model prog w) A (callSpecialIfBound? (.ref x) (Str.ofString "__eq__") [.ref y]) (fun r s' => r = some (.bool true) ∧ Q (.done (.ret (.bool false))) s') E s :=
    PySem.W.ifBound_K X I he hf (wpAny_mono hcall (fun v s' q => ⟨congrArg some q.1, q.2⟩) fun _ _ e => e)
  unfold Builtin.«object.__ne__»
  repeat (first
    | with_reducible refine wpAny_cRoomFor hu ?_
    | (refine wpAny_bind (m := callSpecialIfBound? (.ref x) (Str.ofString "__eq__") [.ref y]) (wpAny_mono two (fun r s' q => ?_) fun _ _ e => e)
       obtain ⟨rfl, q⟩ := q
       repeat (first | exact q | exact wpAny_pure q | exact wpAny_truthy_bool q | (refine wpAny_bind (m := truthy (.bool _)) (wpAny_truthy_bool ?_)) | wp_step))
    | wp_step)
theorem ne_call (X : K.In s.heap) (I : PySem.W.InstAt s.heap x ox C od) (hu : A.units + 1 < cLine) (hm : PySem.W.mroIn K C (.type "object") = some true) (he : PySem.W.findIn K (.ref C) "__eq__" = some (some (.ref f))) (hf : PySem.W.isFn K (.ref f) = true) {Q : Value → Shared → Prop}
    (hcall : wpAny (model prog w) A.in1 (call (.ref f) [.ref x, .ref y]) (fun v s' => v = .bool true ∧ Q (.bool false) s') E s) : wpAny (model prog w) A (call (.builtin "object.__ne__") [.ref x, .ref y]) Q E s :=
  wpAny_call (codeAny_call_builtin F.cmp_object.ne.plain F.cmpEntry_ne (PySem.W.check_slot F.cmpKind_ne F.cmpSplit_ne (I.type.andThen (PySem.W.looks_mroIn X hm)) (F.cmpArgs_ne _ _) (ne_entry (A := A.in1) X I hu he hf hcall)))
theorem ne_bound {args : List Value} {Q : Option Value → Shared → Prop} (X : K.In s.heap) (I : PySem.W.InstAt s.heap x ox C od) (hn : PySem.W.findIn K (.ref C) "__ne__" = some (some (.builtin "object.__ne__")))
    (h : wpAny (model prog w) A (call (.builtin "object.__ne__") (.ref x :: args)) (fun v => Q (some v)) E s) : wpAny (model prog w) A (callSpecialIfBound? (.ref x) "__ne__" args) Q E s := by
  have fin : wpAny (model prog w) A (call (.builtin "object.__ne__") ([.ref x] ++ args) >>= fun v => pure (some v)) Q E s := wpAny_bind (wpAny_mono h (fun v s' h' => wpAny_pure h') fun _ _ h' => h')
  simp only [callSpecialIfBound?, bindSpecialIfBound?]
  refine wpAny_holding (wpAny_bind (wpAny_bind (wpAny_bind (I.type.here ((PySem.W.looks_findIn X hn).here ?_)))))
  refine wpAny_bind (wpAny_askSetting (wpAny_ite ?_))
  split
  · exact wpAny_bind (wpAny_of_eq (F.cmp_object.ne.bind _) (wpAny_pure (by exact fin)))
  · exact wpAny_tryCatch (wpAny_bind (wpAny_of_eq (F.cmp_object.ne.bind _) (wpAny_pure (by exact fin))))
theorem ne_rich (X : K.In s.heap) (I : PySem.W.InstAt s.heap x ox C od) (J : PySem.W.InstAt s.heap y oy C od') (hu : A.units + 1 < cLine) (hm : PySem.W.mroIn K C (.type "object") = some true)
    (hn : PySem.W.findIn K (.ref C) "__ne__" = some (some (.builtin "object.__ne__"))) (he : PySem.W.findIn K (.ref C) "__eq__" = some (some (.ref f))) (hf : PySem.W.isFn K (.ref f) = true) {Q : Value → Shared → Prop}
    (hcall : wpAny (model prog w) A.in1 (call (.ref f) [.ref x, .ref y]) (fun v s' => v = .bool true ∧ Q (.bool false) s') E s) : wpAny (model prog w) A (richCompare .NotEq (.ref x) (.ref y)) Q E s := by
  have one : wpAny (model prog w) A (tryCompare (.ref x) "__ne__" (.ref y)) (fun r s' => r = some (.bool false) ∧ Q (.bool false) s') E s := by
    unfold tryCompare
    exact wpAny_bind (ne_bound X I hn (ne_call X I hu hm he hf (wpAny_mono hcall (fun v s' q => ⟨q.1, wpAny_pure ⟨rfl, q.2⟩⟩) fun _ _ e => e)))
  unfold richCompare
  simp only [oneThing_ref]
  refine wpAny_holding (wpAny_bind (wpAny_cRoomFor (Nat.lt_of_succ_lt hu) ?_))
  rw [cmpInfo_NotEq]
  dsimp only
  refine wpAny_bind (I.type.here (wpAny_bind (J.type.here ?_)))
  rw [show (Value.ref C != Value.ref C) = false from by simp]
  simp only [Bool.false_eq_true, if_false]
  refine wpAny_bind (wpAny_pure ?_)
  simp only [Bool.false_eq_true, if_false]
  refine wpAny_bind (m := tryCompare _ _ _) (wpAny_mono one (fun r s1 q => ?_) fun _ _ e => e)
  obtain ⟨rfl, q⟩ := q
  first | exact wpAny_pure q | exact wpAny_pure (wpAny_pure q)
end
/-! ### the machine's part: a list -/
section
open MeetsSeq MeetsSeq2 MeetsSeq3 SeqRoads2
open AutoSeq1 (wpAny_loadPart')
variable {prog : Program} {w : World} {A : Around} {R : Result → Shared → Prop}
theorem ne_loop (l b : Addr) (N : Nat) (I : Nat → Shared → Prop) (hl : GQ.ListI prog w A (fun e s' => R (.error e) s') l b N I) (fin : ∀ s, I N s → R (.ok (.ret (.bool false))) s) (k : Nat) :
    ∀ i : Nat, N - i = k → i ≤ N → ∀ s, I i s →
      wpAny (model prog w) A.in1 (Builtin.«list.__eq__.loop» ⟨[.ref l, .ref b, rawInt i, rawInt 3], []⟩) (GQ.FinOf prog w A R) (fun e s' => R (.error e) s') s := by
  induction k with
  | zero =>
    intro i hk hi s h
    obtain ⟨items, items2, n, n2, hl1, hb1, hs1, hs2, _⟩ := hl _ _ h
    have hi' : i = N := by omega
    have done : R (.ok (.ret (.bool false))) s := fin s (hi' ▸ h)
    have no1 : items[((i : Nat) : Int).toNat]? = none := by simp; omega
    have no2 : items2[((i : Nat) : Int).toNat]? = none := by simp; omega
    obtain ⟨hp, g, d, tk, os⟩ := s
    wp_walk using wpAny_loadPart' hl1, wpAny_loadPart' hb1
    rw [no1, no2]
    wp_walk using wpAny_loadPart' hl1, wpAny_loadPart' hb1
    show R (.ok (.ret (.bool (items.size != items2.size)))) _
    rw [hs1, hs2]
    simpa using done
  | succ k ih =>
    intro i hk hi s h
    obtain ⟨items, items2, n, n2, hl1, hb1, hs1, hs2, turn⟩ := hl _ _ h
    have lt1 : i < items.size := by omega
    have lt2 : i < items2.size := by omega
    have step := turn lt1 lt2
    have at1 : items[((i : Nat) : Int).toNat]? = some items[i] := by simp [lt1]
    have at2 : items2[((i : Nat) : Int).toNat]? = some items2[i] := by simp [lt2]
    have ec : ((i : Int) + 1) = ((i + 1 : Nat) : Int) := by omega
    obtain ⟨hp, g, d, tk, os⟩ := s
    wp_walk using wpAny_loadPart' hl1, wpAny_loadPart' hb1
    rw [at1, at2]
    refine wpAny_bind (wpAny_mono step (fun r s2 h2 => ?_) fun _ _ x => x)
    obtain ⟨hr, h2⟩ := h2
    subst hr
    have more := ih (i + 1) (by omega) (by omega) s2 h2
    obtain ⟨hp2, g2, d2, tk2, os2⟩ := s2
    wp_walk
    rw [ec]
    exact ⟨plainId_quiet plain_eq_loop _, codeAny_builtin entry_eq_loop (by
      rw [Around.under_plainId plain_eq_loop _]
      exact more)⟩
theorem list_ne (l b : Addr) (N : Nat) (I : Nat → Shared → Prop) (hl : GQ.ListI prog w A (fun e s' => R (.error e) s') l b N I) (fin : ∀ s, I N s → R (.ok (.ret (.bool false))) s) {s : Shared} (h : I 0 s) :
    wpAny (model prog w) A.in1 (Builtin.«list.__ne__» ⟨[.ref l, .ref b], []⟩) (GQ.FinOf prog w A R) (fun e s' => R (.error e) s') s := by
  obtain ⟨items, items2, n, n2, hl1, hb1, hs1, hs2, _⟩ := hl _ _ h
  have more := ne_loop (A := A) (R := R) l b N I hl fin _ 0 rfl (Nat.zero_le _) s h
  have f3 := AutoSeq1.sub_list_list
  have hne : ¬ (items.size != items2.size) = true := by simp [hs1, hs2]
  obtain ⟨hp, g, d, tk, os⟩ := s
  wp_walk using wpAny_loadPart' hl1, wpAny_loadPart' hb1
  exact ⟨plainId_quiet plain_eq_loop _, codeAny_builtin entry_eq_loop (by
    rw [Around.under_plainId plain_eq_loop _]
    exact more)⟩
end
section
variable {prog : Program} {w : World} {A : Around} {E : Value → Shared → Prop} {s : Shared}
theorem rc_listNe {l b : Addr} {N : Nat} {Q : Value → Shared → Prop} (hu : A.units < cLine) (I : Nat → Shared → Prop) (hl : GQ.ListI prog w A E l b N I)
    (fin : ∀ s, I N s → Q (.bool false) s) (h : I 0 s) : wpAny (model prog w) A (richCompare .NotEq (.ref l) (.ref b)) Q E s := by
  obtain ⟨items, items2, n, n2, hl1, hb1, _, _, _⟩ := hl _ _ h
  refine wpAny_richCompare_same_room (op := .NotEq) ⟨_, hl1, rfl⟩ ⟨_, hb1, rfl⟩ F.slot_list_ne (GQ.call_here F.slot_list_ne ⟨_, hl1, rfl⟩ F.entry_list_ne (F.args_list_ne_2 _ _) ?_) hu
  exact list_ne (R := wants (fun v s' => v ≠ .notImplemented ∧ Q v s') E) l b N I hl (fun s' q => ⟨(fun x => nomatch x), fin s' q⟩) h
end
/-! ### over the layer -/
def RnG (X : Cx) (n : Nat) (D : Eqv) : Prop :=
  ∀ (A : Around) (pins : List (Addr × Obj)) (s : Shared) (σ : L2.St) (H : Hp) (x y : V) (u v : Value), Sub X n A → Inv X pins σ H s → RelV x u → RelV y v → D x y H →
    wpAny (model X.prog X.w) A (richCompare .NotEq u v) (fun r s' => r = .bool false ∧ ∃ H', Inv X pins σ H' s' ∧ Ext H H') X.xe s
section
variable {X : Cx} {n m : Nat} {D D' : Eqv}
theorem rnG_list (hD : Mon D) (h : EqG X n D) : RnG X (n + 1) (DList D) := by
  intro A pins s σ H x y u v sb I rx ry d
  obtain ⟨a, b, xs, ys, rfl, rfl, ha, hb, p⟩ := d
  cases rx
  cases ry
  refine rc_listNe (N := xs.length) sb.room.units0 (fun _ s' => LoopI X pins σ H s') (fun i s' q => ?_) (fun s' q => ⟨rfl, q⟩) ⟨H, I, Ext.rfl'⟩
  obtain ⟨H1, I1, e1⟩ := id q
  obtain ⟨z, its, k, r, e⟩ := I1.hok a _ (e1 _ _ ha)
  obtain ⟨z2, its2, k2, r2, e2⟩ := I1.hok b _ (e1 _ _ hb)
  exact ⟨its.toArray, its2.toArray, k, k2, e, e2, by rw [List.size_toArray, ← r.length], by rw [List.size_toArray, ← r2.length, ← p.1], fun h1 h2 => turnG hD h sb p r r2 i h1 h2 s' q⟩
theorem rnG_ins {CX : CXT} {C f : Addr} {fd : FuncData} {ps : List Str} {R : Addr → Addr → Hp → Prop} {E : XK} (F : FnOk X.prog X.w X.K X.mg X.base CX n f fd ps (spEq R)) (hm : PySem.W.mroIn X.K C (.type "object") = some true)
    (hn : PySem.W.findIn X.K (.ref C) "__ne__" = some (some (.builtin "object.__ne__"))) (hs : PySem.W.findIn X.K (.ref C) "__eq__" = some (some (.ref f))) (hf : PySem.W.isFn X.K (.ref f) = true) (hb : Binds X.K fd ps []) (hx : Passes CX X E) : RnG X (n + 1) (DIns C R) := by
  intro A pins s σ H x y u v sb I rx ry d
  obtain ⟨a, b, dx, dy, fs, gs, rfl, rfl, ha, hb', hr⟩ := d
  cases rx
  cases ry
  obtain ⟨mA, J, _⟩ := ins_get I.hok ha
  obtain ⟨mB, J', _⟩ := ins_get I.hok hb'
  obtain ⟨od, J, _⟩ := J.look
  obtain ⟨od', J', _⟩ := J'.look
  have hu : A.units + 1 < cLine := hu_of sb.room
  refine ne_rich I.kIn J J' hu hm hn hs hf ?_
  have sb1 : Sub X n A.in1 := sb.in1
  have hsp : spEq R [.ref a, .ref b] H (fun v H' => v = .bl true ∧ Ext H H') E := ⟨a, b, rfl, hr, fun H' e => ⟨rfl, e⟩⟩
  have e0 : Env0 X.prog X.w X.K X.mg X.base A.in1 X.stack s H := by
    have e := I.env0
    exact ⟨by rw [sb1.fr]; exact e.frames, e.mod, e.bs, e.bsz, e.funs, e.frf, e.hok, e.bare⟩
  have hl := F.len _ _ _ _ hsp
  have r2 : Vals [V.ref a, V.ref b] [Value.ref a, Value.ref b] := .cons rfl (.cons rfl .nil)
  refine wpAny_call (codeAny_mono (F.run A.in1 X.stack s H ⟨[.ref a, .ref b], []⟩ [.ref a, .ref b] [.ref a, .ref b] _ E sb1.room e0 (by
    have := hb s [.ref a, .ref b] I.kIn (by simpa using hl)
    simpa using this) r2 hsp) fun r s' hq => ?_)
  cases r with
  | error e => exact hx pins σ H s e s' I hq
  | ok fl =>
    cases fl with
    | ret w =>
      obtain ⟨z, H', I', rz, ez, ex⟩ := I.after hq
      subst ez
      cases rz
      exact ⟨rfl, rfl, H', I', ex⟩
    | next => exact False.elim hq
    | brk => exact False.elim hq
    | cont => exact False.elim hq
/-- x != y as an expression, the two equal -/
def rNeG (D : Eqv) : R2 := fun x y H Q => D x y H ∧ ∀ H', Ext H H' → Q (.bl false) H'
theorem op_neG (h : RnG X n D) (hr : Room n X.A) : OpR X (compareOp .NotEq) (rNeG D) := by
  intro pins s σ H x y v u Q I rx ry hq
  obtain ⟨d, q⟩ := hq
  show wpAny (model X.prog X.w) X.A (richCompare .NotEq v u) (EP X pins σ Q) X.xe s
  refine wpAny_mono (h X.A pins s σ H x y v u ⟨hr, rfl⟩ I rx ry d) (fun r s' z => ?_) fun _ _ x => x
  obtain ⟨hr', H', I', e⟩ := z
  subst hr'
  exact ⟨.bl false, H', I', rfl, q H' e⟩
end
end K22
set_option Elab.async false
set_option linter.all false
set_option maxRecDepth 100000
set_option maxHeartbeats 4000000
/-! What stands in the abstract heap: numbers, rows, letters, words, Ratios, tables; what is kept; the shape of a def's promise. -/
namespace K22
open PySem PySem.Spec PyProof.Rows L2
/-! ### pairs of lists -/
section
variable {α β : Type} {F : α → β → Prop}
theorem Paired.get : ∀ {l : List α} {m : List β} {i : Nat} {a : α}, Paired F l m → l[i]? = some a → ∃ b, m[i]? = some b ∧ F a b
  | _, _, _, _, .nil, e => by simp at e
  | _, _, 0, _, .cons h t, e => by
    simp at e
    subst e
    exact ⟨_, rfl, h⟩
  | _, _, i + 1, a, .cons h t, e => by
    obtain ⟨b, h1, h2⟩ := Paired.get (i := i) (a := a) t (by simpa using e)
    exact ⟨b, by simpa using h1, h2⟩
theorem Paired.both : ∀ {l : List α} {m : List β} {i : Nat} {a : α} {b : β}, Paired F l m → l[i]? = some a → m[i]? = some b → F a b := fun p h1 h2 => by
  obtain ⟨b', e, f⟩ := Paired.get p h1
  rw [e] at h2
  rw [← Option.some.inj h2]
  exact f
theorem Paired.take : ∀ {l : List α} {m : List β} (n : Nat), Paired F l m → Paired F (l.take n) (m.take n)
  | _, _, 0, _ => .nil
  | _, _, _ + 1, .nil => .nil
  | _, _, n + 1, .cons h t => .cons h (Paired.take n t)
theorem Paired.drop : ∀ {l : List α} {m : List β} (n : Nat), Paired F l m → Paired F (l.drop n) (m.drop n)
  | _, _, 0, p => p
  | _, _, _ + 1, .nil => .nil
  | _, _, n + 1, .cons h t => Paired.drop n t
theorem Paired.app : ∀ {l l' : List α} {m m' : List β}, Paired F l m → Paired F l' m' → Paired F (l ++ l') (m ++ m')
  | _, _, _, _, .nil, q => q
  | _, _, _, _, .cons h t, q => .cons h (Paired.app t q)
theorem Paired.rev : ∀ {l : List α} {m : List β}, Paired F l m → Paired F l.reverse m.reverse
  | _, _, .nil => .nil
  | _, _, .cons h t => by
    rw [List.reverse_cons, List.reverse_cons]
    exact Paired.app (Paired.rev t) (.cons h .nil)
theorem Paired.rep {a : α} {b : β} (h : F a b) : ∀ n : Nat, Paired F (List.replicate n a) (List.replicate n b)
  | 0 => .nil
  | n + 1 => by
    rw [List.replicate_succ, List.replicate_succ]
    exact .cons h (Paired.rep h n)
theorem Paired.imp {G : α → β → Prop} (f : ∀ a b, F a b → G a b) : ∀ {l : List α} {m : List β}, Paired F l m → Paired G l m
  | _, _, .nil => .nil
  | _, _, .cons h t => .cons (f _ _ h) (Paired.imp f t)
theorem Paired.len {l : List α} {m : List β} (p : Paired F l m) : l.length = m.length := by
  induction p with
  | nil => rfl
  | cons _ _ ih => rw [List.length_cons, List.length_cons, ih]
theorem Paired.nil_iff {l : List α} {m : List β} (p : Paired F l m) : l = [] ↔ m = [] := by
  cases p with
  | nil => exact ⟨fun _ => rfl, fun _ => rfl⟩
  | cons _ _ => exact ⟨fun h => (List.cons_ne_nil _ _ h).elim, fun h => (List.cons_ne_nil _ _ h).elim⟩
end
theorem atRef {as : List Addr} {i : Nat} {v : V} (h : (as.map V.ref)[i]? = some v) : ∃ a, as[i]? = some a ∧ v = .ref a := by
  rw [List.getElem?_map] at h
  cases e : as[i]? with
  | none =>
    rw [e] at h
    cases h
  | some a =>
    rw [e] at h
    exact ⟨a, rfl, (Option.some.inj h).symm⟩
/-! ### what stands -/
def NumAt (H : Hp) (a : Addr) (q : Rat) : Prop := H a = some (.tup [.int q.num, .int ((q.den : Nat) : Int)])
def RowAt (H : Hp) (a : Addr) (r : List Rat) : Prop := ∃ as : List Addr, H a = some (.lst (as.map V.ref)) ∧ Paired (NumAt H) as r
def RowsAt (H : Hp) (a : Addr) (rs : List (List Rat)) : Prop := ∃ as : List Addr, H a = some (.lst (as.map V.ref)) ∧ Paired (RowAt H) as rs
def LetAt (H : Hp) (a : Addr) (l : List Nat) : Prop := H a = some (.tup (l.map fun n => V.int ((n : Nat) : Int)))
def WordAt (H : Hp) (a : Addr) (w : List (List Nat)) : Prop := ∃ as : List Addr, H a = some (.tup (as.map V.ref)) ∧ Paired (LetAt H) as w
def rf (n d : Int) : List (Str × V) := putF "own_bottom" (.int d) (putF "own_top" (.int n) [])
def RatAt (C : Addr) (H : Hp) (a : Addr) (q : Rat) : Prop := ∃ dx, H a = some (.ins C dx (rf q.num ((q.den : Nat) : Int)))
def RatsAt (C : Addr) (H : Hp) (a : Addr) (qs : List Rat) : Prop := ∃ as : List Addr, H a = some (.lst (as.map V.ref)) ∧ Paired (RatAt C H) as qs
def TRowAt (C : Addr) (H : Hp) (a : Addr) (r : List Rat) : Prop := ∃ as : List Addr, H a = some (.tup (as.map V.ref)) ∧ Paired (RatAt C H) as r
def TRowsAt (C : Addr) (H : Hp) (a : Addr) (rs : List (List Rat)) : Prop := ∃ as : List Addr, H a = some (.tup (as.map V.ref)) ∧ Paired (TRowAt C H) as rs
def tf (c : Int) (t : Addr) : List (Str × V) := putF "own_rows" (.ref t) (putF "own_columns" (.int c) [])
def TabAt (C D : Addr) (H : Hp) (a : Addr) (c : Nat) (rs : List (List Rat)) : Prop := ∃ dx t, H a = some (.ins D dx (tf (c : Int) t)) ∧ TRowsAt C H t rs
/-- a NUMBER as it is passed: an int or a Ratio -/
def PasAt (C : Addr) (H : Hp) (x : V) (q : Rat) : Prop := (x = .int q.num ∧ q.den = 1) ∨ ∃ a, x = .ref a ∧ RatAt C H a q
def PRowAt (C : Addr) (H : Hp) (a : Addr) (r : List Rat) : Prop := ∃ xs : List V, H a = some (.lst xs) ∧ Paired (PasAt C H) xs r
def PRowsAt (C : Addr) (H : Hp) (a : Addr) (rs : List (List Rat)) : Prop := ∃ as : List Addr, H a = some (.lst (as.map V.ref)) ∧ Paired (PRowAt C H) as rs
theorem rf_top (n d : Int) : (rf n d).lookup ("own_top" : Str) = some (.int n) := by
  unfold rf
  rw [lookup_putF, if_neg (by decide +kernel), lookup_putF, if_pos rfl]
theorem rf_bottom (n d : Int) : (rf n d).lookup ("own_bottom" : Str) = some (.int d) := by
  unfold rf
  rw [lookup_putF, if_pos rfl]
theorem tf_columns (c : Int) (t : Addr) : (tf c t).lookup ("own_columns" : Str) = some (.int c) := by
  unfold tf
  rw [lookup_putF, if_neg (by decide +kernel), lookup_putF, if_pos rfl]
theorem tf_rows (c : Int) (t : Addr) : (tf c t).lookup ("own_rows" : Str) = some (.ref t) := by
  unfold tf
  rw [lookup_putF, if_pos rfl]
/-! ### what is kept: all but a list of two ints (the pot) -/
def Pot2 (o : HO) : Prop := ∃ a b : Int, o = .lst [.int a, .int b]
def Keep (H H' : Hp) : Prop := ∀ c o, H c = some o → ¬ Pot2 o → H' c = some o
theorem Same.keep {H H' : Hp} (s : Same H H') : Keep H H' := fun c o e _ => s c o e
theorem Keep.refl (H : Hp) : Keep H H := fun _ _ e _ => e
theorem Keep.trans {H H1 H2 : Hp} (a : Keep H H1) (b : Keep H1 H2) : Keep H H2 := fun c o e n => b c o (a c o e n) n
theorem np_tup {xs : List V} : ¬ Pot2 (.tup xs) := fun ⟨a, b, e⟩ => by cases e
theorem np_ins {C dx : Addr} {fs : List (Str × V)} : ¬ Pot2 (.ins C dx fs) := fun ⟨a, b, e⟩ => by cases e
theorem np_refs {as : List Addr} : ¬ Pot2 (.lst (as.map V.ref)) := fun ⟨a, b, e⟩ => by
  have e2 : as.map V.ref = [V.int a, V.int b] := HO.lst.inj e
  cases as with
  | nil => cases e2
  | cons x r =>
    injection e2 with h1 h2
    cases h1
/-- all but the list at p -/
def Kp (p : Addr) (H H' : Hp) : Prop := ∀ c o, c ≠ p → H c = some o → H' c = some o
theorem Kp.refl (p : Addr) (H : Hp) : Kp p H H := fun _ _ _ e => e
theorem Kp.trans {p : Addr} {H H1 H2 : Hp} (a : Kp p H H1) (b : Kp p H1 H2) : Kp p H H2 := fun c o n e => b c o n (a c o n e)
theorem Same.kp {p : Addr} {H H' : Hp} (s : Same H H') : Kp p H H' := fun c o _ e => s c o e
/-- the pot: its two ints -/
def PotAt (H : Hp) (p : Addr) : Prop := ∃ a b : Int, H p = some (.lst [.int a, .int b]) ∧ 0 ≤ a ∧ 0 ≤ b ∧ b < 4294967296
theorem Kp.keep {p : Addr} {H H' : Hp} (k : Kp p H H') (h : PotAt H p) : Keep H H' := fun c o e n => by
  refine k c o (fun z => ?_) e
  obtain ⟨a, b, h1, _⟩ := h
  rw [z, h1] at e
  exact n ⟨a, b, (Option.some.inj e).symm⟩
theorem Kp.upd {p q : Addr} {o : HO} {H : Hp} (h : q = p ∨ H q = none) : Kp p H (upd H q o) := fun c u n e => by
  rw [upd_ne]
  · exact e
  · intro z
    rcases h with z2 | z2
    · exact n (z.trans z2)
    · rw [z, z2] at e
      cases e
theorem Same.upd {q : Addr} {o : HO} {H H1 : Hp} (s : Same H H1) (h : H1 q = none) : Same H (L2.upd H1 q o) := s.trans (Same.new h)
section
variable {H H' : Hp} (k : Keep H H') {C D a : Addr}
include k
theorem NumAt.keep {q : Rat} (h : NumAt H a q) : NumAt H' a q := k _ _ h np_tup
theorem RowAt.keep {r : List Rat} (h : RowAt H a r) : RowAt H' a r := by
  obtain ⟨as, h1, h2⟩ := h
  exact ⟨as, k _ _ h1 np_refs, Paired.imp (fun _ _ => NumAt.keep k) h2⟩
theorem RowsAt.keep {r : List (List Rat)} (h : RowsAt H a r) : RowsAt H' a r := by
  obtain ⟨as, h1, h2⟩ := h
  exact ⟨as, k _ _ h1 np_refs, Paired.imp (fun _ _ => RowAt.keep k) h2⟩
theorem LetAt.keep {l : List Nat} (h : LetAt H a l) : LetAt H' a l := k _ _ h np_tup
theorem WordAt.keep {l : List (List Nat)} (h : WordAt H a l) : WordAt H' a l := by
  obtain ⟨as, h1, h2⟩ := h
  exact ⟨as, k _ _ h1 np_tup, Paired.imp (fun _ _ => LetAt.keep k) h2⟩
theorem RatAt.keep {q : Rat} (h : RatAt C H a q) : RatAt C H' a q := by
  obtain ⟨dx, h1⟩ := h
  exact ⟨dx, k _ _ h1 np_ins⟩
theorem RatsAt.keep {q : List Rat} (h : RatsAt C H a q) : RatsAt C H' a q := by
  obtain ⟨as, h1, h2⟩ := h
  exact ⟨as, k _ _ h1 np_refs, Paired.imp (fun _ _ => RatAt.keep k) h2⟩
theorem TRowAt.keep {q : List Rat} (h : TRowAt C H a q) : TRowAt C H' a q := by
  obtain ⟨as, h1, h2⟩ := h
  exact ⟨as, k _ _ h1 np_tup, Paired.imp (fun _ _ => RatAt.keep k) h2⟩
theorem TRowsAt.keep {q : List (List Rat)} (h : TRowsAt C H a q) : TRowsAt C H' a q := by
  obtain ⟨as, h1, h2⟩ := h
  exact ⟨as, k _ _ h1 np_tup, Paired.imp (fun _ _ => TRowAt.keep k) h2⟩
theorem TabAt.keep {c : Nat} {q : List (List Rat)} (h : TabAt C D H a c q) : TabAt C D H' a c q := by
  obtain ⟨dx, t, h1, h2⟩ := h
  exact ⟨dx, t, k _ _ h1 np_ins, TRowsAt.keep k h2⟩
theorem PasAt.keep {x : V} {q : Rat} (h : PasAt C H x q) : PasAt C H' x q := by
  rcases h with h | ⟨b, h1, h2⟩
  · exact .inl h
  · exact .inr ⟨b, h1, RatAt.keep k h2⟩
end
/-- passed rows hold ints, so they are told over Same alone -/
theorem PRowAt.same {H H' : Hp} {C a : Addr} {r : List Rat} (s : Same H H') (h : PRowAt C H a r) : PRowAt C H' a r := by
  obtain ⟨xs, h1, h2⟩ := h
  exact ⟨xs, s _ _ h1, Paired.imp (fun _ _ => PasAt.keep (Same.keep s)) h2⟩
theorem PRowAt.kp {H H' : Hp} {p C a : Addr} {r : List Rat} (k : Kp p H H') (hp : PotAt H p) (n : a ≠ p) (h : PRowAt C H a r) : PRowAt C H' a r := by
  obtain ⟨xs, h1, h2⟩ := h
  exact ⟨xs, k _ _ n h1, Paired.imp (fun _ _ => PasAt.keep (Kp.keep k hp)) h2⟩
theorem PRowsAt.same {H H' : Hp} {C a : Addr} {r : List (List Rat)} (s : Same H H') (h : PRowsAt C H a r) : PRowsAt C H' a r := by
  obtain ⟨as, h1, h2⟩ := h
  exact ⟨as, s _ _ h1, Paired.imp (fun _ _ => PRowAt.same s) h2⟩
/-! ### defs as constants of the module -/
structure Cal (P : Program) (w : World) (K : PySem.W.Frag) (mg : Str → Option Value) (base : Heap) (k : Nat) (x : Str) (ps : List Str) (sp : Sp) : Prop where
  ex : ∃ (f : Addr) (fd : FuncData), FnOk P w K mg base CX0 k f fd ps sp ∧ mg x = some (.ref f) ∧ PySem.W.keepIn K (.ref f) = true ∧ Binds K fd ps []
section
variable {P : Program} {w : World} {K : PySem.W.Frag} {mg : Str → Option Value} {base : Heap}
/-- a def's promise, by its body -/
theorem mkCal {x : Str} {st : Stmt} {N ps : List Str} {k : Nat} {sp : Sp} (a : At K mg x st) (S : FnScope N ps (defScope st))
    (hb : ∀ (kV doc pm : Value) (an : Option Addr) (cdv ct : Value) (us : List Value), us.length = ps.length → bindArgs (PySem.W.fnOf x x (defArgs st) (defBody st) (defScope st) .none kV doc pm an cdv ct) ⟨us, []⟩ = pure (ps.zip us))
    (len : ∀ vs H Q E, sp vs H Q E → vs.length = ps.length)
    (hbody : ∀ (f : Addr) (cdv : Value) (A : Around) (outer : List Env) (s : Shared) (H : Hp) (vs : List V) (Q : VK) (E : XK), Room k (A.deeper (envOfC x (defScope st) s.heap.objs.size f cdv)) → sp vs H Q E →
      ∃ t, PSs (cxOf CX0 P w K mg base N x (defScope st) f cdv A outer s H E).nox (defBody st) t ∧ t { nx := fun _ H' => Q .non H', rt := Q } (start N vs) H) : Cal P w K mg base (k + 1) x ps sp := by
  obtain ⟨f, fd, F, g⟩ := a.fn
  refine ⟨f, fd, F.ok S len fun cdv A outer s H vs Q E hr h => ?_, g, F.kp, F.bindsN hb⟩
  obtain ⟨t, h1, h2⟩ := hbody f cdv A outer s H vs Q E hr h
  exact ⟨t, h1.nox, h2⟩
end
section
variable {X : Cx} {k j : Nat} {x : Str} {ps : List Str} {sp : Sp} {p pos : Pos} {e : Expr} {es : List Expr} {t : TA}
theorem pe_f (c : Cal X.prog X.w X.K X.mg X.base k x ps sp) (hr : Room j X.A) (ha : PA X (e :: es) t) (hk : k ≤ j := by decide) (hg : Gl X x := by rfl)
    (hdb : (x == ("__debug__" : Str)) = false := by decide) (he : starEach (e :: es) X.env = (false, eval e X.env) :: starEach es X.env := by rfl) (hpl : (backTo pos (starEach es X.env)).any (·.1) = false := by rfl) :
    PE X (.Call (.Name x p) (e :: es) [] pos) (tCall sp [] E0 t) := by
  obtain ⟨f, fd, F, hm, kp, b⟩ := c.ex
  exact pe_call F (hr.mono hk) hg hm kp b .nil pass0 ha hdb he hpl
end
/-! ### calls by keywords alone -/
structure CalN (P : Program) (w : World) (K : PySem.W.Frag) (mg : Str → Option Value) (base : Heap) (k : Nat) (x : Str) (ps ks : List Str) (sp : Sp) (g : List V → List V) : Prop where
  ex : ∃ (f : Addr) (fd : FuncData) (g0 : List Value → List Value → List Value), FnOk P w K mg base CX0 k f fd ps sp ∧ mg x = some (.ref f) ∧ PySem.W.keepIn K (.ref f) = true ∧ KBn K fd ps 0 ks g0 (fun _ zs => g zs)
section
variable {X : Cx} {k j : Nat} {x : Str} {ps ks : List Str} {sp : Sp} {p pos : Pos} {kws : List Keyword} {tk : TA} {g : List V → List V}
theorem pe_fn (c : CalN X.prog X.w X.K X.mg X.base k x ps ks sp g) (hr : Room j X.A) (hkw : PK X kws tk) (hk : k ≤ j := by decide) (hg : Gl X x := by rfl)
    (hall : (backToKw pos (keywordEach kws X.env)).all (·.1.isSome) = true := by rfl) (hks : (backToKw pos (keywordEach kws X.env)).filterMap (·.1) = ks := by rfl) (hdb : (x == ("__debug__" : Str)) = false := by decide)
    (hpl : ((backTo pos (starEach [] X.env)).any (·.1) || (backToKw pos (keywordEach kws X.env)).any (·.1.isNone)) = false := by rfl) :
    PE X (.Call (.Name x p) [] kws pos) (tCallN 0 ks.length sp (fun _ zs => g zs) E0 tNil tk) := by
  obtain ⟨f, fd, g0, F, hm, kp, b⟩ := c.ex
  refine ⟨fun pins s σ H Q I h => ?_⟩
  refine wpAny_Call_Name_kw (ld_glob I hg hm ?_ hdb)
  refine PySem.W.callWith_KW0 (h₀ := X.base) I.ok.mod.kin kp hall ?_ hpl
  refine thn (hkw.run pos pins s σ H _ I h) fun ws s2 ⟨zs, H2, I2, rz, l1, l2, q2⟩ => ⟨I2.kIn, ?_⟩
  rw [hks]
  exact run_fnN (us := []) (vs := []) F (hr.mono hk) b pass0 I2 .nil rz rfl l2 q2
end
end K22
set_option Elab.async false
set_option linter.all false
/-! The mathematics, in plain Lean: sums of words over rows, by rationals. No program in sight. -/
namespace K22
/-! ### numbers -/
theorem divInt_num {t b : Int} (hb : 0 < b) : (Rat.divInt t b).num = t / ((Nat.gcd t.natAbs b.natAbs : Nat) : Int) := by
  have h := Rat.num_divInt t b
  have hs : b.sign = 1 := Int.sign_eq_one_of_pos hb
  rw [h, hs, Int.one_mul]
  show t / ((Nat.gcd b.natAbs t.natAbs : Nat) : Int) = _
  rw [Nat.gcd_comm]
theorem divInt_den {t b : Int} (hb : 0 < b) : (((Rat.divInt t b).den : Nat) : Int) = b / ((Nat.gcd t.natAbs b.natAbs : Nat) : Int) := by
  have h := Rat.den_divInt t b
  rw [if_neg (by omega)] at h
  rw [h]
  show ((b.natAbs / Nat.gcd b.natAbs t.natAbs : Nat) : Int) = _
  rw [Nat.gcd_comm, Int.natCast_ediv]
  congr 1
  omega
theorem add_divInt (a b : Rat) : Rat.divInt (a.num * ((b.den : Nat) : Int) + b.num * ((a.den : Nat) : Int)) (((a.den : Nat) : Int) * ((b.den : Nat) : Int)) = a + b := by
  rw [Rat.add_def', ← Int.natCast_mul, Rat.divInt_ofNat]
theorem mul_divInt (a b : Rat) : Rat.divInt (a.num * b.num) (((a.den : Nat) : Int) * ((b.den : Nat) : Int)) = a * b := by
  rw [Rat.mul_def', ← Int.natCast_mul, Rat.divInt_ofNat]
theorem self_divInt (q : Rat) : Rat.divInt q.num ((q.den : Nat) : Int) = q := Rat.num_divInt_den q
theorem den_pos (q : Rat) : 0 < ((q.den : Nat) : Int) := by
  have := q.den_nz
  omega
/-- top and bottom below 2 ^ n -/
def Bd (n : Nat) (q : Rat) : Prop := q.num.natAbs < 2 ^ n ∧ q.den < 2 ^ n
theorem Bd.mono {n m : Nat} {q : Rat} (h : Bd n q) (hn : n ≤ m) : Bd m q :=
  ⟨Nat.lt_of_lt_of_le h.1 (Nat.pow_le_pow_right (by decide) hn), Nat.lt_of_lt_of_le h.2 (Nat.pow_le_pow_right (by decide) hn)⟩
theorem bd_divInt {t b : Int} {n : Nat} (hb : 0 < b) (h1 : t.natAbs < 2 ^ n) (h2 : b.natAbs < 2 ^ n) : Bd n (Rat.divInt t b) := by
  refine ⟨?_, ?_⟩
  · rw [divInt_num hb]
    refine Nat.lt_of_le_of_lt ?_ h1
    exact Int.natAbs_ediv_le_natAbs _ _
  · have e := divInt_den (t := t) hb
    have h3 : b / ((Nat.gcd t.natAbs b.natAbs : Nat) : Int) ≤ b := Int.ediv_le_self _ (by omega)
    omega
theorem mul_lt_pow {x y n m : Nat} (h1 : x < 2 ^ n) (h2 : y < 2 ^ m) : x * y < 2 ^ (n + m) := by
  rw [Nat.pow_add]
  exact Nat.mul_lt_mul'' h1 h2
theorem Bd.mul {n m : Nat} {a b : Rat} (ha : Bd n a) (hb : Bd m b) : Bd (n + m) (a * b) := by
  rw [← mul_divInt]
  refine bd_divInt (Int.mul_pos (den_pos a) (den_pos b)) ?_ ?_
  · rw [Int.natAbs_mul]
    exact mul_lt_pow ha.1 hb.1
  · rw [Int.natAbs_mul]
    exact mul_lt_pow (by rw [Int.natAbs_natCast]; exact ha.2) (by rw [Int.natAbs_natCast]; exact hb.2)
theorem add_num_lt {n m : Nat} {a b : Rat} (ha : Bd n a) (hb : Bd m b) : (a.num * ((b.den : Nat) : Int) + b.num * ((a.den : Nat) : Int)).natAbs < 2 ^ (n + m + 1) := by
  have h1 : (a.num * ((b.den : Nat) : Int)).natAbs < 2 ^ (n + m) := by
    rw [Int.natAbs_mul, Int.natAbs_natCast]
    exact mul_lt_pow ha.1 hb.2
  have h2 : (b.num * ((a.den : Nat) : Int)).natAbs < 2 ^ (n + m) := by
    rw [Int.natAbs_mul, Int.natAbs_natCast, Nat.add_comm n m]
    exact mul_lt_pow hb.1 ha.2
  have h3 := Int.natAbs_add_le (a.num * ((b.den : Nat) : Int)) (b.num * ((a.den : Nat) : Int))
  rw [Nat.pow_succ]
  omega
theorem den_mul_lt {n m : Nat} {a b : Rat} (ha : Bd n a) (hb : Bd m b) : (((a.den : Nat) : Int) * ((b.den : Nat) : Int)).natAbs < 2 ^ (n + m) := by
  rw [Int.natAbs_mul]
  exact mul_lt_pow (by rw [Int.natAbs_natCast]; exact ha.2) (by rw [Int.natAbs_natCast]; exact hb.2)
theorem Bd.add {n m : Nat} {a b : Rat} (ha : Bd n a) (hb : Bd m b) : Bd (n + m + 1) (a + b) := by
  rw [← add_divInt]
  refine bd_divInt (Int.mul_pos (den_pos a) (den_pos b)) (add_num_lt ha hb) ?_
  exact Nat.lt_of_lt_of_le (den_mul_lt ha hb) (Nat.pow_le_pow_right (by decide) (by omega))
theorem bd_one : Bd 1 (1 : Rat) := by
  refine ⟨?_, ?_⟩ <;> decide
theorem bd_zero : Bd 1 (0 : Rat) := by
  refine ⟨?_, ?_⟩ <;> decide
/-! ### what letters come to; sums of words -/
def worth : List Nat → List Rat → Rat
  | p :: l, q :: r => q ^ p * worth l r
  | _, _ => 1
def S : List (List Rat) → List (List Nat) → Rat
  | _, [] => 1
  | [], _ :: _ => 0
  | r :: rs, l :: w => worth l r * S rs w + S rs (l :: w)
theorem S_nil (rs : List (List Rat)) : S rs [] = 1 := by
  cases rs <;> rfl
theorem S_none (l : List Nat) (w : List (List Nat)) : S [] (l :: w) = 0 := rfl
theorem S_cons (r : List Rat) (rs : List (List Rat)) (l : List Nat) (w : List (List Nat)) : S (r :: rs) (l :: w) = worth l r * S rs w + S rs (l :: w) := rfl
theorem S_snoc (l : List Nat) (r : List Rat) : ∀ (rs : List (List Rat)) (w : List (List Nat)), S (rs ++ [r]) (w ++ [l]) = S rs (w ++ [l]) + S rs w * worth l r
  | [], [] => by
    show worth l r * S [] [] + S [] [l] = S [] [l] + S [] [] * worth l r
    rw [S_nil, S_none]
    grind
  | [], a :: w => by
    show worth a r * S [] (w ++ [l]) + S [] (a :: (w ++ [l])) = S [] (a :: (w ++ [l])) + S [] (a :: w) * worth l r
    rw [S_none, S_none]
    have e : S [] (w ++ [l]) = 0 := by cases w <;> rfl
    rw [e]
    grind
  | b :: rs, [] => by
    have ih := S_snoc l r rs []
    simp only [List.nil_append] at ih
    show worth l b * S (rs ++ [r]) [] + S (rs ++ [r]) [l] = (worth l b * S rs [] + S rs [l]) + S (b :: rs) [] * worth l r
    rw [ih]
    simp only [S_nil]
    grind
  | b :: rs, a :: w => by
    have h1 := S_snoc l r rs w
    have h2 := S_snoc l r rs (a :: w)
    show worth a b * S (rs ++ [r]) (w ++ [l]) + S (rs ++ [r]) (a :: (w ++ [l])) = (worth a b * S rs (w ++ [l]) + S rs (a :: (w ++ [l]))) + (worth a b * S rs w + S rs (a :: w)) * worth l r
    rw [show a :: (w ++ [l]) = (a :: w) ++ [l] from rfl, h1, h2]
    grind
theorem S_rev : ∀ (rs : List (List Rat)) (w : List (List Nat)), S rs.reverse w.reverse = S rs w
  | [], [] => rfl
  | [], l :: w => by
    rw [List.reverse_cons, List.reverse_nil, S_none]
    cases w.reverse <;> rfl
  | r :: rs, [] => by
    rw [List.reverse_nil, S_nil, S_nil]
  | r :: rs, l :: w => by
    have h1 := S_rev rs (l :: w)
    rw [List.reverse_cons] at h1
    rw [List.reverse_cons, List.reverse_cons, S_snoc, h1, S_rev rs w, S_cons]
    grind
theorem S_take {rs : List (List Rat)} {i : Nat} {r : List Rat} (h : rs[i]? = some r) (w : List (List Nat)) (l : List Nat) : S (rs.take (i + 1)) (w ++ [l]) = S (rs.take i) (w ++ [l]) + S (rs.take i) w * worth l r := by
  rw [← S_snoc, List.take_succ, h]
  rfl
theorem S_back {rs : List (List Rat)} {w : List (List Nat)} {j : Nat} (hj : j ≤ rs.length) : S (rs.reverse.take (rs.length - j)) w.reverse = S (rs.drop j) w := by
  have e : rs.reverse.take (rs.length - j) = (rs.drop j).reverse := by
    rw [List.take_reverse]
    congr 2
    omega
  rw [e, S_rev]
/-! ### sums -/
def sm : List Rat → Rat
  | [] => 0
  | x :: l => x + sm l
theorem sm_append : ∀ l m : List Rat, sm (l ++ m) = sm l + sm m
  | [], m => by
    show sm m = 0 + sm m
    grind
  | x :: l, m => by
    show x + sm (l ++ m) = (x + sm l) + sm m
    rw [sm_append l m]
    grind
theorem sm_take {l : List Rat} {i : Nat} {x : Rat} (h : l[i]? = some x) : sm (l.take (i + 1)) = sm (l.take i) + x := by
  rw [List.take_succ, h, sm_append]
  show _ + (x + 0) = _
  grind
theorem sm_flat {α : Type} (f : α → List Rat) : ∀ l : List α, sm (l.flatMap f) = sm (l.map fun x => sm (f x))
  | [] => rfl
  | x :: l => by
    rw [List.flatMap_cons, sm_append, sm_flat f l]
    rfl
theorem sm_mul (c : Rat) : ∀ l : List Rat, sm (l.map fun x => c * x) = c * sm l
  | [] => by
    show (0 : Rat) = c * 0
    grind
  | x :: l => by
    show c * x + sm (l.map fun x => c * x) = c * (x + sm l)
    rw [sm_mul c l]
    grind
theorem sm_add {α : Type} (f g : α → Rat) : ∀ l : List α, sm (l.map fun x => f x + g x) = sm (l.map f) + sm (l.map g)
  | [] => by
    show (0 : Rat) = 0 + 0
    grind
  | x :: l => by
    show f x + g x + sm (l.map fun x => f x + g x) = (f x + sm (l.map f)) + (g x + sm (l.map g))
    rw [sm_add f g l]
    grind
/-! ### cuts -/
def cutOf (rs ss : List (List Rat)) (w : List (List Nat)) (i : Nat) : Rat := S rs (w.take i) * S ss (w.drop i)
theorem S_cut (ss : List (List Rat)) : ∀ (rs : List (List Rat)) (w : List (List Nat)), sm ((List.range (w.length + 1)).map (cutOf rs ss w)) = S (rs ++ ss) w
  | [], w => by
    rw [List.nil_append, List.range_succ_eq_map, List.map_cons, List.map_map]
    have e : (List.range w.length).map (cutOf [] ss w ∘ Nat.succ) = (List.range w.length).map fun _ => (0 : Rat) := by
      apply List.map_congr_left
      intro i hi
      have hi' := List.mem_range.mp hi
      show S [] (w.take (i + 1)) * S ss (w.drop (i + 1)) = 0
      cases w with
      | nil => exact absurd hi' (Nat.not_lt_zero _)
      | cons l w =>
        rw [List.take_succ_cons, S_none]
        grind
    have z : ∀ n : Nat, sm ((List.range n).map fun _ => (0 : Rat)) = 0 := by
      intro n
      generalize List.range n = l
      induction l with
      | nil => rfl
      | cons a l ih =>
        show (0 : Rat) + sm (l.map fun _ => (0 : Rat)) = 0
        rw [ih]
        grind
    rw [e]
    show cutOf [] ss w 0 + sm ((List.range w.length).map fun _ => (0 : Rat)) = S ss w
    rw [z]
    unfold cutOf
    rw [List.take_zero, List.drop_zero, S_nil]
    grind
  | r :: rs, [] => by
    show sm ([0].map (cutOf (r :: rs) ss [])) = S (r :: rs ++ ss) []
    show cutOf (r :: rs) ss [] 0 + 0 = _
    unfold cutOf
    rw [List.take_nil, List.drop_nil, S_nil, S_nil, S_nil]
    grind
  | r :: rs, l :: w => by
    have h1 := S_cut ss rs w
    have h2 := S_cut ss rs (l :: w)
    rw [List.length_cons, List.range_succ_eq_map, List.map_cons, List.map_map] at h2 ⊢
    have e : (List.range (w.length + 1)).map (cutOf (r :: rs) ss (l :: w) ∘ Nat.succ) = (List.range (w.length + 1)).map fun i => worth l r * cutOf rs ss w i + (cutOf rs ss (l :: w) ∘ Nat.succ) i := by
      apply List.map_congr_left
      intro i _
      show S (r :: rs) ((l :: w).take (i + 1)) * S ss ((l :: w).drop (i + 1)) = worth l r * (S rs (w.take i) * S ss (w.drop i)) + S rs ((l :: w).take (i + 1)) * S ss ((l :: w).drop (i + 1))
      rw [List.take_succ_cons, List.drop_succ_cons, S_cons]
      grind
    rw [e, List.cons_append, S_cons, ← h1, ← h2]
    show cutOf (r :: rs) ss (l :: w) 0 + sm ((List.range (w.length + 1)).map fun i => worth l r * cutOf rs ss w i + (cutOf rs ss (l :: w) ∘ Nat.succ) i) = worth l r * sm ((List.range (w.length + 1)).map (cutOf rs ss w)) + (cutOf rs ss (l :: w) 0 + sm ((List.range (w.length + 1)).map (cutOf rs ss (l :: w) ∘ Nat.succ)))
    rw [sm_add (fun i => worth l r * cutOf rs ss w i) (cutOf rs ss (l :: w) ∘ Nat.succ)]
    have e2 : sm ((List.range (w.length + 1)).map fun i => worth l r * cutOf rs ss w i) = worth l r * sm ((List.range (w.length + 1)).map (cutOf rs ss w)) := by
      rw [← sm_mul, List.map_map]
      rfl
    have e3 : cutOf (r :: rs) ss (l :: w) 0 = cutOf rs ss (l :: w) 0 := by
      unfold cutOf
      rw [List.take_zero, S_nil, S_nil]
    rw [e2, e3]
    grind
/-! ### choices -/
def nxt (c : List Nat) : Nat := match c.getLast? with
  | none => 0
  | some x => x + 1
theorem nxt_snoc (c : List Nat) (x : Nat) : nxt (c ++ [x]) = x + 1 := by
  unfold nxt
  rw [List.getLast?_append]
  rfl
def ext (n : Nat) (c : List Nat) : List (List Nat) := (List.range (n - nxt c)).map fun i => c ++ [nxt c + i]
def chs (n : Nat) : Nat → List (List Nat)
  | 0 => [[]]
  | k + 1 => (chs n k).flatMap (ext n)
def pw (rows : List (List Rat)) : List Nat → List (List Nat) → Rat
  | c :: cs, l :: w => worth l (rows.getD c []) * pw rows cs w
  | _, _ => 1
theorem pw_snoc (rows : List (List Rat)) (x : Nat) (l : List Nat) : ∀ (c : List Nat) (w : List (List Nat)), c.length = w.length → pw rows (c ++ [x]) (w ++ [l]) = pw rows c w * worth l (rows.getD x [])
  | [], [], _ => by
    show worth l (rows.getD x []) * 1 = 1 * worth l (rows.getD x [])
    grind
  | [], _ :: _, h => by cases h
  | _ :: _, [], h => by cases h
  | a :: c, b :: w, h => by
    have ih := pw_snoc rows x l c w (Nat.succ.inj h)
    show worth b (rows.getD a []) * pw rows (c ++ [x]) (w ++ [l]) = worth b (rows.getD a []) * pw rows c w * worth l (rows.getD x [])
    rw [ih]
    grind
theorem chs_length (n : Nat) : ∀ (k : Nat) (c : List Nat), c ∈ chs n k → c.length = k
  | 0, c, h => by
    have e : c = [] := List.mem_singleton.mp h
    rw [e]
    rfl
  | k + 1, c, h => by
    obtain ⟨d, hd, hc⟩ := List.mem_flatMap.mp h
    obtain ⟨i, _, rfl⟩ := List.mem_map.mp hc
    rw [List.length_append, chs_length n k d hd]
    rfl
theorem S_drop (rows : List (List Rat)) (l : List Nat) (v : List (List Nat)) : ∀ (m j : Nat), rows.length - j = m → S (rows.drop j) (l :: v) = sm ((List.range m).map fun i => worth l (rows.getD (j + i) []) * S (rows.drop (j + i + 1)) v)
  | 0, j, h => by
    rw [List.drop_eq_nil_of_le (by omega), S_none]
    rfl
  | m + 1, j, h => by
    have hj : j < rows.length := by omega
    have ih := S_drop rows l v m (j + 1) (by omega)
    rw [List.drop_eq_getElem_cons hj, S_cons, ih, List.range_succ_eq_map, List.map_cons, List.map_map]
    have e0 : rows.getD (j + 0) [] = rows[j] := by
      rw [Nat.add_zero, List.getD_eq_getElem?_getD, List.getElem?_eq_getElem hj]
      rfl
    have e : (List.range m).map ((fun i => worth l (rows.getD (j + i) []) * S (rows.drop (j + i + 1)) v) ∘ Nat.succ) = (List.range m).map fun i => worth l (rows.getD (j + 1 + i) []) * S (rows.drop (j + 1 + i + 1)) v := by
      apply List.map_congr_left
      intro i _
      show worth l (rows.getD (j + (i + 1)) []) * S (rows.drop (j + (i + 1) + 1)) v = _
      rw [show j + (i + 1) = j + 1 + i by omega]
    rw [e]
    show _ = worth l (rows.getD (j + 0) []) * S (rows.drop (j + 0 + 1)) v + _
    rw [e0]
theorem chs_sum (rows : List (List Rat)) : ∀ (k : Nat) (u v : List (List Nat)), u.length = k → sm ((chs rows.length k).map fun c => pw rows c u * S (rows.drop (nxt c)) v) = S rows (u ++ v)
  | 0, u, v, h => by
    have e : u = [] := List.length_eq_zero_iff.mp h
    subst e
    show (1 : Rat) * S (rows.drop 0) v + 0 = S rows v
    rw [List.drop_zero]
    grind
  | k + 1, u, v, h => by
    obtain ⟨u', l, rfl⟩ : ∃ u' l, u = u' ++ [l] := ⟨u.dropLast, u.getLast (by intro z; rw [z] at h; cases h), (List.dropLast_concat_getLast _).symm⟩
    have hu : u'.length = k := by
      rw [List.length_append] at h
      exact Nat.succ.inj h
    have ih := chs_sum rows k u' (l :: v) hu
    rw [show u' ++ [l] ++ v = u' ++ (l :: v) by simp, ← ih]
    show sm (((chs rows.length k).flatMap (ext rows.length)).map _) = _
    rw [List.map_flatMap, sm_flat]
    congr 1
    apply List.map_congr_left
    intro c hc
    have hl := chs_length _ _ _ hc
    unfold ext
    rw [List.map_map, S_drop rows l v (rows.length - nxt c) (nxt c) rfl, ← sm_mul, List.map_map]
    congr 1
    apply List.map_congr_left
    intro i _
    show pw rows (c ++ [nxt c + i]) (u' ++ [l]) * S (rows.drop (nxt (c ++ [nxt c + i]))) v = pw rows c u' * (worth l (rows.getD (nxt c + i) []) * S (rows.drop (nxt c + i + 1)) v)
    rw [pw_snoc rows _ l c u' (by rw [hl, hu]), nxt_snoc]
    grind
theorem chs_S (rows : List (List Rat)) (w : List (List Nat)) : sm ((chs rows.length w.length).map fun c => pw rows c w) = S rows w := by
  have h := chs_sum rows w.length w [] rfl
  rw [List.append_nil] at h
  rw [← h]
  congr 1
  apply List.map_congr_left
  intro c _
  rw [S_nil]
  grind
theorem chs_lt (n : Nat) : ∀ (k : Nat) (c : List Nat), c ∈ chs n k → ∀ x ∈ c, x < n
  | 0, c, h, x, hx => by
    have e : c = [] := List.mem_singleton.mp h
    rw [e] at hx
    cases hx
  | k + 1, c, h, x, hx => by
    obtain ⟨d, hd, hc⟩ := List.mem_flatMap.mp h
    obtain ⟨i, hi, rfl⟩ := List.mem_map.mp hc
    have hi' := List.mem_range.mp hi
    rcases List.mem_append.mp hx with h1 | h1
    · exact chs_lt n k d hd x h1
    · rw [List.mem_singleton.mp h1]
      omega
theorem chs_few : ∀ n : Nat, n ≤ 5 → ∀ k : Nat, k ≤ 4 → (chs n k).length ≤ 10 := by
  decide
end K22
set_option Elab.async false
set_option linter.all false
set_option maxRecDepth 100000
set_option maxHeartbeats 4000000
/-! Walks: what a value is; the Ratio. -/
namespace K22
open PySem PySem.Spec PyProof.Rows L2
/-- an int, or a Ratio -/
def IntOr (C : Addr) (H : Hp) (x : V) (b : Bool) : Prop := (∃ i, x = .int i ∧ b = true) ∨ ∃ a dx fs, x = .ref a ∧ H a = some (.ins C dx fs) ∧ b = false
def spIsInt (C : Addr) : Sp := fun vs H Q _ => ∃ x b, vs = [x] ∧ IntOr C H x b ∧ Q (.bl b) H
def spIsCount : Sp := fun vs H Q _ => ∃ i : Int, vs = [.int i] ∧ Q (.bl (decide (0 ≤ i))) H
def spIsList : Sp := fun vs H Q _ => ∃ a xs, vs = [.ref a] ∧ (H a = some (.lst xs) ∨ H a = some (.tup xs)) ∧ ∀ H', Same H H' → Q (.bl true) H'
def spAtMost : Sp := fun vs H Q _ => ∃ (s : V) (l n : Int), vs = [s, .int l, .int n] ∧ n ≤ l ∧ Q .non H
def spGcd : Sp := fun vs H Q _ => ∃ a b : Int, vs = [.int a, .int b] ∧ Q (.int ((Nat.gcd a.natAbs b.natAbs : Nat) : Int)) H
section
variable {P : Program} {w : World} {K : PySem.W.Frag} {mg : Str → Option Value} {base : Heap} {CR CT fR fE fT : Addr} (T : Txt K mg CR CT fR fE fT)
include T
theorem ty_rat {H : Hp} {a dx : Addr} {fs : List (Str × V)} (h : H a = some (.ins CR dx fs)) : TyX K H (.ref a) (.ref CR) := .base (.ins h T.insR.cl T.insR.ha T.insR.hn T.insR.htk T.insR.hm)
theorem ty_tab {H : Hp} {a dx : Addr} {fs : List (Str × V)} (h : H a = some (.ins CT dx fs)) : TyX K H (.ref a) (.ref CT) := .base (.ins h T.insT.cl T.insT.ha T.insT.hn T.insT.htk T.insT.hm)
theorem c_is_integer : Cal P w K mg base 1 "is_integer" ["value"] (spIsInt CR) := by
  refine mkCal T.a_is_integer sc_is_integer (fun _ _ _ _ _ _ us hl => match us, hl with | [_], _ => rfl) (by rintro vs H Q E ⟨x, b, rfl, _⟩; rfl) fun f cdv A outer s H vs Q E hr h => ?_
  obtain ⟨x, b, rfl, hx, q⟩ := h
  refine ⟨_, pss_one (ps_ret (pe_and (pe_callB call_isi (by rfl) T.n_isinstance (by decide +kernel) (pa_cons (pv 0) (pa_cons (pe_bltn (v := .ty "int") (by rfl) T.n_int (by decide +kernel) rfl) pa_nil)))
    (pe_one (pe_not (pe_callB call_isi (by rfl) T.n_isinstance (by decide +kernel) (pa_cons (pv 0) (pa_cons (pe_bltn (v := .ty "bool") (by rfl) T.n_bool (by decide +kernel) rfl) pa_nil))))))), ?_⟩
  rcases hx with ⟨i, rfl, rfl⟩ | ⟨a, dx, fs, rfl, ha, rfl⟩
  · exact ⟨_, rfl, _, _, _, _, true, rfl, .ty "int", .base (.int i), kit_ty (by decide +kernel), true, rfl, iteT ⟨_, rfl, _, _, _, _, false, rfl, .ty "bool", .base (.int i), kit_ty (by decide +kernel), false, rfl, q⟩⟩
  · exact ⟨_, rfl, _, _, _, _, false, rfl, .ty "int", ty_rat T ha, T.kRi, false, rfl, iteF q⟩
theorem c_is_count : Cal P w K mg base 2 "is_count" ["value"] spIsCount := by
  refine mkCal T.a_is_count sc_is_count (fun _ _ _ _ _ _ us hl => match us, hl with | [_], _ => rfl) (by rintro vs H Q E ⟨x, rfl, _⟩; rfl) fun f cdv A outer s H vs Q E hr h => ?_
  obtain ⟨i, rfl, q⟩ := h
  refine ⟨_, pss_one (ps_ret (pe_and (pe_f (c_is_integer T) hr (pa_cons (pv 0) pa_nil)) (pe_one (pe_cmpR op_ge (pv 0) pe_int (nomark _))))), ?_⟩
  exact ⟨_, rfl, _, true, rfl, .inl ⟨i, rfl, rfl⟩, true, rfl, iteT ⟨_, rfl, _, _, rfl, rfl, q⟩⟩
theorem c_is_list : Cal P w K mg base 1 "is_list" ["value"] spIsList := by
  refine mkCal T.a_is_list sc_is_list (fun _ _ _ _ _ _ us hl => match us, hl with | [_], _ => rfl) (by rintro vs H Q E ⟨x, xs, rfl, _⟩; rfl) fun f cdv A outer s H vs Q E hr h => ?_
  obtain ⟨a, xs, rfl, hx, q⟩ := h
  refine ⟨_, pss_one (ps_ret (pe_callB call_isiT (by rfl) T.n_isinstance (by decide +kernel) (pa_cons (pv 0) (pa_cons (pe_tup (pa_cons (pe_bltn (v := .ty "list") (by rfl) T.n_list (by decide +kernel) rfl) (pa_cons (pe_bltn (v := .ty "tuple") (by rfl) T.n_tuple (by decide +kernel) rfl) pa_nil))) pa_nil)))), ?_⟩
  refine ⟨_, rfl, (by show 2 ≤ sizeLine; decide), fun p hp => ?_⟩
  have s1 : Same H (upd H p (.tup [.ty "list", .ty "tuple"])) := Same.new hp
  rcases hx with hx | hx
  · exact ⟨_, p, _, .type "list", _, true, rfl, upd_same, .cons (.ty "list") (.cons (.ty "tuple") .nil), .base (.lst (s1 _ _ hx)), kitAny_cons (b := true) (kit_ty (by decide +kernel)) (fun z => by cases z) (fun _ => rfl), q _ s1⟩
  · exact ⟨_, p, _, .type "tuple", _, true, rfl, upd_same, .cons (.ty "list") (.cons (.ty "tuple") .nil), .base (.tup (s1 _ _ hx)), kitAny_cons (b := false) (kit_ty (by decide +kernel)) (fun _ => kitAny_cons (b := true) (kit_ty (by decide +kernel)) (fun z => by cases z) (fun _ => rfl)) (fun z => by cases z), q _ s1⟩
theorem c_want_at_most : Cal P w K mg base 1 "want_at_most" ["what", "limit", "number"] spAtMost := by
  refine mkCal T.a_want_at_most sc_want_at_most (fun _ _ _ _ _ _ us hl => match us, hl with | [_, _, _], _ => rfl) (by rintro vs H Q E ⟨_, _, _, rfl, _⟩; rfl) fun f cdv A outer s H vs Q E hr h => ?_
  obtain ⟨x, l, n, rfl, hn, q⟩ := h
  refine ⟨_, pss_one (ps_if (pt_cmpR op_gt (pv 2) (pv 1) (nomark _)) (pss_one ps_never) pss_nil), ?_⟩
  exact ⟨_, rfl, _, rfl, _, _, rfl, rfl, _, rfl, ite2 (fun z => absurd (of_decide_eq_true z) (by omega)) fun _ => q⟩
theorem c_divisor_of : Cal P w K mg base 1 "divisor_of" ["one", "other"] spGcd := by
  refine mkCal T.a_divisor_of sc_divisor_of (fun _ _ _ _ _ _ us hl => match us, hl with | [_, _], _ => rfl) (by rintro vs H Q E ⟨_, _, rfl, _⟩; rfl) fun f cdv A outer s H vs Q E hr h => ?_
  obtain ⟨a, b, rfl, q⟩ := h
  refine ⟨_, pss_one (ps_ret (pe_callBfun cr_gcd (by rfl) T.gcd (pa_cons (pv 0) (pa_cons (pv 1) pa_nil)))), ?_⟩
  exact ⟨_, rfl, _, rfl, _, _, rfl, q⟩
end
end K22
set_option Elab.async false
set_option linter.all false
set_option maxRecDepth 100000
set_option maxHeartbeats 4000000
/-! Walks: the Ratio made, compared; NUMBERS. -/
namespace K22
open PySem PySem.Spec PyProof.Rows L2
theorem log_lt {b : Int} (hb : b.natAbs < 2 ^ 9000) : b.natAbs.log2 < 9000 := PySem.Flt.log2_lt_of (by decide) hb
theorem gcd_pos {t b : Int} (hb : 0 < b) : 0 < ((Nat.gcd t.natAbs b.natAbs : Nat) : Int) := by
  have h : 0 < Nat.gcd t.natAbs b.natAbs := Nat.gcd_pos_of_pos_right _ (by omega)
  omega
theorem gcd_wide {t b : Int} (hb : 0 < b) (h9 : b.natAbs < 2 ^ 9000) (i : Int) : CDivW i ((Nat.gcd t.natAbs b.natAbs : Nat) : Int) := by
  refine ⟨gcd_pos hb, log_lt ?_⟩
  rw [Int.natAbs_natCast]
  exact Nat.lt_of_le_of_lt (Nat.le_of_dvd (by omega) (Nat.gcd_dvd_right _ _)) h9
theorem okN {P : Program} {w : World} {K : PySem.W.Frag} {mg : Str → Option Value} {base : Heap} {x qual : Str} {st : Stmt} {dvs : List V} {kws : List (Str × V)} {f : Addr} {fd : FuncData} {N ps : List Str} {k : Nat} {sp : Sp}
    (F : FunD K x qual (defArgs st) (defBody st) (defScope st) dvs kws f fd) (S : FnScope N ps (defScope st)) (len : ∀ vs H Q E, sp vs H Q E → vs.length = ps.length)
    (hbody : ∀ (cdv : Value) (A : Around) (outer : List Env) (s : Shared) (H : Hp) (vs : List V) (Q : VK) (E : XK), Room k (A.deeper (envOfC qual (defScope st) s.heap.objs.size f cdv)) → sp vs H Q E →
      ∃ t, PSs (cxOf CX0 P w K mg base N qual (defScope st) f cdv A outer s H E).nox (defBody st) t ∧ t { nx := fun _ H' => Q .non H', rt := Q } (L2.start N vs) H) : FnOk P w K mg base CX0 (k + 1) f fd ps sp :=
  F.ok S len fun cdv A outer s H vs Q E hr h => by
    obtain ⟨t, h1, h2⟩ := hbody cdv A outer s H vs Q E hr h
    exact ⟨t, h1.nox, h2⟩
def spRatInit (CR : Addr) : Sp := fun vs H Q _ => ∃ (p dx : Addr) (t b : Int), vs = [.ref p, .int t, .int b] ∧ H p = some (.ins CR dx []) ∧ 0 < b ∧ b.natAbs < 2 ^ 9000 ∧
  ∀ H', RatAt CR H' p (Rat.divInt t b) → (∀ c o, c ≠ p → H c = some o → H' c = some o) → Q .non H'
/-- the same Ratio -/
def SameR (CR : Addr) (a b : Addr) (H : Hp) : Prop := ∃ q, RatAt CR H a q ∧ RatAt CR H b q
section
variable {P : Program} {w : World} {K : PySem.W.Frag} {mg : Str → Option Value} {base : Heap} {CR CT fR fE fT : Addr} (T : Txt K mg CR CT fR fE fT)
include T
theorem f_rat_init : ∃ fd, FnOk P w K mg base CX0 2 fR fd ["self", "top", "bottom"] (spRatInit CR) ∧ Binds K fd ["self", "top", "bottom"] [] ∧ ∃ d1 : Value, Vals [V.int 1] [d1] ∧ Binds K fd ["self", "top", "bottom"] [d1] := by
  obtain ⟨fd, F⟩ := T.fR
  refine ⟨fd, okN F sc_Ratio_init (by rintro vs H Q E ⟨_, _, _, _, rfl, _⟩; rfl) fun cdv A outer s H vs Q E hr h => ?_, ?_, ?_⟩
  · obtain ⟨p, dx, t, b, rfl, hp, hb, h9, q⟩ := h
    refine ⟨_, pss_cons (ps_if (pt_not (pt_val (pe_f (c_is_integer T) hr (pa_cons (pv 1) pa_nil)))) (pss_one ps_never) pss_nil)
      (pss_cons (ps_if (PW.pt (pw_or (pt_not (pt_val (pe_f (c_is_integer T) hr (pa_cons (pv 2) pa_nil)))) (pw_or1 (pt_cmpR op_eq (pv 2) pe_int (nomark _))))) (pss_one ps_never) pss_nil)
      (pss_cons (ps_set (i := 3) sc_Ratio_init.nd rfl (.inl rfl) (pe_f (c_divisor_of T) hr (pa_cons (pv 1) (pa_cons (pv 2) pa_nil))))
      (pss_cons (ps_if (pt_cmpR op_lt (pv 2) pe_int (nomark _)) (pss_one ps_never) pss_nil)
      (pss_cons (ps_fld (pv 0) (pe_op op_fdivW (pv 1) (pv 3)) rfl)
      (pss_one (ps_fld (pv 0) (pe_op op_fdivW (pv 2) (pv 3)) rfl)))))), ?_⟩
    refine ⟨_, rfl, _, true, rfl, .inl ⟨t, rfl, rfl⟩, true, rfl, iteF ?_⟩
    refine ⟨_, rfl, _, true, rfl, .inl ⟨b, rfl, rfl⟩, true, rfl, iteF ?_⟩
    have hne : decide (V.int b = V.int 0) = false := decide_eq_false fun z => by
      have := V.int.inj z
      omega
    refine ⟨_, rfl, rfl, _, rfl, ?_⟩
    rw [hne]
    refine iteF ?_
    refine ⟨_, rfl, _, rfl, _, _, rfl, ?_⟩
    refine ⟨_, rfl, _, _, rfl, rfl, _, rfl, ite2 (fun z => absurd (of_decide_eq_true z) (by omega)) fun _ => ?_⟩
    refine ⟨_, rfl, _, rfl, _, _, rfl, rfl, gcd_wide hb h9 t, _, rfl, p, CR, dx, [], rfl, hp, T.insR.cl, T.nR1, (by show 0 < 1000; decide), ?_⟩
    refine ⟨_, rfl, _, rfl, _, _, rfl, rfl, gcd_wide hb h9 b, _, rfl, p, CR, dx, _, rfl, upd_same, T.insR.cl, T.nR2, (by show 1 < 1000; decide), ?_⟩
    refine q _ ⟨dx, ?_⟩ fun c o n e => ?_
    · rw [upd_same, divInt_num hb, divInt_den hb]
      rfl
    · rw [upd_ne n, upd_ne n]
      exact e
  · obtain ⟨ds, r, b⟩ := F.binds1 (ps := ["self", "top", "bottom"]) 3 1 (by simp) rfl fun T kV doc pm an cdv ct us its h1 h2 => match us, h1, its, h2 with
      | [_, _, _], _, [_], _ => ⟨_, rfl, rfl⟩
    cases r
    exact b
  · obtain ⟨ds, r, b⟩ := F.binds1 (ps := ["self", "top", "bottom"]) 2 0 (by simp) rfl fun T kV doc pm an cdv ct us its h1 h2 => match us, h1, its, h2 with
      | [_, _], _, [_], _ => ⟨_, rfl, rfl⟩
    cases r with
    | cons h t =>
      cases t
      exact ⟨_, .cons h .nil, b⟩
def spEqR (CR : Addr) : Sp := spEq (SameR CR)
theorem f_rat_eq : ∃ fd, FnOk P w K mg base CX0 1 fE fd ["self", "other"] (spEqR CR) ∧ Binds K fd ["self", "other"] [] := by
  obtain ⟨fd, F⟩ := T.fE
  refine ⟨fd, okN F sc_Ratio_eq (by rintro vs H Q E ⟨_, _, rfl, _⟩; rfl) fun cdv A outer s H vs Q E hr h => ?_, F.bindsN fun _ _ _ _ _ _ us hl => match us, hl with | [_, _], _ => rfl⟩
  obtain ⟨a, b, rfl, ⟨r, ⟨dx, ha⟩, dy, hb⟩, q⟩ := h
  refine ⟨_, pss_cons (ps_if (pt_not (pt_val (pe_callB call_isi (by rfl) T.n_isinstance (by decide +kernel) (pa_cons (pv 1) (pa_cons (pe_glob (v := .ref CR) (by rfl) T.gR rfl) pa_nil))))) (pss_one ps_never) pss_nil)
    (pss_one (ps_ret (pe_and (pe_cmpR op_eq (pe_fld (pv 0) rfl) (pe_fld (pv 1) rfl) (nomark _)) (pe_one (pe_cmpR op_eq (pe_fld (pv 0) rfl) (pe_fld (pv 1) rfl) (nomark _)))))), ?_⟩
  refine ⟨_, rfl, _, _, _, _, true, rfl, .own CR, ty_rat T hb, T.insR.me, true, rfl, iteF ?_⟩
  have e1 : decide (V.int r.num = V.int r.num) = true := decide_eq_true rfl
  have e2 : decide (V.int ((r.den : Nat) : Int) = V.int ((r.den : Nat) : Int)) = true := decide_eq_true rfl
  refine ⟨_, rfl, a, CR, dx, _, _, rfl, ha, T.insR.cl, T.nR1, rf_top _ _, _, rfl, b, CR, dy, _, _, rfl, hb, T.insR.cl, T.nR1, rf_top _ _, rfl, _, rfl, ?_⟩
  rw [e1]
  refine iteT ⟨_, rfl, a, CR, dx, _, _, rfl, ha, T.insR.cl, T.nR2, rf_bottom _ _, _, rfl, b, CR, dy, _, _, rfl, hb, T.insR.cl, T.nR2, rf_bottom _ _, rfl, ?_⟩
  rw [e2]
  exact q H Ext.rfl'
end
end K22
set_option Elab.async false
set_option linter.all false
set_option maxRecDepth 100000
set_option maxHeartbeats 4000000
/-! Walks: NUMBERS as Ratios; the least common bottom. And short words for readings. -/
namespace K22
open PySem PySem.Spec PyProof.Rows L2
/-! ### a reading that may be made stronger -/
def moA (t : TA) : TA := fun σ H Q => ∃ R : List V → Hp → Prop, t σ H R ∧ ∀ vs H1, R vs H1 → Q vs H1
theorem pa_mo {X : Cx} {es : List Expr} {t : TA} (h : PA X es t) : PA X es (moA t) :=
  ⟨fun cpos pins s σ H Q I q => by
    obtain ⟨R, h1, h2⟩ := q
    exact thn (h.run cpos pins s σ H R I h1) fun us s1 ⟨vs, H1, I1, r1, q1⟩ => ⟨vs, H1, I1, r1, h2 vs H1 q1⟩⟩
theorem pe_imp {X : Cx} {e : Expr} {t t' : TE} (h : PE X e t) (f : ∀ σ H Q, t' σ H Q → t σ H Q) : PE X e t' := ⟨fun pins s σ H Q I q => h.run pins s σ H Q I (f σ H Q q)⟩
/-- e.f, the written part by its name (in a comprehension's element) -/
theorem pe_fldK {X : Cx} {K : PySem.W.Frag} {e : Expr} {ta : TE} {f : Str} {pos : Pos} (hK : X.K = K) (he : PE X e ta) (hb : attributeBase e f X.env (eval e X.env) = eval e X.env := by rfl) : PE X (.Attribute e f pos) (tFld K ta f) := by
  subst hK
  exact pe_fld he hb
/-! ### the heap without one list that is being made -/
def off (D : Addr) (H : Hp) : Hp := fun c => if c = D then none else H c
theorem off_ne {D c : Addr} {H : Hp} (h : c ≠ D) : off D H c = H c := if_neg h
theorem off_at {D : Addr} {H : Hp} : off D H D = none := if_pos rfl
theorem off_some {D c : Addr} {H : Hp} {o : HO} (h : off D H c = some o) : c ≠ D ∧ H c = some o := by
  by_cases e : c = D
  · rw [e, off_at] at h
    cases h
  · rw [off_ne e] at h
    exact ⟨e, h⟩
theorem off_upd {D : Addr} {H : Hp} {o : HO} : off D (L2.upd H D o) = off D H := by
  funext c
  by_cases e : c = D
  · rw [e, off_at, off_at]
  · rw [off_ne e, off_ne e, upd_ne e]
theorem off_same {D : Addr} {H : Hp} : Same (off D H) H := fun c o h => (off_some h).2
theorem off_mono {D : Addr} {H H' : Hp} (s : Same H H') : Same (off D H) (off D H') := fun c o h => by
  obtain ⟨h1, h2⟩ := off_some h
  rw [off_ne h1]
  exact s _ _ h2
theorem off_kp {p D : Addr} {H H' : Hp} (s : Kp p H H') : Kp p (off D H) (off D H') := fun c o n h => by
  obtain ⟨h1, h2⟩ := off_some h
  rw [off_ne h1]
  exact s _ _ n h2
theorem off_of {D : Addr} {H H1 : Hp} (s : Same H H1) (h : H D = none) : Same H (off D H1) := fun c o e => by
  rw [off_ne (ne_of_none e h)]
  exact s _ _ e
theorem off_new {D : Addr} {H : Hp} {o : HO} (h : H D = none) : off D (L2.upd H D o) = H := by
  funext c
  by_cases e : c = D
  · rw [e, off_at, h]
  · rw [off_ne e, upd_ne e]
theorem off_in {D a : Addr} {H : Hp} {o : HO} (h : H a = some o) (n : a ≠ D) : off D H a = some o := by
  rw [off_ne n]
  exact h
/-- an object of another shape than D's is not D -/
theorem off_has {D a : Addr} {H : Hp} {o u : HO} (h : H a = some o) (hd : H D = some u) (n : o ≠ u) : off D H a = some o := off_in h (ne_of h hd n)
theorem Same.over {D : Addr} {H H1 : Hp} {o : HO} (s : Same H (off D H1)) : Same H (L2.upd H1 D o) := fun c u e => by
  obtain ⟨h1, h2⟩ := off_some (s _ _ e)
  rw [upd_ne h1]
  exact h2
theorem ratAt_off {C D a : Addr} {H : Hp} {q : Rat} {xs : List V} (h : RatAt C H a q) (hd : H D = some (.lst xs)) : RatAt C (off D H) a q := by
  obtain ⟨dx, h1⟩ := h
  exact ⟨dx, off_has h1 hd (by intro z; cases z)⟩
theorem map_snoc (as : List Addr) (a : Addr) : as.map V.ref ++ [V.ref a] = (as ++ [a]).map V.ref := by
  rw [List.map_append] <;> rfl
theorem take_snoc {α : Type} {l : List α} {i : Nat} {x : α} (h : l[i]? = some x) : l.take (i + 1) = l.take i ++ [x] := by
  rw [List.take_succ, h]
  rfl
/-! ### Ratio(a, b), Ratio(a) -/
def tRat (CR : Addr) (t : TA) : TE := fun σ H Q => t σ H fun vs H1 => ∃ n b : Int, vs = [.int n, .int b] ∧ 0 < b ∧ b.natAbs < 2 ^ 9000 ∧ ∀ p H', Same H1 H' → H1 p = none → RatAt CR H' p (Rat.divInt n b) → Q (.ref p) H'
def tRat1 (CR : Addr) (t : TA) : TE := fun σ H Q => t σ H fun vs H1 => ∃ n : Int, vs = [.int n] ∧ ∀ p H', Same H1 H' → H1 p = none → RatAt CR H' p (Rat.divInt n 1) → Q (.ref p) H'
theorem made_same {H H2 : Hp} {x dx C : Addr} (nx : H x = none) (ndx : H dx = none) (k : ∀ c o, c ≠ x → upd (upd H dx (.own x)) x (.ins C dx []) c = some o → H2 c = some o) : Same H H2 := fun c o e => by
  refine k c o (ne_of_none e nx) ?_
  rw [upd_ne (ne_of_none e nx), upd_ne (ne_of_none e ndx)]
  exact e
section
variable {X : Cx} {CR CT fR fE fT : Addr} (T : Txt X.K X.mg CR CT fR fE fT)
include T
theorem pe_rat {p pos : Pos} {a b : Expr} {t : TA} {j : Nat} (hr : Room j X.A) (ha : PA X [a, b] t) (hj : 3 ≤ j := by decide) (hg : Gl X "Ratio" := by rfl)
    (he : starEach [a, b] X.env = (false, eval a X.env) :: starEach [b] X.env := by rfl) (hpl : (backTo pos (starEach [b] X.env)).any (·.1) = false := by rfl) : PE X (.Call (.Name "Ratio" p) [a, b] [] pos) (tRat CR t) := by
  obtain ⟨fd, F, b0, _⟩ := f_rat_init (P := X.prog) (w := X.w) (base := X.base) T
  refine pe_imp (pe_make T.mkR F (hr.mono hj) hg T.gR b0 .nil pass0 (pa_mo ha) (by decide) he hpl) fun σ H Q h => ⟨_, h, fun vs H1 q => ?_⟩
  obtain ⟨n, b, rfl, hb, h9, q⟩ := q
  intro x dx nx ndx ne
  exact ⟨x, dx, n, b, rfl, upd_same, hb, h9, fun H' h1 h2 => ⟨rfl, q x H' (made_same nx ndx h2) nx h1⟩⟩
theorem pe_rat1 {p pos : Pos} {a : Expr} {t : TA} {j : Nat} (hr : Room j X.A) (ha : PA X [a] t) (hj : 3 ≤ j := by decide) (hg : Gl X "Ratio" := by rfl)
    (he : starEach [a] X.env = (false, eval a X.env) :: starEach [] X.env := by rfl) (hpl : (backTo pos (starEach [] X.env)).any (·.1) = false := by rfl) : PE X (.Call (.Name "Ratio" p) [a] [] pos) (tRat1 CR t) := by
  obtain ⟨fd, F, _, d1, r1, b1⟩ := f_rat_init (P := X.prog) (w := X.w) (base := X.base) T
  refine pe_imp (pe_make T.mkR F (hr.mono hj) hg T.gR b1 r1 pass0 (pa_mo ha) (by decide) he hpl) fun σ H Q h => ⟨_, h, fun vs H1 q => ?_⟩
  obtain ⟨n, rfl, q⟩ := q
  intro x dx nx ndx ne
  exact ⟨x, dx, n, 1, rfl, upd_same, by decide, by show (1 : Nat) < 2 ^ 9000; exact Nat.one_lt_two_pow (by decide), fun H' h1 h2 => ⟨rfl, q x H' (made_same nx ndx h2) nx h1⟩⟩
end
def spIsNum (CR : Addr) : Sp := fun vs H Q _ => ∃ x q, vs = [x] ∧ PasAt CR H x q ∧ Q (.bl true) H
def spRatioOf (CR : Addr) : Sp := fun vs H Q _ => ∃ x q, vs = [x] ∧ PasAt CR H x q ∧ ∀ a H', Same H H' → RatAt CR H' a q → Q (.ref a) H'
def lcmL (qs : List Rat) : Nat := qs.foldl (fun L q => Nat.lcm L q.den) 1
def spWholes (CR : Addr) : Sp := fun vs H Q _ => ∃ (a : Addr) (qs : List Rat) (n : Nat), vs = [.ref a] ∧ RatsAt CR H a qs ∧ (∀ q ∈ qs, Bd n q) ∧ n * qs.length + 1 ≤ 63 ∧ 1 ≤ n ∧
  ∀ t l H', Same H H' → H' t = some (.tup [.int ((lcmL qs : Nat) : Int), .ref l]) → H' l = some (.lst (qs.map fun q => V.int (q.num * (((lcmL qs : Nat) : Int) / ((q.den : Nat) : Int))))) → H l = none → Q (.ref t) H'
theorem lcm_snoc (l : List Rat) (q : Rat) : lcmL (l ++ [q]) = Nat.lcm (lcmL l) q.den := by
  unfold lcmL
  rw [List.foldl_append]
  rfl
theorem lcm_bd {n : Nat} : ∀ (l : List Rat), (∀ q ∈ l, Bd n q) → lcmL l < 2 ^ (n * l.length + 1) := by
  intro l
  induction h : l.length generalizing l with
  | zero =>
    intro _
    have e : l = [] := List.length_eq_zero_iff.mp h
    subst e
    show (1 : Nat) < 2 ^ (n * 0 + 1)
    rw [Nat.mul_zero]
    decide
  | succ k ih =>
    intro hb
    obtain ⟨l', q, rfl⟩ : ∃ l' q, l = l' ++ [q] := ⟨l.dropLast, l.getLast (by intro z; rw [z] at h; cases h), (List.dropLast_concat_getLast _).symm⟩
    have hl : l'.length = k := by
      rw [List.length_append] at h
      exact Nat.succ.inj h
    have h1 := ih l' hl fun x hx => hb x (List.mem_append_left _ hx)
    have h2 := (hb q (by simp)).2
    rw [lcm_snoc]
    refine Nat.lt_of_le_of_lt (PySem.W.mc_lcm_le _ _) ?_
    have h3 := mul_lt_pow h1 h2
    rw [show n * (k + 1) + 1 = n * k + 1 + n by rw [Nat.mul_succ]; omega]
    exact h3
theorem lcm_pos : ∀ (l : List Rat), 0 < lcmL l := by
  intro l
  induction h : l.length generalizing l with
  | zero =>
    have e : l = [] := List.length_eq_zero_iff.mp h
    subst e
    decide
  | succ k ih =>
    obtain ⟨l', q, rfl⟩ : ∃ l' q, l = l' ++ [q] := ⟨l.dropLast, l.getLast (by intro z; rw [z] at h; cases h), (List.dropLast_concat_getLast _).symm⟩
    have hl : l'.length = k := by
      rw [List.length_append] at h
      exact Nat.succ.inj h
    rw [lcm_snoc]
    exact Nat.lcm_pos (ih l' hl) (Nat.pos_of_ne_zero q.den_nz)
section
variable {P : Program} {w : World} {K : PySem.W.Frag} {mg : Str → Option Value} {base : Heap} {CR CT fR fE fT : Addr} (T : Txt K mg CR CT fR fE fT)
include T
theorem c_is_number : Cal P w K mg base 2 "is_number" ["value"] (spIsNum CR) := by
  refine mkCal T.a_is_number sc_is_number (fun _ _ _ _ _ _ us hl => match us, hl with | [_], _ => rfl) (by rintro vs H Q E ⟨_, _, rfl, _⟩; rfl) fun f cdv A outer s H vs Q E hr h => ?_
  obtain ⟨x, r, rfl, hx, q⟩ := h
  refine ⟨_, pss_one (ps_ret (pe_or (pe_f (c_is_integer T) hr (pa_cons (pv 0) pa_nil)) (pe_one (pe_callB call_isi (by rfl) T.n_isinstance (by decide +kernel) (pa_cons (pv 0) (pa_cons (pe_glob (v := .ref CR) (by rfl) T.gR rfl) pa_nil)))))), ?_⟩
  rcases hx with ⟨rfl, _⟩ | ⟨a, rfl, dx, ha⟩
  · exact ⟨_, rfl, _, true, rfl, .inl ⟨_, rfl, rfl⟩, true, rfl, iteT q⟩
  · exact ⟨_, rfl, _, false, rfl, .inr ⟨a, dx, _, rfl, ha, rfl⟩, false, rfl, iteF ⟨_, rfl, _, _, _, _, true, rfl, .own CR, ty_rat T ha, T.insR.me, q⟩⟩
theorem c_ratio_of : Cal P w K mg base 4 "ratio_of" ["number"] (spRatioOf CR) := by
  refine mkCal T.a_ratio_of sc_ratio_of (fun _ _ _ _ _ _ us hl => match us, hl with | [_], _ => rfl) (by rintro vs H Q E ⟨_, _, rfl, _⟩; rfl) fun f cdv A outer s H vs Q E hr h => ?_
  obtain ⟨x, r, rfl, hx, q⟩ := h
  refine ⟨_, pss_one (ps_ret (pe_ifExp (pt_val (pe_callB call_isi (by rfl) T.n_isinstance (by decide +kernel) (pa_cons (pv 0) (pa_cons (pe_glob (v := .ref CR) (by rfl) T.gR rfl) pa_nil)))) (pv 0)
    (pe_rat1 (X := (cxOf CX0 P w K mg base ["number"] "ratio_of" (defScope s_ratio_of) f cdv A outer s H E).nox) T hr (pa_cons (pv 0) pa_nil)))), ?_⟩
  rcases hx with ⟨rfl, hd⟩ | ⟨a, rfl, hra⟩
  · refine ⟨_, rfl, _, _, _, _, false, rfl, .own CR, .base (.int _), T.kiR, false, rfl, iteF ⟨_, rfl, _, rfl, fun p H' s1 _ h1 => q p H' s1 ?_⟩⟩
    have e := self_divInt r
    rw [hd] at e
    rw [← e]
    exact h1
  · obtain ⟨dx, ha⟩ := id hra
    exact ⟨_, rfl, _, _, _, _, true, rfl, .own CR, ty_rat T ha, T.insR.me, true, rfl, iteT ⟨_, rfl, q a H (Same.refl H) hra⟩⟩
end
end K22
set_option Elab.async false
set_option linter.all false
set_option maxRecDepth 100000
set_option maxHeartbeats 4000000
/-! Walks: wholes. -/
namespace K22
open PySem PySem.Spec PyProof.Rows L2
section
variable {P : Program} {w : World} {K : PySem.W.Frag} {mg : Str → Option Value} {base : Heap} {CR CT fR fE fT : Addr} (T : Txt K mg CR CT fR fE fT)
include T
theorem c_wholes : Cal P w K mg base 1 "wholes" ["ratios"] (spWholes CR) := by
  refine mkCal T.a_wholes sc_wholes (fun _ _ _ _ _ _ us hl => match us, hl with | [_], _ => rfl) (by rintro vs H Q E ⟨_, _, _, rfl, _⟩; rfl) fun f cdv A outer s H vs Q E hr h => ?_
  obtain ⟨a, qs, n, rfl, ⟨as, ha, hp⟩, hbd, h63, hn1, q⟩ := h
  refine' ⟨_, ?pf, ?rd⟩
  case pf =>
    refine' pss_cons ?s1 (pss_cons ?s2 (pss_one ?s3))
    case s1 => exact ps_set (i := 1) sc_wholes.nd rfl (.inr rfl) pe_int
    case s2 =>
      exact ps_for PassesOwn.never rfl (pi_list (pv 0)) (pg_name (i := 2) sc_wholes.nd rfl (.inl rfl))
        (pss_one (ps_set (i := 1) sc_wholes.nd rfl (.inr rfl) (pe_callBfun cr_lcm (by rfl) T.lcm (pa_cons (pv 1) (pa_cons (pe_fld (pv 2) rfl) pa_nil)))))
    case s3 =>
      exact ps_ret (pe_tup (pa_cons (pv 1) (pa_cons
        (pe_lc (own := [("ratio", 2)]) (g := gName 2) (tt := tYes) rfl sc_wholes.nd (pi_list (pv 0)) (blkOk_by (own := [("ratio", 2)]) (N := ["ratios", "bottom", "ratio"]) (sc := defScope s_wholes) (by decide +kernel)) (fun _ _ _ _ _ => pg_name (i := 2) sc_wholes.nd rfl (Or.inl rfl)) (fun _ _ _ _ _ => pts_nil)
          (fun _ _ _ _ _ => pe_op op_mulW (pe_fldK (K := K) rfl (pv 2)) (pe_op op_fdivW (pv 1) (pe_fldK (K := K) rfl (pv 2)))))
        pa_nil)))
  case rd =>
    have hlen : as.length = qs.length := Paired.len hp
    -- the loop: bottom is the least common one of those taken
    refine ⟨_, rfl, a, rfl, ⟨_, SqL.of ha⟩, for_it (walk_list (K := K) (a := a) (xs := as.map V.ref)) (fun i σ H' => H' = H ∧ ∃ v, σ = [some (.ref a), some (.int ((lcmL (qs.take i) : Nat) : Int)), v]) ⟨rfl, none, rfl⟩ (fun i σ H' _ ⟨e, _⟩ => by rw [e]; exact SqL.of ha) ?_ ?_⟩
    · rintro i y σ H0 H1 hi ⟨rfl, v, rfl⟩ ⟨rfl, hy⟩
      obtain ⟨b, hb, rfl⟩ := atRef hy
      obtain ⟨r, hr1, dx, hr2⟩ := Paired.get hp hb
      have hil : i < qs.length := (List.getElem?_eq_some_iff.mp hr1).1
      have hrb := hbd r (List.mem_of_getElem? hr1)
      have l64 : lcmL (qs.take i) < 2 ^ 64 := by
        refine Nat.lt_of_lt_of_le (lcm_bd (n := n) (qs.take i) fun x hx => hbd x (List.mem_of_mem_take hx)) (Nat.pow_le_pow_right (by decide) ?_)
        rw [List.length_take]
        have h1 : n * min i qs.length ≤ n * qs.length := Nat.mul_le_mul_left _ (Nat.min_le_right _ _)
        omega
      have n64 : n ≤ 64 := by
        have h1 : n * 1 ≤ n * qs.length := Nat.mul_le_mul_left _ (by omega)
        omega
      have d64 : r.den < 2 ^ 64 := Nat.lt_of_lt_of_le hrb.2 (Nat.pow_le_pow_right (by decide) n64)
      refine ⟨_, rfl, _, rfl, b, CR, dx, _, _, rfl, hr2, T.insR.cl, T.nR2, rf_bottom _ _, _, _, rfl, by rw [Int.natAbs_natCast]; exact l64, by rw [Int.natAbs_natCast]; exact d64, ?_⟩
      refine ⟨rfl, some (.ref b), ?_⟩
      rw [take_snoc hr1, lcm_snoc, Int.natAbs_natCast, Int.natAbs_natCast]
      rfl
    · rintro σ H0 ⟨rfl, v, rfl⟩
      rw [List.length_map, hlen, List.take_length]
      -- (bottom, [..])
      refine ⟨_, rfl, _, rfl, a, rfl, ⟨_, SqL.of ha⟩, fun D hD => ?_⟩
      refine lc_it (walk_list (K := K) (a := a) (xs := as.map V.ref)) (fun i H' => Same H0 (off D H') ∧ H' D = some (.lst ((qs.take i).map fun q => V.int (q.num * (((lcmL qs : Nat) : Int) / ((q.den : Nat) : Int)))))) ⟨off_of (Same.new hD) hD, upd_same⟩ (fun i H' _ h => SqL.of (off_same _ _ (h.1 _ _ ha))) ?_ ?_
      · rintro i y H1 H2 hi ⟨s1, hd⟩ ⟨rfl, hy⟩
        obtain ⟨b, hb, rfl⟩ := atRef hy
        obtain ⟨r, hr1, dx, hr2⟩ := Paired.get hp hb
        have hil : i < qs.length := (List.getElem?_eq_some_iff.mp hr1).1
        have hrb := hbd r (List.mem_of_getElem? hr1)
        have hr3 := off_same _ _ (s1 _ _ hr2)
        have n63 : n ≤ 63 := by
          have h1 : n * 1 ≤ n * qs.length := Nat.mul_le_mul_left _ (by omega)
          omega
        have l63 : lcmL qs < 2 ^ 63 := Nat.lt_of_lt_of_le (lcm_bd (n := n) qs hbd) (Nat.pow_le_pow_right (by decide) h63)
        have dv : (((lcmL qs : Nat) : Int) / ((r.den : Nat) : Int)).natAbs < 2 ^ 63 := by
          rw [← Int.natCast_ediv, Int.natAbs_natCast]
          exact Nat.lt_of_le_of_lt (Nat.div_le_self _ _) l63
        refine ⟨rfl, ?_⟩
        refine ⟨_, rfl, b, CR, dx, _, _, rfl, hr3, T.insR.cl, T.nR1, rf_top _ _, _, rfl, _, rfl, b, CR, dx, _, _, rfl, hr3, T.insR.cl, T.nR2, rf_bottom _ _, _, _, rfl, rfl, ?_, _, _, rfl, rfl, ?_, _, hd, ?_, ?_⟩
        · exact wide_div (b := 63) (den_pos r) (by rw [Int.natAbs_natCast]; exact Nat.lt_of_lt_of_le hrb.2 (Nat.pow_le_pow_right (by decide) n63)) (by decide) (by decide)
        · exact wide_mul (a := n) (b := 63) hrb.1 dv (by omega) (by decide) (by omega)
        · rw [List.length_map, List.length_take]
          refine small1000 ?_
          have h1 : 1 * qs.length ≤ n * qs.length := Nat.mul_le_mul_right _ hn1
          omega
        · refine ⟨?_, ?_⟩
          · rw [off_upd]
            exact s1
          · rw [upd_same, take_snoc hr1, List.map_append]
            rfl
      · rintro H1 ⟨s1, hd⟩
        rw [List.length_map, hlen, List.take_length] at hd
        refine ⟨(by show 2 ≤ sizeLine; decide), fun t ht => ?_⟩
        have s2 : Same H0 H1 := s1.trans off_same
        refine q t D _ (Same.upd s2 ht) upd_same ?_ hD
        rw [upd_ne (ne_of_none hd ht)]
        exact hd
end
end K22
set_option Elab.async false
set_option linter.all false
set_option maxRecDepth 100000
set_option maxHeartbeats 4000000
/-! Walks: tables. -/
namespace K22
open PySem PySem.Spec PyProof.Rows L2
def spWantCols : Sp := fun vs H Q _ => ∃ c : Nat, vs = [.int (c : Int)] ∧ c ≤ 3 ∧ Q .non H
def spIsRow (CR : Addr) : Sp := fun vs H Q _ => ∃ (c : Nat) (a : Addr) (r : List Rat), vs = [.int (c : Int), .ref a] ∧ PRowAt CR H a r ∧ r.length = c ∧ c ≤ 1000 ∧ ∀ H', Same H H' → Q (.bl true) H'
def spToldRow (CR : Addr) : Sp := fun vs H Q _ => ∃ (a : Addr) (r : List Rat), vs = [.ref a] ∧ PRowAt CR H a r ∧ r.length ≤ 1000 ∧ ∀ p H', Same H H' → TRowAt CR H' p r → Q (.ref p) H'
theorem all_true : ∀ n : Nat, (List.replicate n true).all id = true
  | 0 => rfl
  | n + 1 => by
    rw [List.replicate_succ, List.all_cons, all_true n]
    rfl
theorem rep_snoc {α : Type} (n : Nat) (x : α) : List.replicate n x ++ [x] = List.replicate (n + 1) x := by
  rw [List.replicate_succ']
section
variable {P : Program} {w : World} {K : PySem.W.Frag} {mg : Str → Option Value} {base : Heap} {CR CT fR fE fT : Addr} (T : Txt K mg CR CT fR fE fT)
include T
theorem c_want_columns : Cal P w K mg base 3 "want_columns" ["value"] spWantCols := by
  refine mkCal T.a_want_columns sc_want_columns (fun _ _ _ _ _ _ us hl => match us, hl with | [_], _ => rfl) (by rintro vs H Q E ⟨_, rfl, _⟩; rfl) fun f cdv A outer s H vs Q E hr h => ?_
  obtain ⟨c, rfl, hc, q⟩ := h
  obtain ⟨tk, g⟩ := T.i_MOST_COLUMNS
  refine' ⟨_, ?pf, ?rd⟩
  case pf =>
    refine' pss_one ?s1
    case s1 => exact ps_if (PW.pt (pw_or (pt_not (pt_val (pe_f (c_is_count T) hr (pa_cons (pv 0) pa_nil)))) (pw_or1 (pt_cmpR op_gt (pv 0) (pe_glob (v := .int 3) (by rfl) g ⟨_, rfl⟩) (nomark _))))) (pss_one ps_never) pss_nil
  case rd =>
    refine ⟨_, rfl, _, rfl, true, ?_, iteF ?_⟩
    · exact congrArg V.bl (decide_eq_true (by omega))
    · exact ⟨_, rfl, _, _, rfl, rfl, _, rfl, ite2 (fun z => absurd (of_decide_eq_true z) (by omega)) fun _ => q⟩
theorem c_is_row : Cal P w K mg base 3 "is_row" ["columns", "value"] (spIsRow CR) := by
  refine mkCal T.a_is_row sc_is_row (fun _ _ _ _ _ _ us hl => match us, hl with | [_, _], _ => rfl) (by rintro vs H Q E ⟨_, _, _, rfl, _⟩; rfl) fun f cdv A outer s H vs Q E hr h => ?_
  obtain ⟨c, a, r, rfl, ⟨xs, ha, hp⟩, hc, hk, q⟩ := h
  refine' ⟨_, ?pf, ?rd⟩
  case pf =>
    refine' pss_one ?s1
    case s1 =>
      exact ps_ret (pe_and (pe_f (c_is_list T) hr (pa_cons (pv 1) pa_nil)) (pe_and (pe_cmpR op_eq (pe_callB call_len_seq (by rfl) T.n_len PySem.boot_len (pa_cons (pv 1) pa_nil)) (pv 0) (nomark _))
        (pe_one (pe_callB (cr_all rfl) (by rfl) T.n_all (by decide +kernel) (pa_cons
          (pe_lc (own := [("number", 2)]) (g := gName 2) (tt := tYes) rfl sc_is_row.nd (pi_list (pv 1)) (blkOk_by (own := [("number", 2)]) (N := ["columns", "value", "number"]) (sc := defScope s_is_row) (by decide +kernel)) (fun _ _ _ _ _ => pg_name (i := 2) sc_is_row.nd rfl (Or.inl rfl)) (fun _ _ _ _ _ => pts_nil)
            (fun _ _ _ _ _ => pe_f (c_is_number T) hr (pa_cons (pv 2) pa_nil))) pa_nil)))))
  case rd =>
    have hl : xs.length = r.length := Paired.len hp
    refine ⟨_, rfl, a, xs, rfl, .inl ha, fun H1 s1 => ⟨true, rfl, iteT ?_⟩⟩
    have h1 := s1 _ _ ha
    have e1 : decide (V.int ((xs.length : Nat) : Int) = V.int (c : Int)) = true := decide_eq_true (by rw [hl, hc])
    refine ⟨_, rfl, a, xs, rfl, .inl (SqL.of h1), _, rfl, rfl, _, rfl, ?_⟩
    rw [e1]
    refine iteT ?_
    refine ⟨_, rfl, a, rfl, ⟨_, SqL.of h1⟩, fun D hD => ?_⟩
    refine lc_it (walk_list (K := K) (a := a) (xs := xs)) (fun i H' => Same H1 (off D H') ∧ H' D = some (.lst ((List.replicate i true).map V.bl))) ⟨off_of (Same.new hD) hD, upd_same⟩ (fun i H' _ h => SqL.of (off_same _ _ (h.1 _ _ h1))) ?_ ?_
    · rintro i y H2 H3 hi ⟨s2, hd⟩ ⟨rfl, hy⟩
      obtain ⟨v, hv1, hv2⟩ := Paired.get hp hy
      refine ⟨rfl, _, rfl, y, v, rfl, PasAt.keep (Same.keep (s1.trans (s2.trans off_same))) hv2, _, hd, ?_, ?_, ?_⟩
      · rw [List.length_map, List.length_replicate]
        exact small1000 (by omega)
      · rw [off_upd]
        exact s2
      · rw [upd_same, ← rep_snoc, List.map_append]
        rfl
    · rintro H2 ⟨s2, hd⟩
      refine ⟨D, List.replicate xs.length true, rfl, SqL.of hd, ?_⟩
      rw [all_true]
      exact q H2 (s1.trans (s2.trans off_same))
theorem c_told_row : Cal P w K mg base 5 "told_row" ["row"] (spToldRow CR) := by
  refine mkCal T.a_told_row sc_told_row (fun _ _ _ _ _ _ us hl => match us, hl with | [_], _ => rfl) (by rintro vs H Q E ⟨_, _, rfl, _⟩; rfl) fun f cdv A outer s H vs Q E hr h => ?_
  obtain ⟨a, r, rfl, ⟨xs, ha, hp⟩, hk, q⟩ := h
  refine' ⟨_, ?pf, ?rd⟩
  case pf =>
    refine' pss_one ?s1
    case s1 =>
      exact ps_ret (pe_callTy call_tuple_of (by rfl) T.n_tuple (by decide +kernel) (pa_cons
        (pe_lc (own := [("number", 1)]) (g := gName 1) (tt := tYes) rfl sc_told_row.nd (pi_list (pv 0)) (blkOk_by (own := [("number", 1)]) (N := ["row", "number"]) (sc := defScope s_told_row) (by decide +kernel)) (fun _ _ _ _ _ => pg_name (i := 1) sc_told_row.nd rfl (Or.inl rfl)) (fun _ _ _ _ _ => pts_nil)
          (fun _ _ _ _ _ => pe_f (c_ratio_of T) hr (pa_cons (pv 1) pa_nil))) pa_nil))
  case rd =>
    have hl : xs.length = r.length := Paired.len hp
    refine ⟨_, rfl, a, rfl, ⟨_, SqL.of ha⟩, fun D hD => ?_⟩
    refine lc_it (walk_list (K := K) (a := a) (xs := xs)) (fun i H' => Same H (off D H') ∧ ∃ as : List Addr, H' D = some (.lst (as.map V.ref)) ∧ Paired (RatAt CR (off D H')) as (r.take i)) ⟨off_of (Same.new hD) hD, [], upd_same, .nil⟩ (fun i H' _ h => SqL.of (off_same _ _ (h.1 _ _ ha))) ?_ ?_
    · rintro i y H2 H3 hi ⟨s2, as, hd, pp⟩ ⟨rfl, hy⟩
      obtain ⟨v, hv1, hv2⟩ := Paired.get hp hy
      refine ⟨rfl, _, rfl, y, v, rfl, PasAt.keep (Same.keep (s2.trans off_same)) hv2, fun b H4 s4 hb => ?_⟩
      have hd4 := s4 _ _ hd
      refine ⟨_, hd4, ?_, ?_, as ++ [b], ?_, ?_⟩
      · rw [List.length_map, Paired.len pp, List.length_take]
        exact small1000 (by omega)
      · rw [off_upd]
        exact s2.trans (off_mono s4)
      · rw [upd_same, map_snoc]
      · rw [off_upd, take_snoc hv1]
        exact Paired.app (Paired.imp (fun _ _ => RatAt.keep (Same.keep (off_mono s4))) pp) (.cons (ratAt_off hb hd4) .nil)
    · rintro H2 ⟨s2, as, hd, pp⟩
      rw [hl, List.take_length] at pp
      refine ⟨D, _, rfl, .inl ⟨SqL.of hd, fun p hp => ?_⟩⟩
      have s3 : Same (off D H2) (upd H2 p (.tup (as.map V.ref))) := off_same.trans (Same.new hp)
      exact q p _ (s2.trans s3) ⟨as, upd_same, Paired.imp (fun _ _ => RatAt.keep (Same.keep s3)) pp⟩
end
end K22
set_option Elab.async false
set_option linter.all false
set_option maxRecDepth 100000
set_option maxHeartbeats 4000000
/-! Walks: the Table. -/
namespace K22
open PySem PySem.Spec PyProof.Rows L2
def spTabInit (CR CT : Addr) : Sp := fun vs H Q _ => ∃ (p dx : Addr) (c : Nat) (a : Addr) (rs : List (List Rat)), vs = [.ref p, .int (c : Int), .ref a] ∧ H p = some (.ins CT dx []) ∧ c ≤ 3 ∧ PRowsAt CR H a rs ∧ rs.length ≤ 40 ∧ (∀ r ∈ rs, r.length = c) ∧
  ∀ H', TabAt CR CT H' p c rs → (∀ b o, b ≠ p → H b = some o → H' b = some o) → Q .non H'
def tTab (CR CT : Addr) (t : TA) : TE := fun σ H Q => t σ H fun vs H1 => ∃ (c : Nat) (a : Addr) (rs : List (List Rat)), vs = [.int (c : Int), .ref a] ∧ c ≤ 3 ∧ PRowsAt CR H1 a rs ∧ rs.length ≤ 40 ∧ (∀ r ∈ rs, r.length = c) ∧
  ∀ p H', Same H1 H' → TabAt CR CT H' p c rs → Q (.ref p) H'
def spTableOf (CR CT : Addr) : Sp := fun vs H Q _ => ∃ (c : Nat) (a : Addr) (rs : List (List Rat)), vs = [.int (c : Int), .ref a] ∧ c ≤ 3 ∧ TRowsAt CR H a rs ∧ rs.length ≤ 40 ∧ (∀ r ∈ rs, r.length = c) ∧
  ∀ p H', Same H H' → TabAt CR CT H' p c rs → Q (.ref p) H'
def spWantTable (CT : Addr) : Sp := fun vs H Q _ => ∃ (a dx : Addr) (fs : List (Str × V)), vs = [.ref a] ∧ H a = some (.ins CT dx fs) ∧ Q (.ref a) H
def spWantLike : Sp := fun vs H Q _ => ∃ c : Int, vs = [.int c, .int c] ∧ Q .non H
def spJoined (CR CT : Addr) : Sp := fun vs H Q _ => ∃ (a b : Addr) (c : Nat) (rs ss : List (List Rat)), vs = [.ref a, .ref b] ∧ c ≤ 3 ∧ TabAt CR CT H a c rs ∧ TabAt CR CT H b c ss ∧ rs.length + ss.length ≤ 40 ∧ (∀ r ∈ rs, r.length = c) ∧ (∀ r ∈ ss, r.length = c) ∧
  ∀ p H', Same H H' → TabAt CR CT H' p c (rs ++ ss) → Q (.ref p) H'
def spTurned (CR CT : Addr) : Sp := fun vs H Q _ => ∃ (a : Addr) (c : Nat) (rs : List (List Rat)), vs = [.ref a] ∧ c ≤ 3 ∧ TabAt CR CT H a c rs ∧ rs.length ≤ 40 ∧ (∀ r ∈ rs, r.length = c) ∧
  ∀ p H', Same H H' → TabAt CR CT H' p c rs.reverse → Q (.ref p) H'
theorem tRowAt_off {C D a : Addr} {H : Hp} {r : List Rat} {xs : List V} (h : TRowAt C H a r) (hd : H D = some (.lst xs)) : TRowAt C (off D H) a r := by
  obtain ⟨as, h1, h2⟩ := h
  exact ⟨as, off_has h1 hd (by intro z; cases z), Paired.imp (fun _ _ q => ratAt_off q hd) h2⟩
/-- an instance without own_top is no Ratio; what stands beside it when its fields change -/
theorem ratAt_ne {C D b p dx : Addr} {H : Hp} {q : Rat} {fs : List (Str × V)} (h : RatAt C H b q) (hp : H p = some (.ins D dx fs)) (hf : fs.lookup ("own_top" : Str) = none) : b ≠ p := by
  obtain ⟨dy, h1⟩ := h
  refine ne_of h1 hp fun z => ?_
  injection z with z1 z2 z3
  have h2 := rf_top q.num ((q.den : Nat) : Int)
  rw [z3, hf] at h2
  cases h2
theorem ratAt_set {C D b p dx : Addr} {H : Hp} {q : Rat} {fs : List (Str × V)} {o : HO} (hp : H p = some (.ins D dx fs)) (hf : fs.lookup ("own_top" : Str) = none) (h : RatAt C H b q) : RatAt C (L2.upd H p o) b q := by
  have n := ratAt_ne h hp hf
  obtain ⟨dy, h1⟩ := h
  exact ⟨dy, by rw [upd_ne n]; exact h1⟩
theorem tRowsAt_set {C D b p dx : Addr} {H : Hp} {rs : List (List Rat)} {fs : List (Str × V)} {o : HO} (hp : H p = some (.ins D dx fs)) (hf : fs.lookup ("own_top" : Str) = none) (h : TRowsAt C H b rs) : TRowsAt C (L2.upd H p o) b rs := by
  obtain ⟨as, h1, h2⟩ := h
  refine ⟨as, by rw [upd_ne (ne_of h1 hp (by intro z; cases z))]; exact h1, Paired.imp (fun a r h3 => ?_) h2⟩
  obtain ⟨bs, h4, h5⟩ := h3
  exact ⟨bs, by rw [upd_ne (ne_of h4 hp (by intro z; cases z))]; exact h4, Paired.imp (fun _ _ => ratAt_set hp hf) h5⟩
theorem pRowsAt_set {C D b p dx : Addr} {H : Hp} {rs : List (List Rat)} {fs : List (Str × V)} {o : HO} (hp : H p = some (.ins D dx fs)) (hf : fs.lookup ("own_top" : Str) = none) (h : PRowsAt C H b rs) : PRowsAt C (L2.upd H p o) b rs := by
  obtain ⟨as, h1, h2⟩ := h
  refine ⟨as, by rw [upd_ne (ne_of h1 hp (by intro z; cases z))]; exact h1, Paired.imp (fun a r h3 => ?_) h2⟩
  obtain ⟨xs, h4, h5⟩ := h3
  refine ⟨xs, by rw [upd_ne (ne_of h4 hp (by intro z; cases z))]; exact h4, Paired.imp (fun x q h6 => ?_) h5⟩
  rcases h6 with h6 | ⟨c, h7, h8⟩
  · exact .inl h6
  · exact .inr ⟨c, h7, ratAt_set hp hf h8⟩
theorem cols_no (c : Int) : (putF "own_columns" (.int c) []).lookup ("own_top" : Str) = none := by
  rw [lookup_putF, if_neg (by decide +kernel)]
  all_goals rfl
section
variable {P : Program} {w : World} {K : PySem.W.Frag} {mg : Str → Option Value} {base : Heap} {CR CT fR fE fT : Addr} (T : Txt K mg CR CT fR fE fT)
include T
theorem f_tab_init : ∃ fd, FnOk P w K mg base CX0 6 fT fd ["self", "columns", "rows"] (spTabInit CR CT) ∧ Binds K fd ["self", "columns", "rows"] [] := by
  obtain ⟨fd, F⟩ := T.fT
  obtain ⟨tk, g⟩ := T.i_MOST_ROWS
  refine ⟨fd, okN F sc_Table_init (by rintro vs H Q E ⟨_, _, _, _, _, rfl, _⟩; rfl) fun cdv A outer s H vs Q E hr h => ?_, F.bindsN fun _ _ _ _ _ _ us hl => match us, hl with | [_, _, _], _ => rfl⟩
  obtain ⟨p, dx, c, a, rs, rfl, hp, hc, ⟨as, ha, hpp⟩, h40, hw, q⟩ := h
  have hl : as.length = rs.length := Paired.len hpp
  refine' ⟨_, ?pf, ?rd⟩
  case pf =>
    refine' pss_cons ?s1 (pss_cons ?s2 (pss_cons ?s3 (pss_one ?s4)))
    case s1 => exact ps_expr (pe_f (c_want_columns T) hr (pa_cons (pv 1) pa_nil))
    case s2 =>
      exact ps_if (PW.pt (pw_or (pt_not (pt_val (pe_f (c_is_list T) hr (pa_cons (pv 2) pa_nil)))) (pw_or (pt_cmpR op_gt (pe_callB call_len_seq (by rfl) T.n_len PySem.boot_len (pa_cons (pv 2) pa_nil)) (pe_glob (v := .int 40) (by rfl) g ⟨_, rfl⟩) (nomark _))
        (pw_or1 (pt_not (pt_val (pe_callB (cr_all rfl) (by rfl) T.n_all (by decide +kernel) (pa_cons
          (pe_lc (own := [("row", 3)]) (g := gName 3) (tt := tYes) rfl sc_Table_init.nd (pi_list (pv 2)) (blkOk_by (own := [("row", 3)]) (N := ["self", "columns", "rows", "row"]) (sc := defScope s_Table_init) (by decide +kernel)) (fun _ _ _ _ _ => pg_name (i := 3) sc_Table_init.nd rfl (Or.inl rfl)) (fun _ _ _ _ _ => pts_nil)
            (fun _ _ _ _ _ => pe_f (c_is_row T) hr (pa_cons (pv 1) (pa_cons (pv 3) pa_nil)))) pa_nil)))))))) (pss_one ps_never) pss_nil
    case s3 => exact ps_fld (pv 0) (pv 1) rfl
    case s4 =>
      exact ps_fld (pv 0) (pe_callTy call_tuple_of (by rfl) T.n_tuple (by decide +kernel) (pa_cons
        (pe_lc (own := [("row", 3)]) (g := gName 3) (tt := tYes) rfl sc_Table_init.nd (pi_list (pv 2)) (blkOk_by (own := [("row", 3)]) (N := ["self", "columns", "rows", "row"]) (sc := defScope s_Table_init) (by decide +kernel)) (fun _ _ _ _ _ => pg_name (i := 3) sc_Table_init.nd rfl (Or.inl rfl)) (fun _ _ _ _ _ => pts_nil)
          (fun _ _ _ _ _ => pe_f (c_told_row T) hr (pa_cons (pv 3) pa_nil))) pa_nil)) rfl
  case rd =>
    refine ⟨_, rfl, c, rfl, hc, ?_⟩
    refine ⟨_, rfl, a, _, rfl, .inl ha, fun H1 s1 => ⟨true, rfl, iteF ?_⟩⟩
    have ha1 := s1 _ _ ha
    refine ⟨_, rfl, a, _, rfl, .inl (SqL.of ha1), _, _, rfl, rfl, _, rfl, ite2 (fun z => ?_) fun _ => ?_⟩
    · have z' := of_decide_eq_true z
      rw [List.length_map, hl] at z'
      omega
    refine ⟨_, rfl, a, rfl, ⟨_, SqL.of ha1⟩, fun D hD => ?_⟩
    refine lc_it (walk_list (K := K) (a := a) (xs := as.map V.ref)) (fun i H' => Same H1 (off D H') ∧ H' D = some (.lst ((List.replicate i true).map V.bl))) ⟨off_of (Same.new hD) hD, upd_same⟩ (fun i H' _ h => SqL.of (off_same _ _ (h.1 _ _ ha1))) ?_ ?_
    · rintro i y H2 H3 hi ⟨s2, hd⟩ ⟨rfl, hy⟩
      obtain ⟨b, hb, rfl⟩ := atRef hy
      obtain ⟨r, hr1, hr2⟩ := Paired.get hpp hb
      have hil : i < rs.length := (List.getElem?_eq_some_iff.mp hr1).1
      refine ⟨rfl, _, rfl, _, rfl, c, b, r, rfl, PRowAt.same (s1.trans (s2.trans off_same)) hr2, hw r (List.mem_of_getElem? hr1), by omega, fun H4 s4 => ?_⟩
      refine ⟨_, s4 _ _ hd, ?_, ?_, ?_⟩
      · rw [List.length_map, List.length_replicate]
        exact small1000 (by omega)
      · rw [off_upd]
        exact s2.trans (off_mono s4)
      · rw [upd_same, ← rep_snoc, List.map_append]
        rfl
    · rintro H2 ⟨s2, hd⟩
      refine ⟨D, List.replicate (as.map V.ref).length true, rfl, SqL.of hd, true, congrArg V.bl (all_true _), ?_⟩
      have s12 : Same H H2 := s1.trans (s2.trans off_same)
      refine iteF ?_
      -- self.own_columns = columns
      refine ⟨_, rfl, _, rfl, p, CT, dx, [], rfl, s12 _ _ hp, T.insT.cl, T.nT1, (by show 0 < 1000; decide), ?_⟩
      have hp2 := s12 _ _ hp
      have rows3 : PRowsAt CR (upd H2 p (.ins CT dx (putF "own_columns" (.int (c : Int)) []))) a rs := pRowsAt_set hp2 rfl (PRowsAt.same s12 ⟨as, ha, hpp⟩)
      have keep3 : ∀ b o, b ≠ p → H b = some o → upd H2 p (.ins CT dx (putF "own_columns" (.int (c : Int)) [])) b = some o := fun b o n e => by
        rw [upd_ne n]
        exact s12 _ _ e
      have hp3 : upd H2 p (.ins CT dx (putF "own_columns" (.int (c : Int)) [])) p = some (.ins CT dx (putF "own_columns" (.int (c : Int)) [])) := upd_same
      revert rows3 keep3 hp3
      generalize upd H2 p (.ins CT dx (putF "own_columns" (.int (c : Int)) [])) = H3
      rintro ⟨as3, ha3, hpp3⟩ keep3 hp3
      have hl3 : as3.length = rs.length := Paired.len hpp3
      refine ⟨_, rfl, a, rfl, ⟨_, SqL.of ha3⟩, fun D3 hD3 => ?_⟩
      refine lc_it (walk_list (K := K) (a := a) (xs := as3.map V.ref)) (fun i H' => Same H3 (off D3 H') ∧ ∃ bs : List Addr, H' D3 = some (.lst (bs.map V.ref)) ∧ Paired (TRowAt CR (off D3 H')) bs (rs.take i)) ⟨off_of (Same.new hD3) hD3, [], upd_same, .nil⟩ (fun i H' _ h => SqL.of (off_same _ _ (h.1 _ _ ha3))) ?_ ?_
      · rintro i y H4 H5 hi ⟨s4, bs, hd4, pp⟩ ⟨rfl, hy⟩
        obtain ⟨b, hb, rfl⟩ := atRef hy
        obtain ⟨r, hr1, hr2⟩ := Paired.get hpp3 hb
        have hil : i < rs.length := (List.getElem?_eq_some_iff.mp hr1).1
        refine ⟨rfl, _, rfl, b, r, rfl, PRowAt.same (s4.trans off_same) hr2, by rw [hw r (List.mem_of_getElem? hr1)]; omega, fun e H6 s6 he => ?_⟩
        have hd6 := s6 _ _ hd4
        refine ⟨_, hd6, ?_, ?_, bs ++ [e], ?_, ?_⟩
        · rw [List.length_map, Paired.len pp, List.length_take]
          exact small1000 (by omega)
        · rw [off_upd]
          exact s4.trans (off_mono s6)
        · rw [upd_same, map_snoc]
        · rw [off_upd, take_snoc hr1]
          exact Paired.app (Paired.imp (fun _ _ => TRowAt.keep (Same.keep (off_mono s6))) pp) (.cons (tRowAt_off he hd6) .nil)
      · rintro H4 ⟨s4, bs, hd4, pp⟩
        rw [List.length_map, hl3, List.take_length] at pp
        refine ⟨D3, _, rfl, .inl ⟨SqL.of hd4, fun t ht => ?_⟩⟩
        have s5 : Same (off D3 H4) (upd H4 t (.tup (bs.map V.ref))) := off_same.trans (Same.new ht)
        have hp5 := (s4.trans s5) _ _ hp3
        have rows5 : TRowsAt CR (upd H4 t (.tup (bs.map V.ref))) t rs := ⟨bs, upd_same, Paired.imp (fun _ _ => TRowAt.keep (Same.keep s5)) pp⟩
        refine ⟨_, rfl, p, CT, dx, _, rfl, hp5, T.insT.cl, T.nT2, (by show 1 < 1000; decide), ?_⟩
        refine q _ ⟨dx, t, upd_same, tRowsAt_set hp5 (cols_no _) rows5⟩ fun b o n e => ?_
        rw [upd_ne n]
        exact (s4.trans s5) _ _ (keep3 b o n e)
end
end K22
set_option Elab.async false
set_option linter.all false
set_option maxRecDepth 100000
set_option maxHeartbeats 4000000
/-! Walks: tables made, joined, turned. -/
namespace K22
open PySem PySem.Spec PyProof.Rows L2
section
variable {X : Cx} {CR CT fR fE fT : Addr} (T : Txt X.K X.mg CR CT fR fE fT)
include T
theorem pe_tab {p pos : Pos} {a b : Expr} {t : TA} {j : Nat} (hr : Room j X.A) (ha : PA X [a, b] t) (hj : 7 ≤ j := by decide) (hg : Gl X "Table" := by rfl)
    (he : starEach [a, b] X.env = (false, eval a X.env) :: starEach [b] X.env := by rfl) (hpl : (backTo pos (starEach [b] X.env)).any (·.1) = false := by rfl) : PE X (.Call (.Name "Table" p) [a, b] [] pos) (tTab CR CT t) := by
  obtain ⟨fd, F, b0⟩ := f_tab_init (P := X.prog) (w := X.w) (base := X.base) T
  refine pe_imp (pe_make T.mkT F (hr.mono hj) hg T.gT b0 .nil pass0 (pa_mo ha) (by decide) he hpl) fun σ H Q h => ⟨_, h, fun vs H1 q => ?_⟩
  obtain ⟨c, a, rs, rfl, hc, hrs, h40, hw, q⟩ := q
  intro x dx nx ndx ne
  have s1 : Same H1 (upd (upd H1 dx (.own x)) x (.ins CT dx [])) := fun c o e => by
    rw [upd_ne (ne_of_none e nx), upd_ne (ne_of_none e ndx)]
    exact e
  exact ⟨x, dx, c, a, rs, rfl, upd_same, hc, PRowsAt.same s1 hrs, h40, hw, fun H' h1 h2 => ⟨rfl, q x H' (made_same nx ndx h2) h1⟩⟩
end
section
variable {P : Program} {w : World} {K : PySem.W.Frag} {mg : Str → Option Value} {base : Heap} {CR CT fR fE fT : Addr} (T : Txt K mg CR CT fR fE fT)
include T
theorem c_table_of : Cal P w K mg base 8 "table_of" ["columns", "rows"] (spTableOf CR CT) := by
  refine mkCal T.a_table_of sc_table_of (fun _ _ _ _ _ _ us hl => match us, hl with | [_, _], _ => rfl) (by rintro vs H Q E ⟨_, _, _, rfl, _⟩; rfl) fun f cdv A outer s H vs Q E hr h => ?_
  obtain ⟨c, a, rs, rfl, hc, ⟨as, ha, hpp⟩, h40, hw, q⟩ := h
  have hl : as.length = rs.length := Paired.len hpp
  refine' ⟨_, ?pf, ?rd⟩
  case pf =>
    refine' pss_one ?s1
    case s1 =>
      refine' ps_ret (pe_tab ?t hr (pa_cons (pv 0) (pa_cons ?e pa_nil)))
      case t => exact T
      case e =>
        exact pe_lc (own := [("row", 2)]) (g := gName 2) (tt := tYes) rfl sc_table_of.nd (pi_tup (pv 1)) (blkOk_by (own := [("row", 2)]) (N := ["columns", "rows", "row"]) (sc := defScope s_table_of) (by decide +kernel)) (fun _ _ _ _ _ => pg_name (i := 2) sc_table_of.nd rfl (Or.inl rfl)) (fun _ _ _ _ _ => pts_nil)
          (te := tCB (fun xs H Q => ∃ p ys, xs = [.ref p] ∧ (SqL K H p ys ∨ SqT K H p ys) ∧ ∀ l, H l = none → Q (.ref l) (upd H l (.lst ys))) (tCons (tVar 2) tNil))
          (fun _ _ _ _ _ => pe_callTy call_list_of (by rfl) T.n_list (by decide +kernel) (pa_cons (pv 2) pa_nil))
  case rd =>
    refine ⟨_, rfl, _, rfl, a, rfl, ⟨_, SqT.of ha⟩, fun D hD => ?_⟩
    refine lc_it (walk_tup (K := K) (a := a) (xs := as.map V.ref)) (fun i H' => Same H (off D H') ∧ ∃ bs : List Addr, H' D = some (.lst (bs.map V.ref)) ∧ Paired (PRowAt CR (off D H')) bs (rs.take i)) ⟨off_of (Same.new hD) hD, [], upd_same, .nil⟩ (fun i H' _ h => SqT.of (off_same _ _ (h.1 _ _ ha))) ?_ ?_
    · rintro i y H2 H3 hi ⟨s2, bs, hd, pp⟩ ⟨rfl, hy⟩
      obtain ⟨b, hb, rfl⟩ := atRef hy
      obtain ⟨r, hr1, es, hr2, hr3⟩ := Paired.get hpp hb
      have hil : i < rs.length := (List.getElem?_eq_some_iff.mp hr1).1
      have hb2 := off_same _ _ (s2 _ _ hr2)
      refine ⟨rfl, _, rfl, b, _, rfl, .inr (SqT.of hb2), fun l hl => ?_⟩
      have nld : l ≠ D := (ne_of_none hd hl).symm
      have s4 : Same H3 (upd H3 l (.lst (es.map V.ref))) := Same.new hl
      refine ⟨_, s4 _ _ hd, ?_, ?_, bs ++ [l], ?_, ?_⟩
      · rw [List.length_map, Paired.len pp, List.length_take]
        exact small1000 (by omega)
      · rw [off_upd]
        exact s2.trans (off_mono s4)
      · rw [upd_same, map_snoc]
      · rw [off_upd, take_snoc hr1]
        refine Paired.app (Paired.imp (fun _ _ => PRowAt.same (off_mono s4)) pp) (.cons ⟨es.map V.ref, off_in upd_same nld, ?_⟩ .nil)
        have k : Keep H (off D (upd H3 l (.lst (es.map V.ref)))) := Same.keep (s2.trans (off_mono s4))
        have go : ∀ {l1 : List Addr} {l2 : List Rat}, Paired (RatAt CR H) l1 l2 → Paired (PasAt CR (off D (upd H3 l (.lst (es.map V.ref))))) (l1.map V.ref) l2 := fun {l1 l2} p => by
          induction p with
          | nil => exact .nil
          | cons h t ih => exact .cons (.inr ⟨_, rfl, RatAt.keep k h⟩) ih
        exact go hr3
    · rintro H2 ⟨s2, bs, hd, pp⟩
      rw [List.length_map, hl, List.take_length] at pp
      refine ⟨c, D, rs, rfl, hc, ⟨bs, hd, Paired.imp (fun _ _ => PRowAt.same off_same) pp⟩, h40, hw, fun p H' s3 h3 => q p H' ((s2.trans off_same).trans s3) h3⟩
theorem c_want_table : Cal P w K mg base 1 "want_table" ["value"] (spWantTable CT) := by
  refine mkCal T.a_want_table sc_want_table (fun _ _ _ _ _ _ us hl => match us, hl with | [_], _ => rfl) (by rintro vs H Q E ⟨_, _, _, rfl, _⟩; rfl) fun f cdv A outer s H vs Q E hr h => ?_
  obtain ⟨a, dx, fs, rfl, ha, q⟩ := h
  refine' ⟨_, ?pf, ?rd⟩
  case pf =>
    refine' pss_cons ?s1 (pss_one ?s2)
    case s1 => exact ps_if (pt_not (pt_val (pe_callB call_isi (by rfl) T.n_isinstance (by decide +kernel) (pa_cons (pv 0) (pa_cons (pe_glob (v := .ref CT) (by rfl) T.gT rfl) pa_nil))))) (pss_one ps_never) pss_nil
    case s2 => exact ps_ret (pv 0)
  case rd => exact ⟨_, rfl, _, _, _, _, true, rfl, .own CT, ty_tab T ha, T.insT.me, true, rfl, iteF ⟨_, rfl, q⟩⟩
theorem c_want_like : Cal P w K mg base 1 "want_like" ["near", "far"] spWantLike := by
  refine mkCal T.a_want_like sc_want_like (fun _ _ _ _ _ _ us hl => match us, hl with | [_, _], _ => rfl) (by rintro vs H Q E ⟨_, rfl, _⟩; rfl) fun f cdv A outer s H vs Q E hr h => ?_
  obtain ⟨c, rfl, q⟩ := h
  refine' ⟨_, ?pf, ?rd⟩
  case pf =>
    refine' pss_one ?s1
    case s1 => exact ps_if (pt_cmpR op_ne (pv 0) (pv 1) (nomark _)) (pss_one ps_never) pss_nil
  case rd => exact ⟨_, rfl, _, rfl, rfl, _, rfl, iteNS rfl q⟩
theorem c_joined : Cal P w K mg base 9 "joined" ["table", "other"] (spJoined CR CT) := by
  refine mkCal T.a_joined sc_joined (fun _ _ _ _ _ _ us hl => match us, hl with | [_, _], _ => rfl) (by rintro vs H Q E ⟨_, _, _, _, _, rfl, _⟩; rfl) fun f cdv A outer s H vs Q E hr h => ?_
  obtain ⟨a, b, c, rs, ss, rfl, hc, ⟨dx, t, ha, as, ht, hta⟩, ⟨dy, u, hb, bs, hu, hub⟩, h40, hw1, hw2, q⟩ := h
  obtain ⟨tk, g⟩ := T.i_MOST_ROWS
  have l1 : as.length = rs.length := Paired.len hta
  have l2 : bs.length = ss.length := Paired.len hub
  refine' ⟨_, ?pf, ?rd⟩
  case pf =>
    refine' pss_cons ?s1 (pss_cons ?s2 (pss_cons ?s3 (pss_cons ?s4 (pss_one ?s5))))
    case s1 => exact ps_set (i := 2) sc_joined.nd rfl (.inl rfl) (pe_f (c_want_table T) hr (pa_cons (pv 0) pa_nil))
    case s2 => exact ps_set (i := 3) sc_joined.nd rfl (.inl rfl) (pe_f (c_want_table T) hr (pa_cons (pv 1) pa_nil))
    case s3 => exact ps_expr (pe_f (c_want_like T) hr (pa_cons (pe_fld (pv 2) rfl) (pa_cons (pe_fld (pv 3) rfl) pa_nil)))
    case s4 =>
      exact ps_expr (pe_f (c_want_at_most T) hr (pa_cons pe_str (pa_cons (pe_glob (v := .int 40) (by rfl) g ⟨_, rfl⟩) (pa_cons (pe_op op_add (pe_callB call_len_seq (by rfl) T.n_len PySem.boot_len (pa_cons (pe_fld (pv 2) rfl) pa_nil)) (pe_callB call_len_seq (by rfl) T.n_len PySem.boot_len (pa_cons (pe_fld (pv 3) rfl) pa_nil))) pa_nil))))
    case s5 => exact ps_ret (pe_f (c_table_of T) hr (pa_cons (pe_fld (pv 2) rfl) (pa_cons (pe_op op_catU (pe_fld (pv 2) rfl) (pe_fld (pv 3) rfl)) pa_nil)))
  case rd =>
    refine ⟨_, rfl, a, dx, _, rfl, ha, _, rfl, b, dy, _, rfl, hb, ?_⟩
    refine ⟨_, rfl, a, CT, dx, _, _, rfl, ha, T.insT.cl, T.nT1, tf_columns _ _, _, rfl, b, CT, dy, _, _, rfl, hb, T.insT.cl, T.nT1, tf_columns _ _, _, rfl, ?_⟩
    refine ⟨_, rfl, a, CT, dx, _, _, rfl, ha, T.insT.cl, T.nT2, tf_rows _ _, t, _, rfl, .inr (SqT.of ht), _, rfl, b, CT, dy, _, _, rfl, hb, T.insT.cl, T.nT2, tf_rows _ _, u, _, rfl, .inr (SqT.of hu), _, _, rfl, rfl, _, _, _, rfl, ?_, ?_⟩
    · rw [List.length_map, List.length_map]
      omega
    refine ⟨_, rfl, a, CT, dx, _, _, rfl, ha, T.insT.cl, T.nT1, tf_columns _ _, _, rfl, a, CT, dx, _, _, rfl, ha, T.insT.cl, T.nT2, tf_rows _ _, _, rfl, b, CT, dy, _, _, rfl, hb, T.insT.cl, T.nT2, tf_rows _ _, t, u, _, _, rfl, rfl, ht, hu, ?_, fun p H' s1 hp => ?_⟩
    · rw [List.length_map, List.length_map]
      exact Nat.le_of_lt (small1000 (by omega))
    · refine ⟨c, p, rs ++ ss, rfl, hc, ⟨as ++ bs, by rw [hp, List.map_append], Paired.imp (fun _ _ => TRowAt.keep (Same.keep s1)) (Paired.app hta hub)⟩, by rw [List.length_append]; exact h40, fun r hr => ?_, fun p2 H2 s2 h2 => q p2 H2 (s1.trans s2) h2⟩
      rcases List.mem_append.mp hr with z | z
      · exact hw1 r z
      · exact hw2 r z
theorem c_turned : Cal P w K mg base 9 "turned" ["table"] (spTurned CR CT) := by
  refine mkCal T.a_turned sc_turned (fun _ _ _ _ _ _ us hl => match us, hl with | [_], _ => rfl) (by rintro vs H Q E ⟨_, _, _, rfl, _⟩; rfl) fun f cdv A outer s H vs Q E hr h => ?_
  obtain ⟨a, c, rs, rfl, hc, ⟨dx, t, ha, as, ht, hta⟩, h40, hw, q⟩ := h
  refine' ⟨_, ?pf, ?rd⟩
  case pf =>
    refine' pss_cons ?s1 (pss_one ?s2)
    case s1 => exact ps_set (i := 1) sc_turned.nd rfl (.inl rfl) (pe_f (c_want_table T) hr (pa_cons (pv 0) pa_nil))
    case s2 => exact ps_ret (pe_f (c_table_of T) hr (pa_cons (pe_fld (pv 1) rfl) (pa_cons (pe_revT (pe_fld (pv 1) rfl)) pa_nil)))
  case rd =>
    refine ⟨_, rfl, a, dx, _, rfl, ha, ?_⟩
    refine ⟨_, rfl, a, CT, dx, _, _, rfl, ha, T.insT.cl, T.nT1, tf_columns _ _, _, rfl, a, CT, dx, _, _, rfl, ha, T.insT.cl, T.nT2, tf_rows _ _, t, _, rfl, SqT.of ht, fun p hp => ?_⟩
    have s1 : Same H (upd H p (.tup (as.map V.ref).reverse)) := Same.new hp
    refine ⟨c, p, rs.reverse, rfl, hc, ⟨as.reverse, by rw [upd_same, List.map_reverse], Paired.imp (fun _ _ => TRowAt.keep (Same.keep s1)) (Paired.rev hta)⟩, by rw [List.length_reverse]; exact h40, fun r hr => hw r (List.mem_reverse.mp hr), fun p2 H2 s2 h2 => q p2 H2 (s1.trans s2) h2⟩
end
end K22
set_option Elab.async false
set_option linter.all false
set_option maxRecDepth 100000
set_option maxHeartbeats 4000000
/-! Walks: letters, words, what they come to. -/
namespace K22
open PySem PySem.Spec PyProof.Rows L2
def LetOk (c : Nat) (l : List Nat) : Prop := l.length = c ∧ ∀ p ∈ l, p ≤ 8
def WordOk (c : Nat) (w : List (List Nat)) : Prop := c ≤ 3 ∧ w.length ≤ 8 ∧ ∀ l ∈ w, LetOk c l
def RowOk (n c : Nat) (r : List Rat) : Prop := r.length = c ∧ ∀ q ∈ r, Bd n q
def spIsLetter : Sp := fun vs H Q _ => ∃ (c : Nat) (a : Addr) (l : List Nat), vs = [.int (c : Int), .ref a] ∧ LetAt H a l ∧ c ≤ 3 ∧ LetOk c l ∧ ∀ H', Same H H' → Q (.bl true) H'
def spIsWord : Sp := fun vs H Q _ => ∃ (c : Nat) (a : Addr) (w : List (List Nat)), vs = [.int (c : Int), .ref a] ∧ WordAt H a w ∧ WordOk c w ∧ ∀ H', Same H H' → Q (.bl true) H'
def spWantWord : Sp := fun vs H Q _ => ∃ (c : Nat) (a : Addr) (w : List (List Nat)), vs = [.int (c : Int), .ref a] ∧ WordAt H a w ∧ WordOk c w ∧ ∀ H', Same H H' → Q .non H'
def spWorthAt (CR : Addr) : Sp := fun vs H Q _ => ∃ (a b : Addr) (l : List Nat) (r : List Rat) (n c : Nat), vs = [.ref a, .ref b] ∧ LetAt H a l ∧ TRowAt CR H b r ∧ c ≤ 3 ∧ n ≤ 16 ∧ LetOk c l ∧ RowOk n c r ∧
  ∀ p H', Same H H' → RatAt CR H' p (worth l r) → Q (.ref p) H'
def spWorthsAt (CR : Addr) : Sp := fun vs H Q _ => ∃ (a b : Addr) (l : List Nat) (rs : List (List Rat)) (n c : Nat), vs = [.ref a, .ref b] ∧ LetAt H a l ∧ TRowsAt CR H b rs ∧ c ≤ 3 ∧ n ≤ 16 ∧ LetOk c l ∧ (∀ r ∈ rs, RowOk n c r) ∧ rs.length ≤ 40 ∧
  ∀ D H', Same H H' → RatsAt CR H' D (rs.map (worth l)) → Q (.ref D) H'
theorem atInt {l : List Nat} {i : Nat} {v : V} (h : (l.map fun n => V.int ((n : Nat) : Int))[i]? = some v) : ∃ p, l[i]? = some p ∧ v = .int ((p : Nat) : Int) := by
  rw [List.getElem?_map] at h
  cases e : l[i]? with
  | none =>
    rw [e] at h
    cases h
  | some a =>
    rw [e] at h
    exact ⟨a, rfl, (Option.some.inj h).symm⟩
theorem worth_cons {l : List Nat} {r : List Rat} {i p : Nat} {q : Rat} (h1 : l[i]? = some p) (h2 : r[i]? = some q) : worth (l.drop i) (r.drop i) = q ^ p * worth (l.drop (i + 1)) (r.drop (i + 1)) := by
  obtain ⟨a1, b1⟩ := List.getElem?_eq_some_iff.mp h1
  obtain ⟨a2, b2⟩ := List.getElem?_eq_some_iff.mp h2
  rw [List.drop_eq_getElem_cons a1, List.drop_eq_getElem_cons a2, b1, b2]
  rfl
theorem divInt_step {t b : Int} {q : Rat} : Rat.divInt (t * q.num) (b * ((q.den : Nat) : Int)) = Rat.divInt t b * q := by
  have h := Rat.divInt_mul_divInt t q.num (d₁ := b) (d₂ := ((q.den : Nat) : Int))
  rw [self_divInt] at h
  exact h.symm
theorem pow_step (q : Rat) {p t : Nat} (h : t < p) : q ^ (p - t) = q * q ^ (p - (t + 1)) := by
  rw [show p - t = (p - (t + 1)) + 1 by omega, Rat.pow_succ, Rat.mul_comm]
section
variable {P : Program} {w : World} {K : PySem.W.Frag} {mg : Str → Option Value} {base : Heap} {CR CT fR fE fT : Addr} (T : Txt K mg CR CT fR fE fT)
include T
theorem c_is_letter_of : Cal P w K mg base 3 "is_letter_of" ["columns", "value"] spIsLetter := by
  refine mkCal T.a_is_letter_of sc_is_letter_of (fun _ _ _ _ _ _ us hl => match us, hl with | [_, _], _ => rfl) (by rintro vs H Q E ⟨_, _, _, rfl, _⟩; rfl) fun f cdv A outer s H vs Q E hr h => ?_
  obtain ⟨c, a, l, rfl, ha, hc, ⟨hl, h8⟩, q⟩ := h
  obtain ⟨tk, g⟩ := T.i_MOST_POWER
  refine' ⟨_, ?pf, ?rd⟩
  case pf =>
    refine' pss_cons ?s1 (pss_one ?s2)
    case s1 =>
      exact ps_if (PW.pt (pw_or (pt_not (pt_val (pe_callB call_isi (by rfl) T.n_isinstance (by decide +kernel) (pa_cons (pv 1) (pa_cons (pe_bltn (v := .ty "tuple") (by rfl) T.n_tuple (by decide +kernel) rfl) pa_nil)))))
        (pw_or1 (pt_cmpR op_ne (pe_callB call_len_seq (by rfl) T.n_len PySem.boot_len (pa_cons (pv 1) pa_nil)) (pv 0) (nomark _))))) (pss_one ps_never) pss_nil
    case s2 =>
      exact ps_ret (pe_callB (cr_all rfl) (by rfl) T.n_all (by decide +kernel) (pa_cons
        (pe_lc (own := [("power", 2)]) (g := gName 2) (tt := tYes) rfl sc_is_letter_of.nd (pi_tup (pv 1)) (blkOk_by (own := [("power", 2)]) (N := ["columns", "value", "power"]) (sc := defScope s_is_letter_of) (by decide +kernel)) (fun _ _ _ _ _ => pg_name (i := 2) sc_is_letter_of.nd rfl (Or.inl rfl)) (fun _ _ _ _ _ => pts_nil)
          (fun _ _ _ _ _ => pe_and (pe_f (c_is_count T) hr (pa_cons (pv 2) pa_nil)) (pe_one (pe_cmpR op_le (pv 2) (pe_glob (v := .int 8) (by rfl) g ⟨_, rfl⟩) (nomark _))))) pa_nil))
  case rd =>
    refine ⟨_, rfl, _, _, _, _, true, rfl, .ty "tuple", .base (.tup ha), kit_ty (by decide +kernel), true, rfl, iteF ?_⟩
    refine ⟨_, rfl, a, _, rfl, .inr (SqT.of ha), _, rfl, rfl, _, rfl, iteNS ?_ ?_⟩
    · rw [List.length_map, hl]
    refine ⟨_, rfl, a, rfl, ⟨_, SqT.of ha⟩, fun D hD => ?_⟩
    refine lc_it (walk_tup (K := K) (a := a) (xs := l.map fun n => V.int ((n : Nat) : Int))) (fun i H' => Same H (off D H') ∧ H' D = some (.lst ((List.replicate i true).map V.bl))) ⟨off_of (Same.new hD) hD, upd_same⟩ (fun i H' _ h => SqT.of (off_same _ _ (h.1 _ _ ha))) ?_ ?_
    · rintro i y H2 H3 hi ⟨s2, hd⟩ ⟨rfl, hy⟩
      obtain ⟨p, hp1, rfl⟩ := atInt hy
      have hil : i < l.length := (List.getElem?_eq_some_iff.mp hp1).1
      have hp8 := h8 p (List.mem_of_getElem? hp1)
      refine ⟨rfl, _, rfl, _, rfl, true, congrArg V.bl (decide_eq_true (by omega)), iteT ?_⟩
      have e8 : decide (((p : Nat) : Int) ≤ 8) = true := decide_eq_true (by omega)
      refine ⟨_, rfl, _, _, rfl, rfl, ?_⟩
      dsimp only
      rw [e8]
      refine ⟨_, hd, ?_, ?_, ?_⟩
      · rw [List.length_map, List.length_replicate]
        exact small1000 (by omega)
      · rw [off_upd]
        exact s2
      · rw [upd_same, ← rep_snoc, List.map_append]
        rfl
    · rintro H2 ⟨s2, hd⟩
      refine ⟨D, List.replicate (l.map fun n => V.int ((n : Nat) : Int)).length true, rfl, SqL.of hd, ?_⟩
      rw [all_true]
      exact q H2 (s2.trans off_same)
theorem c_is_word_of : Cal P w K mg base 4 "is_word_of" ["columns", "value"] spIsWord := by
  refine mkCal T.a_is_word_of sc_is_word_of (fun _ _ _ _ _ _ us hl => match us, hl with | [_, _], _ => rfl) (by rintro vs H Q E ⟨_, _, _, rfl, _⟩; rfl) fun f cdv A outer s H vs Q E hr h => ?_
  obtain ⟨c, a, wd, rfl, ⟨as, ha, hpp⟩, ⟨hc, h8, hw⟩, q⟩ := h
  obtain ⟨tk, g⟩ := T.i_MOST_LETTERS
  have hl : as.length = wd.length := Paired.len hpp
  refine' ⟨_, ?pf, ?rd⟩
  case pf =>
    refine' pss_cons ?s1 (pss_one ?s2)
    case s1 =>
      exact ps_if (PW.pt (pw_or (pt_not (pt_val (pe_callB call_isi (by rfl) T.n_isinstance (by decide +kernel) (pa_cons (pv 1) (pa_cons (pe_bltn (v := .ty "tuple") (by rfl) T.n_tuple (by decide +kernel) rfl) pa_nil)))))
        (pw_or1 (pt_cmpR op_gt (pe_callB call_len_seq (by rfl) T.n_len PySem.boot_len (pa_cons (pv 1) pa_nil)) (pe_glob (v := .int 8) (by rfl) g ⟨_, rfl⟩) (nomark _))))) (pss_one ps_never) pss_nil
    case s2 =>
      exact ps_ret (pe_callB (cr_all rfl) (by rfl) T.n_all (by decide +kernel) (pa_cons
        (pe_lc (own := [("letter", 2)]) (g := gName 2) (tt := tYes) rfl sc_is_word_of.nd (pi_tup (pv 1)) (blkOk_by (own := [("letter", 2)]) (N := ["columns", "value", "letter"]) (sc := defScope s_is_word_of) (by decide +kernel)) (fun _ _ _ _ _ => pg_name (i := 2) sc_is_word_of.nd rfl (Or.inl rfl)) (fun _ _ _ _ _ => pts_nil)
          (fun _ _ _ _ _ => pe_f (c_is_letter_of T) hr (pa_cons (pv 0) (pa_cons (pv 2) pa_nil)))) pa_nil))
  case rd =>
    refine ⟨_, rfl, _, _, _, _, true, rfl, .ty "tuple", .base (.tup ha), kit_ty (by decide +kernel), true, rfl, iteF ?_⟩
    refine ⟨_, rfl, a, _, rfl, .inr (SqT.of ha), _, _, rfl, rfl, _, rfl, ite2 (fun z => ?_) fun _ => ?_⟩
    · have z' := of_decide_eq_true z
      rw [List.length_map, hl] at z'
      omega
    refine ⟨_, rfl, a, rfl, ⟨_, SqT.of ha⟩, fun D hD => ?_⟩
    refine lc_it (walk_tup (K := K) (a := a) (xs := as.map V.ref)) (fun i H' => Same H (off D H') ∧ H' D = some (.lst ((List.replicate i true).map V.bl))) ⟨off_of (Same.new hD) hD, upd_same⟩ (fun i H' _ h => SqT.of (off_same _ _ (h.1 _ _ ha))) ?_ ?_
    · rintro i y H2 H3 hi ⟨s2, hd⟩ ⟨rfl, hy⟩
      obtain ⟨b, hb, rfl⟩ := atRef hy
      obtain ⟨l, hl1, hl2⟩ := Paired.get hpp hb
      have hil : i < wd.length := (List.getElem?_eq_some_iff.mp hl1).1
      refine ⟨rfl, _, rfl, _, rfl, c, b, l, rfl, LetAt.keep (Same.keep (s2.trans off_same)) hl2, hc, hw l (List.mem_of_getElem? hl1), fun H4 s4 => ?_⟩
      refine ⟨_, s4 _ _ hd, ?_, ?_, ?_⟩
      · rw [List.length_map, List.length_replicate]
        exact small1000 (by omega)
      · rw [off_upd]
        exact s2.trans (off_mono s4)
      · rw [upd_same, ← rep_snoc, List.map_append]
        rfl
    · rintro H2 ⟨s2, hd⟩
      refine ⟨D, List.replicate (as.map V.ref).length true, rfl, SqL.of hd, ?_⟩
      rw [all_true]
      exact q H2 (s2.trans off_same)
theorem c_want_word : Cal P w K mg base 5 "want_word" ["columns", "value"] spWantWord := by
  refine mkCal T.a_want_word sc_want_word (fun _ _ _ _ _ _ us hl => match us, hl with | [_, _], _ => rfl) (by rintro vs H Q E ⟨_, _, _, rfl, _⟩; rfl) fun f cdv A outer s H vs Q E hr h => ?_
  obtain ⟨c, a, wd, rfl, ha, hw, q⟩ := h
  refine' ⟨_, ?pf, ?rd⟩
  case pf =>
    refine' pss_one ?s1
    case s1 => exact ps_if (pt_not (pt_val (pe_f (c_is_word_of T) hr (pa_cons (pv 0) (pa_cons (pv 1) pa_nil))))) (pss_one ps_never) pss_nil
  case rd => exact ⟨_, rfl, _, rfl, c, a, wd, rfl, ha, hw, fun H1 s1 => ⟨true, rfl, iteF (q H1 s1)⟩⟩
theorem c_worth_at : Cal P w K mg base 4 "worth_at" ["letter", "row"] (spWorthAt CR) := by
  refine mkCal T.a_worth_at sc_worth_at (fun _ _ _ _ _ _ us hl => match us, hl with | [_, _], _ => rfl) (by rintro vs H Q E ⟨_, _, _, _, _, _, rfl, _⟩; rfl) fun f cdv A outer s H vs Q E hr h => ?_
  obtain ⟨a, b, l, r, n, c, rfl, ha, ⟨as, hb, hpp⟩, hc, hn, ⟨hl, h8⟩, ⟨hrl, hbd⟩, q⟩ := h
  have hal : as.length = r.length := Paired.len hpp
  refine' ⟨_, ?pf, ?rd⟩
  case pf =>
    refine' pss_cons ?s1 (pss_cons ?s2 (pss_one ?s3))
    case s1 => exact ps_asg (pe_tup (pa_cons pe_int (pa_cons pe_int pa_nil))) (pg_tup (by rfl) (pgs_cons (pg_name (i := 2) sc_worth_at.nd rfl (.inl rfl)) (pgs_cons (pg_name (i := 3) sc_worth_at.nd rfl (.inl rfl)) pgs_nil)))
    case s2 =>
      exact ps_for PassesOwn.never rfl (pi_zipK true true (by rfl) T.n_zip (pa_cons (pv 0) (pa_cons (pv 1) pa_nil))) (pg_tup (by rfl) (pgs_cons (pg_name (i := 4) sc_worth_at.nd rfl (.inl rfl)) (pgs_cons (pg_name (i := 5) sc_worth_at.nd rfl (.inl rfl)) pgs_nil)))
        (pss_one (ps_for PassesOwn.never rfl (pi_range1 (by rfl) T.n_range (pa_cons (pv 4) pa_nil)) (pg_name (i := 6) sc_worth_at.nd rfl (.inl rfl))
          (pss_one (ps_par (i := 2) (j := 3) rfl sc_worth_at.nd rfl rfl (by decide) rfl rfl (pa_cons (pe_op op_mulW (pv 2) (pe_fld (pv 5) rfl)) (pa_cons (pe_op op_mulW (pv 3) (pe_fld (pv 5) rfl)) pa_nil)) (by rfl)))))
    case s3 =>
      refine' ps_ret (pe_rat ?t hr (pa_cons (pv 2) (pa_cons (pv 3) pa_nil)))
      case t => exact T
  case rd =>
    refine ⟨(by show 2 ≤ sizeLine; decide), fun p0 hp0 => ?_⟩
    refine ⟨p0, _, rfl, SqT.of upd_same, rfl, _, _, rfl, _, _, rfl, rfl, ?_⟩
    have s0 : Same H (upd H p0 (.tup [.int 1, .int 1])) := Same.new hp0
    generalize upd H p0 (.tup [.int 1, .int 1]) = H0 at s0
    refine ⟨_, rfl, _, rfl, a, b, _, _, rfl, SqT.of (s0 _ _ ha), SqT.of (s0 _ _ hb), ?_⟩
    refine for_it (walk_zipK (K := K) (k1 := true) (k2 := true) (a := a) (b := b) (xs := l.map fun n => V.int ((n : Nat) : Int)) (ys := as.map V.ref) rfl)
      (fun i σ H' => Same H H' ∧ ∃ (t d : Int) (v4 v5 v6 : Option V), σ = [some (.ref a), some (.ref b), some (.int t), some (.int d), v4, v5, v6] ∧ 0 < d ∧ t.natAbs < 2 ^ (1 + n * (8 * i)) ∧ d.natAbs < 2 ^ (1 + n * (8 * i)) ∧ Rat.divInt t d * worth (l.drop i) (r.drop i) = worth l r)
      ⟨s0, 1, 1, none, none, none, rfl, by decide, by rw [Nat.mul_zero]; decide, by rw [Nat.mul_zero]; decide, ?_⟩ (fun i σ H' _ h => ⟨SqT.of (h.1 _ _ ha), SqT.of (h.1 _ _ hb)⟩) ?_ ?_
    · rw [List.drop_zero, List.drop_zero, show Rat.divInt 1 1 = 1 from by decide, Rat.one_mul]
    · rintro i v σ H1 H2 hi ⟨s1, t, d, v4, v5, v6, rfl, hd, ht1, hd1, hw⟩ ⟨Tp, x, y, rfl, hT, rfl, hx, hy⟩
      obtain ⟨p, hp1, rfl⟩ := atInt hx
      obtain ⟨e, he1, rfl⟩ := atRef hy
      obtain ⟨q0, hq1, dx, hq2⟩ := Paired.get hpp he1
      have hic : i < c := by
        have := (List.getElem?_eq_some_iff.mp hp1).1
        omega
      have hp8 := h8 p (List.mem_of_getElem? hp1)
      have hqb := hbd q0 (List.mem_of_getElem? hq1)
      have s2 : Same H (upd H1 Tp (.tup [.int ((p : Nat) : Int), .ref e])) := Same.upd s1 hT
      refine ⟨Tp, _, rfl, SqT.of upd_same, rfl, _, _, rfl, _, _, rfl, rfl, ?_⟩
      generalize upd H1 Tp (.tup [.int ((p : Nat) : Int), .ref e]) = H3 at s2
      refine ⟨_, rfl, _, rfl, by omega, by omega, ?_⟩
      have hq3 := s2 _ _ hq2
      refine for_it (walk_range (lo := 0) (n := (((p : Nat) : Int)).toNat))
        (fun k σ H' => H' = H3 ∧ ∃ (t d : Int) (v6 : Option V), σ = [some (.ref a), some (.ref b), some (.int t), some (.int d), some (.int ((p : Nat) : Int)), some (.ref e), v6] ∧ 0 < d ∧ t.natAbs < 2 ^ (1 + n * (8 * i + k)) ∧ d.natAbs < 2 ^ (1 + n * (8 * i + k)) ∧ Rat.divInt t d * (q0 ^ (p - k) * worth (l.drop (i + 1)) (r.drop (i + 1))) = worth l r)
        ⟨rfl, t, d, v6, rfl, hd, ht1, hd1, ?_⟩ (fun _ _ _ _ _ => trivial) ?_ ?_
      · rw [Nat.sub_zero, ← worth_cons hp1 hq1]
        exact hw
      · rintro k v σ H4 H5 hk ⟨rfl, t, d, v6, rfl, hd, ht1, hd1, hw⟩ ⟨rfl, rfl⟩
        have hk' : k < p := by
          rw [Int.toNat_natCast] at hk
          exact hk
        have big : 1 + n * (8 * i + k) ≤ 600 := by
          have h1 : n * (8 * i + k) ≤ 16 * 32 := Nat.mul_le_mul hn (by omega)
          omega
        have e1 : 1 + n * (8 * i + (k + 1)) = 1 + n * (8 * i + k) + n := by
          rw [show 8 * i + (k + 1) = 8 * i + k + 1 by omega, Nat.mul_succ]
          omega
        have nb : q0.den.log2 < 1000 := by
          have h1 := PySem.Flt.log2_lt_of (n := q0.den) (k := 1000) (by decide) (Nat.lt_of_lt_of_le hqb.2 (Nat.pow_le_pow_right (by decide) (by omega)))
          exact h1
        have n1 : q0.num.natAbs < 2 ^ 20 := Nat.lt_of_lt_of_le hqb.1 (Nat.pow_le_pow_right (by decide) (by omega))
        have n2 : (((q0.den : Nat) : Int)).natAbs < 2 ^ 20 := by
          rw [Int.natAbs_natCast]
          exact Nat.lt_of_lt_of_le hqb.2 (Nat.pow_le_pow_right (by decide) (by omega))
        refine ⟨_, rfl, _, rfl, e, CR, dx, _, _, rfl, hq3, T.insR.cl, T.nR1, rf_top _ _, _, _, rfl, rfl, wide_mul ht1 n1 (by omega) (by decide) (by omega), _, rfl, _, rfl, e, CR, dx, _, _, rfl, hq3, T.insR.cl, T.nR2, rf_bottom _ _, _, _, rfl, rfl, wide_mul hd1 n2 (by omega) (by decide) (by omega), _, _, rfl, ?_⟩
        refine ⟨rfl, t * q0.num, d * ((q0.den : Nat) : Int), some (.int (0 + ((k : Nat) : Int))), rfl, Int.mul_pos hd (den_pos q0), ?_, ?_, ?_⟩
        · rw [e1]
          exact wide_lt ht1 hqb.1
        · rw [e1]
          exact wide_lt hd1 (by rw [Int.natAbs_natCast]; exact hqb.2)
        · rw [divInt_step, Rat.mul_assoc, ← Rat.mul_assoc q0, ← pow_step q0 hk']
          exact hw
      · rintro σ H4 ⟨rfl, t, d, v6, rfl, hd, ht1, hd1, hw⟩
        rw [Int.toNat_natCast] at ht1 hd1 hw
        have up : 1 + n * (8 * i + p) ≤ 1 + n * (8 * (i + 1)) := by
          have h1 : n * (8 * i + p) ≤ n * (8 * (i + 1)) := Nat.mul_le_mul_left _ (by omega)
          omega
        refine ⟨s2, t, d, _, _, _, rfl, hd, Nat.lt_of_lt_of_le ht1 (Nat.pow_le_pow_right (by decide) up), Nat.lt_of_lt_of_le hd1 (Nat.pow_le_pow_right (by decide) up), ?_⟩
        rw [Nat.sub_self, Rat.pow_zero, Rat.one_mul] at hw
        exact hw
    · rintro σ H1 ⟨s1, t, d, v4, v5, v6, rfl, hd, ht1, hd1, hw⟩
      rw [List.length_map, List.length_map, hal, hl, hrl, Nat.min_self] at ht1 hd1 hw
      have big : 1 + n * (8 * c) ≤ 600 := by
        have h1 : n * (8 * c) ≤ 16 * 24 := Nat.mul_le_mul hn (by omega)
        omega
      refine ⟨_, rfl, _, rfl, t, d, rfl, hd, Nat.lt_of_lt_of_le hd1 (Nat.pow_le_pow_right (by decide) (by omega)), fun p H2 s2 _ h2 => q p H2 (s1.trans s2) ?_⟩
      rw [List.drop_eq_nil_of_le (by omega), List.drop_eq_nil_of_le (by omega)] at hw
      rw [show worth [] [] = 1 from rfl, Rat.mul_one] at hw
      rw [← hw]
      exact h2
theorem c_worths_at : Cal P w K mg base 5 "worths_at" ["letter", "rows"] (spWorthsAt CR) := by
  refine mkCal T.a_worths_at sc_worths_at (fun _ _ _ _ _ _ us hl => match us, hl with | [_, _], _ => rfl) (by rintro vs H Q E ⟨_, _, _, _, _, _, rfl, _⟩; rfl) fun f cdv A outer s H vs Q E hr h => ?_
  obtain ⟨a, b, l, rs, n, c, rfl, ha, ⟨as, hb, hpp⟩, hc, hn, hl, hrs, h40, q⟩ := h
  have hal : as.length = rs.length := Paired.len hpp
  refine' ⟨_, ?pf, ?rd⟩
  case pf =>
    refine' pss_one ?s1
    case s1 =>
      exact ps_ret (pe_lc (own := [("row", 2)]) (g := gName 2) (tt := tYes) rfl sc_worths_at.nd (pi_tup (pv 1)) (blkOk_by (own := [("row", 2)]) (N := ["letter", "rows", "row"]) (sc := defScope s_worths_at) (by decide +kernel)) (fun _ _ _ _ _ => pg_name (i := 2) sc_worths_at.nd rfl (Or.inl rfl)) (fun _ _ _ _ _ => pts_nil)
          (fun _ _ _ _ _ => pe_f (c_worth_at T) hr (pa_cons (pv 0) (pa_cons (pv 2) pa_nil))))
  case rd =>
    refine ⟨_, rfl, b, rfl, ⟨_, SqT.of hb⟩, fun D hD => ?_⟩
    refine lc_it (walk_tup (K := K) (a := b) (xs := as.map V.ref)) (fun i H' => Same H (off D H') ∧ ∃ bs : List Addr, H' D = some (.lst (bs.map V.ref)) ∧ Paired (RatAt CR (off D H')) bs ((rs.map (worth l)).take i)) ⟨off_of (Same.new hD) hD, [], upd_same, .nil⟩ (fun i H' _ h => SqT.of (off_same _ _ (h.1 _ _ hb))) ?_ ?_
    · rintro i y H2 H3 hi ⟨s2, bs, hd, pp⟩ ⟨rfl, hy⟩
      obtain ⟨e, he, rfl⟩ := atRef hy
      obtain ⟨r, hr1, hr2⟩ := Paired.get hpp he
      have hil : i < rs.length := (List.getElem?_eq_some_iff.mp hr1).1
      have sk : Keep H H3 := Same.keep (s2.trans off_same)
      have hw1 : (rs.map (worth l))[i]? = some (worth l r) := by
        rw [List.getElem?_map, hr1]
        rfl
      refine ⟨rfl, _, rfl, _, rfl, a, e, l, r, n, c, rfl, LetAt.keep sk ha, TRowAt.keep sk hr2, hc, hn, hl, hrs r (List.mem_of_getElem? hr1), fun x H4 s4 hx => ?_⟩
      have hd4 := s4 _ _ hd
      refine ⟨_, hd4, ?_, ?_, bs ++ [x], ?_, ?_⟩
      · rw [List.length_map, Paired.len pp, List.length_take]
        exact small1000 (by omega)
      · rw [off_upd]
        exact s2.trans (off_mono s4)
      · rw [upd_same, map_snoc]
      · rw [off_upd, take_snoc hw1]
        exact Paired.app (Paired.imp (fun _ _ => RatAt.keep (Same.keep (off_mono s4))) pp) (.cons (ratAt_off hx hd4) .nil)
    · rintro H2 ⟨s2, bs, hd, pp⟩
      rw [List.length_map, hal, show rs.length = (rs.map (worth l)).length from (List.length_map ..).symm, List.take_length] at pp
      exact q D H2 (s2.trans off_same) ⟨bs, hd, Paired.imp (fun _ _ => RatAt.keep (Same.keep off_same)) pp⟩
end
end K22
set_option Elab.async false
set_option linter.all false
/-! The mathematics, second part: narrow bounds, one bottom for many. -/
namespace K22
/-- top and bottom at most B -/
def Nar (B : Nat) (q : Rat) : Prop := q.num.natAbs ≤ B ∧ q.den ≤ B
theorem Nar.bd {B n : Nat} {q : Rat} (h : Nar B q) (hB : B < 2 ^ n) : Bd n q := ⟨Nat.lt_of_le_of_lt h.1 hB, Nat.lt_of_le_of_lt h.2 hB⟩
theorem Nar.mono {B C : Nat} {q : Rat} (h : Nar B q) (hB : B ≤ C) : Nar C q := ⟨Nat.le_trans h.1 hB, Nat.le_trans h.2 hB⟩
theorem nar_divInt {t b : Int} {n : Nat} (hb : 0 < b) (h1 : t.natAbs ≤ n) (h2 : b.natAbs ≤ n) : Nar n (Rat.divInt t b) := by
  refine ⟨?_, ?_⟩
  · rw [divInt_num hb]
    exact Nat.le_trans (Int.natAbs_ediv_le_natAbs _ _) h1
  · have e := divInt_den (t := t) hb
    have h3 : b / ((Nat.gcd t.natAbs b.natAbs : Nat) : Int) ≤ b := Int.ediv_le_self _ (by omega)
    omega
theorem Nar.mul {n m : Nat} {a b : Rat} (ha : Nar n a) (hb : Nar m b) : Nar (n * m) (a * b) := by
  rw [← mul_divInt]
  refine nar_divInt (Int.mul_pos (den_pos a) (den_pos b)) ?_ ?_
  · rw [Int.natAbs_mul]
    exact Nat.mul_le_mul ha.1 hb.1
  · rw [Int.natAbs_mul, Int.natAbs_natCast, Int.natAbs_natCast]
    exact Nat.mul_le_mul ha.2 hb.2
theorem nar_one : Nar 1 (1 : Rat) := by
  refine ⟨?_, ?_⟩ <;> decide
theorem nar_pow {B : Nat} {q : Rat} (h : Nar B q) (hB : 1 ≤ B) : ∀ p : Nat, Nar (B ^ p) (q ^ p)
  | 0 => by
    rw [Rat.pow_zero, Nat.pow_zero]
    exact nar_one
  | p + 1 => by
    rw [Rat.pow_succ, Nat.pow_succ]
    exact Nar.mul (nar_pow h hB p) h
theorem worth_nar {B M : Nat} (hB : 1 ≤ B) : ∀ (l : List Nat) (r : List Rat), (∀ p ∈ l, p ≤ M) → (∀ q ∈ r, Nar B q) → Nar (B ^ (M * r.length)) (worth l r)
  | [], r, _, _ => Nar.mono nar_one (Nat.one_le_pow _ _ hB)
  | _ :: _, [], _, _ => Nar.mono nar_one (Nat.one_le_pow _ _ hB)
  | p :: l, q :: r, h1, h2 => by
    have ih := worth_nar hB l r (fun x hx => h1 x (List.mem_cons_of_mem _ hx)) fun x hx => h2 x (List.mem_cons_of_mem _ hx)
    have hq := nar_pow (h2 q List.mem_cons_self) hB p
    show Nar _ (q ^ p * worth l r)
    have hp : B ^ p ≤ B ^ M := Nat.pow_le_pow_right hB (h1 p List.mem_cons_self)
    refine Nar.mono (Nar.mul (Nar.mono hq hp) ih) ?_
    rw [← Nat.pow_add, List.length_cons, Nat.mul_succ, Nat.add_comm]
    exact Nat.le_refl _
theorem divInt_add (x y d : Int) : Rat.divInt (x + y) d = Rat.divInt x d + Rat.divInt y d := by
  rw [Rat.divInt_eq_div, Rat.divInt_eq_div, Rat.divInt_eq_div, Rat.intCast_add, Rat.div_def, Rat.div_def, Rat.div_def, Rat.add_mul]
theorem whole_divInt {q : Rat} {L : Nat} (h : q.den ∣ L) (hL : 0 < L) : Rat.divInt (q.num * (((L : Nat) : Int) / ((q.den : Nat) : Int))) ((L : Nat) : Int) = q := by
  obtain ⟨k, rfl⟩ := h
  have hk : 0 < k := Nat.pos_of_mul_pos_left hL
  have hd := den_pos q
  rw [Int.natCast_mul, Int.mul_ediv_cancel_left _ (by omega)]
  have e := Rat.divInt_mul_right (n := q.num) (d := ((q.den : Nat) : Int)) (a := ((k : Nat) : Int)) (by omega)
  rw [e]
  exact self_divInt q
theorem S_none' (w : List (List Nat)) (h : w ≠ []) : S [] w = 0 := by
  cases w with
  | nil => exact absurd rfl h
  | cons l w => rfl
theorem divInt_zero' (d : Int) : Rat.divInt 0 d = 0 := Rat.zero_divInt d
end K22
set_option Elab.async false
set_option linter.all false
set_option maxRecDepth 100000
set_option maxHeartbeats 4000000
/-! Walks: the sums ahead. -/
namespace K22
open PySem PySem.Spec PyProof.Rows L2
def RW (c : Nat) (rs : List (List Rat)) (w : List (List Nat)) : Prop := WordOk c w ∧ (∀ r ∈ rs, RowOk 16 c r) ∧ (∀ l ∈ w, ∀ r ∈ rs, Bd 7 (worth l r)) ∧ rs.length ≤ 8
def aheadL (rs : List (List Rat)) (w : List (List Nat)) : List Rat := (List.range (rs.length + 1)).map fun i => S (rs.take i) w
def spAhead (CR : Addr) : Sp := fun vs H Q _ => ∃ (a b : Addr) (c : Nat) (rs : List (List Rat)) (w : List (List Nat)), vs = [.ref a, .ref b] ∧ TRowsAt CR H a rs ∧ WordAt H b w ∧ RW c rs w ∧
  ∀ D H', Same H H' → H D = none → RatsAt CR H' D (aheadL rs w) → Q (.ref D) H'
theorem none_of {H H1 : Hp} {D : Addr} (s : Same H H1) (h : H1 D = none) : H D = none := by
  cases e : H D with
  | none => rfl
  | some o =>
    rw [s _ _ e] at h
    cases h
theorem at_map {α : Type} {f : α → V} {l : List α} {i : Nat} {v : V} (h : (l.map f)[i]? = some v) : ∃ x, l[i]? = some x ∧ v = f x := by
  rw [List.getElem?_map] at h
  cases e : l[i]? with
  | none =>
    rw [e] at h
    cases h
  | some a =>
    rw [e] at h
    exact ⟨a, rfl, (Option.some.inj h).symm⟩
theorem flat_one {α : Type} (x : α) (n : Nat) : (List.replicate n [x]).flatten = List.replicate n x := by
  induction n with
  | zero => rfl
  | succ n ih => rw [List.replicate_succ, List.flatten_cons, ih, List.replicate_succ] <;> rfl
theorem lcm_dvd {qs : List Rat} {q : Rat} (h : q ∈ qs) : q.den ∣ lcmL qs := by
  induction e : qs.length generalizing qs with
  | zero =>
    have z : qs = [] := List.length_eq_zero_iff.mp e
    rw [z] at h
    cases h
  | succ k ih =>
    obtain ⟨l', x, rfl⟩ : ∃ l' x, qs = l' ++ [x] := ⟨qs.dropLast, qs.getLast (by intro z; rw [z] at e; cases e), (List.dropLast_concat_getLast _).symm⟩
    have hl : l'.length = k := by
      rw [List.length_append] at e
      exact Nat.succ.inj e
    rw [lcm_snoc]
    rcases List.mem_append.mp h with z | z
    · exact Nat.dvd_trans (ih z hl) (Nat.dvd_lcm_left _ _)
    · rw [List.mem_singleton.mp z]
      exact Nat.dvd_lcm_right _ _
/-- numbers over one bottom: the sums of the rows ahead -/
def Over (rs : List (List Rat)) (w : List (List Nat)) (d : Int) (b : Nat) (ns : List Int) : Prop := ∀ (j : Nat) (x : Int), ns[j]? = some x → Rat.divInt x d = S (rs.take j) w ∧ x.natAbs < 2 ^ b
theorem Over.snoc {rs : List (List Rat)} {w : List (List Nat)} {d x : Int} {b : Nat} {ns : List Int} (h : Over rs w d b ns) (h1 : Rat.divInt x d = S (rs.take ns.length) w) (h2 : x.natAbs < 2 ^ b) : Over rs w d b (ns ++ [x]) := fun j y e => by
  by_cases hj : j < ns.length
  · rw [List.getElem?_append_left hj] at e
    exact h j y e
  · rw [List.getElem?_append_right (by omega)] at e
    have e0 : j - ns.length = 0 := by
      have := (List.getElem?_eq_some_iff.mp e).1
      simp at this
      omega
    rw [e0] at e
    have ey : x = y := Option.some.inj e
    have ej : j = ns.length := by omega
    rw [← ey, ej]
    exact ⟨h1, h2⟩
theorem whole_lt {q : Rat} {L : Nat} (h1 : q.num.natAbs < 2 ^ 7) (h2 : L < 2 ^ 57) : (q.num * (((L : Nat) : Int) / ((q.den : Nat) : Int))).natAbs < 2 ^ 64 := by
  have dv : (((L : Nat) : Int) / ((q.den : Nat) : Int)).natAbs < 2 ^ 57 := by
    rw [← Int.natCast_ediv, Int.natAbs_natCast]
    exact Nat.lt_of_le_of_lt (Nat.div_le_self _ _) h2
  exact wide_lt h1 dv
theorem total_step {t x y : Int} {k b : Nat} (ht : t.natAbs ≤ k * 2 ^ (b + 64)) (hx : x.natAbs < 2 ^ b) (hy : y.natAbs < 2 ^ 64) : (t + x * y).natAbs ≤ (k + 1) * 2 ^ (b + 64) := by
  have h1 := wide_lt hx hy
  have h2 := Int.natAbs_add_le t (x * y)
  rw [Nat.add_mul, Nat.one_mul]
  omega
theorem total_lt {t : Int} {k b : Nat} (ht : t.natAbs ≤ k * 2 ^ (b + 64)) (hk : k ≤ 8) : t.natAbs < 2 ^ (b + 140) := by
  have h1 : k * 2 ^ (b + 64) ≤ 8 * 2 ^ (b + 64) := Nat.mul_le_mul_right _ hk
  have h2 : 2 ^ (b + 140) = 2 ^ (b + 64) * 2 ^ 76 := by
    rw [← Nat.pow_add]
  have h3 : 0 < 2 ^ (b + 64) := Nat.two_pow_pos _
  have h4 : (2 : Nat) ^ 76 = 75557863725914323419136 := by decide
  rw [h2, h4]
  revert h1 h3 ht
  generalize 2 ^ (b + 64) = X
  intro ht h1 h3
  omega
section
variable {P : Program} {w : World} {K : PySem.W.Frag} {mg : Str → Option Value} {base : Heap} {CR CT fR fE fT : Addr} (T : Txt K mg CR CT fR fE fT)
include T
theorem c_ahead_sums : Cal P w K mg base 6 "ahead_sums" ["rows", "word"] (spAhead CR) := by
  refine mkCal T.a_ahead_sums sc_ahead_sums (fun _ _ _ _ _ _ us hl => match us, hl with | [_, _], _ => rfl) (by rintro vs H Q E ⟨_, _, _, _, _, rfl, _⟩; rfl) fun f cdv A outer s H vs Q E hr h => ?_
  obtain ⟨a, b, c, rs, wd, rfl, hrows, hword, ⟨⟨hc3, hw8, hwl⟩, hrok, hworth, hr8⟩, q⟩ := h
  obtain ⟨as, ha, hpp⟩ := id hrows
  obtain ⟨bs, hb, hbp⟩ := id hword
  have hal : as.length = rs.length := Paired.len hpp
  have hbl : bs.length = wd.length := Paired.len hbp
  refine' ⟨_, ?pf, ?rd⟩
  case pf =>
    refine' pss_cons ?s1 (pss_cons ?s2 (pss_one ?s3))
    case s1 =>
      exact ps_asg (pe_tup (pa_cons (pe_op op_rep (pe_lst (pa_cons pe_int pa_nil)) (pe_op op_add (pe_callB call_len_seq (by rfl) T.n_len PySem.boot_len (pa_cons (pv 0) pa_nil)) pe_int)) (pa_cons pe_int pa_nil)))
        (pg_tup (by rfl) (pgs_cons (pg_name (i := 2) sc_ahead_sums.nd rfl (.inl rfl)) (pgs_cons (pg_name (i := 3) sc_ahead_sums.nd rfl (.inr rfl)) pgs_nil)))
    case s2 =>
      refine' ps_for PassesOwn.never rfl (pi_tup (pv 1)) (pg_name (i := 4) sc_ahead_sums.nd rfl (.inl rfl)) (pss_cons ?b1 (pss_cons ?b2 (pss_cons ?b3 (pss_one ?b4))))
      case b1 =>
        exact ps_asg (pe_f (c_wholes T) hr (pa_cons (pe_f (c_worths_at T) hr (pa_cons (pv 4) (pa_cons (pv 0) pa_nil))) pa_nil))
          (pg_tup (by rfl) (pgs_cons (pg_name (i := 5) sc_ahead_sums.nd rfl (.inl rfl)) (pgs_cons (pg_name (i := 6) sc_ahead_sums.nd rfl (.inl rfl)) pgs_nil)))
      case b2 => exact ps_par (i := 7) (j := 8) rfl sc_ahead_sums.nd rfl rfl (by decide) rfl rfl (pa_cons pe_int (pa_cons (pe_lst (pa_cons pe_int pa_nil)) pa_nil)) (by rfl)
      case b3 =>
        exact ps_for PassesOwn.never rfl (pi_zipK false false (by rfl) T.n_zip (pa_cons (pv 2) (pa_cons (pv 6) pa_nil))) (pg_tup (by rfl) (pgs_cons (pg_name (i := 9) sc_ahead_sums.nd rfl (.inl rfl)) (pgs_cons (pg_name (i := 10) sc_ahead_sums.nd rfl (.inl rfl)) pgs_nil)))
          (pss_cons (ps_set (i := 7) sc_ahead_sums.nd rfl (.inl rfl) (pe_op op_add (pv 7) (pe_op op_mulW (pv 9) (pv 10))))
            (pss_one (ps_expr (pe_bm PySem.F.plainAttrs_list PySem.F.slot_list_append PySem.F.type_list_append mt_append (pv 8) (pa_cons (pv 7) pa_nil)))))
      case b4 =>
        exact ps_asg (pe_tup (pa_cons (pv 8) (pa_cons (pe_op op_mulW (pv 3) (pv 5)) pa_nil)))
          (pg_tup (by rfl) (pgs_cons (pg_name (i := 2) sc_ahead_sums.nd rfl (.inl rfl)) (pgs_cons (pg_name (i := 3) sc_ahead_sums.nd rfl (.inr rfl)) pgs_nil)))
    case s3 =>
      refine' ps_ret (pe_lc (own := [("number", 11)]) (g := gName 11) (tt := tYes) rfl sc_ahead_sums.nd (pi_list (pv 2)) (blkOk_by (own := [("number", 11)]) (N := ["rows", "word", "found", "below", "letter", "bottom", "worths", "total", "late", "before", "worth", "number"]) (sc := defScope s_ahead_sums) (by decide +kernel)) (fun _ _ _ _ _ => pg_name (i := 11) sc_ahead_sums.nd rfl (Or.inl rfl)) (fun _ _ _ _ _ => pts_nil) ?e)
      case e =>
        intro _ _ _ _ _
        refine' pe_rat ?t hr (pa_cons (pv 11) (pa_cons (pv 3) pa_nil))
        case t => exact T
  case rd =>
    refine ⟨(by show 1 ≤ sizeLine; decide), fun p0 hp0 => ?_⟩
    have s0 : Same H (upd H p0 (.lst [.int 1])) := Same.new hp0
    refine ⟨_, rfl, a, _, rfl, .inr (SqT.of (s0 _ _ ha)), _, _, rfl, rfl, p0, _, [.int 1], rfl, rfl, upd_same, ?_, ?_, ?_, fun p1 hp1 => ?_⟩
    · rw [List.length_map]
      omega
    · rw [List.length_map]
      omega
    · rw [List.length_map, List.length_singleton, Nat.one_mul]
      exact Nat.le_of_lt (small1000 (by omega))
    refine ⟨(by show 2 ≤ sizeLine; decide), fun p2 hp2 => ?_⟩
    have n21 : p1 ≠ p2 := ne_of_none upd_same hp2
    refine ⟨p2, _, rfl, SqT.of upd_same, rfl, _, _, rfl, _, _, rfl, rfl, ?_⟩
    have s2 : Same H (upd (upd (upd H p0 (.lst [.int 1])) p1 (.lst (List.replicate ((((as.map V.ref).length : Nat) : Int) + 1).toNat [V.int 1]).flatten)) p2 (.tup [.ref p1, .int 1])) := (s0.trans (Same.new hp1)).trans (Same.new hp2)
    have f2 : (upd (upd (upd H p0 (.lst [.int 1])) p1 (.lst (List.replicate ((((as.map V.ref).length : Nat) : Int) + 1).toNat [V.int 1]).flatten)) p2 (.tup [.ref p1, .int 1])) p1 = some (.lst ((List.replicate (rs.length + 1) (1 : Int)).map V.int)) := by
      rw [upd_ne n21, upd_same, flat_one, List.map_replicate, List.length_map, hal]
      rfl
    revert s2 f2
    generalize upd (upd (upd H p0 (.lst [.int 1])) p1 (.lst (List.replicate ((((as.map V.ref).length : Nat) : Int) + 1).toNat [V.int 1]).flatten)) p2 (.tup [.ref p1, .int 1]) = H0
    intro s2 f2
    refine ⟨_, rfl, b, rfl, ⟨_, SqT.of (s2 _ _ hb)⟩, ?_⟩
    refine for_it (walk_tup (K := K) (a := b) (xs := bs.map V.ref))
      (fun i σ H' => Same H H' ∧ ∃ (fa : Addr) (ns : List Int) (d : Int) (v4 v5 v6 v7 v8 v9 v10 v11 : Option V), σ = [some (.ref a), some (.ref b), some (.ref fa), some (.int d), v4, v5, v6, v7, v8, v9, v10, v11] ∧ H' fa = some (.lst (ns.map V.int)) ∧ ns.length = rs.length + 1 ∧ 0 < d ∧ d.natAbs < 2 ^ (1 + 57 * i) ∧ Over rs (wd.take i) d (1 + 140 * i) ns)
      ⟨s2, p1, List.replicate (rs.length + 1) 1, 1, none, none, none, none, none, none, none, none, rfl, f2, List.length_replicate, by decide, by rw [Nat.mul_zero]; decide, ?_⟩ (fun i σ H' _ h => SqT.of (h.1 _ _ hb)) ?_ ?_
    · intro j x e
      rw [List.getElem?_replicate] at e
      have ex : x = 1 := by
        split at e
        · exact (Option.some.inj e).symm
        · cases e
      rw [ex, List.take_zero, S_nil]
      exact ⟨by decide, by decide⟩
    · rintro i y σ H1 H2 hi ⟨s1, fa, ns, d, v4, v5, v6, v7, v8, v9, v10, v11, rfl, hf, hns, hd, hdb, hov⟩ ⟨rfl, hy⟩
      obtain ⟨e, he, rfl⟩ := atRef hy
      obtain ⟨l, hl1, hl2⟩ := Paired.get hbp he
      have hlm : l ∈ wd := List.mem_of_getElem? hl1
      have hil : i < wd.length := (List.getElem?_eq_some_iff.mp hl1).1
      refine ⟨_, rfl, _, rfl, e, a, l, rs, 16, c, rfl, LetAt.keep (Same.keep s1) hl2, TRowsAt.keep (Same.keep s1) hrows, hc3, by decide, hwl l hlm, hrok, by omega, fun D1 H3 s3 hr3 => ?_⟩
      have hq7 : ∀ q ∈ rs.map (worth l), Bd 7 q := fun q hq => by
        obtain ⟨r, hr, rfl⟩ := List.mem_map.mp hq
        exact hworth l hlm r hr
      have hql : (rs.map (worth l)).length = rs.length := List.length_map ..
      refine ⟨D1, rs.map (worth l), 7, rfl, hr3, hq7, by rw [hql]; omega, by decide, fun t lw H4 s4 ht hlw hln => ?_⟩
      refine ⟨t, _, rfl, SqT.of ht, rfl, _, _, rfl, _, _, rfl, rfl, ?_⟩
      have s14 : Same H H4 := s1.trans (s3.trans s4)
      have hf4 : H4 fa = some (.lst (ns.map V.int)) := (s3.trans s4) _ _ hf
      clear ht s4 s3 hr3 hln H3
      have hL0 : 0 < lcmL (rs.map (worth l)) := lcm_pos _
      have hL57 : lcmL (rs.map (worth l)) < 2 ^ 57 := Nat.lt_of_lt_of_le (lcm_bd (n := 7) _ hq7) (Nat.pow_le_pow_right (by decide) (by rw [hql]; omega))
      have hLd : ∀ q ∈ rs.map (worth l), q.den ∣ lcmL (rs.map (worth l)) := fun q hq => lcm_dvd hq
      revert hL0 hL57 hLd hlw
      generalize lcmL (rs.map (worth l)) = L
      intro hlw hL0 hL57 hLd
      refine ⟨(by show 1 ≤ sizeLine; decide), fun D hD => ⟨_, _, rfl, ?_⟩⟩
      have nf : fa ≠ D := ne_of_none hf4 hD
      have nl : lw ≠ D := ne_of_none hlw hD
      have s5 : Same H4 (off D (upd H4 D (.lst [.int 0]))) := off_of (Same.new hD) hD
      have hD5 : upd H4 D (.lst [.int 0]) D = some (.lst [.int 0]) := upd_same
      revert s5 hD5
      generalize upd H4 D (.lst [.int 0]) = H5
      intro s5 hD5
      have hwt : wd.take (i + 1) = wd.take i ++ [l] := take_snoc hl1
      refine ⟨_, rfl, _, rfl, fa, lw, _, _, rfl, SqL.of (off_same _ _ (s5 _ _ hf4)), SqL.of (off_same _ _ (s5 _ _ hlw)), ?_⟩
      refine for_it (walk_zipK (K := K) (k1 := false) (k2 := false) (a := fa) (b := lw) (xs := ns.map V.int) (ys := (rs.map (worth l)).map fun q => V.int (q.num * (((L : Nat) : Int) / ((q.den : Nat) : Int)))) rfl)
        (fun k σ H' => Same H4 (off D H') ∧ ∃ (ms : List Int) (tt : Int) (v9 v10 : Option V), σ = [some (.ref a), some (.ref b), some (.ref fa), some (.int d), some (.ref e), some (.int ((L : Nat) : Int)), some (.ref lw), some (.int tt), some (.ref D), v9, v10, v11] ∧ H' D = some (.lst (ms.map V.int)) ∧ ms.length = k + 1 ∧
          tt.natAbs ≤ k * 2 ^ (1 + 140 * i + 64) ∧ Rat.divInt tt (d * ((L : Nat) : Int)) = S (rs.take k) (wd.take (i + 1)) ∧ Over rs (wd.take (i + 1)) (d * ((L : Nat) : Int)) (1 + 140 * (i + 1)) ms)
        ⟨s5, [0], 0, v9, v10, rfl, hD5, rfl, Nat.zero_le _, ?_, ?_⟩ (fun i σ H' _ h => ⟨SqL.of (off_same _ _ (h.1 _ _ hf4)), SqL.of (off_same _ _ (h.1 _ _ hlw))⟩) ?_ ?_
      · rw [divInt_zero', List.take_zero, S_none' _ (by rw [hwt]; simp)]
      · intro j x ex
        have hj : j = 0 := by
          have := (List.getElem?_eq_some_iff.mp ex).1
          simp at this
          omega
        rw [hj] at ex
        have e0 : x = 0 := (Option.some.inj ex).symm
        rw [e0, hj, divInt_zero', List.take_zero, S_none' _ (by rw [hwt]; simp)]
        exact ⟨rfl, Nat.two_pow_pos _⟩
      · rintro k v σ H6 H7 hk ⟨s6, ms, tt, v9, v10, rfl, hms, hml, htt, htv, hov2⟩ ⟨Tp, x, y, rfl, hT, rfl, hx, hy⟩
        obtain ⟨n0, hn0, rfl⟩ := at_map hx
        obtain ⟨q0, hq0, rfl⟩ := at_map hy
        have hqm : q0 ∈ rs.map (worth l) := List.mem_of_getElem? hq0
        have hq0b := hq7 q0 hqm
        obtain ⟨r0, hr0, rfl⟩ : ∃ r, rs[k]? = some r ∧ q0 = worth l r := by
          rw [List.getElem?_map] at hq0
          cases er : rs[k]? with
          | none =>
            rw [er] at hq0
            cases hq0
          | some r =>
            rw [er] at hq0
            exact ⟨r, rfl, (Option.some.inj hq0).symm⟩
        have hkl : k < rs.length := (List.getElem?_eq_some_iff.mp hr0).1
        obtain ⟨ho1, ho2⟩ := hov k n0 hn0
        have nT : D ≠ Tp := ne_of_none hms hT
        have s7 : Same H4 (off D (upd H6 Tp (.tup [.int n0, .int ((worth l r0).num * (((L : Nat) : Int) / (((worth l r0).den : Nat) : Int)))]))) := s6.trans (off_mono (Same.new hT))
        have hm7 : upd H6 Tp (.tup [.int n0, .int ((worth l r0).num * (((L : Nat) : Int) / (((worth l r0).den : Nat) : Int)))]) D = some (.lst (ms.map V.int)) := by
          rw [upd_ne nT]
          exact hms
        refine ⟨Tp, _, rfl, SqT.of upd_same, rfl, _, _, rfl, _, _, rfl, rfl, ?_⟩
        revert s7 hm7
        generalize upd H6 Tp (.tup [.int n0, .int ((worth l r0).num * (((L : Nat) : Int) / (((worth l r0).den : Nat) : Int)))]) = H8
        intro s7 hm7
        have hw64 := whole_lt (q := worth l r0) (L := L) hq0b.1 hL57
        refine ⟨_, rfl, _, rfl, _, rfl, _, _, rfl, rfl, wide_mul (a := 1 + 140 * i) (b := 64) ho2 hw64 (by omega) (by decide) (by omega), _, _, rfl, rfl, ?_⟩
        have ht2 := total_step htt ho2 hw64
        have hv2 : Rat.divInt (tt + n0 * ((worth l r0).num * (((L : Nat) : Int) / (((worth l r0).den : Nat) : Int)))) (d * ((L : Nat) : Int)) = S (rs.take (k + 1)) (wd.take (i + 1)) := by
          rw [divInt_add, htv, ← Rat.divInt_mul_divInt, whole_divInt (hLd _ hqm) hL0, ho1, hwt, S_take hr0]
        refine ⟨_, rfl, .inl ⟨rfl, _, SqL.of hm7⟩, _, rfl, D, _, _, rfl, rfl, hm7, ?_, ?_⟩
        · rw [List.length_map, hml]
          exact small1000 (by omega)
        · refine ⟨?_, ms ++ [tt + n0 * ((worth l r0).num * (((L : Nat) : Int) / (((worth l r0).den : Nat) : Int)))], _, _, _, rfl, ?_, ?_, ht2, hv2, ?_⟩
          · rw [off_upd]
            exact s7
          · rw [upd_same, List.map_append]
            rfl
          · rw [List.length_append, hml]
            rfl
          · refine Over.snoc hov2 ?_ ?_
            · rw [hml]
              exact hv2
            · rw [show 1 + 140 * (i + 1) = 1 + 140 * i + 140 by omega]
              exact total_lt ht2 (by omega)
      · rintro σ H6 ⟨s6, ms, tt, v9, v10, rfl, hms, hml, htt, htv, hov2⟩
        rw [List.length_map, List.length_map, hql, hns, Nat.min_eq_right (by omega)] at hml
        have hLn : (((L : Nat) : Int)).natAbs < 2 ^ 57 := by
          rw [Int.natAbs_natCast]
          exact hL57
        refine ⟨_, rfl, _, rfl, _, rfl, _, _, rfl, rfl, wide_mul hdb hLn (by omega) (by decide) (by omega), (by show 2 ≤ sizeLine; decide), fun p hp => ?_⟩
        have s8 : Same H (upd H6 p (.tup [.ref D, .int (d * ((L : Nat) : Int))])) := (s14.trans (s6.trans off_same)).trans (Same.new hp)
        refine ⟨p, _, rfl, SqT.of upd_same, rfl, _, _, rfl, _, _, rfl, rfl, s8, D, ms, _, _, _, _, _, _, _, _, _, rfl, ?_, hml, Int.mul_pos hd (by omega), ?_, hov2⟩
        · rw [upd_ne (ne_of_none hms hp)]
          exact hms
        · rw [show 1 + 57 * (i + 1) = 1 + 57 * i + 57 by omega]
          exact wide_lt hdb hLn
    · rintro σ H1 ⟨s1, fa, ns, d, v4, v5, v6, v7, v8, v9, v10, v11, rfl, hf, hns, hd, hdb, hov⟩
      rw [List.length_map, hbl] at hdb hov
      rw [List.take_length] at hov
      refine ⟨_, rfl, fa, rfl, ⟨_, SqL.of hf⟩, fun D hD => ?_⟩
      refine lc_it (walk_list (K := K) (a := fa) (xs := ns.map V.int)) (fun i H' => Same H1 (off D H') ∧ ∃ cs : List Addr, H' D = some (.lst (cs.map V.ref)) ∧ Paired (RatAt CR (off D H')) cs ((aheadL rs wd).take i)) ⟨off_of (Same.new hD) hD, [], upd_same, .nil⟩ (fun i H' _ h => SqL.of (off_same _ _ (h.1 _ _ hf))) ?_ ?_
      · rintro i y H2 H3 hi ⟨s2, cs, hc, pp⟩ ⟨rfl, hy⟩
        obtain ⟨n0, hn0, rfl⟩ := at_map hy
        have hil : i < ns.length := (List.getElem?_eq_some_iff.mp hn0).1
        have hai : (aheadL rs wd)[i]? = some (S (rs.take i) wd) := by
          unfold aheadL
          rw [List.getElem?_map, List.getElem?_range (by omega)]
          rfl
        refine ⟨rfl, _, rfl, _, rfl, n0, d, rfl, hd, Nat.lt_of_lt_of_le hdb (Nat.pow_le_pow_right (by decide) (by omega)), fun x H4 s4 _ hx => ?_⟩
        have hc4 := s4 _ _ hc
        rw [(hov i n0 hn0).1] at hx
        refine ⟨_, hc4, ?_, ?_, cs ++ [x], ?_, ?_⟩
        · rw [List.length_map, Paired.len pp, List.length_take]
          exact small1000 (by omega)
        · rw [off_upd]
          exact s2.trans (off_mono s4)
        · rw [upd_same, map_snoc]
        · rw [off_upd, take_snoc hai]
          exact Paired.app (Paired.imp (fun _ _ => RatAt.keep (Same.keep (off_mono s4))) pp) (.cons (ratAt_off hx hc4) .nil)
      · rintro H2 ⟨s2, cs, hc, pp⟩
        rw [List.length_map, hns, show rs.length + 1 = (aheadL rs wd).length by unfold aheadL; rw [List.length_map, List.length_range], List.take_length] at pp
        exact q D H2 (s1.trans (s2.trans off_same)) (none_of s1 hD) ⟨cs, hc, Paired.imp (fun _ _ => RatAt.keep (Same.keep off_same)) pp⟩
end
end K22
set_option Elab.async false
set_option linter.all false
set_option maxRecDepth 100000
set_option maxHeartbeats 4000000
/-! Cuts of a word as they stand; what stands, as plain data to be compared. -/
namespace K22
open PySem PySem.Spec PyProof.Rows L2
/-! ### plain data -/
def Shp (n : Nat) (d : PyData) : Prop := d.canLay0 = true ∧ d.depth ≤ n
theorem shp_all {n : Nat} : ∀ {ds : List PyData}, (∀ d ∈ ds, Shp n d) → PyData.canLayAll0 ds = true ∧ PyData.depthAll ds ≤ n
  | [], _ => ⟨rfl, Nat.zero_le _⟩
  | d :: ds, h => by
    obtain ⟨h1, h2⟩ := h d List.mem_cons_self
    obtain ⟨h3, h4⟩ := shp_all fun x hx => h x (List.mem_cons_of_mem _ hx)
    refine ⟨?_, ?_⟩
    · rw [PyData.canLayAll0, h1, h3]
      rfl
    · rw [PyData.depthAll]
      omega
theorem shp_list {n : Nat} {ds : List PyData} (h : ∀ d ∈ ds, Shp n d) : Shp (n + 1) (.list ds) := by
  obtain ⟨h1, h2⟩ := shp_all h
  refine ⟨?_, ?_⟩
  · rw [PyData.canLay0]
    exact h1
  · rw [PyData.depth]
    omega
theorem shp_tup {n : Nat} {ds : List PyData} (h : ∀ d ∈ ds, Shp n d) : Shp (n + 1) (.tuple ds) := by
  obtain ⟨h1, h2⟩ := shp_all h
  refine ⟨?_, ?_⟩
  · rw [PyData.canLay0]
    exact h1
  · rw [PyData.depth]
    omega
theorem shp_int (i : Int) : Shp 0 (.int i) := ⟨by rw [PyData.canLay0], by rw [PyData.depth] <;> exact Nat.le_refl _⟩
theorem Shp.shaped {n : Nat} {d : PyData} (h : Shp n d) (hn : n ≤ 64 := by decide) : SeqAt.shaped d = true := by
  show (d.canLay0 && decide (d.depth ≤ 64)) = true
  rw [h.1, decide_eq_true (Nat.le_trans h.2 hn)]
  rfl
theorem Shp.refl {n : Nat} {d : PyData} (h : Shp n d) : PyData.eqv d d = true := SeqAt.eqv_refl d h.1
def letD (l : List Nat) : PyData := .tuple (l.map fun n => .int ((n : Nat) : Int))
def wordD (w : List (List Nat)) : PyData := .tuple (w.map letD)
def cutD (w : List (List Nat)) (i : Nat) : PyData := .tuple [wordD (w.take i), wordD (w.drop i)]
def cutsD (w : List (List Nat)) : PyData := .list ((List.range (w.length + 1)).map (cutD w))
def numD (q : Rat) : PyData := .tuple [.int q.num, .int ((q.den : Nat) : Int)]
def rowD (r : List Rat) : PyData := .list (r.map numD)
def rowsD (rs : List (List Rat)) : PyData := .list (rs.map rowD)
theorem shp_let (l : List Nat) : Shp 1 (letD l) := shp_tup fun d hd => by
  obtain ⟨n, _, rfl⟩ := List.mem_map.mp hd
  exact shp_int _
theorem shp_word (w : List (List Nat)) : Shp 2 (wordD w) := shp_tup fun d hd => by
  obtain ⟨n, _, rfl⟩ := List.mem_map.mp hd
  exact shp_let _
theorem shp_cuts (w : List (List Nat)) : Shp 4 (cutsD w) := shp_list fun d hd => by
  obtain ⟨n, _, rfl⟩ := List.mem_map.mp hd
  refine shp_tup fun e he => ?_
  rcases List.mem_cons.mp he with z | z
  · rw [z]
    exact shp_word _
  · rw [List.mem_singleton.mp z]
    exact shp_word _
theorem shp_num (q : Rat) : Shp 1 (numD q) := shp_tup fun e he => by
  rcases List.mem_cons.mp he with z | z
  · rw [z]
    exact shp_int _
  · rw [List.mem_singleton.mp z]
    exact shp_int _
theorem shp_row (r : List Rat) : Shp 2 (rowD r) := shp_list fun d hd => by
  obtain ⟨n, _, rfl⟩ := List.mem_map.mp hd
  exact shp_num _
theorem shp_rows (rs : List (List Rat)) : Shp 3 (rowsD rs) := shp_list fun d hd => by
  obtain ⟨n, _, rfl⟩ := List.mem_map.mp hd
  exact shp_row _
section
variable {K : PySem.W.Frag} {H : Hp}
theorem dp_all {α : Type} {f : α → V} {g : α → PyData} (h : ∀ x, Dp K H (f x) (g x)) : ∀ l : List α, DpAll K H (l.map f) (l.map g)
  | [] => .nil
  | x :: l => .cons (h x) (dp_all h l)
theorem dp_pair {β : Type} {F : Addr → β → Prop} {g : β → PyData} (h : ∀ a x, F a x → Dp K H (.ref a) (g x)) : ∀ {as : List Addr} {l : List β}, Paired F as l → DpAll K H (as.map V.ref) (l.map g)
  | _, _, .nil => .nil
  | _, _, .cons h1 t => .cons (h _ _ h1) (dp_pair h t)
theorem dp_let {a : Addr} {l : List Nat} (h : LetAt H a l) : Dp K H (.ref a) (letD l) := .tup (SqT.of h) (dp_all (fun n => .int _) l)
theorem dp_word {a : Addr} {w : List (List Nat)} (h : WordAt H a w) : Dp K H (.ref a) (wordD w) := by
  obtain ⟨as, h1, h2⟩ := h
  exact .tup (SqT.of h1) (dp_pair (g := letD) (fun _ _ => dp_let) h2)
theorem dp_num {a : Addr} {q : Rat} (h : NumAt H a q) : Dp K H (.ref a) (numD q) := .tup (SqT.of h) (.cons (.int _) (.cons (.int _) .nil))
theorem dp_row {a : Addr} {r : List Rat} (h : RowAt H a r) : Dp K H (.ref a) (rowD r) := by
  obtain ⟨as, h1, h2⟩ := h
  exact .lst (SqL.of h1) (dp_pair (g := numD) (fun _ _ => dp_num) h2)
theorem dp_rows {a : Addr} {rs : List (List Rat)} (h : RowsAt H a rs) : Dp K H (.ref a) (rowsD rs) := by
  obtain ⟨as, h1, h2⟩ := h
  exact .lst (SqL.of h1) (dp_pair (g := rowD) (fun _ _ => dp_row) h2)
end
/-! ### cuts as they stand -/
def CutAt (w : List (List Nat)) (H : Hp) (p : Addr) (i : Nat) : Prop := ∃ x y, H p = some (.tup [.ref x, .ref y]) ∧ WordAt H x (w.take i) ∧ WordAt H y (w.drop i)
def CutsAt (H : Hp) (D : Addr) (w : List (List Nat)) : Prop := ∃ cs : List Addr, H D = some (.lst (cs.map V.ref)) ∧ Paired (CutAt w H) cs (List.range (w.length + 1))
theorem CutAt.keep {w : List (List Nat)} {H H' : Hp} {p : Addr} {i : Nat} (k : Keep H H') (h : CutAt w H p i) : CutAt w H' p i := by
  obtain ⟨x, y, h1, h2, h3⟩ := h
  exact ⟨x, y, k _ _ h1 np_tup, WordAt.keep k h2, WordAt.keep k h3⟩
theorem CutsAt.keep {w : List (List Nat)} {H H' : Hp} {D : Addr} (k : Keep H H') (h : CutsAt H D w) : CutsAt H' D w := by
  obtain ⟨cs, h1, h2⟩ := h
  exact ⟨cs, k _ _ h1 np_refs, Paired.imp (fun _ _ => CutAt.keep k) h2⟩
theorem dp_cuts {K : PySem.W.Frag} {H : Hp} {D : Addr} {w : List (List Nat)} (h : CutsAt H D w) : Dp K H (.ref D) (cutsD w) := by
  obtain ⟨cs, h1, h2⟩ := h
  refine .lst (SqL.of h1) (dp_pair (fun p i q => ?_) h2)
  obtain ⟨x, y, q1, q2, q3⟩ := q
  exact .tup (SqT.of q1) (.cons (dp_word q2) (.cons (dp_word q3) .nil))
theorem letAt_off {D a : Addr} {H : Hp} {l : List Nat} {xs : List V} (h : LetAt H a l) (hd : H D = some (.lst xs)) : LetAt (off D H) a l := off_has h hd (by intro z; cases z)
theorem wordAt_off {D a : Addr} {H : Hp} {w : List (List Nat)} {xs : List V} (h : WordAt H a w) (hd : H D = some (.lst xs)) : WordAt (off D H) a w := by
  obtain ⟨as, h1, h2⟩ := h
  exact ⟨as, off_has h1 hd (by intro z; cases z), Paired.imp (fun _ _ q => letAt_off q hd) h2⟩
theorem cutAt_off {w : List (List Nat)} {D p : Addr} {H : Hp} {i : Nat} {xs : List V} (h : CutAt w H p i) (hd : H D = some (.lst xs)) : CutAt w (off D H) p i := by
  obtain ⟨x, y, h1, h2, h3⟩ := h
  exact ⟨x, y, off_has h1 hd (by intro z; cases z), wordAt_off h2 hd, wordAt_off h3 hd⟩
theorem cut_front (as : List Addr) (i : Nat) : cutV (as.map V.ref) none (some (0 + ((i : Nat) : Int))) = (as.take i).map V.ref := by
  unfold cutV
  rw [Int.zero_add, HT.sIx_none, HT.sIx_nat, List.drop_zero, Nat.sub_zero, List.length_map, ← List.map_take]
  congr 1
  by_cases h : i ≤ as.length
  · rw [Nat.min_eq_left h]
  · rw [Nat.min_eq_right (by omega), List.take_length, List.take_of_length_le (by omega)]
theorem cut_back (as : List Addr) (i : Nat) : cutV (as.map V.ref) (some (0 + ((i : Nat) : Int))) none = (as.drop i).map V.ref := by
  unfold cutV
  rw [Int.zero_add, HT.sIx_none, HT.sIx_nat, List.length_map, ← List.map_drop]
  have e : as.drop (min i as.length) = as.drop i := by
    by_cases h : i ≤ as.length
    · rw [Nat.min_eq_left h]
    · rw [Nat.min_eq_right (by omega), List.drop_length, List.drop_of_length_le (by omega)]
  rw [e]
  refine List.take_of_length_le ?_
  rw [List.length_map, List.length_drop]
  omega
theorem wordAt_front {H H' : Hp} {a p : Addr} {as : List Addr} {w : List (List Nat)} {i : Nat} (k : Keep H H') (hpp : Paired (LetAt H) as w) (hp : H' p = some (.tup (cutV (as.map V.ref) none (some (0 + ((i : Nat) : Int)))))) : WordAt H' p (w.take i) :=
  ⟨as.take i, by rw [hp, cut_front], Paired.imp (fun _ _ => LetAt.keep k) (Paired.take i hpp)⟩
theorem wordAt_back {H H' : Hp} {a p : Addr} {as : List Addr} {w : List (List Nat)} {i : Nat} (k : Keep H H') (hpp : Paired (LetAt H) as w) (hp : H' p = some (.tup (cutV (as.map V.ref) (some (0 + ((i : Nat) : Int))) none))) : WordAt H' p (w.drop i) :=
  ⟨as.drop i, by rw [hp, cut_back], Paired.imp (fun _ _ => LetAt.keep k) (Paired.drop i hpp)⟩
end K22
set_option Elab.async false
set_option linter.all false
set_option maxRecDepth 100000
set_option maxHeartbeats 4000000
/-! Walks: sums behind, cuts, turned words; calls by keywords. -/
namespace K22
open PySem PySem.Spec PyProof.Rows L2
def behindL (rs : List (List Rat)) (w : List (List Nat)) : List Rat := (List.range (rs.length + 1)).map fun i => S (rs.drop i) w
theorem behind_rev (rs : List (List Rat)) (w : List (List Nat)) : (aheadL rs.reverse w.reverse).reverse = behindL rs w := by
  unfold aheadL behindL
  apply List.ext_getElem
  · rw [List.length_reverse, List.length_map, List.length_range, List.length_map, List.length_range, List.length_reverse]
  · intro j h1 h2
    rw [List.length_map, List.length_range] at h2
    rw [List.getElem_reverse, List.getElem_map, List.getElem_map, List.getElem_range, List.getElem_range]
    rw [List.length_map, List.length_range, List.length_reverse]
    rw [show rs.length + 1 - 1 - j = rs.length - j by omega]
    exact S_back (by omega)
theorem RW.rev {c : Nat} {rs : List (List Rat)} {w : List (List Nat)} (h : RW c rs w) : RW c rs.reverse w.reverse := by
  obtain ⟨⟨h1, h2, h3⟩, h4, h5, h6⟩ := h
  exact ⟨⟨h1, by rw [List.length_reverse]; exact h2, fun l hl => h3 l (List.mem_reverse.mp hl)⟩, fun r hr => h4 r (List.mem_reverse.mp hr), fun l hl r hr => h5 l (List.mem_reverse.mp hl) r (List.mem_reverse.mp hr), by rw [List.length_reverse]; exact h6⟩
def spBehind (CR : Addr) : Sp := fun vs H Q _ => ∃ (a b : Addr) (c : Nat) (rs : List (List Rat)) (w : List (List Nat)), vs = [.ref a, .ref b] ∧ TRowsAt CR H a rs ∧ WordAt H b w ∧ RW c rs w ∧
  ∀ D H', Same H H' → RatsAt CR H' D (behindL rs w) → Q (.ref D) H'
def spCuts1 : Sp := fun vs H Q _ => ∃ (a : Addr) (w : List (List Nat)), vs = [.ref a] ∧ WordAt H a w ∧ w.length ≤ 8 ∧ ∀ D H', Same H H' → H D = none → CutsAt H' D w → Q (.ref D) H'
def spCuts : Sp := fun vs H Q _ => ∃ (c : Nat) (a : Addr) (w : List (List Nat)), vs = [.int (c : Int), .ref a] ∧ WordAt H a w ∧ WordOk c w ∧ ∀ D H', Same H H' → H D = none → CutsAt H' D w → Q (.ref D) H'
def spTurnW : Sp := fun vs H Q _ => ∃ (c : Nat) (a : Addr) (w : List (List Nat)), vs = [.int (c : Int), .ref a] ∧ WordAt H a w ∧ WordOk c w ∧ ∀ p H', Same H H' → WordAt H' p w.reverse → Q (.ref p) H'
def spSumsA (CR CT : Addr) : Sp := fun vs H Q _ => ∃ (a b : Addr) (c : Nat) (rs : List (List Rat)) (w : List (List Nat)), vs = [.ref a, .ref b] ∧ TabAt CR CT H a c rs ∧ WordAt H b w ∧ RW c rs w ∧
  ∀ D H', Same H H' → H D = none → RatsAt CR H' D (aheadL rs w) → Q (.ref D) H'
def spSumsB (CR CT : Addr) : Sp := fun vs H Q _ => ∃ (a b : Addr) (c : Nat) (rs : List (List Rat)) (w : List (List Nat)), vs = [.ref a, .ref b] ∧ TabAt CR CT H a c rs ∧ WordAt H b w ∧ RW c rs w ∧
  ∀ D H', Same H H' → RatsAt CR H' D (behindL rs w) → Q (.ref D) H'
def spWordSum (CR CT : Addr) : Sp := fun vs H Q _ => ∃ (a b : Addr) (c : Nat) (rs : List (List Rat)) (w : List (List Nat)), vs = [.ref a, .ref b] ∧ TabAt CR CT H a c rs ∧ WordAt H b w ∧ RW c rs w ∧
  ∀ p H', Same H H' → RatAt CR H' p (S rs w) → Q (.ref p) H'
/-! ### a def called in both ways: by places, by names in the other order -/
theorem kbn0 {K : PySem.W.Frag} {x qual : Str} {st : Stmt} {f : Addr} {fd : FuncData} {ps ks : List Str} (F : FunD K x qual (defArgs st) (defBody st) (defScope st) [] [] f fd)
    (h : ∀ (kV doc pm : Value) (an : Option Addr) (cdv ct : Value) (ws : List Value), ws.length = ks.length → bindArgs (PySem.W.fnOf x qual (defArgs st) (defBody st) (defScope st) .none kV doc pm an cdv ct) ⟨[], ks.zip ws⟩ = pure (ps.zip ws.reverse)) :
    KBn K fd ps 0 ks (fun _ ws => ws.reverse) (fun _ zs => zs.reverse) := by
  obtain ⟨oc, od, dV, kV, doc, pm, an, cdv, ct, osl, rfl, lk, hcd, hD, hK⟩ := F.ex
  rcases hD with ⟨_, rfl⟩ | ⟨e, _⟩
  · refine ⟨fun s us ws X l1 l2 => ?_, fun r1 r2 => r2.reverse⟩
    cases us with
    | nil => exact .of_eq (h kV doc pm an cdv ct ws l2)
    | cons _ _ => cases l1
  · exact absurd rfl e
section
variable {P : Program} {w : World} {K : PySem.W.Frag} {mg : Str → Option Value} {base : Heap}
theorem mkCalK {x : Str} {st : Stmt} {N ps : List Str} {k : Nat} {sp : Sp} (a : At K mg x st) (S : FnScope N ps (defScope st)) (ks : List Str)
    (hb : ∀ (kV doc pm : Value) (an : Option Addr) (cdv ct : Value) (us : List Value), us.length = ps.length → bindArgs (PySem.W.fnOf x x (defArgs st) (defBody st) (defScope st) .none kV doc pm an cdv ct) ⟨us, []⟩ = pure (ps.zip us))
    (hk : ∀ (kV doc pm : Value) (an : Option Addr) (cdv ct : Value) (ws : List Value), ws.length = ks.length → bindArgs (PySem.W.fnOf x x (defArgs st) (defBody st) (defScope st) .none kV doc pm an cdv ct) ⟨[], ks.zip ws⟩ = pure (ps.zip ws.reverse))
    (len : ∀ vs H Q E, sp vs H Q E → vs.length = ps.length)
    (hbody : ∀ (f : Addr) (cdv : Value) (A : Around) (outer : List Env) (s : Shared) (H : Hp) (vs : List V) (Q : VK) (E : XK), Room k (A.deeper (envOfC x (defScope st) s.heap.objs.size f cdv)) → sp vs H Q E →
      ∃ t, PSs (cxOf CX0 P w K mg base N x (defScope st) f cdv A outer s H E).nox (defBody st) t ∧ t { nx := fun _ H' => Q .non H', rt := Q } (start N vs) H) : Cal P w K mg base (k + 1) x ps sp ∧ CalN P w K mg base (k + 1) x ps ks sp List.reverse := by
  obtain ⟨f, fd, F, g⟩ := a.fn
  have ok : FnOk P w K mg base CX0 (k + 1) f fd ps sp := F.ok S len fun cdv A outer s H vs Q E hr h => by
    obtain ⟨t, h1, h2⟩ := hbody f cdv A outer s H vs Q E hr h
    exact ⟨t, h1.nox, h2⟩
  exact ⟨⟨f, fd, ok, g, F.kp, F.bindsN hb⟩, ⟨f, fd, _, ok, g, F.kp, kbn0 F hk⟩⟩
end
section
variable {P : Program} {w : World} {K : PySem.W.Frag} {mg : Str → Option Value} {base : Heap} {CR CT fR fE fT : Addr} (T : Txt K mg CR CT fR fE fT)
include T
theorem c_behind_sums : Cal P w K mg base 7 "behind_sums" ["rows", "word"] (spBehind CR) := by
  refine mkCal T.a_behind_sums sc_behind_sums (fun _ _ _ _ _ _ us hl => match us, hl with | [_, _], _ => rfl) (by rintro vs H Q E ⟨_, _, _, _, _, rfl, _⟩; rfl) fun f cdv A outer s H vs Q E hr h => ?_
  obtain ⟨a, b, c, rs, wd, rfl, ⟨as, ha, hpp⟩, ⟨bs, hb, hbp⟩, hrw, q⟩ := h
  refine' ⟨_, ?pf, ?rd⟩
  case pf =>
    refine' pss_one ?s1
    case s1 => exact ps_ret (pe_revL (pe_f (c_ahead_sums T) hr (pa_cons (pe_revT (pv 0)) (pa_cons (pe_revT (pv 1)) pa_nil))))
  case rd =>
    refine ⟨_, rfl, a, _, rfl, SqT.of ha, fun p1 hp1 => ?_⟩
    have s1 : Same H (upd H p1 (.tup (as.map V.ref).reverse)) := Same.new hp1
    refine ⟨_, rfl, b, _, rfl, SqT.of (s1 _ _ hb), fun p2 hp2 => ?_⟩
    have s2 := Same.new (o := .tup (bs.map V.ref).reverse) hp2
    have s3 := s1.trans s2
    refine ⟨p1, p2, c, rs.reverse, wd.reverse, rfl, ⟨as.reverse, ?_, Paired.imp (fun _ _ => TRowAt.keep (Same.keep s3)) (Paired.rev hpp)⟩, ⟨bs.reverse, ?_, Paired.imp (fun _ _ => LetAt.keep (Same.keep s3)) (Paired.rev hbp)⟩, hrw.rev, fun D H' s4 _ hD => ?_⟩
    · rw [s2 _ _ upd_same, List.map_reverse]
    · rw [upd_same, List.map_reverse]
    obtain ⟨cs, hc, pp⟩ := hD
    refine ⟨D, _, rfl, SqL.of hc, fun p hp => ?_⟩
    refine q p _ ((s3.trans s4).trans (Same.new hp)) ⟨cs.reverse, by rw [upd_same, List.map_reverse], ?_⟩
    rw [← behind_rev]
    exact Paired.imp (fun _ _ => RatAt.keep (Same.keep (Same.new hp))) (Paired.rev pp)
theorem c_word_cuts : Cal P w K mg base 1 "word_cuts" ["word"] spCuts1 := by
  refine mkCal T.a_word_cuts sc_word_cuts (fun _ _ _ _ _ _ us hl => match us, hl with | [_], _ => rfl) (by rintro vs H Q E ⟨_, _, rfl, _⟩; rfl) fun f cdv A outer s H vs Q E hr h => ?_
  obtain ⟨a, wd, rfl, ⟨as, ha, hpp⟩, h8, q⟩ := h
  have hl : as.length = wd.length := Paired.len hpp
  refine' ⟨_, ?pf, ?rd⟩
  case pf =>
    refine' pss_one ?s1
    case s1 =>
      exact ps_ret (pe_lc (own := [("at", 1)]) (g := gName 1) (tt := tYes) rfl sc_word_cuts.nd (pi_range1 (by rfl) T.n_range (pa_cons (pe_op op_add (pe_callB call_len_seq (by rfl) T.n_len PySem.boot_len (pa_cons (pv 0) pa_nil)) pe_int) pa_nil)) (blkOk_by (own := [("at", 1)]) (N := ["word", "at"]) (sc := defScope s_word_cuts) (by decide +kernel)) (fun _ _ _ _ _ => pg_name (i := 1) sc_word_cuts.nd rfl (Or.inl rfl)) (fun _ _ _ _ _ => pts_nil)
        (fun _ _ _ _ _ => pe_tup (pa_cons (pe_slice sl_cutU (pv 0) po_none (po_some (pv 1))) (pa_cons (pe_slice sl_cutU (pv 0) (po_some (pv 1)) po_none) pa_nil))))
  case rd =>
    refine ⟨_, rfl, a, _, rfl, .inr (SqT.of ha), _, _, rfl, rfl, _, rfl, ?_, ?_, fun D hD => ?_⟩
    · rw [List.length_map]
      omega
    · rw [List.length_map]
      omega
    refine lc_it (walk_range (lo := 0) (n := ((((as.map V.ref).length : Nat) : Int) + 1).toNat)) (fun i H' => Same H (off D H') ∧ ∃ cs : List Addr, H' D = some (.lst (cs.map V.ref)) ∧ Paired (CutAt wd (off D H')) cs ((List.range (wd.length + 1)).take i)) ⟨off_of (Same.new hD) hD, [], upd_same, .nil⟩ (fun _ _ _ _ => trivial) ?_ ?_
    · rintro i y H2 H3 hi ⟨s2, cs, hc, pp⟩ ⟨rfl, rfl⟩
      rw [List.length_map, hl] at hi
      have hi' : i < wd.length + 1 := by omega
      have s3 := s2.trans off_same
      refine ⟨rfl, ?_⟩
      refine ⟨_, rfl, _, rfl, _, rfl, a, _, rfl, s3 _ _ ha, fun p1 H4 s4 h4 => ?_⟩
      refine ⟨_, rfl, _, rfl, _, rfl, a, _, rfl, s4 _ _ (s3 _ _ ha), fun p2 H5 s5 h5 => ?_⟩
      refine ⟨(by show 2 ≤ sizeLine; decide), fun p hp => ?_⟩
      have s6 : Same H5 (upd H5 p (.tup [.ref p1, .ref p2])) := Same.new hp
      have s45 := s4.trans (s5.trans s6)
      have hc6 := s45 _ _ hc
      refine ⟨_, hc6, ?_, ?_, cs ++ [p], ?_, ?_⟩
      · rw [List.length_map, Paired.len pp, List.length_take]
        exact small1000 (by omega)
      · rw [off_upd]
        exact s2.trans (off_mono s45)
      · rw [upd_same, map_snoc]
      · rw [off_upd, take_snoc (show (List.range (wd.length + 1))[i]? = some i from List.getElem?_range hi')]
        refine Paired.app (Paired.imp (fun _ _ => CutAt.keep (Same.keep (off_mono s45))) pp) (.cons (cutAt_off ⟨p1, p2, upd_same, ?_, ?_⟩ hc6) .nil)
        · exact WordAt.keep (Same.keep (s5.trans s6)) (wordAt_front (a := a) (Same.keep (s3.trans s4)) hpp h4)
        · exact WordAt.keep (Same.keep s6) (wordAt_back (a := a) (Same.keep ((s3.trans s4).trans s5)) hpp h5)
    · rintro H2 ⟨s2, cs, hc, pp⟩
      rw [List.length_map, hl, show ((((wd.length : Nat) : Int)) + 1).toNat = (List.range (wd.length + 1)).length by rw [List.length_range]; omega, List.take_length] at pp
      exact q D H2 (s2.trans off_same) hD ⟨cs, hc, Paired.imp (fun _ _ => CutAt.keep (Same.keep off_same)) pp⟩
end
end K22
set_option Elab.async false
set_option linter.all false
set_option maxRecDepth 100000
set_option maxHeartbeats 4000000
/-! Walks: the words' public calls. -/
namespace K22
open PySem PySem.Spec PyProof.Rows L2
theorem at_last {as : List Addr} {a : Addr} {n : Nat} (hl : as.length = n + 1) (h : as[n]? = some a) : atI (as.map V.ref) (-1) = some (.ref a) := by
  unfold atI ixN
  rw [List.length_map, hl, if_neg (by decide), if_pos (by omega)]
  show (as.map V.ref)[_]? = _
  rw [show (((-1 : Int) + ((n + 1 : Nat) : Int)).toNat) = n by omega, List.getElem?_map, h]
  rfl
section
variable {P : Program} {w : World} {K : PySem.W.Frag} {mg : Str → Option Value} {base : Heap} {CR CT fR fE fT : Addr} (T : Txt K mg CR CT fR fE fT)
include T
theorem c_sums_ahead : Cal P w K mg base 7 "sums_ahead" ["table", "word"] (spSumsA CR CT) := by
  refine mkCal T.a_sums_ahead sc_sums_ahead (fun _ _ _ _ _ _ us hl => match us, hl with | [_, _], _ => rfl) (by rintro vs H Q E ⟨_, _, _, _, _, rfl, _⟩; rfl) fun f cdv A outer s H vs Q E hr h => ?_
  obtain ⟨a, b, c, rs, wd, rfl, ⟨dx, t, ha, ht⟩, hb, hrw, q⟩ := h
  refine' ⟨_, ?pf, ?rd⟩
  case pf =>
    refine' pss_cons ?s1 (pss_cons ?s2 (pss_one ?s3))
    case s1 => exact ps_set (i := 2) sc_sums_ahead.nd rfl (.inl rfl) (pe_f (c_want_table T) hr (pa_cons (pv 0) pa_nil))
    case s2 => exact ps_expr (pe_f (c_want_word T) hr (pa_cons (pe_fld (pv 2) rfl) (pa_cons (pv 1) pa_nil)))
    case s3 => exact ps_ret (pe_f (c_ahead_sums T) hr (pa_cons (pe_fld (pv 2) rfl) (pa_cons (pv 1) pa_nil)))
  case rd =>
    refine ⟨_, rfl, a, dx, _, rfl, ha, ?_⟩
    refine ⟨_, rfl, a, CT, dx, _, _, rfl, ha, T.insT.cl, T.nT1, tf_columns _ _, _, rfl, c, b, wd, rfl, hb, hrw.1, fun H1 s1 => ?_⟩
    exact ⟨_, rfl, a, CT, dx, _, _, rfl, s1 _ _ ha, T.insT.cl, T.nT2, tf_rows _ _, _, rfl, t, b, c, rs, wd, rfl, TRowsAt.keep (Same.keep s1) ht, WordAt.keep (Same.keep s1) hb, hrw, fun D H2 s2 f2 h2 => q D H2 (s1.trans s2) (none_of s1 f2) h2⟩
theorem k_sums_behind : Cal P w K mg base 8 "sums_behind" ["table", "word"] (spSumsB CR CT) ∧ CalN P w K mg base 8 "sums_behind" ["table", "word"] ["word", "table"] (spSumsB CR CT) List.reverse := by
  refine mkCalK T.a_sums_behind sc_sums_behind ["word", "table"] (fun _ _ _ _ _ _ us hl => match us, hl with | [_, _], _ => rfl) (fun _ _ _ _ _ _ us hl => match us, hl with | [_, _], _ => rfl) (by rintro vs H Q E ⟨_, _, _, _, _, rfl, _⟩; rfl) fun f cdv A outer s H vs Q E hr h => ?_
  obtain ⟨a, b, c, rs, wd, rfl, ⟨dx, t, ha, ht⟩, hb, hrw, q⟩ := h
  refine' ⟨_, ?pf, ?rd⟩
  case pf =>
    refine' pss_cons ?s1 (pss_cons ?s2 (pss_one ?s3))
    case s1 => exact ps_set (i := 2) sc_sums_behind.nd rfl (.inl rfl) (pe_f (c_want_table T) hr (pa_cons (pv 0) pa_nil))
    case s2 => exact ps_expr (pe_f (c_want_word T) hr (pa_cons (pe_fld (pv 2) rfl) (pa_cons (pv 1) pa_nil)))
    case s3 => exact ps_ret (pe_f (c_behind_sums T) hr (pa_cons (pe_fld (pv 2) rfl) (pa_cons (pv 1) pa_nil)))
  case rd =>
    refine ⟨_, rfl, a, dx, _, rfl, ha, ?_⟩
    refine ⟨_, rfl, a, CT, dx, _, _, rfl, ha, T.insT.cl, T.nT1, tf_columns _ _, _, rfl, c, b, wd, rfl, hb, hrw.1, fun H1 s1 => ?_⟩
    exact ⟨_, rfl, a, CT, dx, _, _, rfl, s1 _ _ ha, T.insT.cl, T.nT2, tf_rows _ _, _, rfl, t, b, c, rs, wd, rfl, TRowsAt.keep (Same.keep s1) ht, WordAt.keep (Same.keep s1) hb, hrw, fun D H2 s2 h2 => q D H2 (s1.trans s2) h2⟩
theorem k_word_sum : Cal P w K mg base 8 "word_sum" ["table", "word"] (spWordSum CR CT) ∧ CalN P w K mg base 8 "word_sum" ["table", "word"] ["word", "table"] (spWordSum CR CT) List.reverse := by
  refine mkCalK T.a_word_sum sc_word_sum ["word", "table"] (fun _ _ _ _ _ _ us hl => match us, hl with | [_, _], _ => rfl) (fun _ _ _ _ _ _ us hl => match us, hl with | [_, _], _ => rfl) (by rintro vs H Q E ⟨_, _, _, _, _, rfl, _⟩; rfl) fun f cdv A outer s H vs Q E hr h => ?_
  obtain ⟨a, b, c, rs, wd, rfl, ha, hb, hrw, q⟩ := h
  refine' ⟨_, ?pf, ?rd⟩
  case pf =>
    refine' pss_one ?s1
    case s1 => exact ps_ret (pe_ix ix_list (pe_f (c_sums_ahead T) hr (pa_cons (pv 0) (pa_cons (pv 1) pa_nil))) (pe_un un_neg pe_int) (fun _ _ => rfl))
  case rd =>
    refine ⟨_, rfl, _, rfl, a, b, c, rs, wd, rfl, ha, hb, hrw, fun D H' s1 _ hD => ?_⟩
    obtain ⟨cs, hc, pp⟩ := hD
    have hcl : cs.length = rs.length + 1 := by
      rw [Paired.len pp]
      unfold aheadL
      rw [List.length_map, List.length_range]
    have hlt : rs.length < cs.length := by omega
    have hx := List.getElem?_eq_getElem hlt
    obtain ⟨v, hv, hr1⟩ := Paired.get pp hx
    have ev : v = S rs wd := by
      unfold aheadL at hv
      rw [List.getElem?_map, List.getElem?_range (by omega)] at hv
      have e1 := (Option.some.inj hv).symm
      rw [e1]
      show S (rs.take rs.length) wd = S rs wd
      rw [List.take_length]
    rw [ev] at hr1
    exact ⟨1, rfl, D, _, -1, _, rfl, rfl, SqL.of hc, at_last hcl hx, q _ H' s1 hr1⟩
theorem k_cuts : Cal P w K mg base 6 "cuts" ["columns", "word"] spCuts ∧ CalN P w K mg base 6 "cuts" ["columns", "word"] ["word", "columns"] spCuts List.reverse := by
  refine mkCalK T.a_cuts sc_cuts ["word", "columns"] (fun _ _ _ _ _ _ us hl => match us, hl with | [_, _], _ => rfl) (fun _ _ _ _ _ _ us hl => match us, hl with | [_, _], _ => rfl) (by rintro vs H Q E ⟨_, _, _, rfl, _⟩; rfl) fun f cdv A outer s H vs Q E hr h => ?_
  obtain ⟨c, a, wd, rfl, ha, hw, q⟩ := h
  refine' ⟨_, ?pf, ?rd⟩
  case pf =>
    refine' pss_cons ?s1 (pss_cons ?s2 (pss_one ?s3))
    case s1 => exact ps_expr (pe_f (c_want_columns T) hr (pa_cons (pv 0) pa_nil))
    case s2 => exact ps_expr (pe_f (c_want_word T) hr (pa_cons (pv 0) (pa_cons (pv 1) pa_nil)))
    case s3 => exact ps_ret (pe_f (c_word_cuts T) hr (pa_cons (pv 1) pa_nil))
  case rd => exact ⟨_, rfl, c, rfl, hw.1, _, rfl, _, rfl, c, a, wd, rfl, ha, hw, fun H1 s1 => ⟨_, rfl, a, wd, rfl, WordAt.keep (Same.keep s1) ha, hw.2.1, fun D H2 s2 f2 h2 => q D H2 (s1.trans s2) (none_of s1 f2) h2⟩⟩
theorem c_turned_word : Cal P w K mg base 6 "turned_word" ["columns", "word"] spTurnW := by
  refine mkCal T.a_turned_word sc_turned_word (fun _ _ _ _ _ _ us hl => match us, hl with | [_, _], _ => rfl) (by rintro vs H Q E ⟨_, _, _, rfl, _⟩; rfl) fun f cdv A outer s H vs Q E hr h => ?_
  obtain ⟨c, a, wd, rfl, ha, hw, q⟩ := h
  refine' ⟨_, ?pf, ?rd⟩
  case pf =>
    refine' pss_cons ?s1 (pss_cons ?s2 (pss_one ?s3))
    case s1 => exact ps_expr (pe_f (c_want_columns T) hr (pa_cons (pv 0) pa_nil))
    case s2 => exact ps_expr (pe_f (c_want_word T) hr (pa_cons (pv 0) (pa_cons (pv 1) pa_nil)))
    case s3 => exact ps_ret (pe_revT (pv 1))
  case rd =>
    refine ⟨_, rfl, c, rfl, hw.1, _, rfl, _, rfl, c, a, wd, rfl, ha, hw, fun H1 s1 => ?_⟩
    obtain ⟨as, h1, h2⟩ := ha
    refine ⟨_, rfl, a, _, rfl, SqT.of (s1 _ _ h1), fun p hp => q p _ (s1.trans (Same.new hp)) ⟨as.reverse, by rw [upd_same, List.map_reverse], Paired.imp (fun _ _ => LetAt.keep (Same.keep (s1.trans (Same.new hp)))) (Paired.rev h2)⟩⟩
end
end K22
set_option Elab.async false
set_option linter.all false
set_option maxRecDepth 100000
set_option maxHeartbeats 4000000
/-! Walks: the law's own numbers. -/
namespace K22
open PySem PySem.Spec PyProof.Rows L2
def spPot (K : PySem.W.Frag) : Sp := fun vs H Q _ => ∃ (a : Addr) (ns : List Int), vs = [.ref a, .int 0] ∧ SqL K H a (ns.map V.int) ∧ ∀ p H', Same H H' → PotAt H' p → Q (.ref p) H'
def spDraw : Sp := fun vs H Q _ => ∃ (p : Addr) (m : Nat), vs = [.ref p, .int ((m : Nat) : Int)] ∧ PotAt H p ∧ 0 < m ∧ m ≤ 1000 ∧ ∀ (d : Nat) H', d < m → PotAt H' p → Kp p H H' → Q (.int ((d : Nat) : Int)) H'
def spDiv : Sp := fun vs H Q _ => ∃ t b : Int, vs = [.int t, .int b] ∧ 0 < b ∧ Q (.int ((Nat.gcd t.natAbs b.natAbs : Nat) : Int)) H
def spLow : Sp := fun vs H Q _ => ∃ t b : Int, vs = [.int t, .int b] ∧ 0 < b ∧ b.natAbs < 2 ^ 9000 ∧ ∀ p H', Same H H' → NumAt H' p (Rat.divInt t b) → Q (.ref p) H'
def spPlus : Sp := fun vs H Q _ => ∃ (a b : Addr) (x y : Rat) (n m : Nat), vs = [.ref a, .ref b] ∧ NumAt H a x ∧ NumAt H b y ∧ Bd n x ∧ Bd m y ∧ 1 ≤ n ∧ 1 ≤ m ∧ n + m ≤ 8999 ∧ ∀ p H', Same H H' → NumAt H' p (x + y) → Q (.ref p) H'
def spTimes : Sp := fun vs H Q _ => ∃ (a b : Addr) (x y : Rat) (n m : Nat), vs = [.ref a, .ref b] ∧ NumAt H a x ∧ NumAt H b y ∧ Bd n x ∧ Bd m y ∧ 1 ≤ n ∧ 1 ≤ m ∧ n + m ≤ 8999 ∧ ∀ p H', Same H H' → NumAt H' p (x * y) → Q (.ref p) H'
def spRatio (CR : Addr) : Sp := fun vs H Q _ => ∃ (a : Addr) (x : Rat), vs = [.ref a] ∧ NumAt H a x ∧ x.den < 2 ^ 9000 ∧ ∀ p H', Same H H' → RatAt CR H' p x → Q (.ref p) H'
def spNumber : Sp := fun vs H Q _ => ∃ p : Addr, vs = [.ref p] ∧ PotAt H p ∧ ∀ a q H', NumAt H' a q → Nar 3 q → PotAt H' p → Kp p H H' → Q (.ref a) H'
theorem emod_nat (x : Int) {m : Nat} (h : 0 < m) : ∃ d : Nat, d < m ∧ x % ((m : Nat) : Int) = ((d : Nat) : Int) := by
  have h1 : 0 ≤ x % ((m : Nat) : Int) := Int.emod_nonneg _ (by omega)
  have h2 : x % ((m : Nat) : Int) < ((m : Nat) : Int) := Int.emod_lt_of_pos _ (by omega)
  exact ⟨(x % ((m : Nat) : Int)).toNat, by omega, by omega⟩
theorem numAt_divInt {H : Hp} {p : Addr} {t b : Int} (hb : 0 < b) (h : H p = some (.tup [.int (t / ((Nat.gcd t.natAbs b.natAbs : Nat) : Int)), .int (b / ((Nat.gcd t.natAbs b.natAbs : Nat) : Int))])) : NumAt H p (Rat.divInt t b) := by
  unfold NumAt
  rw [divInt_num hb, divInt_den hb]
  exact h
theorem numAt_one {H : Hp} {p : Addr} {t : Int} (h : H p = some (.tup [.int t, .int 1])) : NumAt H p (Rat.divInt t 1) := by
  refine numAt_divInt (by decide) ?_
  rw [show Nat.gcd t.natAbs (1 : Int).natAbs = 1 from Nat.gcd_one_right _]
  rw [show ((1 : Nat) : Int) = 1 from rfl, Int.ediv_one, Int.ediv_one]
  exact h
theorem Kp.of_upd {p : Addr} {o : HO} {H : Hp} : Kp p H (L2.upd H p o) := Kp.upd (.inl rfl)
section
variable {P : Program} {w : World} {K : PySem.W.Frag} {mg : Str → Option Value} {base : Heap} {CR CT fR fE fT : Addr} (T : Txt K mg CR CT fR fE fT)
include T
theorem v_draw : Cal P w K mg base 1 "_law_draw" ["_law_pot_here", "_law_many"] spDraw := by
  refine mkCal T.a_L_draw sc_L_draw (fun _ _ _ _ _ _ us hl => match us, hl with | [_, _], _ => rfl) (by rintro vs H Q E ⟨_, _, rfl, _⟩; rfl) fun f cdv A outer s H vs Q E hr h => ?_
  obtain ⟨p, m, rfl, ⟨x, y, hp, hx, hy, hy2⟩, hm, hm2, q⟩ := h
  refine' ⟨_, ?pf, ?rd⟩
  case pf =>
    refine' pss_cons ?s1 (pss_cons ?s2 (pss_one ?s3))
    case s1 =>
      refine' ps_if (pt_cmpR op_gt (pe_ix ix_list (pv 0) pe_int (fun _ _ => rfl)) pe_int (nomark _)) (pss_cons ?a1 (pss_one (ps_ret (pv 2)))) pss_nil
      case a1 =>
        exact ps_asg (pe_callB call_divmodW (by rfl) T.n_divmod (by decide +kernel) (pa_cons (pe_ix ix_list (pv 0) pe_int (fun _ _ => rfl)) (pa_cons (pv 1) pa_nil)))
          (pg_tup (by rfl) (pgs_cons (pg_sub (pv 0) pe_int set_list) (pgs_cons (pg_name (i := 2) sc_L_draw.nd rfl (.inl rfl)) pgs_nil)))
    case s2 =>
      exact ps_asg (pe_op op_mod (pe_callTy call_int1 (by rfl) T.n_int (by decide +kernel) (pa_cons (pe_op op_add (pe_op op_mulW (pe_ix ix_list (pv 0) pe_int (fun _ _ => rfl)) pe_int) pe_int) pa_nil)) pe_int) (pg_sub (pv 0) pe_int set_list)
    case s3 =>
      exact ps_ret (pe_op op_mod (pe_callTy call_int1 (by rfl) T.n_int (by decide +kernel) (pa_cons (pe_op op_fdivW (pe_op op_mod (pe_callTy call_int1 (by rfl) T.n_int (by decide +kernel) (pa_cons (pe_op op_mulW (pe_ix ix_list (pv 0) pe_int (fun _ _ => rfl)) (pe_ix ix_list (pv 0) pe_int (fun _ _ => rfl))) pa_nil)) pe_int) pe_int) pa_nil)) (pv 1))
  case rd =>
    refine ⟨_, rfl, p, _, 0, _, rfl, rfl, SqL.of hp, rfl, _, _, rfl, rfl, _, rfl, ite2 (fun z => ?_) fun _ => ?_⟩
    · have hmi : 0 < ((m : Nat) : Int) := by omega
      refine ⟨_, rfl, p, _, 0, _, rfl, rfl, SqL.of hp, rfl, _, rfl, _, _, rfl, ⟨hmi, PyProof.noPylong_of_log2 ?_⟩, fun t ht => ?_⟩
      · refine PySem.Flt.log2_lt_of (by decide) ?_
        rw [Int.natAbs_natCast]
        exact Nat.lt_of_lt_of_le (show m < 2 ^ 10 by omega) (Nat.pow_le_pow_right (by decide) (by decide))
      have n1 : p ≠ t := ne_of_none hp ht
      refine ⟨t, _, rfl, SqT.of upd_same, rfl, _, _, rfl, _, rfl, p, _, 0, _, rfl, rfl, (by rw [upd_ne n1]; exact hp), rfl, _, _, rfl, rfl, ?_⟩
      obtain ⟨d, hd, ed⟩ := emod_nat x hm
      refine ⟨_, rfl, ?_⟩
      show Q (.int (x % ((m : Nat) : Int))) _
      rw [ed]
      refine q d _ hd ⟨x / ((m : Nat) : Int), y, upd_same, Int.ediv_nonneg hx (by omega), hy, hy2⟩ ?_
      exact (Same.kp (Same.new ht)).trans Kp.of_upd
    · have hyb : y.natAbs < 2 ^ 32 := by
        have : (2 : Nat) ^ 32 = 4294967296 := by decide
        omega
      refine ⟨_, rfl, p, _, 1, _, rfl, rfl, SqL.of hp, rfl, _, _, rfl, rfl, wide_mul (b := 16) hyb (by decide) (by decide) (by decide) (by decide), _, _, rfl, rfl, .inl ⟨_, rfl, _, _, rfl, rfl, (by show (0 : Int) < 2147483587; decide), ?_⟩⟩
      have e1 : 0 ≤ (y * 39373 + 709) % 2147483587 := Int.emod_nonneg _ (by decide)
      have e2 : (y * 39373 + 709) % 2147483587 < 2147483587 := Int.emod_lt_of_pos _ (by decide)
      refine ⟨_, rfl, p, _, 1, _, rfl, rfl, hp, rfl, ?_⟩
      have hzb : ((y * 39373 + 709) % 2147483587).natAbs < 2 ^ 32 := by
        have : (2 : Nat) ^ 32 = 4294967296 := by decide
        omega
      have hp2 : L2.upd H p (.lst ([V.int x, V.int y].set (Int.toNat 1) (V.int ((y * 39373 + 709) % 2147483587)))) p = some (.lst [V.int x, V.int ((y * 39373 + 709) % 2147483587)]) := upd_same
      refine ⟨_, rfl, p, _, 1, _, rfl, rfl, SqL.of hp2, rfl, _, rfl, p, _, 1, _, rfl, rfl, SqL.of hp2, rfl, _, _, rfl, rfl, wide_mul hzb hzb (by decide) (by decide) (by decide), .inl ⟨_, rfl, _, _, rfl, rfl, (by show (0 : Int) < 2147483563; decide), _, _, rfl, rfl, wide_div (b := 10) (by decide) (by decide) (by decide) (by decide), .inl ⟨_, rfl, _, rfl, _, _, rfl, rfl, (by omega), ?_⟩⟩⟩
      obtain ⟨d, hd, ed⟩ := emod_nat ((y * 39373 + 709) % 2147483587 * ((y * 39373 + 709) % 2147483587) % 2147483563 / 17) hm
      show Q (.int (((y * 39373 + 709) % 2147483587 * ((y * 39373 + 709) % 2147483587) % 2147483563 / 17) % ((m : Nat) : Int))) _
      rw [ed]
      exact q d _ hd ⟨x, _, hp2, hx, e1, by omega⟩ Kp.of_upd
theorem v_pot : Cal P w K mg base 1 "_law_pot" ["_law_script", "_law_k"] (spPot K) := by
  refine mkCal T.a_L_pot sc_L_pot (fun _ _ _ _ _ _ us hl => match us, hl with | [_, _], _ => rfl) (by rintro vs H Q E ⟨_, _, rfl, _⟩; rfl) fun f cdv A outer s H vs Q E hr h => ?_
  obtain ⟨a, ns, rfl, ha, q⟩ := h
  refine' ⟨_, ?pf, ?rd⟩
  case pf =>
    refine' pss_cons ?s1 (pss_one ?s2)
    case s1 =>
      exact ps_set (i := 2) sc_L_pot.nd rfl (.inl rfl) (pe_ifExp (pt_cmpR op_lt (pv 1) (pe_callB call_len_seq (by rfl) T.n_len PySem.boot_len (pa_cons (pv 0) pa_nil)) (nomark _))
        (pe_callB call_abs (by rfl) T.n_abs (by decide +kernel) (pa_cons (pe_ix ix_list (pv 0) (pv 1) (fun _ _ => rfl)) pa_nil)) (pe_op op_add (pe_op op_mulW pe_int (pv 1)) pe_int))
    case s2 =>
      exact ps_ret (pe_lst (pa_cons (pe_callB (call_max2 rfl) (by rfl) T.n_max (by decide +kernel) (pa_cons pe_int (pa_cons (pe_op op_sub (pv 2) (pe_op op_pow pe_int pe_int)) pa_nil)))
        (pa_cons (pe_op op_add (pe_op op_mod (pe_callTy call_int1 (by rfl) T.n_int (by decide +kernel) (pa_cons (pe_op op_add (pe_op op_add (pe_op op_mulW (pe_op op_mod (pe_callTy call_int1 (by rfl) T.n_int (by decide +kernel) (pa_cons (pv 2) pa_nil)) pe_int) pe_int) (pe_op op_mulW pe_int (pv 1))) pe_int) pa_nil)) pe_int) pe_int) pa_nil)))
  case rd =>
    have rest : ∀ x : Int, 0 ≤ x → tRet (tLst (tCons (tCB (fun xs H Q => ∃ i j, xs = [.int i, .int j] ∧ Q (.int (if j > i then j else i)) H) (tCons (tC (.int 0)) (tCons (tOp (rI0 fun i j => .int (i - j)) (tVar 2) (tOp (rI CPow fun i j => .int (i ^ j.toNat)) (tC (.int 10)) (tC (.int 18)))) tNil)))
        (tCons (tOp (rI0 fun i j => .int (i + j)) (tOp (rI (fun _ j => 0 < j) fun i j => .int (i % j)) (tCB (fun xs H Q => (∃ i, xs = [.int i] ∧ Q (.int i) H) ∨ ∃ k, xs = [.bl k] ∧ Q (.int (if k then 1 else 0)) H) (tCons (tOp (rI0 fun i j => .int (i + j)) (tOp (rI0 fun i j => .int (i + j)) (tOp (rI CMulW fun i j => .int (i * j)) (tOp (rI (fun _ j => 0 < j) fun i j => .int (i % j)) (tCB (fun xs H Q => (∃ i, xs = [.int i] ∧ Q (.int i) H) ∨ ∃ k, xs = [.bl k] ∧ Q (.int (if k then 1 else 0)) H) (tCons (tVar 2) tNil)) (tC (.int 2147483549))) (tC (.int 48271))) (tOp (rI CMulW fun i j => .int (i * j)) (tC (.int 29718)) (tVar 1))) (tC (.int 709))) tNil)) (tC (.int 2147483563))) (tC (.int 1))) tNil)))
        { nx := fun _ H' => Q .non H', rt := Q } [some (.ref a), some (.int 0), some (.int x)] H := by
      intro x hx
      refine ⟨_, rfl, _, _, rfl, rfl, ⟨by decide, by decide, by decide⟩, _, _, rfl, rfl, _, _, rfl, ?_⟩
      have e1 : 0 ≤ x % 2147483549 := Int.emod_nonneg _ (by decide)
      have e2 : x % 2147483549 < 2147483549 := Int.emod_lt_of_pos _ (by decide)
      have h32 : (2 : Nat) ^ 32 = 4294967296 := by decide
      refine ⟨_, rfl, .inl ⟨_, rfl, _, _, rfl, rfl, (by show (0 : Int) < 2147483549; decide), _, _, rfl, rfl, wide_mul (a := 32) (b := 16) (by omega) (by decide) (by decide) (by decide) (by decide), _, rfl, _, _, rfl, rfl, wide_mul (a := 15) (b := 1) (by decide) (by decide) (by decide) (by decide) (by decide), _, _, rfl, rfl, _, _, rfl, rfl,
        .inl ⟨_, rfl, _, _, rfl, rfl, (by show (0 : Int) < 2147483563; decide), _, _, rfl, rfl, (by show 2 ≤ sizeLine; decide), fun p hp => ?_⟩⟩⟩
      have f1 : 0 ≤ (x % 2147483549 * 48271 + 29718 * 0 + 709) % 2147483563 := Int.emod_nonneg _ (by decide)
      have f2 : (x % 2147483549 * 48271 + 29718 * 0 + 709) % 2147483563 < 2147483563 := Int.emod_lt_of_pos _ (by decide)
      refine q p _ (Same.new hp) ⟨_, _, upd_same, ?_, ?_, ?_⟩
      · split <;> omega
      · omega
      · omega
    refine ⟨_, rfl, _, rfl, a, _, rfl, .inl ha, _, _, rfl, rfl, _, rfl, ite2 (fun z => ?_) fun _ => ?_⟩
    · have hn : (0 : Int) < (((ns.map V.int).length : Nat) : Int) := of_decide_eq_true z
      cases ns with
      | nil => simp at hn
      | cons n0 ns =>
        refine ⟨_, rfl, _, rfl, a, _, 0, .int n0, rfl, rfl, ha, ?_, _, rfl, rest _ ?_⟩
        · unfold atI ixN
          rw [if_pos (by decide), if_pos (by rw [List.map_cons, List.length_cons]; omega)]
          rfl
        · split <;> omega
    · exact ⟨_, rfl, _, _, rfl, rfl, wide_mul (a := 10) (b := 1) (by decide) (by decide) (by decide) (by decide) (by decide), _, _, rfl, rfl, rest _ (by decide)⟩
end
end K22
set_option Elab.async false
set_option linter.all false
set_option maxRecDepth 100000
set_option maxHeartbeats 4000000
/-! Walks: the law's own numbers, second part. -/
namespace K22
open PySem PySem.Spec PyProof.Rows L2
theorem gcd_step {x y : Int} : Nat.gcd y.natAbs (x % y).natAbs = Nat.gcd x.natAbs y.natAbs := by
  have h : Int.gcd y (x % y) = Int.gcd y x := by
    rw [Int.emod_def, Int.gcd_sub_mul_left_right]
  have h2 : Int.gcd y (x % y) = Int.gcd x y := h.trans (Int.gcd_comm _ _)
  exact h2
theorem two_lt9000 : 2 ≤ 2 ^ 9000 := Nat.pow_le_pow_right (n := 2) (by decide) (show 1 ≤ 9000 by decide)
theorem lt9000 {x n : Nat} (h : x < 2 ^ n) (hn : n ≤ 9000) : x < 2 ^ 9000 := Nat.lt_of_lt_of_le h (Nat.pow_le_pow_right (by decide) hn)
section
variable {P : Program} {w : World} {K : PySem.W.Frag} {mg : Str → Option Value} {base : Heap} {CR CT fR fE fT : Addr} (T : Txt K mg CR CT fR fE fT)
include T
theorem v_divisor : Cal P w K mg base 1 "_law_divisor" ["_law_one", "_law_other"] spDiv := by
  refine mkCal T.a_L_divisor sc_L_divisor (fun _ _ _ _ _ _ us hl => match us, hl with | [_, _], _ => rfl) (by rintro vs H Q E ⟨_, _, rfl, _⟩; rfl) fun f cdv A outer s H vs Q E hr h => ?_
  obtain ⟨t, b, rfl, hb, q⟩ := h
  refine' ⟨_, ?pf, ?rd⟩
  case pf =>
    refine' pss_cons ?s1 (pss_one ?s2)
    case s1 =>
      exact ps_while PassesOwn.never (pt_cmpR op_ne (pv 1) pe_int (nomark _)) (pss_one (ps_par (i := 0) (j := 1) rfl sc_L_divisor.nd rfl rfl (by decide) rfl rfl (pa_cons (pv 1) (pa_cons (pe_op op_mod (pe_callTy call_int1 (by rfl) T.n_int (by decide +kernel) (pa_cons (pv 0) pa_nil)) (pv 1)) pa_nil)) (by rfl)))
    case s2 => exact ps_ret (pe_callB call_abs (by rfl) T.n_abs (by decide +kernel) (pa_cons (pv 0) pa_nil))
  case rd =>
    refine ⟨fun m σ H' => H' = H ∧ ∃ x y : Int, σ = [some (.int x), some (.int y)] ∧ 0 ≤ y ∧ Nat.gcd x.natAbs y.natAbs = Nat.gcd t.natAbs b.natAbs ∧ m = y.toNat, ⟨b.toNat, rfl, t, b, rfl, by omega, rfl, rfl⟩, ?_⟩
    rintro m σ H' ⟨rfl, x, y, rfl, hy, hg, rfl⟩
    refine ⟨_, rfl, rfl, _, rfl, ?_⟩
    by_cases hz : y = 0
    · subst hz
      refine iteNS rfl ⟨_, rfl, _, rfl, ?_⟩
      have e : (if x < 0 then -x else x) = ((Nat.gcd t.natAbs b.natAbs : Nat) : Int) := by
        rw [← hg, show Nat.gcd x.natAbs (0 : Int).natAbs = x.natAbs from Nat.gcd_zero_right _]
        split <;> omega
      rw [e]
      exact q
    · refine ite2 (fun _ => ⟨_, fun _ _ h => h, ?_⟩) fun z => ?_
      · refine ⟨_, rfl, _, rfl, .inl ⟨_, rfl, _, rfl, _, _, rfl, rfl, by omega, _, _, rfl, ?_⟩⟩
        have h1 : 0 ≤ x % y := Int.emod_nonneg _ hz
        have h2 : x % y < y := Int.emod_lt_of_pos _ (by omega)
        exact ⟨(x % y).toNat, by omega, rfl, y, x % y, rfl, h1, gcd_step.trans hg, rfl⟩
      · have e : decide (V.int y = V.int 0) = false := decide_eq_false fun e => hz (V.int.inj e)
        rw [e] at z
        exact absurd rfl z
theorem v_low : Cal P w K mg base 2 "_law_low" ["_law_top", "_law_bottom"] spLow := by
  refine mkCal T.a_L_low sc_L_low (fun _ _ _ _ _ _ us hl => match us, hl with | [_, _], _ => rfl) (by rintro vs H Q E ⟨_, _, rfl, _⟩; rfl) fun f cdv A outer s H vs Q E hr h => ?_
  obtain ⟨t, b, rfl, hb, h9, q⟩ := h
  refine' ⟨_, ?pf, ?rd⟩
  case pf =>
    refine' pss_cons ?s1 (pss_one ?s2)
    case s1 => exact ps_set (i := 2) sc_L_low.nd rfl (.inl rfl) (pe_f (v_divisor T) hr (pa_cons (pv 0) (pa_cons (pv 1) pa_nil)))
    case s2 => exact ps_ret (pe_tup (pa_cons (pe_op op_fdivW (pv 0) (pv 2)) (pa_cons (pe_op op_fdivW (pv 1) (pv 2)) pa_nil)))
  case rd =>
    refine ⟨_, rfl, _, rfl, t, b, rfl, hb, ?_⟩
    refine ⟨_, rfl, _, rfl, _, _, rfl, rfl, gcd_wide hb h9 t, _, rfl, _, rfl, _, _, rfl, rfl, gcd_wide hb h9 b, (by show 2 ≤ sizeLine; decide), fun p hp => ?_⟩
    exact q p _ (Same.new hp) (numAt_divInt hb upd_same)
theorem v_plus : Cal P w K mg base 3 "_law_plus" ["_law_one", "_law_other"] spPlus := by
  refine mkCal T.a_L_plus sc_L_plus (fun _ _ _ _ _ _ us hl => match us, hl with | [_, _], _ => rfl) (by rintro vs H Q E ⟨_, _, _, _, _, _, rfl, _⟩; rfl) fun f cdv A outer s H vs Q E hr h => ?_
  obtain ⟨a, b, x, y, n, m, rfl, ha, hb, hx, hy, hn, hm, h9, q⟩ := h
  refine' ⟨_, ?pf, ?rd⟩
  case pf =>
    refine' pss_one ?s1
    case s1 =>
      exact ps_ret (pe_f (v_low T) hr (pa_cons (pe_op op_add (pe_op op_mulW (pe_ix ix_tup (pv 0) pe_int (fun _ _ => rfl)) (pe_ix ix_tup (pv 1) pe_int (fun _ _ => rfl))) (pe_op op_mulW (pe_ix ix_tup (pv 1) pe_int (fun _ _ => rfl)) (pe_ix ix_tup (pv 0) pe_int (fun _ _ => rfl))))
        (pa_cons (pe_op op_mulW (pe_ix ix_tup (pv 0) pe_int (fun _ _ => rfl)) (pe_ix ix_tup (pv 1) pe_int (fun _ _ => rfl))) pa_nil)))
  case rd =>
    have hxd : (((x.den : Nat) : Int)).natAbs < 2 ^ n := by
      rw [Int.natAbs_natCast]
      exact hx.2
    have hyd : (((y.den : Nat) : Int)).natAbs < 2 ^ m := by
      rw [Int.natAbs_natCast]
      exact hy.2
    refine ⟨_, rfl, a, _, 0, _, rfl, rfl, SqT.of ha, rfl, _, rfl, b, _, 1, _, rfl, rfl, SqT.of hb, rfl, _, _, rfl, rfl, wide_mul hx.1 hyd hn hm (by omega), ?_⟩
    refine ⟨_, rfl, b, _, 0, _, rfl, rfl, SqT.of hb, rfl, _, rfl, a, _, 1, _, rfl, rfl, SqT.of ha, rfl, _, _, rfl, rfl, wide_mul hy.1 hxd hm hn (by omega), _, _, rfl, rfl, ?_⟩
    refine ⟨_, rfl, a, _, 1, _, rfl, rfl, SqT.of ha, rfl, _, rfl, b, _, 1, _, rfl, rfl, SqT.of hb, rfl, _, _, rfl, rfl, wide_mul hxd hyd hn hm (by omega), ?_⟩
    refine ⟨_, _, rfl, Int.mul_pos (den_pos x) (den_pos y), lt9000 (den_mul_lt hx hy) (by omega), fun p H' s1 hp => q p H' s1 ?_⟩
    rw [← add_divInt]
    exact hp
theorem v_times : Cal P w K mg base 3 "_law_times" ["_law_one", "_law_other"] spTimes := by
  refine mkCal T.a_L_times sc_L_times (fun _ _ _ _ _ _ us hl => match us, hl with | [_, _], _ => rfl) (by rintro vs H Q E ⟨_, _, _, _, _, _, rfl, _⟩; rfl) fun f cdv A outer s H vs Q E hr h => ?_
  obtain ⟨a, b, x, y, n, m, rfl, ha, hb, hx, hy, hn, hm, h9, q⟩ := h
  refine' ⟨_, ?pf, ?rd⟩
  case pf =>
    refine' pss_one ?s1
    case s1 =>
      exact ps_ret (pe_f (v_low T) hr (pa_cons (pe_op op_mulW (pe_ix ix_tup (pv 0) pe_int (fun _ _ => rfl)) (pe_ix ix_tup (pv 1) pe_int (fun _ _ => rfl)))
        (pa_cons (pe_op op_mulW (pe_ix ix_tup (pv 0) pe_int (fun _ _ => rfl)) (pe_ix ix_tup (pv 1) pe_int (fun _ _ => rfl))) pa_nil)))
  case rd =>
    have hxd : (((x.den : Nat) : Int)).natAbs < 2 ^ n := by
      rw [Int.natAbs_natCast]
      exact hx.2
    have hyd : (((y.den : Nat) : Int)).natAbs < 2 ^ m := by
      rw [Int.natAbs_natCast]
      exact hy.2
    refine ⟨_, rfl, a, _, 0, _, rfl, rfl, SqT.of ha, rfl, _, rfl, b, _, 0, _, rfl, rfl, SqT.of hb, rfl, _, _, rfl, rfl, wide_mul hx.1 hy.1 hn hm (by omega), ?_⟩
    refine ⟨_, rfl, a, _, 1, _, rfl, rfl, SqT.of ha, rfl, _, rfl, b, _, 1, _, rfl, rfl, SqT.of hb, rfl, _, _, rfl, rfl, wide_mul hxd hyd hn hm (by omega), ?_⟩
    refine ⟨_, _, rfl, Int.mul_pos (den_pos x) (den_pos y), lt9000 (den_mul_lt hx hy) (by omega), fun p H' s1 hp => q p H' s1 ?_⟩
    rw [← mul_divInt]
    exact hp
theorem v_ratio : Cal P w K mg base 4 "_law_ratio" ["_law_number_here"] (spRatio CR) := by
  refine mkCal T.a_L_ratio sc_L_ratio (fun _ _ _ _ _ _ us hl => match us, hl with | [_], _ => rfl) (by rintro vs H Q E ⟨_, _, rfl, _⟩; rfl) fun f cdv A outer s H vs Q E hr h => ?_
  obtain ⟨a, x, rfl, ha, h9, q⟩ := h
  refine' ⟨_, ?pf, ?rd⟩
  case pf =>
    refine' pss_one ?s1
    case s1 =>
      refine' ps_ret (pe_rat ?t hr (pa_cons (pe_ix ix_tup (pv 0) pe_int (fun _ _ => rfl)) (pa_cons (pe_ix ix_tup (pv 0) pe_int (fun _ _ => rfl)) pa_nil)))
      case t => exact T
  case rd =>
    refine ⟨_, rfl, a, _, 0, _, rfl, rfl, SqT.of ha, rfl, _, rfl, a, _, 1, _, rfl, rfl, SqT.of ha, rfl, _, _, rfl, den_pos x, by rw [Int.natAbs_natCast]; exact h9, fun p H' s1 _ hp => q p H' s1 ?_⟩
    rw [self_divInt] at hp
    exact hp
theorem v_number : Cal P w K mg base 3 "_law_number" ["_law_pot_here"] spNumber := by
  refine mkCal T.a_L_number sc_L_number (fun _ _ _ _ _ _ us hl => match us, hl with | [_], _ => rfl) (by rintro vs H Q E ⟨_, rfl, _⟩; rfl) fun f cdv A outer s H vs Q E hr h => ?_
  obtain ⟨p, rfl, hp, q⟩ := h
  refine' ⟨_, ?pf, ?rd⟩
  case pf =>
    refine' pss_cons ?s1 (pss_one ?s2)
    case s1 => exact ps_set (i := 1) sc_L_number.nd rfl (.inl rfl) (pe_op op_sub (pe_f (v_draw T) hr (pa_cons (pv 0) (pa_cons pe_int pa_nil))) pe_int)
    case s2 =>
      exact ps_ret (pe_ifExp (pt_cmpR op_eq (pe_f (v_draw T) hr (pa_cons (pv 0) (pa_cons pe_int pa_nil))) pe_int (nomark _))
        (pe_f (v_low T) hr (pa_cons (pv 1) (pa_cons (pe_op op_add pe_int (pe_f (v_draw T) hr (pa_cons (pv 0) (pa_cons pe_int pa_nil)))) pa_nil)))
        (pe_tup (pa_cons (pv 1) (pa_cons pe_int pa_nil))))
  case rd =>
    refine ⟨_, rfl, p, 6, rfl, hp, by decide, by decide, fun d H1 hd p1 k1 => ⟨_, _, rfl, rfl, ?_⟩⟩
    refine ⟨_, rfl, p, 5, rfl, p1, by decide, by decide, fun e H2 he p2 k2 => ⟨rfl, _, rfl, ?_⟩⟩
    refine ite2 (fun _ => ?_) fun _ => ?_
    · refine ⟨_, rfl, _, rfl, p, 2, rfl, p2, by decide, by decide, fun g H3 hg p3 k3 => ⟨_, _, rfl, rfl, ?_⟩⟩
      have hb : (0 : Int) < 2 + ((g : Nat) : Int) := by omega
      refine ⟨_, _, rfl, hb, Nat.lt_of_lt_of_le (show (2 + ((g : Nat) : Int)).natAbs < 2 ^ 2 by omega) (Nat.pow_le_pow_right (by decide) (by decide)), fun a H4 s4 ha => ?_⟩
      refine q a _ H4 ha (nar_divInt hb (by omega) (by omega)) ?_ ((k1.trans (k2.trans k3)).trans (Same.kp s4))
      obtain ⟨x, y, h1, h2⟩ := p3
      exact ⟨x, y, s4 _ _ h1, h2⟩
    · refine ⟨_, rfl, (by show 2 ≤ sizeLine; decide), fun a ha => ?_⟩
      refine q a _ _ (numAt_one upd_same) (nar_divInt (by decide) (by omega) (by decide)) ?_ ((k1.trans k2).trans (Same.kp (Same.new ha)))
      obtain ⟨x, y, h1, h2⟩ := p2
      exact ⟨x, y, Same.new ha _ _ h1, h2⟩
end
end K22
set_option Elab.async false
set_option linter.all false
set_option maxRecDepth 100000
set_option maxHeartbeats 4000000
/-! Walks: what the law draws. -/
namespace K22
open PySem PySem.Spec PyProof.Rows L2
def RowLaw (c : Nat) (r : List Rat) : Prop := r.length = c ∧ ∀ q ∈ r, Nar 3 q
def LetLaw (c m : Nat) (l : List Nat) : Prop := l.length = c ∧ ∀ x ∈ l, x ≤ m
def spRows : Sp := fun vs H Q _ => ∃ (p : Addr) (c n : Nat), vs = [.ref p, .int ((c : Nat) : Int), .int ((n : Nat) : Int)] ∧ PotAt H p ∧ c ≤ 10 ∧ n ≤ 10 ∧
  ∀ a rs H', RowsAt H' a rs → rs.length = n → (∀ r ∈ rs, RowLaw c r) → PotAt H' p → Kp p H H' → Q (.ref a) H'
def spPassed (CR : Addr) : Sp := fun vs H Q _ => ∃ (p a : Addr) (r : List Rat), vs = [.ref p, .ref a] ∧ PotAt H p ∧ RowAt H a r ∧ r.length ≤ 10 ∧ (∀ q ∈ r, Nar 3 q) ∧
  ∀ D H', H D = none → PRowAt CR H' D r → PotAt H' p → Kp p H H' → Q (.ref D) H'
def spTable (CR CT : Addr) : Sp := fun vs H Q _ => ∃ (p : Addr) (c : Nat) (a : Addr) (rs : List (List Rat)), vs = [.ref p, .int ((c : Nat) : Int), .ref a] ∧ PotAt H p ∧ c ≤ 3 ∧ RowsAt H a rs ∧ rs.length ≤ 10 ∧ (∀ r ∈ rs, RowLaw c r) ∧
  ∀ t H', TabAt CR CT H' t c rs → PotAt H' p → Kp p H H' → Q (.ref t) H'
def spLetter : Sp := fun vs H Q _ => ∃ (p : Addr) (c m : Nat), vs = [.ref p, .int ((c : Nat) : Int), .int ((m : Nat) : Int)] ∧ PotAt H p ∧ c ≤ 10 ∧ m ≤ 100 ∧
  ∀ a l H', LetAt H' a l → LetLaw c m l → PotAt H' p → Kp p H H' → Q (.ref a) H'
def spWord : Sp := fun vs H Q _ => ∃ (p : Addr) (c n : Nat), vs = [.ref p, .int ((c : Nat) : Int), .int ((n : Nat) : Int)] ∧ PotAt H p ∧ c ≤ 10 ∧ n ≤ 10 ∧
  ∀ a w H', WordAt H' a w → w.length = n → (∀ l ∈ w, LetLaw c 2 l) → PotAt H' p → Kp p H H' → Q (.ref a) H'
theorem pot_off {H : Hp} {p D : Addr} (h : PotAt H p) (n : p ≠ D) : PotAt (off D H) p := by
  obtain ⟨a, b, h1, h2⟩ := h
  exact ⟨a, b, off_in h1 n, h2⟩
theorem pot_on {H : Hp} {p D : Addr} (h : PotAt (off D H) p) : PotAt H p ∧ p ≠ D := by
  obtain ⟨a, b, h1, h2⟩ := h
  obtain ⟨h3, h4⟩ := off_some h1
  exact ⟨⟨a, b, h4, h2⟩, h3⟩
theorem pot_same {H H' : Hp} {p : Addr} (s : Same H H') (h : PotAt H p) : PotAt H' p := by
  obtain ⟨a, b, h1, h2⟩ := h
  exact ⟨a, b, s _ _ h1, h2⟩
theorem pot_ne {H : Hp} {p a : Addr} (h : PotAt H p) (n : H a = none) : p ≠ a := by
  obtain ⟨x, y, h1, h2⟩ := h
  exact ne_of_none h1 n
theorem numAt_off {D a : Addr} {H : Hp} {q : Rat} {xs : List V} (h : NumAt H a q) (hd : H D = some (.lst xs)) : NumAt (off D H) a q := off_has h hd (by intro z; cases z)
theorem rowAt_off {D a : Addr} {H : Hp} {r : List Rat} {xs : List V} (h : RowAt H a r) (n : a ≠ D) (hd : H D = some (.lst xs)) : RowAt (off D H) a r := by
  obtain ⟨as, h1, h2⟩ := h
  exact ⟨as, off_in h1 n, Paired.imp (fun _ _ q => numAt_off q hd) h2⟩
theorem pRowAt_off {C D a : Addr} {H : Hp} {r : List Rat} {xs : List V} (h : PRowAt C H a r) (n : a ≠ D) (hd : H D = some (.lst xs)) : PRowAt C (off D H) a r := by
  obtain ⟨as, h1, h2⟩ := h
  refine ⟨as, off_in h1 n, Paired.imp (fun x q h3 => ?_) h2⟩
  rcases h3 with h3 | ⟨b, h4, h5⟩
  · exact .inl h3
  · exact .inr ⟨b, h4, ratAt_off h5 hd⟩
theorem mem_snoc {α : Type} {F : α → Prop} {l : List α} {x : α} (h : ∀ y ∈ l, F y) (hx : F x) : ∀ y ∈ l ++ [x], F y := fun y hy => by
  rcases List.mem_append.mp hy with z | z
  · exact h y z
  · rw [List.mem_singleton.mp z]
    exact hx
section
variable {X : Cx} {K : PySem.W.Frag} {a b : Expr} {ta tb : TE} {pos : Pos}
theorem pe_ixTK (hK : X.K = K) (ha : PE X a ta) (hb : PE X b tb) (hs : PlainIx b) : PE X (.Subscript a b pos) (tOp (rIxT K) ta tb) := by
  subst hK
  exact pe_ix ix_tup ha hb hs
theorem pe_ixLK (hK : X.K = K) (ha : PE X a ta) (hb : PE X b tb) (hs : PlainIx b) : PE X (.Subscript a b pos) (tOp (rIxL K) ta tb) := by
  subst hK
  exact pe_ix ix_list ha hb hs
theorem pe_sliceLK {lo hi : Option Expr} {tl th : TO} {p2 : Pos} (hK : X.K = K) (ha : PE X a ta) (hl : PO X lo tl) (hu : PO X hi th) : PE X (.Subscript a (.Slice lo hi none p2) pos) (tSl (rSlL K) ta tl th) := by
  subst hK
  exact pe_slice sl_list ha hl hu
end
section
variable {P : Program} {w : World} {K : PySem.W.Frag} {mg : Str → Option Value} {base : Heap} {CR CT fR fE fT : Addr} (T : Txt K mg CR CT fR fE fT)
include T
theorem v_rows : Cal P w K mg base 4 "_law_rows" ["_law_pot_here", "_law_columns", "_law_many"] spRows := by
  refine mkCal T.a_L_rows sc_L_rows (fun _ _ _ _ _ _ us hl => match us, hl with | [_, _, _], _ => rfl) (by rintro vs H Q E ⟨_, _, _, rfl, _⟩; rfl) fun f cdv A outer s H vs Q E hr h => ?_
  obtain ⟨p, c, n, rfl, hp, hc, hn, q⟩ := h
  refine' ⟨_, ?pf, ?rd⟩
  case pf =>
    refine' pss_cons ?s1 (pss_cons ?s2 (pss_one ?s3))
    case s1 => exact ps_set (i := 3) sc_L_rows.nd rfl (.inl rfl) (pe_lst pa_nil)
    case s2 =>
      refine' ps_for PassesOwn.never rfl (pi_range1 (by rfl) T.n_range (pa_cons (pv 2) pa_nil)) (pg_name (i := 4) sc_L_rows.nd rfl (.inl rfl)) (pss_cons ?b1 (pss_cons ?b2 (pss_one ?b3)))
      case b1 => exact ps_set (i := 5) sc_L_rows.nd rfl (.inl rfl) (pe_lst pa_nil)
      case b2 =>
        exact ps_for PassesOwn.never rfl (pi_range1 (by rfl) T.n_range (pa_cons (pv 1) pa_nil)) (pg_name (i := 6) sc_L_rows.nd rfl (.inl rfl))
          (pss_one (ps_expr (pe_bm PySem.F.plainAttrs_list PySem.F.slot_list_append PySem.F.type_list_append mt_append (pv 5) (pa_cons (pe_f (v_number T) hr (pa_cons (pv 0) pa_nil)) pa_nil))))
      case b3 => exact ps_expr (pe_bm PySem.F.plainAttrs_list PySem.F.slot_list_append PySem.F.type_list_append mt_append (pv 3) (pa_cons (pv 5) pa_nil))
    case s3 => exact ps_ret (pv 3)
  case rd =>
    refine ⟨(by show 0 ≤ sizeLine; decide), fun F hF => ?_⟩
    have nF := pot_ne hp hF
    refine ⟨_, rfl, _, rfl, by omega, by omega, ?_⟩
    refine for_it (walk_range (lo := 0) (n := (((n : Nat) : Int)).toNat))
      (fun i σ H' => ∃ (as : List Addr) (rs : List (List Rat)) (v4 v5 v6 : Option V), σ = [some (.ref p), some (.int ((c : Nat) : Int)), some (.int ((n : Nat) : Int)), some (.ref F), v4, v5, v6] ∧ Kp p H (off F H') ∧ PotAt (off F H') p ∧ H' F = some (.lst (as.map V.ref)) ∧ Paired (RowAt (off F H')) as rs ∧ rs.length = i ∧ ∀ r ∈ rs, RowLaw c r)
      ⟨[], [], none, none, none, rfl, by rw [off_new hF]; exact Kp.refl p H, by rw [off_new hF]; exact hp, upd_same, .nil, rfl, by simp⟩ (fun _ _ _ _ _ => trivial) ?_ ?_
    · rintro i v σ H0 H1 hi ⟨as, rs, v4, v5, v6, rfl, k1, p1, hF1, pp, hlen, hok⟩ ⟨rfl, rfl⟩
      rw [Int.toNat_natCast] at hi
      refine ⟨(by show 0 ≤ sizeLine; decide), fun R hR => ?_⟩
      have nRF : F ≠ R := ne_of_none hF1 hR
      refine ⟨_, rfl, _, rfl, by omega, by omega, ?_⟩
      refine for_it (walk_range (lo := 0) (n := (((c : Nat) : Int)).toNat))
        (fun k σ H' => ∃ (bs : List Addr) (r : List Rat) (v6 : Option V), σ = [some (.ref p), some (.int ((c : Nat) : Int)), some (.int ((n : Nat) : Int)), some (.ref F), some (.int (0 + ((i : Nat) : Int))), some (.ref R), v6] ∧ Kp p H1 (off R H') ∧ PotAt (off R H') p ∧ H' R = some (.lst (bs.map V.ref)) ∧ Paired (NumAt (off R H')) bs r ∧ r.length = k ∧ ∀ q ∈ r, Nar 3 q)
        ⟨[], [], v6, rfl, by rw [off_new hR]; exact Kp.refl p H1, by rw [off_new hR]; exact (pot_on p1).1, upd_same, .nil, rfl, by simp⟩ (fun _ _ _ _ _ => trivial) ?_ ?_
      · rintro k v σ H9 H2 hk ⟨bs, r, v6, rfl, k2, p2, hR2, pp2, hlen2, hok2⟩ ⟨rfl, rfl⟩
        rw [Int.toNat_natCast] at hk
        obtain ⟨p2', nR⟩ := pot_on p2
        refine ⟨_, rfl, .inl ⟨rfl, _, SqL.of hR2⟩, _, rfl, p, rfl, p2', fun a q0 H3 ha hq p3 k3 => ?_⟩
        have hR3 : H3 R = some (.lst (bs.map V.ref)) := k3 _ _ nR.symm hR2
        refine ⟨R, _, _, rfl, rfl, hR3, ?_, ?_⟩
        · rw [List.length_map, Paired.len pp2]
          exact small1000 (by omega)
        · refine ⟨bs ++ [a], r ++ [q0], _, rfl, ?_, ?_, ?_, ?_, ?_, mem_snoc hok2 hq⟩
          · rw [off_upd]
            exact k2.trans (off_kp k3)
          · rw [off_upd]
            exact pot_off p3 nR
          · rw [upd_same, map_snoc]
          · rw [off_upd]
            exact Paired.app (Paired.imp (fun _ _ => NumAt.keep (Kp.keep (off_kp k3) p2)) pp2) (.cons (numAt_off ha hR3) .nil)
          · rw [List.length_append, hlen2]
            rfl
      · rintro σ H2 ⟨bs, r, v6, rfl, k2, p2, hR2, pp2, hlen2, hok2⟩
        rw [Int.toNat_natCast] at hlen2
        obtain ⟨p2', nR⟩ := pot_on p2
        obtain ⟨p1', nF'⟩ := pot_on p1
        have k12 : Kp p H1 H2 := k2.trans (Same.kp off_same)
        have hF2 : H2 F = some (.lst (as.map V.ref)) := k12 _ _ nF'.symm hF1
        refine ⟨_, rfl, .inl ⟨rfl, _, SqL.of hF2⟩, _, rfl, F, _, _, rfl, rfl, hF2, ?_, ?_⟩
        · rw [List.length_map, Paired.len pp]
          exact small1000 (by omega)
        · refine ⟨as ++ [R], rs ++ [r], _, _, _, rfl, ?_, ?_, ?_, ?_, ?_, mem_snoc hok ⟨hlen2, hok2⟩⟩
          · rw [off_upd]
            exact k1.trans (off_kp k12)
          · rw [off_upd]
            exact pot_off p2' nF'
          · rw [upd_same, map_snoc]
          · rw [off_upd]
            refine Paired.app (Paired.imp (fun _ _ => RowAt.keep (Kp.keep (off_kp k12) p1)) pp) (.cons ⟨bs, off_in hR2 nRF.symm, ?_⟩ .nil)
            exact Paired.imp (fun _ _ h => numAt_off (NumAt.keep (Same.keep off_same) h) hF2) pp2
          · rw [List.length_append, hlen]
            rfl
    · rintro σ H1 ⟨as, rs, v4, v5, v6, rfl, k1, p1, hF1, pp, hlen, hok⟩
      rw [Int.toNat_natCast] at hlen
      exact ⟨_, rfl, q F rs H1 ⟨as, hF1, Paired.imp (fun _ _ => RowAt.keep (Same.keep off_same)) pp⟩ hlen hok (pot_on p1).1 (k1.trans (Same.kp off_same))⟩
end
end K22
set_option Elab.async false
set_option linter.all false
set_option maxRecDepth 100000
set_option maxHeartbeats 4000000
/-! Walks: what the law draws, second part. -/
namespace K22
open PySem PySem.Spec PyProof.Rows L2
section
variable {P : Program} {w : World} {K : PySem.W.Frag} {mg : Str → Option Value} {base : Heap} {CR CT fR fE fT : Addr} (T : Txt K mg CR CT fR fE fT)
include T
theorem v_passed : Cal P w K mg base 5 "_law_passed" ["_law_pot_here", "_law_row"] (spPassed CR) := by
  refine mkCal T.a_L_passed sc_L_passed (fun _ _ _ _ _ _ us hl => match us, hl with | [_, _], _ => rfl) (by rintro vs H Q E ⟨_, _, _, rfl, _⟩; rfl) fun f cdv A outer s H vs Q E hr h => ?_
  obtain ⟨p, a, r, rfl, hp, ⟨as, ha, hpp⟩, h10, hok, q⟩ := h
  have hl : as.length = r.length := Paired.len hpp
  refine' ⟨_, ?pf, ?rd⟩
  case pf =>
    refine' pss_one ?s1
    case s1 =>
      exact ps_ret (pe_lc (own := [("_law_number_here", 2)]) (g := gName 2) (tt := tYes) rfl sc_L_passed.nd (pi_list (pv 1)) (blkOk_by (own := [("_law_number_here", 2)]) (N := ["_law_pot_here", "_law_row", "_law_number_here"]) (sc := defScope s_L_passed) (by decide +kernel)) (fun _ _ _ _ _ => pg_name (i := 2) sc_L_passed.nd rfl (Or.inl rfl)) (fun _ _ _ _ _ => pts_nil)
        (fun _ _ _ _ _ => pe_ifExp (PW.pt (pw_and (pt_cmpR op_eq (pe_ixTK (K := K) rfl (pv 2) pe_int (fun _ _ => rfl)) pe_int (nomark _)) (pw_and1 (pt_cmpR op_gt (pe_f (v_draw T) hr (pa_cons (pv 0) (pa_cons pe_int pa_nil))) pe_int (nomark _)))))
          (pe_ixTK (K := K) rfl (pv 2) pe_int (fun _ _ => rfl)) (pe_f (v_ratio T) hr (pa_cons (pv 2) pa_nil))))
  case rd =>
    refine ⟨_, rfl, a, rfl, ⟨_, SqL.of ha⟩, fun D hD => ?_⟩
    have nD := pot_ne hp hD
    refine lc_it (walk_list (K := K) (a := a) (xs := as.map V.ref)) (fun i H' => Kp p H (off D H') ∧ PotAt (off D H') p ∧ ∃ xs : List V, H' D = some (.lst xs) ∧ Paired (PasAt CR (off D H')) xs (r.take i))
      ⟨by rw [off_new hD]; exact Kp.refl p H, by rw [off_new hD]; exact hp, [], upd_same, .nil⟩ (fun i H' _ h => SqL.of (off_same _ _ (h.1 _ _ (fun z => by
        obtain ⟨u, v, h1, _⟩ := hp
        rw [← z, ha] at h1
        exact np_refs ⟨u, v, Option.some.inj h1⟩) ha))) ?_ ?_
    · rintro i y H2 H3 hi ⟨k2, p2, xs, hd, pp⟩ ⟨rfl, hy⟩
      obtain ⟨b, hb, rfl⟩ := atRef hy
      obtain ⟨q0, hq1, hq2⟩ := Paired.get hpp hb
      have hil : i < r.length := (List.getElem?_eq_some_iff.mp hq1).1
      obtain ⟨p2', _⟩ := pot_on p2
      have kk : Kp p H H3 := k2.trans (Same.kp off_same)
      have hq3 : NumAt H3 b q0 := NumAt.keep (Kp.keep kk hp) hq2
      have hN := hok q0 (List.mem_of_getElem? hq1)
      -- what is written then
      have fin : ∀ (x : V) H4, PasAt CR H4 x q0 → PotAt H4 p → Kp p H3 H4 → ∃ acc, H4 D = some (.lst acc) ∧ acc.length < sizeLine ∧ (Kp p H (off D (L2.upd H4 D (.lst (acc ++ [x])))) ∧ PotAt (off D (L2.upd H4 D (.lst (acc ++ [x])))) p ∧ ∃ xs : List V, L2.upd H4 D (.lst (acc ++ [x])) D = some (.lst xs) ∧ Paired (PasAt CR (off D (L2.upd H4 D (.lst (acc ++ [x]))))) xs (r.take (i + 1))) := by
        intro x H4 hx p4 k4
        have hd4 : H4 D = some (.lst xs) := k4 _ _ nD.symm hd
        refine ⟨xs, hd4, ?_, ?_, ?_, xs ++ [x], upd_same, ?_⟩
        · rw [Paired.len pp, List.length_take]
          exact small1000 (by omega)
        · rw [off_upd]
          exact k2.trans (off_kp k4)
        · rw [off_upd]
          exact pot_off p4 nD
        · rw [off_upd, take_snoc hq1]
          refine Paired.app (Paired.imp (fun _ _ => PasAt.keep (Kp.keep (off_kp k4) p2)) pp) (.cons ?_ .nil)
          rcases hx with hx | ⟨c, h1, h2⟩
          · exact .inl hx
          · exact .inr ⟨c, h1, ratAt_off h2 hd4⟩
      have ratio : ∀ H4, Same H3 H4 ∨ (PotAt H4 p ∧ Kp p H3 H4) → PotAt H4 p ∧ Kp p H3 H4 := fun H4 h => by
        rcases h with h | h
        · exact ⟨pot_same h p2', Same.kp h⟩
        · exact h
      refine ⟨rfl, ?_⟩
      refine ⟨_, rfl, b, _, 1, _, rfl, rfl, SqT.of hq3, rfl, rfl, _, rfl, ?_⟩
      have den9 : q0.den < 2 ^ 9000 := lt9000 (n := 2) (by have := hN.2; omega) (by decide)
      refine ite2 (fun z => ?_) fun z => ?_
      · have hden : q0.den = 1 := by
          have e := V.int.inj (of_decide_eq_true z)
          omega
        refine ⟨_, rfl, p, 3, rfl, p2', by decide, by decide, fun d H4 hd4 p4 k4 => ?_⟩
        refine ⟨_, _, rfl, rfl, _, rfl, ite2 (fun _ => ?_) fun _ => ?_⟩
        · exact ⟨_, rfl, b, _, 0, _, rfl, rfl, SqT.of (NumAt.keep (Kp.keep k4 p2') hq3), rfl, fin _ H4 (.inl ⟨rfl, hden⟩) p4 k4⟩
        · exact ⟨_, rfl, b, q0, rfl, NumAt.keep (Kp.keep k4 p2') hq3, den9, fun x H5 s5 hx => fin _ H5 (.inr ⟨x, rfl, hx⟩) (pot_same s5 p4) (k4.trans (Same.kp s5))⟩
      · refine iteF ?_
        exact ⟨_, rfl, b, q0, rfl, hq3, den9, fun x H5 s5 hx => fin _ H5 (.inr ⟨x, rfl, hx⟩) (pot_same s5 p2') (Same.kp s5)⟩
    · rintro H2 ⟨k2, p2, xs, hd, pp⟩
      rw [List.length_map, hl, List.take_length] at pp
      exact q D H2 hD ⟨xs, hd, Paired.imp (fun _ _ => PasAt.keep (Same.keep off_same)) pp⟩ (pot_on p2).1 (k2.trans (Same.kp off_same))
theorem v_table : Cal P w K mg base 8 "_law_table" ["_law_pot_here", "_law_columns", "_law_rows_here"] (spTable CR CT) := by
  refine mkCal T.a_L_table sc_L_table (fun _ _ _ _ _ _ us hl => match us, hl with | [_, _, _], _ => rfl) (by rintro vs H Q E ⟨_, _, _, _, rfl, _⟩; rfl) fun f cdv A outer s H vs Q E hr h => ?_
  obtain ⟨p, c, a, rs, rfl, hp, hc, ⟨as, ha, hpp⟩, h10, hok, q⟩ := h
  have hl : as.length = rs.length := Paired.len hpp
  refine' ⟨_, ?pf, ?rd⟩
  case pf =>
    refine' pss_one ?s1
    case s1 =>
      refine' ps_ret (pe_tab ?t hr (pa_cons (pv 1) (pa_cons ?e pa_nil)))
      case t => exact T
      case e =>
        exact pe_lc (own := [("_law_row", 3)]) (g := gName 3) (tt := tYes) rfl sc_L_table.nd (pi_list (pv 2)) (blkOk_by (own := [("_law_row", 3)]) (N := ["_law_pot_here", "_law_columns", "_law_rows_here", "_law_row"]) (sc := defScope s_L_table) (by decide +kernel)) (fun _ _ _ _ _ => pg_name (i := 3) sc_L_table.nd rfl (Or.inl rfl)) (fun _ _ _ _ _ => pts_nil)
          (fun _ _ _ _ _ => pe_f (v_passed T) hr (pa_cons (pv 0) (pa_cons (pv 3) pa_nil)))
  case rd =>
    refine ⟨_, rfl, _, rfl, a, rfl, ⟨_, SqL.of ha⟩, fun D hD => ?_⟩
    have nD := pot_ne hp hD
    refine lc_it (walk_list (K := K) (a := a) (xs := as.map V.ref)) (fun i H' => Kp p H (off D H') ∧ PotAt (off D H') p ∧ ∃ bs : List Addr, H' D = some (.lst (bs.map V.ref)) ∧ Paired (PRowAt CR (off D H')) bs (rs.take i) ∧ ∀ b ∈ bs, b ≠ p)
      ⟨by rw [off_new hD]; exact Kp.refl p H, by rw [off_new hD]; exact hp, [], upd_same, .nil, by simp⟩ (fun i H' _ h => SqL.of (off_same _ _ (h.1 _ _ (fun z => by
        obtain ⟨u, v, h1, _⟩ := hp
        rw [← z, ha] at h1
        exact np_refs ⟨u, v, Option.some.inj h1⟩) ha))) ?_ ?_
    · rintro i y H2 H3 hi ⟨k2, p2, bs, hd, pp, hne⟩ ⟨rfl, hy⟩
      obtain ⟨b, hb, rfl⟩ := atRef hy
      obtain ⟨r0, hr1, hr2⟩ := Paired.get hpp hb
      have hil : i < rs.length := (List.getElem?_eq_some_iff.mp hr1).1
      obtain ⟨p2', _⟩ := pot_on p2
      have kk : Kp p H H3 := k2.trans (Same.kp off_same)
      have hR := hok r0 (List.mem_of_getElem? hr1)
      refine ⟨rfl, _, rfl, _, rfl, p, b, r0, rfl, p2', RowAt.keep (Kp.keep kk hp) hr2, by rw [hR.1]; omega, hR.2, fun E4 H4 hE hrow p4 k4 => ?_⟩
      have hd4 : H4 D = some (.lst (bs.map V.ref)) := k4 _ _ nD.symm hd
      have nED : E4 ≠ D := (ne_of_none hd hE).symm
      have nEp : E4 ≠ p := (pot_ne p2' hE).symm
      refine ⟨_, hd4, ?_, ?_, ?_, bs ++ [E4], ?_, ?_, mem_snoc hne nEp⟩
      · rw [List.length_map, Paired.len pp, List.length_take]
        exact small1000 (by omega)
      · rw [off_upd]
        exact k2.trans (off_kp k4)
      · rw [off_upd]
        exact pot_off p4 nD
      · rw [upd_same, map_snoc]
      · rw [off_upd, take_snoc hr1]
        refine Paired.app ?_ (.cons (pRowAt_off hrow nED hd4) .nil)
        have go : ∀ {l1 : List Addr} {l2 : List (List Rat)}, Paired (PRowAt CR (off D H3)) l1 l2 → (∀ b ∈ l1, b ≠ p) → Paired (PRowAt CR (off D H4)) l1 l2 := fun {l1 l2} pq => by
          induction pq with
          | nil => exact fun _ => .nil
          | cons h t ih => exact fun hn => .cons (PRowAt.kp (off_kp k4) p2 (hn _ List.mem_cons_self) h) (ih fun b hb => hn b (List.mem_cons_of_mem _ hb))
        exact go pp hne
    · rintro H2 ⟨k2, p2, bs, hd, pp, hne⟩
      rw [List.length_map, hl, List.take_length] at pp
      refine ⟨c, D, rs, rfl, hc, ⟨bs, hd, Paired.imp (fun _ _ => PRowAt.same off_same) pp⟩, by omega, fun r hr => (hok r hr).1, fun t H' s3 h3 => q t H' h3 (pot_same s3 (pot_on p2).1) ((k2.trans (Same.kp off_same)).trans (Same.kp s3))⟩
theorem v_letter : Cal P w K mg base 2 "_law_letter" ["_law_pot_here", "_law_columns", "_law_most"] spLetter := by
  refine mkCal T.a_L_letter sc_L_letter (fun _ _ _ _ _ _ us hl => match us, hl with | [_, _, _], _ => rfl) (by rintro vs H Q E ⟨_, _, _, rfl, _⟩; rfl) fun f cdv A outer s H vs Q E hr h => ?_
  obtain ⟨p, c, m, rfl, hp, hc, hm, q⟩ := h
  refine' ⟨_, ?pf, ?rd⟩
  case pf =>
    refine' pss_cons ?s1 (pss_cons ?s2 (pss_one ?s3))
    case s1 => exact ps_set (i := 3) sc_L_letter.nd rfl (.inl rfl) (pe_lst pa_nil)
    case s2 =>
      exact ps_for PassesOwn.never rfl (pi_range1 (by rfl) T.n_range (pa_cons (pv 1) pa_nil)) (pg_name (i := 4) sc_L_letter.nd rfl (.inl rfl))
        (pss_one (ps_expr (pe_bm PySem.F.plainAttrs_list PySem.F.slot_list_append PySem.F.type_list_append mt_append (pv 3) (pa_cons (pe_f (v_draw T) hr (pa_cons (pv 0) (pa_cons (pe_op op_add (pv 2) pe_int) pa_nil))) pa_nil))))
    case s3 => exact ps_ret (pe_callTy call_tuple_of (by rfl) T.n_tuple (by decide +kernel) (pa_cons (pv 3) pa_nil))
  case rd =>
    refine ⟨(by show 0 ≤ sizeLine; decide), fun F hF => ?_⟩
    have nF := pot_ne hp hF
    refine ⟨_, rfl, _, rfl, by omega, by omega, ?_⟩
    refine for_it (walk_range (lo := 0) (n := (((c : Nat) : Int)).toNat))
      (fun i σ H' => ∃ (l : List Nat) (v4 : Option V), σ = [some (.ref p), some (.int ((c : Nat) : Int)), some (.int ((m : Nat) : Int)), some (.ref F), v4] ∧ Kp p H (off F H') ∧ PotAt (off F H') p ∧ H' F = some (.lst (l.map fun n => V.int ((n : Nat) : Int))) ∧ l.length = i ∧ ∀ x ∈ l, x ≤ m)
      ⟨[], none, rfl, by rw [off_new hF]; exact Kp.refl p H, by rw [off_new hF]; exact hp, upd_same, rfl, by simp⟩ (fun _ _ _ _ _ => trivial) ?_ ?_
    · rintro i v σ H0 H1 hi ⟨l, v4, rfl, k1, p1, hF1, hlen, hok⟩ ⟨rfl, rfl⟩
      rw [Int.toNat_natCast] at hi
      obtain ⟨p1', _⟩ := pot_on p1
      refine ⟨_, rfl, .inl ⟨rfl, _, SqL.of hF1⟩, _, rfl, _, rfl, _, _, rfl, rfl, p, m + 1, rfl, p1', by omega, by omega, fun d H2 hd p2 k2 => ?_⟩
      have hF2 : H2 F = some (.lst (l.map fun n => V.int ((n : Nat) : Int))) := k2 _ _ nF.symm hF1
      refine ⟨F, _, _, rfl, rfl, hF2, ?_, ?_⟩
      · rw [List.length_map]
        exact small1000 (by omega)
      · refine ⟨l ++ [d], _, rfl, ?_, ?_, ?_, ?_, mem_snoc hok (by omega)⟩
        · rw [off_upd]
          exact k1.trans (off_kp k2)
        · rw [off_upd]
          exact pot_off p2 nF
        · rw [upd_same, List.map_append]
          rfl
        · rw [List.length_append, hlen]
          rfl
    · rintro σ H1 ⟨l, v4, rfl, k1, p1, hF1, hlen, hok⟩
      rw [Int.toNat_natCast] at hlen
      refine ⟨_, rfl, F, _, rfl, .inl ⟨SqL.of hF1, fun t ht => ?_⟩⟩
      exact q t l _ upd_same ⟨hlen, hok⟩ (pot_same (Same.new ht) (pot_on p1).1) ((k1.trans (Same.kp off_same)).trans (Same.kp (Same.new ht)))
theorem v_word : Cal P w K mg base 3 "_law_word" ["_law_pot_here", "_law_columns", "_law_many"] spWord := by
  refine mkCal T.a_L_word sc_L_word (fun _ _ _ _ _ _ us hl => match us, hl with | [_, _, _], _ => rfl) (by rintro vs H Q E ⟨_, _, _, rfl, _⟩; rfl) fun f cdv A outer s H vs Q E hr h => ?_
  obtain ⟨p, c, n, rfl, hp, hc, hn, q⟩ := h
  refine' ⟨_, ?pf, ?rd⟩
  case pf =>
    refine' pss_cons ?s1 (pss_cons ?s2 (pss_one ?s3))
    case s1 => exact ps_set (i := 3) sc_L_word.nd rfl (.inl rfl) (pe_lst pa_nil)
    case s2 =>
      exact ps_for PassesOwn.never rfl (pi_range1 (by rfl) T.n_range (pa_cons (pv 2) pa_nil)) (pg_name (i := 4) sc_L_word.nd rfl (.inl rfl))
        (pss_one (ps_expr (pe_bm PySem.F.plainAttrs_list PySem.F.slot_list_append PySem.F.type_list_append mt_append (pv 3) (pa_cons (pe_f (v_letter T) hr (pa_cons (pv 0) (pa_cons (pv 1) (pa_cons pe_int pa_nil)))) pa_nil))))
    case s3 => exact ps_ret (pe_callTy call_tuple_of (by rfl) T.n_tuple (by decide +kernel) (pa_cons (pv 3) pa_nil))
  case rd =>
    refine ⟨(by show 0 ≤ sizeLine; decide), fun F hF => ?_⟩
    have nF := pot_ne hp hF
    refine ⟨_, rfl, _, rfl, by omega, by omega, ?_⟩
    refine for_it (walk_range (lo := 0) (n := (((n : Nat) : Int)).toNat))
      (fun i σ H' => ∃ (as : List Addr) (wd : List (List Nat)) (v4 : Option V), σ = [some (.ref p), some (.int ((c : Nat) : Int)), some (.int ((n : Nat) : Int)), some (.ref F), v4] ∧ Kp p H (off F H') ∧ PotAt (off F H') p ∧ H' F = some (.lst (as.map V.ref)) ∧ Paired (LetAt (off F H')) as wd ∧ wd.length = i ∧ ∀ l ∈ wd, LetLaw c 2 l)
      ⟨[], [], none, rfl, by rw [off_new hF]; exact Kp.refl p H, by rw [off_new hF]; exact hp, upd_same, .nil, rfl, by simp⟩ (fun _ _ _ _ _ => trivial) ?_ ?_
    · rintro i v σ H0 H1 hi ⟨as, wd, v4, rfl, k1, p1, hF1, pp, hlen, hok⟩ ⟨rfl, rfl⟩
      rw [Int.toNat_natCast] at hi
      obtain ⟨p1', _⟩ := pot_on p1
      refine ⟨_, rfl, .inl ⟨rfl, _, SqL.of hF1⟩, _, rfl, _, rfl, p, c, 2, rfl, p1', hc, by decide, fun a l H2 ha hl p2 k2 => ?_⟩
      have hF2 : H2 F = some (.lst (as.map V.ref)) := k2 _ _ nF.symm hF1
      refine ⟨F, _, _, rfl, rfl, hF2, ?_, ?_⟩
      · rw [List.length_map, Paired.len pp]
        exact small1000 (by omega)
      · refine ⟨as ++ [a], wd ++ [l], _, rfl, ?_, ?_, ?_, ?_, ?_, mem_snoc hok hl⟩
        · rw [off_upd]
          exact k1.trans (off_kp k2)
        · rw [off_upd]
          exact pot_off p2 nF
        · rw [upd_same, map_snoc]
        · rw [off_upd]
          exact Paired.app (Paired.imp (fun _ _ => LetAt.keep (Kp.keep (off_kp k2) p1)) pp) (.cons (letAt_off ha hF2) .nil)
        · rw [List.length_append, hlen]
          rfl
    · rintro σ H1 ⟨as, wd, v4, rfl, k1, p1, hF1, pp, hlen, hok⟩
      rw [Int.toNat_natCast] at hlen
      refine ⟨_, rfl, F, _, rfl, .inl ⟨SqL.of hF1, fun t ht => ?_⟩⟩
      exact q t wd _ ⟨as, upd_same, Paired.imp (fun _ _ => LetAt.keep (Same.keep (off_same.trans (Same.new ht)))) pp⟩ hlen hok (pot_same (Same.new ht) (pot_on p1).1) ((k1.trans (Same.kp off_same)).trans (Same.kp (Same.new ht)))
end
end K22
set_option Elab.async false
set_option linter.all false
set_option maxRecDepth 100000
set_option maxHeartbeats 4000000
/-! Walks: the law's own sums. -/
namespace K22
open PySem PySem.Spec PyProof.Rows L2
def LW (c : Nat) (rs : List (List Rat)) (w : List (List Nat)) : Prop := c ≤ 2 ∧ rs.length ≤ 5 ∧ w.length ≤ 4 ∧ (∀ r ∈ rs, RowLaw c r) ∧ ∀ l ∈ w, LetLaw c 2 l
def spWorth : Sp := fun vs H Q _ => ∃ (a b : Addr) (l : List Nat) (r : List Rat) (c : Nat), vs = [.ref a, .ref b] ∧ LetAt H a l ∧ RowAt H b r ∧ c ≤ 10 ∧ LetLaw c 2 l ∧ RowLaw c r ∧ ∀ p H', Same H H' → NumAt H' p (worth l r) → Q (.ref p) H'
def ChAt (H : Hp) (a : Addr) (c : List Nat) : Prop := H a = some (.lst (c.map fun n => V.int ((n : Nat) : Int)))
def ChsAt (H : Hp) (a : Addr) (cs : List (List Nat)) : Prop := ∃ as : List Addr, H a = some (.lst (as.map V.ref)) ∧ Paired (ChAt H) as cs
def spChoices : Sp := fun vs H Q _ => ∃ n k : Nat, vs = [.int ((n : Nat) : Int), .int ((k : Nat) : Int)] ∧ n ≤ 5 ∧ k ≤ 4 ∧ ∀ D H', Same H H' → ChsAt H' D (chs n k) → Q (.ref D) H'
def spSum : Sp := fun vs H Q _ => ∃ (a b : Addr) (c : Nat) (rs : List (List Rat)) (w : List (List Nat)), vs = [.ref a, .ref b] ∧ RowsAt H a rs ∧ WordAt H b w ∧ LW c rs w ∧ ∀ p H', Same H H' → NumAt H' p (S rs w) → Bd 301 (S rs w) → Q (.ref p) H'
theorem Nar.bd2 {q : Rat} (h : Nar 3 q) : Bd 2 q := Nar.bd h (by decide)
theorem ChAt.same {H H' : Hp} {a : Addr} {c : List Nat} (s : Same H H') (h : ChAt H a c) : ChAt H' a c := s _ _ h
theorem ChsAt.same {H H' : Hp} {a : Addr} {cs : List (List Nat)} (s : Same H H') (h : ChsAt H a cs) : ChsAt H' a cs := by
  obtain ⟨as, h1, h2⟩ := h
  exact ⟨as, s _ _ h1, Paired.imp (fun _ _ => ChAt.same s) h2⟩
theorem atI_nat {as : List Addr} {i : Nat} {e : Addr} (h : as[i]? = some e) : atI (as.map V.ref) ((i : Nat) : Int) = some (.ref e) := by
  have hi : i < as.length := (List.getElem?_eq_some_iff.mp h).1
  unfold atI ixN
  rw [List.length_map, if_pos (by omega), if_pos (by omega)]
  show (as.map V.ref)[_]? = _
  rw [show (((i : Nat) : Int)).toNat = i by omega, List.getElem?_map, h]
  rfl
theorem atI_last {c : List Nat} {x : Nat} (h : c.getLast? = some x) : atI (c.map fun n => V.int ((n : Nat) : Int)) (-1) = some (.int ((x : Nat) : Int)) := by
  have hl : c ≠ [] := by
    intro z
    rw [z] at h
    cases h
  have hp : 0 < c.length := List.length_pos_iff.mpr hl
  rw [List.getLast?_eq_getElem?] at h
  unfold atI ixN
  rw [List.length_map, if_neg (by decide), if_pos (by omega)]
  show (c.map fun n => V.int ((n : Nat) : Int))[_]? = _
  rw [show (((-1 : Int) + ((c.length : Nat) : Int)).toNat) = c.length - 1 by omega, List.getElem?_map, h]
  rfl
theorem flat_le {α β : Type} (f : α → List β) (l : List α) (j : Nat) : ((l.take j).flatMap f).length ≤ (l.flatMap f).length := by
  have e : l.flatMap f = (l.take j).flatMap f ++ (l.drop j).flatMap f := by
    rw [← List.flatMap_append, List.take_append_drop]
  rw [e, List.length_append]
  omega
theorem flat_snoc {α β : Type} (f : α → List β) {l : List α} {j : Nat} {x : α} (h : l[j]? = some x) : (l.take (j + 1)).flatMap f = (l.take j).flatMap f ++ f x := by
  rw [take_snoc h, List.flatMap_append, List.flatMap_cons, List.flatMap_nil, List.append_nil]
section
variable {P : Program} {w : World} {K : PySem.W.Frag} {mg : Str → Option Value} {base : Heap} {CR CT fR fE fT : Addr} (T : Txt K mg CR CT fR fE fT)
include T
theorem v_worth : Cal P w K mg base 4 "_law_worth" ["_law_letter_here", "_law_row"] spWorth := by
  refine mkCal T.a_L_worth sc_L_worth (fun _ _ _ _ _ _ us hl => match us, hl with | [_, _], _ => rfl) (by rintro vs H Q E ⟨_, _, _, _, _, rfl, _⟩; rfl) fun f cdv A outer s H vs Q E hr h => ?_
  obtain ⟨a, b, l, r, c, rfl, ha, ⟨as, hb, hpp⟩, hc, ⟨hll, hlp⟩, ⟨hrl, hrq⟩, q⟩ := h
  have hal : as.length = r.length := Paired.len hpp
  refine' ⟨_, ?pf, ?rd⟩
  case pf =>
    refine' pss_cons ?s1 (pss_cons ?s2 (pss_one ?s3))
    case s1 => exact ps_set (i := 2) sc_L_worth.nd rfl (.inl rfl) (pe_tup (pa_cons pe_int (pa_cons pe_int pa_nil)))
    case s2 =>
      exact ps_for PassesOwn.never rfl (pi_zipK true false (by rfl) T.n_zip (pa_cons (pv 0) (pa_cons (pv 1) pa_nil))) (pg_tup (by rfl) (pgs_cons (pg_name (i := 3) sc_L_worth.nd rfl (.inl rfl)) (pgs_cons (pg_name (i := 4) sc_L_worth.nd rfl (.inl rfl)) pgs_nil)))
        (pss_one (ps_for PassesOwn.never rfl (pi_range1 (by rfl) T.n_range (pa_cons (pv 3) pa_nil)) (pg_name (i := 5) sc_L_worth.nd rfl (.inl rfl))
          (pss_one (ps_set (i := 2) sc_L_worth.nd rfl (.inl rfl) (pe_f (v_times T) hr (pa_cons (pv 2) (pa_cons (pv 4) pa_nil)))))))
    case s3 => exact ps_ret (pv 2)
  case rd =>
    refine ⟨(by show 2 ≤ sizeLine; decide), fun p0 hp0 => ?_⟩
    have s0 : Same H (L2.upd H p0 (.tup [.int 1, .int 1])) := Same.new hp0
    refine ⟨_, rfl, _, rfl, a, b, _, _, rfl, SqT.of (s0 _ _ ha), SqL.of (s0 _ _ hb), ?_⟩
    refine for_it (walk_zipK (K := K) (k1 := true) (k2 := false) (a := a) (b := b) (xs := l.map fun n => V.int ((n : Nat) : Int)) (ys := as.map V.ref) rfl)
      (fun i σ H' => Same H H' ∧ ∃ (g : Addr) (x : Rat) (v3 v4 v5 : Option V), σ = [some (.ref a), some (.ref b), some (.ref g), v3, v4, v5] ∧ NumAt H' g x ∧ Bd (1 + 4 * i) x ∧ x * worth (l.drop i) (r.drop i) = worth l r)
      ⟨s0, p0, 1, none, none, none, rfl, upd_same, bd_one, by rw [List.drop_zero, List.drop_zero, Rat.one_mul]⟩ (fun i σ H' _ h => ⟨SqT.of (h.1 _ _ ha), SqL.of (h.1 _ _ hb)⟩) ?_ ?_
    · rintro i v σ H1 H2 hi ⟨s1, g, x, v3, v4, v5, rfl, hg, hbd, hw⟩ ⟨Tp, x0, y0, rfl, hT, rfl, hx, hy⟩
      obtain ⟨p, hp1, rfl⟩ := atInt hx
      obtain ⟨e, he1, rfl⟩ := atRef hy
      obtain ⟨q0, hq1, hq2⟩ := Paired.get hpp he1
      have hic : i < c := by
        have := (List.getElem?_eq_some_iff.mp hp1).1
        omega
      have hp2 := hlp p (List.mem_of_getElem? hp1)
      have hqb := (hrq q0 (List.mem_of_getElem? hq1)).bd2
      have s12 : Same H1 (L2.upd H1 Tp (.tup [.int ((p : Nat) : Int), .ref e])) := Same.new hT
      refine ⟨Tp, _, rfl, SqT.of upd_same, rfl, _, _, rfl, _, _, rfl, rfl, ?_⟩
      have s2 := s1.trans s12
      have hg2 : NumAt _ g x := NumAt.keep (Same.keep s12) hg
      revert s2 hg2
      clear s12
      generalize L2.upd H1 Tp (.tup [.int ((p : Nat) : Int), .ref e]) = H3
      intro s2 hg2
      refine ⟨_, rfl, _, rfl, by omega, by omega, ?_⟩
      refine for_it (walk_range (lo := 0) (n := (((p : Nat) : Int)).toNat))
        (fun k σ H' => Same H H' ∧ ∃ (g : Addr) (x : Rat) (v5 : Option V), σ = [some (.ref a), some (.ref b), some (.ref g), some (.int ((p : Nat) : Int)), some (.ref e), v5] ∧ NumAt H' g x ∧ Bd (1 + 4 * i + 2 * k) x ∧ x * (q0 ^ (p - k) * worth (l.drop (i + 1)) (r.drop (i + 1))) = worth l r)
        ⟨s2, g, x, v5, rfl, hg2, hbd, ?_⟩ (fun _ _ _ _ _ => trivial) ?_ ?_
      · rw [Nat.sub_zero, ← worth_cons hp1 hq1]
        exact hw
      · rintro k v σ H8 H4 hk ⟨s4, g, x, v5, rfl, hg, hbd, hw⟩ ⟨rfl, rfl⟩
        have hk' : k < p := by
          rw [Int.toNat_natCast] at hk
          exact hk
        refine ⟨_, rfl, _, rfl, g, e, x, q0, _, 2, rfl, hg, NumAt.keep (Same.keep s4) hq2, hbd, hqb, by omega, by decide, by omega, fun p5 H5 s5 h5 => ?_⟩
        refine ⟨s4.trans s5, p5, x * q0, _, rfl, h5, Bd.mono (Bd.mul hbd hqb) (by omega), ?_⟩
        rw [Rat.mul_assoc, ← Rat.mul_assoc q0, ← pow_step q0 hk']
        exact hw
      · rintro σ H4 ⟨s4, g, x, v5, rfl, hg, hbd, hw⟩
        rw [Int.toNat_natCast] at hbd hw
        rw [Nat.sub_self, Rat.pow_zero, Rat.one_mul] at hw
        exact ⟨s4, g, x, _, _, _, rfl, hg, Bd.mono hbd (by omega), hw⟩
    · rintro σ H1 ⟨s1, g, x, v3, v4, v5, rfl, hg, hbd, hw⟩
      rw [List.length_map, List.length_map, hal, hll, hrl, Nat.min_self] at hbd hw
      rw [List.drop_eq_nil_of_le (by omega), List.drop_eq_nil_of_le (by omega), show worth [] [] = 1 from rfl, Rat.mul_one] at hw
      rw [hw] at hg
      exact ⟨_, rfl, q g H1 s1 hg⟩
end
end K22
set_option Elab.async false
set_option linter.all false
set_option maxRecDepth 100000
set_option maxHeartbeats 4000000
/-! Walks: the law's own choices and sums. -/
namespace K22
open PySem PySem.Spec PyProof.Rows L2
theorem ne_nil_eqv (d : PyData) (ds : List PyData) : PyData.eqv (.list (d :: ds)) (.list []) = false := by
  simp [PyData.eqv, PyData.eqvAll]
theorem nil_eqv : PyData.eqv (.list []) (.list []) = true := by
  simp [PyData.eqv, PyData.eqvAll]
theorem shp_nil : Shp 1 (.list []) := shp_list (n := 0) (by simp)
theorem nxt_some {c : List Nat} {x : Nat} (h : c.getLast? = some x) : nxt c = x + 1 := by
  unfold nxt
  rw [h]
theorem ext_at {n : Nat} {c : List Nat} {t : Nat} (h : t < n - nxt c) : (ext n c)[t]? = some (c ++ [nxt c + t]) := by
  unfold ext
  rw [List.getElem?_map, List.getElem?_range h]
  rfl
theorem ext_len (n : Nat) (c : List Nat) : (ext n c).length = n - nxt c := by
  unfold ext
  rw [List.length_map, List.length_range]
theorem pw_step {rs : List (List Rat)} {c : List Nat} {w : List (List Nat)} {j x : Nat} {l : List Nat} {r : List Rat} (h1 : c[j]? = some x) (h2 : w[j]? = some l) (h3 : rs[x]? = some r) : pw rs (c.drop j) (w.drop j) = worth l r * pw rs (c.drop (j + 1)) (w.drop (j + 1)) := by
  obtain ⟨a1, b1⟩ := List.getElem?_eq_some_iff.mp h1
  obtain ⟨a2, b2⟩ := List.getElem?_eq_some_iff.mp h2
  rw [List.drop_eq_getElem_cons a1, List.drop_eq_getElem_cons a2, b1, b2]
  show worth l (rs.getD x []) * _ = _
  rw [List.getD_eq_getElem?_getD, h3]
  rfl
section
variable {P : Program} {w : World} {K : PySem.W.Frag} {mg : Str → Option Value} {base : Heap} {CR CT fR fE fT : Addr} (T : Txt K mg CR CT fR fE fT)
include T
theorem v_choices : Cal P w K mg base 1 "_law_choices" ["_law_below", "_law_many"] spChoices := by
  refine mkCal T.a_L_choices sc_L_choices (fun _ _ _ _ _ _ us hl => match us, hl with | [_, _], _ => rfl) (by rintro vs H Q E ⟨_, _, rfl, _⟩; rfl) fun f cdv A outer s H vs Q E hr h => ?_
  obtain ⟨n, k, rfl, hn, hk4, q⟩ := h
  refine' ⟨_, ?pf, ?rd⟩
  case pf =>
    refine' pss_cons ?s1 (pss_cons ?s2 (pss_one ?s3))
    case s1 => exact ps_set (i := 2) sc_L_choices.nd rfl (.inl rfl) (pe_lst (pa_cons (pe_lst pa_nil) pa_nil))
    case s2 =>
      refine' ps_for PassesOwn.never rfl (pi_range1 (by rfl) T.n_range (pa_cons (pv 1) pa_nil)) (pg_name (i := 3) sc_L_choices.nd rfl (.inl rfl)) (pss_cons ?b1 (pss_cons ?b2 (pss_one ?b3)))
      case b1 => exact ps_set (i := 4) sc_L_choices.nd rfl (.inl rfl) (pe_lst pa_nil)
      case b2 =>
        refine' ps_for PassesOwn.never rfl (pi_list (pv 2)) (pg_name (i := 5) sc_L_choices.nd rfl (.inr rfl)) (pss_one (ps_expr (pe_bm PySem.F.plainAttrs_list PySem.F.slot_list_extend PySem.F.type_list_extend mt_extend (pv 4) (pa_cons ?e pa_nil))))
        case e =>
          exact pe_lc (own := [("_law_at", 6)]) (g := gName 6) (tt := tYes) rfl sc_L_choices.nd
            (pi_range2 (by rfl) T.n_range (pa_cons (pe_ifExp (pt_cmpR (op_neD hr.units) (pv 5) (pe_lst pa_nil) (nomark _)) (pe_op op_add (pe_ix ix_list (pv 5) (pe_un un_neg pe_int) (fun _ _ => rfl)) pe_int) pe_int) (pa_cons (pv 0) pa_nil)))
            (blkOk_by (own := [("_law_at", 6)]) (N := ["_law_below", "_law_many", "_law_found", "_law_turn", "_law_longer", "_law_one", "_law_at"]) (sc := defScope s_L_choices) (by decide +kernel)) (fun _ _ _ _ _ => pg_name (i := 6) sc_L_choices.nd rfl (Or.inl rfl)) (fun _ _ _ _ _ => pts_nil)
            (fun _ _ _ _ _ => pe_op op_cat (pv 5) (pe_lst (pa_cons (pv 6) pa_nil)))
      case b3 => exact ps_set (i := 2) sc_L_choices.nd rfl (.inl rfl) (pv 4)
    case s3 => exact ps_ret (pv 2)
  case rd =>
    refine ⟨(by show 0 ≤ sizeLine; decide), fun a0 ha0 => ⟨(by show 1 ≤ sizeLine; decide), fun F0 hF0 => ?_⟩⟩
    have s0 : Same H (L2.upd (L2.upd H a0 (.lst [])) F0 (.lst [.ref a0])) := (Same.new ha0).trans (Same.new hF0)
    have c0 : ChsAt (L2.upd (L2.upd H a0 (.lst [])) F0 (.lst [.ref a0])) F0 (chs n 0) := ⟨[a0], upd_same, .cons (Same.new hF0 _ _ upd_same) .nil⟩
    revert s0 c0
    generalize L2.upd (L2.upd H a0 (.lst [])) F0 (.lst [.ref a0]) = H0
    intro s0 c0
    refine ⟨_, rfl, _, rfl, by omega, by omega, ?_⟩
    refine for_it (walk_range (lo := 0) (n := (((k : Nat) : Int)).toNat))
      (fun i σ H' => Same H H' ∧ ∃ (F : Addr) (v3 v4 v5 v6 : Option V), σ = [some (.int ((n : Nat) : Int)), some (.int ((k : Nat) : Int)), some (.ref F), v3, v4, v5, v6] ∧ ChsAt H' F (chs n i))
      ⟨s0, F0, none, none, none, none, rfl, c0⟩ (fun _ _ _ _ _ => trivial) ?_ ?_
    · rintro i v σ H9 H1 hi ⟨s1, F, v3, v4, v5, v6, rfl, as, hF, pp⟩ ⟨rfl, rfl⟩
      rw [Int.toNat_natCast] at hi
      refine ⟨(by show 0 ≤ sizeLine; decide), fun G hG => ?_⟩
      have nFG : F ≠ G := ne_of_none hF hG
      refine ⟨_, rfl, F, rfl, ⟨_, SqL.of (by rw [upd_ne nFG]; exact hF)⟩, ?_⟩
      have fewi := chs_few n hn i (by omega)
      have few1 := chs_few n hn (i + 1) (by omega)
      have hasl : as.length = (chs n i).length := Paired.len pp
      refine for_it (walk_list (K := K) (a := F) (xs := as.map V.ref))
        (fun j σ H' => Same H1 (off G H') ∧ ∃ (bs : List Addr) (v5 v6 : Option V), σ = [some (.int ((n : Nat) : Int)), some (.int ((k : Nat) : Int)), some (.ref F), some (.int (0 + ((i : Nat) : Int))), some (.ref G), v5, v6] ∧ H' G = some (.lst (bs.map V.ref)) ∧ Paired (ChAt (off G H')) bs (((chs n i).take j).flatMap (ext n)))
        ⟨off_of (Same.new hG) hG, [], v5, v6, rfl, upd_same, .nil⟩ (fun j σ H' _ h => SqL.of (off_same _ _ (h.1 _ _ hF))) ?_ ?_
      · rintro j y σ H8 H2 hj ⟨s2, bs, v5, v6, rfl, hG2, pp2⟩ ⟨rfl, hy⟩
        obtain ⟨e, he, rfl⟩ := atRef hy
        obtain ⟨c, hc1, hc2⟩ := Paired.get pp he
        have hjl : j < (chs n i).length := (List.getElem?_eq_some_iff.mp hc1).1
        have hcl : c.length = i := chs_length n i c (List.mem_of_getElem? hc1)
        have hc2G : off G H2 e = some (.lst (c.map fun n => V.int ((n : Nat) : Int))) := s2 _ _ hc2
        have hc3 : ChAt H2 e c := off_same _ _ hc2G
        have hG2' := hG2
        have hbl : bs.length ≤ 10 := by
          rw [Paired.len pp2]
          exact Nat.le_trans (flat_le _ _ _) few1
        have hnxt : nxt c ≤ 1000 := by
          cases hcx : c.getLast? with
          | none =>
            unfold nxt
            rw [hcx]
            decide
          | some x =>
            rw [nxt_some hcx]
            have := chs_lt n i c (List.mem_of_getElem? hc1) x (List.mem_of_getLast? hcx)
            omega
        -- the comprehension, from where it begins
        have body : ∀ H3, Same H2 H3 → -(2 ^ 62) ≤ ((nxt c : Nat) : Int) ∧ ((nxt c : Nat) : Int) < 2 ^ 62 ∧ -(2 ^ 62) ≤ ((n : Nat) : Int) ∧ ((n : Nat) : Int) < 2 ^ 62 := fun _ _ => by omega
        have hdl : c.map (fun n => V.int ((n : Nat) : Int)) = (c.map fun n => ((n : Nat) : Int)).map V.int := by
          rw [List.map_map]
          rfl
        refine ⟨_, rfl, .inl ⟨rfl, _, SqL.of hG2⟩, ?_⟩
        refine ⟨_, rfl, (by show 0 ≤ sizeLine; decide), fun z0 hz0 => ?_⟩
        have s3 : Same H2 (L2.upd H2 z0 (.lst [])) := Same.new hz0
        have hz1 : L2.upd H2 z0 (.lst []) z0 = some (.lst []) := upd_same
        revert s3 hz1
        generalize L2.upd H2 z0 (.lst []) = H3
        intro s3 hz1
        refine ⟨.list (c.map fun n => PyData.int ((n : Nat) : Int)), .list [], .lst (SqL.of (s3 _ _ hc3)) (dp_all (fun n => .int _) c), .lst (SqL.of hz1) .nil, Shp.shaped (shp_list (n := 0) fun d hd => ?_), Shp.shaped shp_nil, _, rfl, ?_⟩
        · obtain ⟨x, _, rfl⟩ := List.mem_map.mp hd
          exact shp_int _
        -- the low end is nxt c
        have comb : ∀ K0 : V → Hp → Prop, K0 (.int ((nxt c : Nat) : Int)) H3 → (if (!PyData.eqv (.list (c.map fun n => PyData.int ((n : Nat) : Int))) (.list [])) = true then
            tOp (rI0 fun i j => .int (i + j)) (tOp (rIxL K) (tVar 5) (tUn (rU fun i => .int (-i)) (tC (.int 1)))) (tC (.int 1)) [some (.int ((n : Nat) : Int)), some (.int ((k : Nat) : Int)), some (.ref F), some (.int (0 + ((i : Nat) : Int))), some (.ref G), some (.ref e), v6] H3 K0
            else tC (.int 0) [some (.int ((n : Nat) : Int)), some (.int ((k : Nat) : Int)), some (.ref F), some (.int (0 + ((i : Nat) : Int))), some (.ref G), some (.ref e), v6] H3 K0) := by
          intro K0 h0
          cases hcx : c.getLast? with
          | none =>
            have ec : c = [] := List.getLast?_eq_none_iff.mp hcx
            rw [ec] at h0 ⊢
            rw [List.map_nil, nil_eqv]
            exact iteF h0
          | some x =>
            rw [nxt_some hcx] at h0
            have hne : (!PyData.eqv (.list (c.map fun n => PyData.int ((n : Nat) : Int))) (.list [])) = true := by
              cases c with
              | nil => cases hcx
              | cons d ds =>
                rw [List.map_cons, ne_nil_eqv]
                rfl
            rw [hne]
            exact iteT ⟨_, rfl, 1, rfl, e, _, -1, _, rfl, rfl, SqL.of (s3 _ _ hc3), atI_last hcx, _, _, rfl, rfl, h0⟩
        refine comb _ ⟨_, rfl, _, _, rfl, body H3 s3, fun D hD => ?_⟩
        have hG3 := s3 _ _ hG2
        have e3 : ChAt H3 e c := s3 _ _ hc3
        have en : (((n : Nat) : Int) - ((nxt c : Nat) : Int)).toNat = n - nxt c := by omega
        refine lc_it (walk_range (lo := ((nxt c : Nat) : Int)) (n := (((n : Nat) : Int) - ((nxt c : Nat) : Int)).toNat)) (fun t H' => Same H3 (off D H') ∧ ∃ cs : List Addr, H' D = some (.lst (cs.map V.ref)) ∧ Paired (ChAt (off G (off D H'))) cs ((ext n c).take t))
          ⟨off_of (Same.new hD) hD, [], upd_same, .nil⟩ (fun _ _ _ _ => trivial) ?_ ?_
        · rintro t y H4 H5 ht ⟨s5, cs, hd, pp5⟩ ⟨rfl, rfl⟩
          rw [en] at ht
          refine ⟨rfl, _, rfl, _, rfl, (by show 1 ≤ sizeLine; decide), fun z1 hz1 => ?_⟩
          have s6 : Same H5 (L2.upd H5 z1 (.lst [.int (((nxt c : Nat) : Int) + ((t : Nat) : Int))])) := Same.new hz1
          have e5 := s6 _ _ (off_same _ _ (s5 _ _ e3))
          refine ⟨e, z1, _, _, rfl, rfl, e5, upd_same, ?_, fun p hp => ?_⟩
          · rw [List.length_map, List.length_singleton, hcl]
            exact Nat.le_of_lt (small1000 (by omega))
          have s7 := s6.trans (Same.new (o := .lst (c.map (fun n => V.int ((n : Nat) : Int)) ++ [.int (((nxt c : Nat) : Int) + ((t : Nat) : Int))])) hp)
          have npD : p ≠ D := (ne_of_none (s6 _ _ hd) hp).symm
          have npG : p ≠ G := (ne_of_none (s6 _ _ (off_same _ _ (s5 _ _ hG3))) hp).symm
          have hx := ext_at (n := n) (c := c) (t := t) ht
          refine ⟨_, s7 _ _ hd, ?_, ?_, cs ++ [p], ?_, ?_⟩
          · rw [List.length_map, Paired.len pp5, List.length_take, ext_len]
            exact small1000 (by omega)
          · rw [off_upd]
            exact s5.trans (off_mono s7)
          · rw [upd_same, map_snoc]
          · rw [off_upd, take_snoc hx]
            refine Paired.app (Paired.imp (fun _ _ => ChAt.same (off_mono (off_mono s7))) pp5) (.cons ?_ .nil)
            refine off_in (off_in ?_ npD) npG
            rw [upd_same, List.map_append]
            rfl
        · rintro H5 ⟨s5, cs, hd, pp5⟩
          rw [en, ← ext_len n c, List.take_length] at pp5
          have s25 : Same H2 H5 := s3.trans (s5.trans off_same)
          have hG5 := s25 _ _ hG2
          refine ⟨G, D, _, _, rfl, rfl, hG5, hd, ?_, ?_⟩
          · rw [List.length_map, List.length_map, Paired.len pp5, ext_len]
            exact Nat.le_of_lt (small1000 (by omega))
          · refine ⟨?_, bs ++ cs, _, _, rfl, ?_, ?_⟩
            · rw [off_upd]
              exact s2.trans (off_mono s25)
            · rw [upd_same, List.map_append]
            · rw [off_upd, flat_snoc (ext n) hc1]
              exact Paired.app (Paired.imp (fun _ _ => ChAt.same (off_mono s25)) pp2) (Paired.imp (fun _ _ => ChAt.same (off_mono off_same)) pp5)
      · rintro σ H2 ⟨s2, bs, v5, v6, rfl, hG2, pp2⟩
        rw [List.length_map, hasl, List.take_length] at pp2
        exact ⟨_, rfl, s1.trans (s2.trans off_same), G, _, _, _, _, rfl, bs, hG2, Paired.imp (fun _ _ => ChAt.same off_same) pp2⟩
    · rintro σ H1 ⟨s1, F, v3, v4, v5, v6, rfl, hF⟩
      rw [Int.toNat_natCast] at hF
      exact ⟨_, rfl, q F H1 s1 hF⟩
theorem v_sum : Cal P w K mg base 5 "_law_sum" ["_law_rows_here", "_law_word_here"] spSum := by
  refine mkCal T.a_L_sum sc_L_sum (fun _ _ _ _ _ _ us hl => match us, hl with | [_, _], _ => rfl) (by rintro vs H Q E ⟨_, _, _, _, _, rfl, _⟩; rfl) fun f cdv A outer s H vs Q E hr h => ?_
  obtain ⟨a, b, c, rs, wd, rfl, ⟨as, ha, hpp⟩, ⟨bs, hb, hbp⟩, ⟨hc, hr5, hw4, hrok, hwok⟩, q⟩ := h
  have hal : as.length = rs.length := Paired.len hpp
  have hbl : bs.length = wd.length := Paired.len hbp
  refine' ⟨_, ?pf, ?rd⟩
  case pf =>
    refine' pss_cons ?s1 (pss_cons ?s2 (pss_one ?s3))
    case s1 => exact ps_set (i := 2) sc_L_sum.nd rfl (.inl rfl) (pe_tup (pa_cons pe_int (pa_cons pe_int pa_nil)))
    case s2 =>
      refine' ps_for PassesOwn.never rfl (pi_list (pe_f (v_choices T) hr (pa_cons (pe_callB call_len_seq (by rfl) T.n_len PySem.boot_len (pa_cons (pv 0) pa_nil)) (pa_cons (pe_callB call_len_seq (by rfl) T.n_len PySem.boot_len (pa_cons (pv 1) pa_nil)) pa_nil)))) (pg_name (i := 3) sc_L_sum.nd rfl (.inl rfl)) (pss_cons ?b1 (pss_cons ?b2 (pss_one ?b3)))
      case b1 => exact ps_set (i := 4) sc_L_sum.nd rfl (.inl rfl) (pe_tup (pa_cons pe_int (pa_cons pe_int pa_nil)))
      case b2 =>
        exact ps_for PassesOwn.never rfl (pi_zipK false true (by rfl) T.n_zip (pa_cons (pv 3) (pa_cons (pv 1) pa_nil))) (pg_tup (by rfl) (pgs_cons (pg_name (i := 5) sc_L_sum.nd rfl (.inl rfl)) (pgs_cons (pg_name (i := 6) sc_L_sum.nd rfl (.inl rfl)) pgs_nil)))
          (pss_one (ps_set (i := 4) sc_L_sum.nd rfl (.inl rfl) (pe_f (v_times T) hr (pa_cons (pv 4) (pa_cons (pe_f (v_worth T) hr (pa_cons (pv 6) (pa_cons (pe_ix ix_list (pv 0) (pv 5) (fun _ _ => rfl)) pa_nil))) pa_nil)))))
      case b3 => exact ps_set (i := 2) sc_L_sum.nd rfl (.inl rfl) (pe_f (v_plus T) hr (pa_cons (pv 2) (pa_cons (pv 4) pa_nil)))
    case s3 => exact ps_ret (pv 2)
  case rd =>
    refine ⟨(by show 2 ≤ sizeLine; decide), fun t0 ht0 => ?_⟩
    have s0 : Same H (L2.upd H t0 (.tup [.int 0, .int 1])) := Same.new ht0
    have n0 : NumAt (L2.upd H t0 (.tup [.int 0, .int 1])) t0 0 := upd_same
    revert s0 n0
    generalize L2.upd H t0 (.tup [.int 0, .int 1]) = H0
    intro s0 n0
    refine ⟨_, rfl, a, _, rfl, .inl (SqL.of (s0 _ _ ha)), _, rfl, b, _, rfl, .inr (SqT.of (s0 _ _ hb)), ?_⟩
    rw [List.length_map, List.length_map, hal, hbl]
    refine ⟨rs.length, wd.length, rfl, hr5, hw4, fun F H1 s1 hF => ?_⟩
    obtain ⟨cs, hF, hcp⟩ := hF
    have hcl : cs.length = (chs rs.length wd.length).length := Paired.len hcp
    have few := chs_few rs.length hr5 wd.length (by omega)
    have s01 := s0.trans s1
    refine ⟨F, rfl, ⟨_, SqL.of hF⟩, ?_⟩
    refine for_it (walk_list (K := K) (a := F) (xs := cs.map V.ref))
      (fun i σ H' => Same H1 H' ∧ ∃ (g : Addr) (x : Rat) (v3 v4 v5 v6 : Option V), σ = [some (.ref a), some (.ref b), some (.ref g), v3, v4, v5, v6] ∧ NumAt H' g x ∧ Bd (1 + 30 * i) x ∧ x = sm (((chs rs.length wd.length).map fun c => pw rs c wd).take i))
      ⟨Same.refl H1, t0, 0, none, none, none, none, rfl, NumAt.keep (Same.keep s1) n0, bd_zero, rfl⟩ (fun i σ H' _ h => SqL.of (h.1 _ _ hF)) ?_ ?_
    · rintro i y σ H8 H2 hi ⟨s2, g, x, v3, v4, v5, v6, rfl, hg, hbd, hx⟩ ⟨rfl, hy⟩
      obtain ⟨e, he, rfl⟩ := atRef hy
      obtain ⟨ch, hc1, hc2⟩ := Paired.get hcp he
      have hcm := List.mem_of_getElem? hc1
      have hchl : ch.length = wd.length := chs_length _ _ _ hcm
      refine ⟨(by show 2 ≤ sizeLine; decide), fun t1 ht1 => ?_⟩
      have s3 : Same H2 (L2.upd H2 t1 (.tup [.int 1, .int 1])) := Same.new ht1
      have n1 : NumAt (L2.upd H2 t1 (.tup [.int 1, .int 1])) t1 1 := upd_same
      revert s3 n1
      generalize L2.upd H2 t1 (.tup [.int 1, .int 1]) = H3
      intro s3 n1
      have s13 := s2.trans s3
      have s03 := s01.trans s13
      refine ⟨_, rfl, _, rfl, e, b, _, _, rfl, SqL.of (s13 _ _ hc2), SqT.of (s03 _ _ hb), ?_⟩
      refine for_it (walk_zipK (K := K) (k1 := false) (k2 := true) (a := e) (b := b) (xs := ch.map fun n => V.int ((n : Nat) : Int)) (ys := bs.map V.ref) rfl)
        (fun j σ H' => Same H3 H' ∧ ∃ (g1 : Addr) (y : Rat) (v5 v6 : Option V), σ = [some (.ref a), some (.ref b), some (.ref g), some (.ref e), some (.ref g1), v5, v6] ∧ NumAt H' g1 y ∧ Bd (1 + 7 * j) y ∧ y * pw rs (ch.drop j) (wd.drop j) = pw rs ch wd)
        ⟨Same.refl H3, t1, 1, v5, v6, rfl, n1, bd_one, by rw [List.drop_zero, List.drop_zero, Rat.one_mul]⟩ (fun j σ H' _ h => ⟨SqL.of (h.1 _ _ (s13 _ _ hc2)), SqT.of (h.1 _ _ (s03 _ _ hb))⟩) ?_ ?_
      · rintro j v σ H4 H5 hj ⟨s4, g1, y, v5, v6, rfl, hg1, hbd1, hy1⟩ ⟨Tp, x0, y0, rfl, hT, rfl, hx0, hy0⟩
        obtain ⟨n, hn1, rfl⟩ := atInt hx0
        obtain ⟨el, hel, rfl⟩ := atRef hy0
        obtain ⟨l, hl1, hl2⟩ := Paired.get hbp hel
        have hnl : n < rs.length := chs_lt _ _ _ hcm n (List.mem_of_getElem? hn1)
        have hr1 := List.getElem?_eq_getElem hnl
        obtain ⟨er, her1, her2⟩ : ∃ er, as[n]? = some er ∧ RowAt H er rs[n] := by
          have h1 := List.getElem?_eq_getElem (show n < as.length by omega)
          exact ⟨_, h1, Paired.both hpp h1 hr1⟩
        have hrm := List.getElem_mem hnl
        have hlm := List.mem_of_getElem? hl1
        have s5 : Same H4 (L2.upd H4 Tp (.tup [.int ((n : Nat) : Int), .ref el])) := Same.new hT
        refine ⟨Tp, _, rfl, SqT.of upd_same, rfl, _, _, rfl, _, _, rfl, rfl, ?_⟩
        revert s5
        generalize L2.upd H4 Tp (.tup [.int ((n : Nat) : Int), .ref el]) = H6
        intro s5
        have s06 := s03.trans (s4.trans s5)
        refine ⟨_, rfl, _, rfl, _, rfl, _, rfl, a, _, _, _, rfl, rfl, SqL.of (s06 _ _ ha), atI_nat her1, ?_⟩
        refine ⟨el, er, l, rs[n], c, rfl, LetAt.keep (Same.keep s06) hl2, RowAt.keep (Same.keep s06) her2, by omega, hwok l hlm, hrok _ hrm, fun p H7 s7 hp => ?_⟩
        have wb : Bd 7 (worth l rs[n]) := by
          have h1 := worth_nar (B := 3) (M := 2) (by decide) l rs[n] (hwok l hlm).2 (hrok _ hrm).2
          refine Nar.bd (B := 3 ^ (2 * 2)) (Nar.mono h1 (Nat.pow_le_pow_right (by decide) ?_)) (by decide)
          rw [(hrok _ hrm).1]
          omega
        refine ⟨g1, p, y, _, _, 7, rfl, NumAt.keep (Same.keep (s5.trans s7)) hg1, hp, hbd1, wb, by omega, by decide, ?_, fun p5 H8 s8 h8 => ?_⟩
        · rw [List.length_map, List.length_map, hchl, hbl, Nat.min_self] at hj
          omega
        refine ⟨s4.trans (s5.trans (s7.trans s8)), p5, y * worth l rs[n], _, _, rfl, h8, Bd.mono (Bd.mul hbd1 wb) (by omega), ?_⟩
        rw [Rat.mul_assoc, ← pw_step hn1 hl1 hr1]
        exact hy1
      · rintro σ H4 ⟨s4, g1, y, v5, v6, rfl, hg1, hbd1, hy1⟩
        rw [List.length_map, List.length_map, hchl, hbl, Nat.min_self] at hbd1 hy1
        rw [List.drop_eq_nil_of_le (by omega), List.drop_eq_nil_of_le (by omega), show pw rs [] [] = 1 from rfl, Rat.mul_one] at hy1
        refine ⟨_, rfl, _, rfl, g, g1, x, y, _, 29, rfl, NumAt.keep (Same.keep (s3.trans s4)) hg, hg1, hbd, Bd.mono hbd1 (by omega), by omega, by decide, ?_, fun p5 H5 s5 h5 => ?_⟩
        · rw [List.length_map, hcl] at hi
          omega
        refine ⟨s2.trans (s3.trans (s4.trans s5)), p5, x + y, _, _, _, _, rfl, h5, Bd.mono (Bd.add hbd (Bd.mono hbd1 (show 1 + 7 * wd.length ≤ 29 by omega))) (by omega), ?_⟩
        have hm : ((chs rs.length wd.length).map fun c => pw rs c wd)[i]? = some y := by
          rw [List.getElem?_map, hc1, hy1]
          rfl
        rw [sm_take hm, hx]
    · rintro σ H2 ⟨s2, g, x, v3, v4, v5, v6, rfl, hg, hbd, hx⟩
      rw [List.length_map, hcl] at hbd hx
      rw [show (chs rs.length wd.length).length = ((chs rs.length wd.length).map fun c => pw rs c wd).length from (List.length_map ..).symm, List.take_length, chs_S] at hx
      rw [hx] at hg hbd
      exact ⟨_, rfl, q g H2 (s01.trans s2) hg (Bd.mono hbd (by omega))⟩
end
end K22
set_option Elab.async false
set_option linter.all false
set_option maxRecDepth 100000
set_option maxHeartbeats 4000000
/-! The law's one trial: what it needs. -/
namespace K22
open PySem PySem.Spec PyProof.Rows L2
section
variable {X : Cx} {CR CT fR fE fT : Addr} (T : Txt X.K X.mg CR CT fR fE fT)
include T
theorem op_neR {j : Nat} (hr : Room j X.A) (hj : 2 ≤ j := by decide) : OpR X (compareOp .NotEq) (rNeG (DIns CR (SameR CR))) := by
  obtain ⟨fd, F, b⟩ := f_rat_eq (P := X.prog) (w := X.w) (base := X.base) T
  exact op_neG (rnG_ins F T.insR.hm T.neR T.eqR.at_ T.eqR.fn b pass0) (hr.mono hj)
theorem op_eqR {j : Nat} (hr : Room j X.A) (hj : 1 ≤ j := by decide) : OpR X (compareOp .Eq) (rEqG (DIns CR (SameR CR))) := by
  obtain ⟨fd, F, b⟩ := f_rat_eq (P := X.prog) (w := X.w) (base := X.base) T
  exact op_eqG (rcG_ins F T.eqR.at_ T.eqR.fn b pass0) (hr.mono hj)
theorem op_neRL {j : Nat} (hr : Room j X.A) (hj : 2 ≤ j := by decide) : OpR X (compareOp .NotEq) (rNeG (DList (DIns CR (SameR CR)))) := by
  obtain ⟨fd, F, b⟩ := f_rat_eq (P := X.prog) (w := X.w) (base := X.base) T
  refine op_neG (rnG_list (mon_ins fun a b H H' e h => ?_) (eqG_ins F T.eqR.at_ T.eqR.fn b pass0)) (hr.mono hj)
  obtain ⟨q, h1, h2⟩ := h
  exact ⟨q, RatAt.keep (Same.keep e) h1, RatAt.keep (Same.keep e) h2⟩
end
theorem dins {CR : Addr} {H : Hp} {a b : Addr} {q : Rat} (h1 : RatAt CR H a q) (h2 : RatAt CR H b q) : DIns CR (SameR CR) (.ref a) (.ref b) H := by
  obtain ⟨dx, e1⟩ := id h1
  obtain ⟨dy, e2⟩ := id h2
  exact ⟨a, b, dx, dy, _, _, rfl, rfl, e1, e2, q, h1, h2⟩
theorem dlist {CR : Addr} {H : Hp} {a b : Addr} {qs : List Rat} (h1 : RatsAt CR H a qs) (h2 : RatsAt CR H b qs) : DList (DIns CR (SameR CR)) (.ref a) (.ref b) H := by
  obtain ⟨as, e1, p1⟩ := h1
  obtain ⟨bs, e2, p2⟩ := h2
  refine ⟨a, b, _, _, rfl, rfl, e1, e2, ?_, fun i x y hx hy => ?_⟩
  · rw [List.length_map, List.length_map, Paired.len p1, Paired.len p2]
  · obtain ⟨u, hu, rfl⟩ := atRef hx
    obtain ⟨v, hv, rfl⟩ := atRef hy
    obtain ⟨q1, hq1, r1⟩ := Paired.get p1 hu
    obtain ⟨q2, hq2, r2⟩ := Paired.get p2 hv
    rw [hq1] at hq2
    have e : q1 = q2 := Option.some.inj hq2
    rw [← e] at r2
    exact dins r1 r2
theorem rw_of {c : Nat} {rs : List (List Rat)} {w : List (List Nat)} (hc : c ≤ 2) (hr : rs.length ≤ 8) (hw : w.length ≤ 8) (h1 : ∀ r ∈ rs, RowLaw c r) (h2 : ∀ l ∈ w, LetLaw c 2 l) : RW c rs w := by
  refine ⟨⟨by omega, hw, fun l hl => ⟨(h2 l hl).1, fun p hp => Nat.le_trans ((h2 l hl).2 p hp) (by decide)⟩⟩, fun r hr => ⟨(h1 r hr).1, fun q hq => Bd.mono ((h1 r hr).2 q hq).bd2 (by decide)⟩, fun l hl r hr => ?_, hr⟩
  have h3 := worth_nar (B := 3) (M := 2) (by decide) l r (h2 l hl).2 (h1 r hr).2
  refine Nar.bd (B := 3 ^ (2 * 2)) (Nar.mono h3 (Nat.pow_le_pow_right (by decide) ?_)) (by decide)
  rw [(h1 r hr).1]
  omega
theorem LW.rw {c : Nat} {rs : List (List Rat)} {w : List (List Nat)} (h : LW c rs w) : RW c rs w := rw_of h.1 (by have := h.2.1; omega) (by have := h.2.2.1; omega) h.2.2.2.1 h.2.2.2.2
theorem LW.rows {c : Nat} {rs ss : List (List Rat)} {w : List (List Nat)} (h : LW c rs w) (hl : ss.length ≤ 5) (hs : ∀ r ∈ ss, RowLaw c r) : LW c ss w := ⟨h.1, hl, h.2.2.1, hs, h.2.2.2.2⟩
theorem LW.sub {c : Nat} {rs ss : List (List Rat)} {w : List (List Nat)} (h : LW c rs w) (hl : ss.length ≤ rs.length) (hs : ∀ r ∈ ss, r ∈ rs) : LW c ss w := h.rows (Nat.le_trans hl h.2.1) fun r hr => h.2.2.2.1 r (hs r hr)
theorem LW.word {c : Nat} {rs : List (List Rat)} {w v : List (List Nat)} (h : LW c rs w) (hl : v.length ≤ w.length) (hs : ∀ l ∈ v, l ∈ w) : LW c rs v := ⟨h.1, h.2.1, Nat.le_trans hl h.2.2.1, h.2.2.2.1, fun l hlm => h.2.2.2.2 l (hs l hlm)⟩
theorem LW.take {c : Nat} {rs : List (List Rat)} {w : List (List Nat)} (h : LW c rs w) (i : Nat) : LW c (rs.take i) w := h.sub (by rw [List.length_take]; omega) fun _ hr => List.mem_of_mem_take hr
theorem LW.drop {c : Nat} {rs : List (List Rat)} {w : List (List Nat)} (h : LW c rs w) (i : Nat) : LW c (rs.drop i) w := h.sub (by rw [List.length_drop]; omega) fun _ hr => List.mem_of_mem_drop hr
theorem LW.wtake {c : Nat} {rs : List (List Rat)} {w : List (List Nat)} (h : LW c rs w) (i : Nat) : LW c rs (w.take i) := h.word (by rw [List.length_take]; omega) fun _ hr => List.mem_of_mem_take hr
theorem LW.wdrop {c : Nat} {rs : List (List Rat)} {w : List (List Nat)} (h : LW c rs w) (i : Nat) : LW c rs (w.drop i) := h.word (by rw [List.length_drop]; omega) fun _ hr => List.mem_of_mem_drop hr
theorem rowsAt_front {H H' : Hp} {p : Addr} {as : List Addr} {rs : List (List Rat)} {i : Nat} (k : Keep H H') (hpp : Paired (RowAt H) as rs) (hp : H' p = some (.lst (cutV (as.map V.ref) none (some (0 + ((i : Nat) : Int)))))) : RowsAt H' p (rs.take i) :=
  ⟨as.take i, by rw [hp, cut_front], Paired.imp (fun _ _ => RowAt.keep k) (Paired.take i hpp)⟩
theorem rowsAt_back {H H' : Hp} {p : Addr} {as : List Addr} {rs : List (List Rat)} {i : Nat} (k : Keep H H') (hpp : Paired (RowAt H) as rs) (hp : H' p = some (.lst (cutV (as.map V.ref) (some (0 + ((i : Nat) : Int))) none))) : RowsAt H' p (rs.drop i) :=
  ⟨as.drop i, by rw [hp, cut_back], Paired.imp (fun _ _ => RowAt.keep k) (Paired.drop i hpp)⟩
/-- what stands through a trial -/
structure Fx (CR CT : Addr) (p a b t wh : Addr) (c : Nat) (rs : List (List Rat)) (w : List (List Nat)) (H : Hp) : Prop where
  rows : RowsAt H a rs
  word : WordAt H b w
  tab : TabAt CR CT H t c rs
  whole : RatAt CR H wh (S rs w)
  pot : PotAt H p
theorem Fx.same {CR CT p a b t wh : Addr} {c : Nat} {rs : List (List Rat)} {w : List (List Nat)} {H H' : Hp} (f : Fx CR CT p a b t wh c rs w H) (s : Same H H') : Fx CR CT p a b t wh c rs w H' :=
  ⟨RowsAt.keep (Same.keep s) f.rows, WordAt.keep (Same.keep s) f.word, TabAt.keep (Same.keep s) f.tab, RatAt.keep (Same.keep s) f.whole, pot_same s f.pot⟩
theorem Fx.kp {CR CT p a b t wh : Addr} {c : Nat} {rs : List (List Rat)} {w : List (List Nat)} {H H' : Hp} (f : Fx CR CT p a b t wh c rs w H) (k : Kp p H H') (h : PotAt H' p) : Fx CR CT p a b t wh c rs w H' :=
  ⟨RowsAt.keep (Kp.keep k f.pot) f.rows, WordAt.keep (Kp.keep k f.pot) f.word, TabAt.keep (Kp.keep k f.pot) f.tab, RatAt.keep (Kp.keep k f.pot) f.whole, h⟩
theorem same_over {H H1 : Hp} {D : Addr} {o : HO} (s : Same H H1) (h : H D = none) : Same H (L2.upd H1 D o) := fun c u e => by
  rw [upd_ne (ne_of_none e h)]
  exact s _ _ e
theorem same_data {n : Nat} {d : PyData} (h : Shp n d) : V.bl (!PyData.eqv d d) = .bl false := by
  rw [h.refl]
  rfl
theorem same_data' {n : Nat} {d : PyData} (h : Shp n d) : V.bl (PyData.eqv d d) = .bl true := by
  rw [h.refl]
def spOne : Sp := fun vs H Q _ => ∃ (p : Addr) (c : Nat) (a b : Addr) (rs : List (List Rat)) (w : List (List Nat)), vs = [.ref p, .int ((c : Nat) : Int), .ref a, .ref b] ∧ PotAt H p ∧ RowsAt H a rs ∧ WordAt H b w ∧ LW c rs w ∧ ∀ H', PotAt H' p → Kp p H H' → Q (.bl true) H'
end K22
set_option Elab.async false
set_option linter.all false
set_option maxRecDepth 100000
set_option maxHeartbeats 4000000
/-! Walks: the law's one trial. -/
namespace K22
open PySem PySem.Spec PyProof.Rows L2
section
variable {P : Program} {w : World} {K : PySem.W.Frag} {mg : Str → Option Value} {base : Heap} {CR CT fR fE fT : Addr} (T : Txt K mg CR CT fR fE fT)
include T
theorem v_one_right : Cal P w K mg base 10 "_law_one_right" ["_law_pot_here", "_law_columns", "_law_rows_here", "_law_word_here"] spOne := by
  refine mkCal T.a_L_one_right sc_L_one_right (fun _ _ _ _ _ _ us hl => match us, hl with | [_, _, _, _], _ => rfl) (by rintro vs H Q E ⟨_, _, _, _, _, _, rfl, _⟩; rfl) fun f cdv A outer s H vs Q E hr h => ?_
  obtain ⟨p, c, a, b, rs, wd, rfl, hp, hrows, hword, hlw, q⟩ := h
  refine' ⟨_, ?pf, ?rd⟩
  case pf =>
    refine' pss_cons ?s1 (pss_cons ?s2 (pss_cons ?s3 (pss_cons ?s4 (pss_cons ?s5 (pss_cons ?s6 (pss_cons ?s7 (pss_cons ?s8 (pss_cons ?s9 (pss_cons ?s10 (pss_cons ?s11 (pss_cons ?s12 (pss_cons ?s13 (pss_cons ?s14 (pss_cons ?s15 (pss_one ?s16)))))))))))))))
    case s1 => exact ps_par (i := 4) (j := 5) rfl sc_L_one_right.nd rfl rfl (by decide) rfl rfl (pa_cons (pe_f (v_table T) hr (pa_cons (pv 0) (pa_cons (pv 1) (pa_cons (pv 2) pa_nil)))) (pa_cons (pe_callB call_len_seq (by rfl) T.n_len PySem.boot_len (pa_cons (pv 2) pa_nil)) pa_nil)) (by rfl)
    case s2 => exact ps_set (i := 6) sc_L_one_right.nd rfl (.inl rfl) (pe_f (v_ratio T) hr (pa_cons (pe_f (v_sum T) hr (pa_cons (pv 2) (pa_cons (pv 3) pa_nil))) pa_nil))
    case s3 =>
      refine' ps_if (PW.pt (pw_or (pt_cmpR (op_neR ?t hr) (pe_f (k_word_sum T).1 hr (pa_cons (pv 4) (pa_cons (pv 3) pa_nil))) (pv 6) (nomark _))
        (pw_or1 (pt_cmpR (op_neR ?t hr) (pe_fn (k_word_sum T).2 hr (pk_cons (pv 3) (pk_cons (pv 4) pk_nil))) (pv 6) (nomark _))))) (pss_one ps_never) pss_nil
      case t => exact T
    case s4 => exact ps_par (i := 7) (j := 8) rfl sc_L_one_right.nd rfl rfl (by decide) rfl rfl (pa_cons (pe_f (c_sums_ahead T) hr (pa_cons (pv 4) (pa_cons (pv 3) pa_nil))) (pa_cons (pe_fn (k_sums_behind T).2 hr (pk_cons (pv 3) (pk_cons (pv 4) pk_nil))) pa_nil)) (by rfl)
    case s5 =>
      refine' ps_if (pt_cmpR (op_neRL ?t hr) (pv 7) ?e (nomark _)) (pss_one ps_never) pss_nil
      case t => exact T
      case e =>
        exact pe_lc (own := [("_law_at", 16)]) (g := gName 16) (tt := tYes) rfl sc_L_one_right.nd (pi_range1 (by rfl) T.n_range (pa_cons (pe_op op_add (pv 5) pe_int) pa_nil)) (blkOk_by (own := [("_law_at", 16)]) (N := ["_law_pot_here", "_law_columns", "_law_rows_here", "_law_word_here", "_law_table_here", "_law_many", "_law_whole", "_law_ahead", "_law_behind", "_law_due", "_law_told", "_law_others", "_law_more", "_law_total", "_law_near", "_law_far", "_law_at"]) (sc := defScope s_L_one_right) (by decide +kernel)) (fun _ _ _ _ _ => pg_name (i := 16) sc_L_one_right.nd rfl (Or.inl rfl)) (fun _ _ _ _ _ => pts_nil)
          (fun _ _ _ _ _ => pe_f (v_ratio T) hr (pa_cons (pe_f (v_sum T) hr (pa_cons (pe_sliceLK (K := K) rfl (pv 2) po_none (po_some (pv 16))) (pa_cons (pv 3) pa_nil))) pa_nil))
    case s6 =>
      refine' ps_if (pt_cmpR (op_neRL ?t hr) (pv 8) ?e (nomark _)) (pss_one ps_never) pss_nil
      case t => exact T
      case e =>
        exact pe_lc (own := [("_law_at", 16)]) (g := gName 16) (tt := tYes) rfl sc_L_one_right.nd (pi_range1 (by rfl) T.n_range (pa_cons (pe_op op_add (pv 5) pe_int) pa_nil)) (blkOk_by (own := [("_law_at", 16)]) (N := ["_law_pot_here", "_law_columns", "_law_rows_here", "_law_word_here", "_law_table_here", "_law_many", "_law_whole", "_law_ahead", "_law_behind", "_law_due", "_law_told", "_law_others", "_law_more", "_law_total", "_law_near", "_law_far", "_law_at"]) (sc := defScope s_L_one_right) (by decide +kernel)) (fun _ _ _ _ _ => pg_name (i := 16) sc_L_one_right.nd rfl (Or.inl rfl)) (fun _ _ _ _ _ => pts_nil)
          (fun _ _ _ _ _ => pe_f (v_ratio T) hr (pa_cons (pe_f (v_sum T) hr (pa_cons (pe_sliceLK (K := K) rfl (pv 2) (po_some (pv 16)) po_none) (pa_cons (pv 3) pa_nil))) pa_nil))
    case s7 => exact ps_expr (pe_bm PySem.F.plainAttrs_list PySem.F.slot_list_append PySem.F.type_list_append mt_append (pv 7) (pa_cons pe_non pa_nil))
    case s8 =>
      exact ps_setLc (i := 9) (own := [("_law_at", 16)]) (g := gName 16) (tt := tYes) rfl sc_L_one_right.nd rfl rfl (by rfl) (pi_range1 (by rfl) T.n_range (pa_cons (pe_op op_add (pe_callB call_len_seq (by rfl) T.n_len PySem.boot_len (pa_cons (pv 3) pa_nil)) pe_int) pa_nil)) (blkOk_by (own := [("_law_at", 16)]) (N := ["_law_pot_here", "_law_columns", "_law_rows_here", "_law_word_here", "_law_table_here", "_law_many", "_law_whole", "_law_ahead", "_law_behind", "_law_due", "_law_told", "_law_others", "_law_more", "_law_total", "_law_near", "_law_far", "_law_at"]) (sc := defScope s_L_one_right) (by decide +kernel)) (fun _ _ _ _ _ => pg_name (i := 16) sc_L_one_right.nd rfl (Or.inl rfl)) (fun _ _ _ _ _ => pts_nil)
        (fun _ _ _ _ _ => pe_tup (pa_cons (pe_slice sl_cutU (pv 3) po_none (po_some (pv 16))) (pa_cons (pe_slice sl_cutU (pv 3) (po_some (pv 16)) po_none) pa_nil)))
    case s9 => exact ps_set (i := 10) sc_L_one_right.nd rfl (.inl rfl) (pe_f (k_cuts T).1 hr (pa_cons (pv 1) (pa_cons (pv 3) pa_nil)))
    case s10 =>
      refine' ps_if (PW.pt (pw_or (pt_cmpR (op_neD hr.units) (pv 10) (pv 9) (nomark _)) (pw_or (pt_cmpR (op_neD hr.units) (pe_f (c_turned_word T) hr (pa_cons (pv 1) (pa_cons (pv 3) pa_nil))) (pe_revT (pv 3)) (nomark _))
        (pw_or1 (pt_cmpR (op_neR ?t hr) (pe_f (k_word_sum T).1 hr (pa_cons (pe_f (c_turned T) hr (pa_cons (pv 4) pa_nil)) (pa_cons (pe_revT (pv 3)) pa_nil))) (pv 6) (nomark _)))))) (pss_one ps_never) pss_nil
      case t => exact T
    case s11 => exact ps_expr (pe_bm PySem.F.plainAttrs_list PySem.F.slot_list_append PySem.F.type_list_append mt_append (pv 10) (pa_cons pe_non pa_nil))
    case s12 => exact ps_set (i := 11) sc_L_one_right.nd rfl (.inl rfl) (pe_f (v_rows T) hr (pa_cons (pv 0) (pa_cons (pv 1) (pa_cons (pe_f (v_draw T) hr (pa_cons (pv 0) (pa_cons pe_int pa_nil))) pa_nil))))
    case s13 => exact ps_par (i := 12) (j := 13) rfl sc_L_one_right.nd rfl rfl (by decide) rfl rfl (pa_cons (pe_f (v_table T) hr (pa_cons (pv 0) (pa_cons (pv 1) (pa_cons (pv 11) pa_nil)))) (pa_cons (pe_tup (pa_cons pe_int (pa_cons pe_int pa_nil))) pa_nil)) (by rfl)
    case s14 =>
      exact ps_for PassesOwn.never rfl (pi_list (pv 9)) (pg_tup (by rfl) (pgs_cons (pg_name (i := 14) sc_L_one_right.nd rfl (.inl rfl)) (pgs_cons (pg_name (i := 15) sc_L_one_right.nd rfl (.inl rfl)) pgs_nil)))
        (pss_one (ps_set (i := 13) sc_L_one_right.nd rfl (.inl rfl) (pe_f (v_plus T) hr (pa_cons (pv 13) (pa_cons (pe_f (v_times T) hr (pa_cons (pe_f (v_sum T) hr (pa_cons (pv 2) (pa_cons (pv 14) pa_nil))) (pa_cons (pe_f (v_sum T) hr (pa_cons (pv 11) (pa_cons (pv 15) pa_nil))) pa_nil))) pa_nil)))))
    case s15 =>
      refine' ps_if (pt_cmpR (op_neR ?t hr) (pe_f (k_word_sum T).1 hr (pa_cons (pe_f (c_joined T) hr (pa_cons (pv 4) (pa_cons (pv 12) pa_nil))) (pa_cons (pv 3) pa_nil))) (pe_f (v_ratio T) hr (pa_cons (pv 13) pa_nil)) (nomark _)) (pss_one ps_never) pss_nil
      case t => exact T
    case s16 =>
      exact ps_ret (pe_and (pe_cmpR (op_eqD hr.units) (pe_fn (k_cuts T).2 hr (pk_cons (pv 3) (pk_cons (pv 1) pk_nil))) (pv 9) (nomark _))
        (pe_one (pe_cmpR op_eq (pe_callB call_len_seq (by rfl) T.n_len PySem.boot_len (pa_cons (pe_f (c_sums_ahead T) hr (pa_cons (pv 4) (pa_cons (pv 3) pa_nil))) pa_nil)) (pe_op op_add (pv 5) pe_int) (nomark _))))
  case rd =>
    obtain ⟨hc2, hr5, hw4, hrok, hwok⟩ := id hlw
    have hRW : RW c rs wd := hlw.rw
    have hWOK : WordOk c wd := hRW.1
    -- the table, the number of rows
    refine ⟨_, rfl, _, rfl, _, rfl, p, c, a, rs, rfl, hp, by omega, hrows, by omega, hrok, fun t H1 ht p1 k1 => ?_⟩
    have hrows1 := RowsAt.keep (Kp.keep k1 hp) hrows
    have hword1 := WordAt.keep (Kp.keep k1 hp) hword
    obtain ⟨as1, ha1, hpp1⟩ := id hrows1
    have hal : as1.length = rs.length := Paired.len hpp1
    refine ⟨_, rfl, a, _, rfl, .inl (SqL.of ha1), _, _, rfl, ?_⟩
    rw [List.length_map, hal]
    -- the whole sum
    refine ⟨_, rfl, _, rfl, a, b, c, rs, wd, rfl, hrows1, hword1, hlw, fun x H2 s2 hx hbd => ⟨x, _, rfl, hx, lt9000 hbd.2 (by decide), fun wh H3 s3 hwh => ?_⟩⟩
    have s13 := s2.trans s3
    have f3 : Fx CR CT p a b t wh c rs wd H3 := ⟨RowsAt.keep (Same.keep s13) hrows1, WordAt.keep (Same.keep s13) hword1, TabAt.keep (Same.keep s13) ht, hwh, pot_same s13 p1⟩
    have k3 : Kp p H H3 := k1.trans (Same.kp s13)
    clear s13 s3 s2 hx hbd hwh ht p1 k1 hrows1 hword1 ha1 hpp1 hal as1
    -- word_sum, in both ways
    refine ⟨_, rfl, _, rfl, t, b, c, rs, wd, rfl, f3.tab, f3.word, hRW, fun y1 H4 s4 hy1 => ⟨_, rfl, dins hy1 (f3.same s4).whole, fun H5 e5 => ⟨_, rfl, iteF ?_⟩⟩⟩
    have s35 : Same H3 H5 := s4.trans e5
    have f5 := f3.same s35
    refine ⟨_, rfl, _, rfl, rfl, rfl, t, b, c, rs, wd, rfl, f5.tab, f5.word, hRW, fun y2 H6 s6 hy2 => ⟨_, rfl, dins hy2 (f5.same s6).whole, fun H7 e7 => ⟨_, rfl, iteF ?_⟩⟩⟩
    have s37 : Same H3 H7 := s35.trans (s6.trans e7)
    have f7 := f3.same s37
    clear f5 s35 hy1 hy2 e5 s4 e7 s6
    -- sums ahead, sums behind
    refine ⟨_, rfl, _, rfl, t, b, c, rs, wd, rfl, f7.tab, f7.word, hRW, fun D1 H8 s8 n8 hD1 => ⟨_, rfl, _, rfl, rfl, rfl, t, b, c, rs, wd, rfl, (f7.same s8).tab, (f7.same s8).word, hRW, fun D2 H9 s9 hD2 => ⟨_, _, rfl, ?_⟩⟩⟩
    have s79 := s8.trans s9
    have n3 : H3 D1 = none := none_of s37 n8
    have s39 : Same H3 H9 := s37.trans s79
    have f9 := f3.same s39
    have hD1' := RatsAt.keep (Same.keep s9) hD1
    clear hD1 s9 s79 s8 n8 f7 s37
    -- the sums ahead, told anew
    refine ⟨_, rfl, _, rfl, _, _, rfl, rfl, _, rfl, by omega, by omega, fun D hD => ?_⟩
    obtain ⟨as, ha, hpp⟩ := id f9.rows
    refine lc_it (walk_range (lo := 0) (n := ((((rs.length : Nat) : Int)) + 1).toNat)) (fun i H' => Same H9 (off D H') ∧ ∃ cs : List Addr, H' D = some (.lst (cs.map V.ref)) ∧ Paired (RatAt CR (off D H')) cs ((aheadL rs wd).take i)) ⟨off_of (Same.new hD) hD, [], upd_same, .nil⟩ (fun _ _ _ _ => trivial) ?_ ?_
    · rintro i y H10 H11 hi ⟨s11, cs, hd, pp⟩ ⟨rfl, rfl⟩
      have hi' : i < rs.length + 1 := by omega
      have f11 := f9.same (s11.trans off_same)
      have ha11 := off_same _ _ (s11 _ _ ha)
      have hai : (aheadL rs wd)[i]? = some (S (rs.take i) wd) := by
        unfold aheadL
        rw [List.getElem?_map, List.getElem?_range hi']
        rfl
      refine ⟨rfl, _, rfl, _, rfl, _, rfl, a, _, rfl, SqL.of ha11, fun p5 hp5 => ?_⟩
      have s12 := Same.new (o := .lst (cutV (as.map V.ref) none (some (0 + ((i : Nat) : Int))))) hp5
      refine ⟨_, rfl, p5, b, c, rs.take i, wd, rfl, rowsAt_front (Same.keep ((s11.trans off_same).trans s12)) hpp upd_same, (f11.same s12).word, hlw.take i, fun x H13 s13 hx hbd => ⟨x, _, rfl, hx, lt9000 hbd.2 (by decide), fun y H14 s14 hy => ?_⟩⟩
      have s1114 := s12.trans (s13.trans s14)
      have hd14 := s1114 _ _ hd
      refine ⟨_, hd14, ?_, ?_, cs ++ [y], ?_, ?_⟩
      · rw [List.length_map, Paired.len pp, List.length_take]
        exact small1000 (by omega)
      · rw [off_upd]
        exact s11.trans (off_mono s1114)
      · rw [upd_same, map_snoc]
      · rw [off_upd, take_snoc hai]
        exact Paired.app (Paired.imp (fun _ _ => RatAt.keep (Same.keep (off_mono s1114))) pp) (.cons (ratAt_off hy hd14) .nil)
    rintro H10 ⟨s10, cs, hd, pp⟩
    rw [show ((((rs.length : Nat) : Int)) + 1).toNat = (aheadL rs wd).length by unfold aheadL; rw [List.length_map, List.length_range]; omega, List.take_length] at pp
    have hDn : RatsAt CR H10 D (aheadL rs wd) := ⟨cs, hd, Paired.imp (fun _ _ => RatAt.keep (Same.keep off_same)) pp⟩
    have s910 := s10.trans off_same
    refine ⟨dlist (RatsAt.keep (Same.keep s910) hD1') hDn, fun H11 e11 => ⟨_, rfl, iteF ?_⟩⟩
    have s911 : Same H9 H11 := s910.trans e11
    have hD1a := RatsAt.keep (Same.keep s911) hD1'
    have hD2a := RatsAt.keep (Same.keep s911) hD2
    have s311 := s39.trans s911
    have f11 := f3.same s311
    clear s911 e11 s910 hDn pp hd cs s10 H10 hD D ha hpp as hD1' hD2 f9 s39 H9
    -- the sums behind, told anew
    refine ⟨_, rfl, _, rfl, _, _, rfl, rfl, _, rfl, by omega, by omega, fun D hD => ?_⟩
    obtain ⟨as, ha, hpp⟩ := id f11.rows
    refine lc_it (walk_range (lo := 0) (n := ((((rs.length : Nat) : Int)) + 1).toNat)) (fun i H' => Same H11 (off D H') ∧ ∃ cs : List Addr, H' D = some (.lst (cs.map V.ref)) ∧ Paired (RatAt CR (off D H')) cs ((behindL rs wd).take i)) ⟨off_of (Same.new hD) hD, [], upd_same, .nil⟩ (fun _ _ _ _ => trivial) ?_ ?_
    · rintro i y H10 H12 hi ⟨s11, cs, hd, pp⟩ ⟨rfl, rfl⟩
      have hi' : i < rs.length + 1 := by omega
      have f12 := f11.same (s11.trans off_same)
      have ha11 := off_same _ _ (s11 _ _ ha)
      have hai : (behindL rs wd)[i]? = some (S (rs.drop i) wd) := by
        unfold behindL
        rw [List.getElem?_map, List.getElem?_range hi']
        rfl
      refine ⟨rfl, _, rfl, _, rfl, _, rfl, a, _, rfl, SqL.of ha11, fun p5 hp5 => ?_⟩
      have s12 := Same.new (o := .lst (cutV (as.map V.ref) (some (0 + ((i : Nat) : Int))) none)) hp5
      refine ⟨_, rfl, p5, b, c, rs.drop i, wd, rfl, rowsAt_back (Same.keep ((s11.trans off_same).trans s12)) hpp upd_same, (f12.same s12).word, hlw.drop i, fun x H13 s13 hx hbd => ⟨x, _, rfl, hx, lt9000 hbd.2 (by decide), fun y H14 s14 hy => ?_⟩⟩
      have s1114 := s12.trans (s13.trans s14)
      have hd14 := s1114 _ _ hd
      refine ⟨_, hd14, ?_, ?_, cs ++ [y], ?_, ?_⟩
      · rw [List.length_map, Paired.len pp, List.length_take]
        exact small1000 (by omega)
      · rw [off_upd]
        exact s11.trans (off_mono s1114)
      · rw [upd_same, map_snoc]
      · rw [off_upd, take_snoc hai]
        exact Paired.app (Paired.imp (fun _ _ => RatAt.keep (Same.keep (off_mono s1114))) pp) (.cons (ratAt_off hy hd14) .nil)
    rintro H10 ⟨s10, cs, hd, pp⟩
    rw [show ((((rs.length : Nat) : Int)) + 1).toNat = (behindL rs wd).length by unfold behindL; rw [List.length_map, List.length_range]; omega, List.take_length] at pp
    have hDn : RatsAt CR H10 D (behindL rs wd) := ⟨cs, hd, Paired.imp (fun _ _ => RatAt.keep (Same.keep off_same)) pp⟩
    have s910 := s10.trans off_same
    refine ⟨dlist (RatsAt.keep (Same.keep s910) hD2a) hDn, fun H12 e12 => ⟨_, rfl, iteF ?_⟩⟩
    have s1112 : Same H11 H12 := s910.trans e12
    have hD1b := RatsAt.keep (Same.keep s1112) hD1a
    have s312 := s311.trans s1112
    clear s1112 e12 s910 hDn pp hd cs s10 H10 hD D ha hpp as hD1a hD2a f11 s311 H11
    -- ahead.append(None)
    obtain ⟨cs1, hD1, hD1p⟩ := hD1b
    refine ⟨_, rfl, .inl ⟨rfl, _, SqL.of hD1⟩, D1, _, _, rfl, rfl, hD1, ?_, ?_⟩
    · rw [List.length_map, Paired.len hD1p]
      unfold aheadL
      rw [List.length_map, List.length_range]
      exact small1000 (by omega)
    have s3b : Same H3 (L2.upd H12 D1 (.lst (cs1.map V.ref ++ [V.non]))) := same_over s312 n3
    revert s3b
    generalize L2.upd H12 D1 (.lst (cs1.map V.ref ++ [V.non])) = H10
    intro s3b
    have f10 := f3.same s3b
    have k10 : Kp p H H10 := k3.trans (Same.kp s3b)
    clear s3b hD1p hD1 cs1 s312 H12 n3 f3 k3 H3
    -- the cuts due
    obtain ⟨bs, hb, hbp⟩ := id f10.word
    have hbl : bs.length = wd.length := Paired.len hbp
    refine ⟨_, rfl, b, _, rfl, .inr (SqT.of hb), _, _, rfl, rfl, _, rfl, ?_, ?_, fun D hD => ?_⟩
    · rw [List.length_map]
      omega
    · rw [List.length_map]
      omega
    refine lc_it (walk_range (lo := 0) (n := ((((bs.map V.ref).length : Nat) : Int) + 1).toNat)) (fun i H' => Same H10 (off D H') ∧ ∃ cs : List Addr, H' D = some (.lst (cs.map V.ref)) ∧ Paired (CutAt wd (off D H')) cs ((List.range (wd.length + 1)).take i)) ⟨off_of (Same.new hD) hD, [], upd_same, .nil⟩ (fun _ _ _ _ => trivial) ?_ ?_
    · rintro i y H2 H3 hi ⟨s2, cs, hc, pp⟩ ⟨rfl, rfl⟩
      rw [List.length_map, hbl] at hi
      have hi' : i < wd.length + 1 := by omega
      have s3 := s2.trans off_same
      refine ⟨rfl, ?_⟩
      refine ⟨_, rfl, _, rfl, _, rfl, b, _, rfl, s3 _ _ hb, fun p1 H4 s4 h4 => ?_⟩
      refine ⟨_, rfl, _, rfl, _, rfl, b, _, rfl, s4 _ _ (s3 _ _ hb), fun p2 H5 s5 h5 => ?_⟩
      refine ⟨(by show 2 ≤ sizeLine; decide), fun p3 hp3 => ?_⟩
      have s6 : Same H5 (L2.upd H5 p3 (.tup [.ref p1, .ref p2])) := Same.new hp3
      have s45 := s4.trans (s5.trans s6)
      have hc6 := s45 _ _ hc
      refine ⟨_, hc6, ?_, ?_, cs ++ [p3], ?_, ?_⟩
      · rw [List.length_map, Paired.len pp, List.length_take]
        exact small1000 (by omega)
      · rw [off_upd]
        exact s2.trans (off_mono s45)
      · rw [upd_same, map_snoc]
      · rw [off_upd, take_snoc (show (List.range (wd.length + 1))[i]? = some i from List.getElem?_range hi')]
        refine Paired.app (Paired.imp (fun _ _ => CutAt.keep (Same.keep (off_mono s45))) pp) (.cons (cutAt_off ⟨p1, p2, upd_same, ?_, ?_⟩ hc6) .nil)
        · exact WordAt.keep (Same.keep (s5.trans s6)) (wordAt_front (a := b) (Same.keep (s3.trans s4)) hbp h4)
        · exact WordAt.keep (Same.keep s6) (wordAt_back (a := b) (Same.keep ((s3.trans s4).trans s5)) hbp h5)
    rintro H11 ⟨s11, cs, hc, pp⟩
    rw [List.length_map, hbl, show ((((wd.length : Nat) : Int)) + 1).toNat = (List.range (wd.length + 1)).length by rw [List.length_range]; omega, List.take_length] at pp
    have hdue : CutsAt H11 D wd := ⟨cs, hc, Paired.imp (fun _ _ => CutAt.keep (Same.keep off_same)) pp⟩
    have s1011 := s11.trans off_same
    have f11 := f10.same s1011
    have k11 : Kp p H H11 := k10.trans (Same.kp s1011)
    clear s1011 pp hc cs s11 hD hbl hbp hb bs f10 k10 H10
    -- told
    refine ⟨_, rfl, _, rfl, c, b, wd, rfl, f11.word, hWOK, fun D4 H12 s12 n12 hD4 => ?_⟩
    have f12 := f11.same s12
    refine ⟨_, rfl, _, rfl, cutsD wd, cutsD wd, dp_cuts hD4, dp_cuts (CutsAt.keep (Same.keep s12) hdue), (shp_cuts wd).shaped, (shp_cuts wd).shaped, false, same_data (shp_cuts wd), iteF ?_⟩
    refine ⟨_, rfl, _, rfl, c, b, wd, rfl, f12.word, hWOK, fun q1 H13 s13 hq1 => ?_⟩
    have f13 := f12.same s13
    obtain ⟨bs, hb, hbp⟩ := id f13.word
    refine ⟨_, rfl, b, _, rfl, SqT.of hb, fun q2 hq2 => ?_⟩
    have s14 : Same H13 (L2.upd H13 q2 (.tup (bs.map V.ref).reverse)) := Same.new hq2
    have hw14 : WordAt (L2.upd H13 q2 (.tup (bs.map V.ref).reverse)) q2 wd.reverse := ⟨bs.reverse, by rw [upd_same, List.map_reverse], Paired.imp (fun _ _ => LetAt.keep (Same.keep s14)) (Paired.rev hbp)⟩
    refine ⟨wordD wd.reverse, wordD wd.reverse, dp_word (WordAt.keep (Same.keep s14) hq1), dp_word hw14, (shp_word _).shaped, (shp_word _).shaped, false, same_data (shp_word _), iteF ?_⟩
    have f14 := f13.same s14
    have s1214 := s13.trans s14
    revert f14 s1214
    clear hw14 s14
    generalize L2.upd H13 q2 (.tup (bs.map V.ref).reverse) = H14
    intro f14 s1214
    clear hbp hb bs
    refine ⟨_, rfl, t, c, rs, rfl, by omega, f14.tab, by omega, fun r hr => (hrok r hr).1, fun t2 H15 s15 ht2 => ?_⟩
    have f15 := f14.same s15
    obtain ⟨bs, hb, hbp⟩ := id f15.word
    refine ⟨_, rfl, b, _, rfl, SqT.of hb, fun q3 hq3 => ?_⟩
    have s16 : Same H15 (L2.upd H15 q3 (.tup (bs.map V.ref).reverse)) := Same.new hq3
    have hw16 : WordAt (L2.upd H15 q3 (.tup (bs.map V.ref).reverse)) q3 wd.reverse := ⟨bs.reverse, by rw [upd_same, List.map_reverse], Paired.imp (fun _ _ => LetAt.keep (Same.keep s16)) (Paired.rev hbp)⟩
    refine ⟨t2, q3, c, rs.reverse, wd.reverse, rfl, TabAt.keep (Same.keep s16) ht2, hw16, hRW.rev, fun y2 H17 s17 hy2 => ?_⟩
    rw [S_rev] at hy2
    have f17 := f15.same (s16.trans s17)
    refine ⟨_, rfl, dins hy2 f17.whole, fun H18 e18 => ⟨_, rfl, iteF ?_⟩⟩
    have s1218 : Same H12 H18 := s1214.trans (s15.trans ((s16.trans s17).trans e18))
    have hD4' := CutsAt.keep (Same.keep s1218) hD4
    have s1118 := s12.trans s1218
    clear s1218 e18 f17 hy2 hw16 hbp f15 f14 s1214 f13 f12 hD4
    -- told.append(None)
    obtain ⟨cs1, hD5, hD5p⟩ := hD4'
    refine ⟨_, rfl, .inl ⟨rfl, _, SqL.of hD5⟩, D4, _, _, rfl, rfl, hD5, ?_, ?_⟩
    · rw [List.length_map, Paired.len hD5p, List.length_range]
      exact small1000 (by omega)
    have s19 : Same H11 (L2.upd H18 D4 (.lst (cs1.map V.ref ++ [V.non]))) := same_over s1118 n12
    revert s19
    generalize L2.upd H18 D4 (.lst (cs1.map V.ref ++ [V.non])) = H19
    intro s19
    have f19 := f11.same s19
    have k19 : Kp p H H19 := k11.trans (Same.kp s19)
    have hdue19 := CutsAt.keep (Same.keep s19) hdue
    clear s19 hD5p hD5 cs1 s1118 n12 hdue f11 k11
    -- other rows
    refine ⟨_, rfl, _, rfl, _, rfl, p, 3, rfl, f19.pot, by decide, by decide, fun d H20 hd p20 k20 => ⟨p, c, d, rfl, p20, by omega, by omega, fun o rs2 H21 ho hol hook p21 k21 => ?_⟩⟩
    have f21 := f19.kp (k20.trans k21) p21
    refine ⟨_, rfl, _, rfl, _, rfl, p, c, o, rs2, rfl, p21, by omega, ho, by omega, hook, fun t3 H22 ht3 p22 k22 => ⟨(by show 2 ≤ sizeLine; decide), fun z hz => ⟨_, _, rfl, ?_⟩⟩⟩
    have k1922 : Kp p H19 H22 := (k20.trans k21).trans k22
    have s23 : Same H22 (L2.upd H22 z (.tup [.int 0, .int 1])) := Same.new hz
    have n23 : NumAt (L2.upd H22 z (.tup [.int 0, .int 1])) z 0 := upd_same
    revert s23 n23
    generalize L2.upd H22 z (.tup [.int 0, .int 1]) = H23
    intro s23 n23
    have f23 := (f19.kp k1922 p22).same s23
    have k23 : Kp p H H23 := k19.trans (k1922.trans (Same.kp s23))
    have hdue23 := CutsAt.keep (Same.keep s23) (CutsAt.keep (Kp.keep k1922 f19.pot) hdue19)
    have ho23 := RowsAt.keep (Same.keep s23) (RowsAt.keep (Kp.keep k22 p21) ho)
    have ht23 := TabAt.keep (Same.keep s23) ht3
    clear s23 k1922 ht3 p22 k22 f21 ho p21 k21 p20 k20 hdue19 k19 f19
    have hol5 : rs2.length ≤ 5 := by omega
    have hlw2 : LW c rs2 wd := hlw.rows hol5 hook
    -- the sum over the cuts
    obtain ⟨cs, hc, hcp⟩ := id hdue23
    have hcl : cs.length = wd.length + 1 := by rw [Paired.len hcp, List.length_range]
    refine ⟨_, rfl, D, rfl, ⟨_, SqL.of hc⟩, ?_⟩
    refine for_it (walk_list (K := K) (a := D) (xs := cs.map V.ref))
      (fun i σ H' => Same H23 H' ∧ ∃ (g : Addr) (x : Rat) (v14 v15 v16 : Option V), σ = [some (.ref p), some (.int ((c : Nat) : Int)), some (.ref a), some (.ref b), some (.ref t), some (.int ((rs.length : Nat) : Int)), some (.ref wh), some (.ref D1), some (.ref D2), some (.ref D), some (.ref D4), some (.ref o), some (.ref t3), some (.ref g), v14, v15, v16] ∧ NumAt H' g x ∧ Bd (1 + 603 * i) x ∧ x = sm (((List.range (wd.length + 1)).map (cutOf rs rs2 wd)).take i))
      ⟨Same.refl H23, z, 0, none, none, none, rfl, n23, bd_zero, rfl⟩ (fun i σ H' _ h => SqL.of (h.1 _ _ hc)) ?_ ?_
    · rintro i y σ H24 H25 hi ⟨s25, g, x, v14, v15, v16, rfl, hg, hbd, hx⟩ ⟨rfl, hy⟩
      obtain ⟨e, he, rfl⟩ := atRef hy
      obtain ⟨j, hj1, u1, u2, hu, hu1, hu2⟩ := Paired.get hcp he
      have hic : i < wd.length + 1 := by
        have := (List.getElem?_eq_some_iff.mp he).1
        omega
      have ej : j = i := by
        rw [List.getElem?_range hic] at hj1
        exact (Option.some.inj hj1).symm
      rw [ej] at hu1 hu2
      have f25 := f23.same s25
      refine ⟨e, _, rfl, SqT.of (s25 _ _ hu), rfl, _, _, rfl, _, _, rfl, rfl, ?_⟩
      refine ⟨_, rfl, _, rfl, _, rfl, a, u1, c, rs, wd.take i, rfl, f25.rows, WordAt.keep (Same.keep s25) hu1, hlw.wtake i, fun m1 Ha sa hm1 hb1 => ?_⟩
      have s2a := s25.trans sa
      refine ⟨_, rfl, _, rfl, o, u2, c, rs2, wd.drop i, rfl, RowsAt.keep (Same.keep s2a) ho23, WordAt.keep (Same.keep s2a) hu2, hlw2.wdrop i, fun m2 Hb sb hm2 hb2 => ?_⟩
      refine ⟨m1, m2, _, _, 301, 301, rfl, NumAt.keep (Same.keep sb) hm1, hm2, hb1, hb2, by decide, by decide, by decide, fun m3 Hc sc hm3 => ?_⟩
      refine ⟨g, m3, x, _, _, 602, rfl, NumAt.keep (Same.keep (sa.trans (sb.trans sc))) hg, hm3, hbd, Bd.mul hb1 hb2, by omega, by decide, by omega, fun m4 Hd sd hm4 => ?_⟩
      refine ⟨s2a.trans (sb.trans (sc.trans sd)), m4, _, _, _, _, rfl, hm4, Bd.mono (Bd.add hbd (Bd.mul hb1 hb2)) (by omega), ?_⟩
      have hm : ((List.range (wd.length + 1)).map (cutOf rs rs2 wd))[i]? = some (S rs (wd.take i) * S rs2 (wd.drop i)) := by
        rw [List.getElem?_map, List.getElem?_range hic]
        rfl
      rw [sm_take hm, hx]
    rintro σ H24 ⟨s24, g, x, v14, v15, v16, rfl, hg, hbd, hx⟩
    rw [List.length_map, hcl] at hbd hx
    rw [show ((List.range (wd.length + 1)).map (cutOf rs rs2 wd)).take (wd.length + 1) = (List.range (wd.length + 1)).map (cutOf rs rs2 wd) from List.take_of_length_le (by rw [List.length_map, List.length_range]; exact Nat.le_refl _), S_cut] at hx
    subst hx
    have f24 := f23.same s24
    have hdue24 := CutsAt.keep (Same.keep s24) hdue23
    have hj8 : ∀ r ∈ rs ++ rs2, RowLaw c r := fun r hr => by
      rcases List.mem_append.mp hr with h | h
      · exact hrok r h
      · exact hook r h
    refine ⟨_, rfl, _, rfl, t, t3, c, rs, rs2, rfl, by omega, f24.tab, TabAt.keep (Same.keep s24) ht23, by omega, fun r hr => (hrok r hr).1, fun r hr => (hook r hr).1, fun j H25 s25 hj => ?_⟩
    refine ⟨_, rfl, j, b, c, rs ++ rs2, wd, rfl, hj, (f24.same s25).word, rw_of hc2 (by rw [List.length_append]; omega) (by omega) hj8 hwok, fun y3 H26 s26 hy3 => ?_⟩
    have s2426 := s25.trans s26
    refine ⟨_, rfl, g, _, rfl, NumAt.keep (Same.keep s2426) hg, lt9000 hbd.2 (by omega), fun y4 H27 s27 hy4 => ?_⟩
    refine ⟨dins (RatAt.keep (Same.keep s27) hy3) hy4, fun H28 e28 => ⟨_, rfl, iteF ?_⟩⟩
    have s2428 : Same H24 H28 := s2426.trans (s27.trans e28)
    have f28 := f24.same s2428
    have hdue28 := CutsAt.keep (Same.keep s2428) hdue24
    have k28 : Kp p H H28 := k23.trans (Same.kp (s24.trans s2428))
    clear s2428 e28 hy4 s27 s2426 hy3 s26 hj s25 hdue24 f24 hbd hg s24
    -- cuts by names, the sums' number
    refine ⟨_, rfl, _, rfl, rfl, rfl, c, b, wd, rfl, f28.word, hWOK, fun D5 H29 s29 _ hD5 => ?_⟩
    refine ⟨_, rfl, cutsD wd, cutsD wd, dp_cuts hD5, dp_cuts (CutsAt.keep (Same.keep s29) hdue28), (shp_cuts wd).shaped, (shp_cuts wd).shaped, true, same_data' (shp_cuts wd), iteT ?_⟩
    have f29 := f28.same s29
    refine ⟨_, rfl, _, rfl, t, b, c, rs, wd, rfl, f29.tab, f29.word, hRW, fun D6 H30 s30 _ hD6 => ?_⟩
    obtain ⟨cs6, hc6, hp6⟩ := hD6
    refine ⟨D6, _, rfl, .inl (SqL.of hc6), _, rfl, _, _, rfl, rfl, rfl, ?_⟩
    have e6 : decide (V.int (((cs6.map V.ref).length : Nat) : Int) = V.int (((rs.length : Nat) : Int) + 1)) = true := by
      refine decide_eq_true ?_
      rw [List.length_map, Paired.len hp6]
      unfold aheadL
      rw [List.length_map, List.length_range]
      rfl
    show Q (.bl (decide (V.int (((cs6.map V.ref).length : Nat) : Int) = V.int (((rs.length : Nat) : Int) + 1)))) H30
    rw [e6]
    exact q H30 (f29.same s30).pot (k28.trans (Same.kp (s29.trans s30)))
end
end K22
set_option Elab.async false
set_option linter.all false
set_option maxRecDepth 100000
set_option maxHeartbeats 4000000
/-! Walks: the law. -/
namespace K22
open PySem PySem.Spec PyProof.Rows L2
theorem S_short : ∀ (rs : List (List Rat)) (w : List (List Nat)), rs.length < w.length → S rs w = 0
  | [], [], h => absurd h (Nat.lt_irrefl _)
  | [], _ :: _, _ => rfl
  | _ :: _, [], h => absurd h (Nat.not_lt_zero _)
  | r :: rs, l :: w, h => by
    have h' : rs.length < w.length := by simpa using h
    rw [S_cons, S_short rs w h', S_short rs (l :: w) (by rw [List.length_cons]; omega), Rat.mul_zero, Rat.zero_add]
theorem S_ones {l : List Nat} {r : List Rat} (h : worth l r = 1) : ∀ n : Nat, S (List.replicate n r) (List.replicate n l) = 1
  | 0 => rfl
  | n + 1 => by
    rw [List.replicate_succ, List.replicate_succ, S_cons, h, S_ones h n, S_short _ _ (by rw [List.length_cons, List.length_replicate, List.length_replicate]; omega), Rat.mul_one, Rat.add_zero]
theorem worth_zero : ∀ (c : Nat) (r : List Rat), worth (List.replicate c 0) r = 1
  | 0, _ => rfl
  | _ + 1, [] => rfl
  | c + 1, q :: r => by
    rw [List.replicate_succ]
    show q ^ 0 * worth (List.replicate c 0) r = 1
    rw [Rat.pow_zero, Rat.one_mul, worth_zero c r]
theorem letZ {H : Hp} {z : Addr} {c : Nat} (h : H z = some (.tup (List.replicate (((c : Nat) : Int)).toNat [V.int 0]).flatten)) : LetAt H z (List.replicate c 0) := by
  unfold LetAt
  rw [h, flat_one, List.map_replicate, Int.toNat_natCast]
  rfl
theorem wordZ {H : Hp} {z e : Addr} {n : Nat} {l : List Nat} (he : LetAt H e l) (h : H z = some (.tup (List.replicate (((n : Nat) : Int)).toNat [V.ref e]).flatten)) : WordAt H z (List.replicate n l) :=
  ⟨List.replicate n e, by rw [h, flat_one, List.map_replicate, Int.toNat_natCast], Paired.rep he n⟩
theorem rowsZ {H : Hp} {z e : Addr} {n : Nat} {r : List Rat} (he : RowAt H e r) (h : H z = some (.lst (List.replicate (((n : Nat) : Int)).toNat [V.ref e]).flatten)) : RowsAt H z (List.replicate n r) :=
  ⟨List.replicate n e, by rw [h, flat_one, List.map_replicate, Int.toNat_natCast], Paired.rep he n⟩
theorem rowZ {H : Hp} {z e : Addr} {n : Nat} {q : Rat} (he : NumAt H e q) (h : H z = some (.lst (List.replicate (((n : Nat) : Int)).toNat [V.ref e]).flatten)) : RowAt H z (List.replicate n q) :=
  ⟨List.replicate n e, by rw [h, flat_one, List.map_replicate, Int.toNat_natCast], Paired.rep he n⟩
theorem lw_alike {c m : Nat} {r : List Rat} (hc : c ≤ 2) (hm : m ≤ 4) (hr : RowLaw c r) : LW c (List.replicate 4 r) (List.replicate m (List.replicate c 0)) := by
  refine ⟨hc, by rw [List.length_replicate]; decide, by rw [List.length_replicate]; exact hm, fun x hx => ?_, fun l hl => ?_⟩
  · rw [(List.mem_replicate.mp hx).2]
    exact hr
  · rw [(List.mem_replicate.mp hl).2]
    refine ⟨List.length_replicate, fun p hp => ?_⟩
    rw [(List.mem_replicate.mp hp).2]
    decide
def spRight : Sp := fun vs H Q _ => ∃ p : Addr, vs = [.ref p] ∧ PotAt H p ∧ ∀ H', Q (.bl true) H'
def spLaw (K : PySem.W.Frag) : Sp := fun vs H Q _ => ∃ (a : Addr) (ns : List Int), vs = [.ref a] ∧ SqL K H a (ns.map V.int) ∧ ∀ H', Q (.bl true) H'
section
variable {P : Program} {w : World} {K : PySem.W.Frag} {mg : Str → Option Value} {base : Heap} {CR CT fR fE fT : Addr} (T : Txt K mg CR CT fR fE fT)
include T
theorem v_right : Cal P w K mg base 11 "_law_right" ["_law_pot_here"] spRight := by
  refine mkCal T.a_L_right sc_L_right (fun _ _ _ _ _ _ us hl => match us, hl with | [_], _ => rfl) (by rintro vs H Q E ⟨_, rfl, _⟩; rfl) fun f cdv A outer s H vs Q E hr h => ?_
  obtain ⟨p, rfl, hp, q⟩ := h
  refine' ⟨_, ?pf, ?rd⟩
  case pf =>
    refine' pss_cons ?s1 (pss_cons ?s2 (pss_cons ?s3 (pss_cons ?s4 (pss_cons ?s5 (pss_one ?s6)))))
    case s1 => exact ps_set (i := 1) sc_L_right.nd rfl (.inl rfl) (pe_f (v_draw T) hr (pa_cons (pv 0) (pa_cons pe_int pa_nil)))
    case s2 => exact ps_par (i := 2) (j := 3) rfl sc_L_right.nd rfl rfl (by decide) rfl rfl (pa_cons (pe_f (v_rows T) hr (pa_cons (pv 0) (pa_cons (pv 1) (pa_cons (pe_f (v_draw T) hr (pa_cons (pv 0) (pa_cons pe_int pa_nil))) pa_nil)))) (pa_cons (pe_f (v_word T) hr (pa_cons (pv 0) (pa_cons (pv 1) (pa_cons (pe_f (v_draw T) hr (pa_cons (pv 0) (pa_cons pe_int pa_nil))) pa_nil)))) pa_nil)) (by rfl)
    case s3 => exact ps_if (pt_not (pt_val (pe_f (v_one_right T) hr (pa_cons (pv 0) (pa_cons (pv 1) (pa_cons (pv 2) (pa_cons (pv 3) pa_nil))))))) (pss_one ps_never) pss_nil
    case s4 =>
      exact ps_par (i := 4) (j := 5) rfl sc_L_right.nd rfl rfl (by decide) rfl rfl (pa_cons (pe_op op_rep (pe_lst (pa_cons (pe_ifExp (pt_cmpR (op_neD hr.units) (pv 2) (pe_lst pa_nil) (nomark _)) (pe_ix ix_list (pv 2) pe_int (fun _ _ => rfl)) (pe_op op_rep (pe_lst (pa_cons (pe_tup (pa_cons pe_int (pa_cons pe_int pa_nil))) pa_nil)) (pv 1))) pa_nil)) pe_int)
        (pa_cons (pe_f (v_draw T) hr (pa_cons (pv 0) (pa_cons pe_int pa_nil))) pa_nil)) (by rfl)
    case s5 =>
      exact ps_if (pt_not (pt_val (pe_f (v_one_right T) hr (pa_cons (pv 0) (pa_cons (pv 1) (pa_cons (pv 4) (pa_cons (pe_op op_repU (pe_tup (pa_cons (pe_op op_repU (pe_tup (pa_cons pe_int pa_nil)) (pv 1)) pa_nil)) (pv 5)) pa_nil))))))) (pss_one ps_never) pss_nil
    case s6 =>
      refine' ps_ret (pe_cmpR (op_eqR ?t hr) (pe_f (k_word_sum T).1 hr (pa_cons (pe_f (v_table T) hr (pa_cons (pv 0) (pa_cons (pv 1) (pa_cons (pv 4) pa_nil)))) (pa_cons (pe_op op_repU (pe_tup (pa_cons (pe_op op_repU (pe_tup (pa_cons pe_int pa_nil)) (pv 1)) pa_nil)) pe_int) pa_nil))) (pe_rat1 ?t hr (pa_cons pe_int pa_nil)) (nomark _))
      case t => exact T
  case rd =>
    refine ⟨_, rfl, p, 3, rfl, hp, by decide, by decide, fun c H1 hc3 p1 _ => ?_⟩
    have hc : c ≤ 2 := by omega
    refine ⟨_, rfl, _, rfl, _, rfl, p, 6, rfl, p1, by decide, by decide, fun n H2 hn p2 _ => ⟨p, c, n, rfl, p2, by omega, by omega, fun a rs H3 ha hrl hrok p3 _ => ?_⟩⟩
    refine ⟨_, rfl, _, rfl, _, rfl, p, 5, rfl, p3, by decide, by decide, fun m H4 hm p4 k4 => ⟨p, c, m, rfl, p4, by omega, by omega, fun b wd H5 hb hwl hwok p5 k5 => ⟨_, _, rfl, ?_⟩⟩⟩
    have ha5 := RowsAt.keep (Kp.keep (k4.trans k5) p3) ha
    refine ⟨_, rfl, _, rfl, _, rfl, _, rfl, p, c, a, b, rs, wd, rfl, p5, ha5, hb, ⟨hc, by omega, by omega, hrok, hwok⟩, fun H6 p6 k6 => ⟨true, rfl, iteF ?_⟩⟩
    have ha6 := RowsAt.keep (Kp.keep k6 p5) ha5
    clear ha5 k6 p5 k5 hb p4 k4 ha hwok hwl wd H5 H4
    obtain ⟨as, hA, hpp⟩ := id ha6
    -- the row to be taken four times
    refine ⟨_, rfl, (by show 0 ≤ sizeLine; decide), fun z0 hz0 => ?_⟩
    have s7 : Same H6 (L2.upd H6 z0 (.lst [])) := Same.new hz0
    have hz1 : L2.upd H6 z0 (.lst []) z0 = some (.lst []) := upd_same
    revert s7 hz1
    generalize L2.upd H6 z0 (.lst []) = H7
    intro s7 hz1
    have ha7 := RowsAt.keep (Same.keep s7) ha6
    refine ⟨rowsD rs, .list [], dp_rows ha7, .lst (SqL.of hz1) .nil, (shp_rows rs).shaped, Shp.shaped shp_nil, _, rfl, ?_⟩
    have comb : ∀ K0 : V → Hp → Prop, (∀ e r H', Same H7 H' → RowAt H' e r → RowLaw c r → K0 (.ref e) H') → (if (!PyData.eqv (rowsD rs) (.list [])) = true then
        tOp (rIxL K) (tVar 2) (tC (.int 0)) [some (.ref p), some (.int ((c : Nat) : Int)), some (.ref a), some (.ref b), none, none] H7 K0
        else tOp rRep (tLst (tCons (tTup (tCons (tC (.int 2)) (tCons (tC (.int 1)) tNil))) tNil)) (tVar 1) [some (.ref p), some (.int ((c : Nat) : Int)), some (.ref a), some (.ref b), none, none] H7 K0) := by
      intro K0 h0
      cases rs with
      | nil =>
        rw [show rowsD [] = .list [] from rfl, nil_eqv]
        refine iteF ⟨(by show 2 ≤ sizeLine; decide), fun y0 hy0 => ⟨(by show 1 ≤ sizeLine; decide), fun y1 hy1 => ⟨_, rfl, y1, _, [.ref y0], rfl, rfl, upd_same, by omega, by omega, ?_, fun y2 hy2 => ?_⟩⟩⟩
        · rw [List.length_singleton, Nat.one_mul, Int.toNat_natCast]
          exact Nat.le_of_lt (small1000 (by omega))
        have t1 := Same.new (o := .lst [.ref y0]) hy1
        have t2 := Same.new (o := .lst (List.replicate (((c : Nat) : Int)).toNat [V.ref y0]).flatten) hy2
        have n0 : NumAt (L2.upd H7 y0 (.tup [.int 2, .int 1])) y0 2 := upd_same
        refine h0 y2 (List.replicate c 2) _ ((Same.new hy0).trans (t1.trans t2)) (rowZ (NumAt.keep (Same.keep (t1.trans t2)) n0) upd_same) ⟨List.length_replicate, fun x hx => ?_⟩
        rw [(List.mem_replicate.mp hx).2]
        exact ⟨by decide, by decide⟩
      | cons r0 rs =>
        cases as with
        | nil => cases hpp
        | cons e0 as =>
          cases hpp with
          | cons h1 h2 =>
            rw [show rowsD (r0 :: rs) = .list (rowD r0 :: rs.map rowD) from rfl, ne_nil_eqv]
            exact iteT ⟨_, rfl, a, _, 0, .ref e0, rfl, rfl, SqL.of (s7 _ _ hA), atI_nat (as := e0 :: as) (i := 0) rfl, h0 e0 r0 H7 (Same.refl H7) (RowAt.keep (Same.keep s7) h1) (hrok r0 List.mem_cons_self)⟩
    refine comb _ fun e r H8 s8 he hr0 => ?_
    clear comb
    refine ⟨(by show 1 ≤ sizeLine; decide), fun y1 hy1 => ⟨y1, _, [.ref e], rfl, rfl, upd_same, by decide, by decide, (by show 1 * 4 ≤ sizeLine; decide), fun A4 hA4 => ?_⟩⟩
    have t1 := Same.new (o := .lst [.ref e]) hy1
    have t2 := Same.new (o := .lst (List.replicate ((((4 : Nat) : Nat) : Int)).toNat [V.ref e]).flatten) hA4
    have p8 := pot_same (s7.trans (s8.trans (t1.trans t2))) p6
    have r8 := rowsZ (n := 4) (RowAt.keep (Same.keep (t1.trans t2)) he) upd_same
    refine ⟨_, rfl, p, 4, rfl, p8, by decide, by decide, fun m2 H10 hm2 p10 k10 => ⟨_, _, rfl, ?_⟩⟩
    have r10 := RowsAt.keep (Kp.keep k10 p8) r8
    clear r8 p8 t2 t1 he s8 hz1 s7 ha7 hpp hA ha6
    -- the trial of rows alike
    refine ⟨_, rfl, _, rfl, _, rfl, (by show 1 ≤ sizeLine; decide), fun z2 hz2 => ⟨_, rfl, z2, _, [.int 0], rfl, rfl, upd_same, by omega, by omega, by decide, fun z3 H11 s11 hz3 => ⟨(by show 1 ≤ sizeLine; decide), fun z4 hz4 => ⟨_, rfl, z4, _, [.ref z3], rfl, rfl, upd_same, by omega, by omega, (by show 1 ≤ 1000; decide), fun z5 H12 s12 hz5 => ?_⟩⟩⟩⟩
    have s1012 := (Same.new (o := .tup [.int 0]) hz2).trans (s11.trans ((Same.new (o := .tup [.ref z3]) hz4).trans s12))
    have w12 : WordAt H12 z5 (List.replicate m2 (List.replicate c 0)) := wordZ (LetAt.keep (Same.keep ((Same.new (o := .tup [.ref z3]) hz4).trans s12)) (letZ hz3)) hz5
    have r12 := RowsAt.keep (Same.keep s1012) r10
    refine ⟨p, c, A4, z5, List.replicate 4 r, List.replicate m2 (List.replicate c 0), rfl, pot_same s1012 p10, r12, w12, lw_alike hc (by omega) hr0, fun H13 p13 k13 => ⟨true, rfl, iteF ?_⟩⟩
    have r13 := RowsAt.keep (Kp.keep k13 (pot_same s1012 p10)) r12
    -- four rows alike, four letters of nothing
    have hl := lw_alike (m := 4) hc (by decide) hr0
    refine ⟨_, rfl, _, rfl, _, rfl, p, c, A4, List.replicate 4 r, rfl, p13, by omega, r13, by rw [List.length_replicate]; decide, hl.2.2.2.1, fun t H14 ht p14 _ => ?_⟩
    refine ⟨(by show 1 ≤ sizeLine; decide), fun v2 hv2 => ⟨_, rfl, v2, _, [.int 0], rfl, rfl, upd_same, by omega, by omega, by decide, fun v3 H15 s15 hv3 => ⟨(by show 1 ≤ sizeLine; decide), fun v4 hv4 => ⟨v4, _, [.ref v3], rfl, rfl, upd_same, by decide, by decide, (by show 1 ≤ 1000; decide), fun v5 H16 s16 hv5 => ?_⟩⟩⟩⟩
    have s1416 := (Same.new (o := .tup [.int 0]) hv2).trans (s15.trans ((Same.new (o := .tup [.ref v3]) hv4).trans s16))
    have w16 : WordAt H16 v5 (List.replicate 4 (List.replicate c 0)) := wordZ (n := 4) (LetAt.keep (Same.keep ((Same.new (o := .tup [.ref v3]) hv4).trans s16)) (letZ hv3)) hv5
    refine ⟨t, v5, c, List.replicate 4 r, List.replicate 4 (List.replicate c 0), rfl, TabAt.keep (Same.keep s1416) ht, w16, hl.rw, fun y H17 s17 hy => ?_⟩
    refine ⟨1, rfl, fun u H18 s18 _ hu => ⟨dins (q := 1) ?_ ?_, fun H19 _ => q H19⟩⟩
    · rw [S_ones (worth_zero c r)] at hy
      exact RatAt.keep (Same.keep s18) hy
    · rw [show Rat.divInt 1 1 = 1 from by decide] at hu
      exact hu
theorem k_law : ∀ {f : Addr} {fd : FuncData}, FunD K "law" "law" (defArgs s_law) (defBody s_law) (defScope s_law) [] [] f fd → FnOk P w K mg base CX0 12 f fd ["_law_script"] (spLaw K) := fun {f fd} F =>
  okN F sc_law (by rintro vs H Q E ⟨_, _, rfl, _⟩; rfl) fun cdv A outer s H vs Q E hr h => by
    obtain ⟨a, ns, rfl, ha, q⟩ := h
    refine' ⟨_, ?pf, ?rd⟩
    case pf =>
      refine' pss_one ?s1
      case s1 => exact ps_ret (pe_f (v_right T) hr (pa_cons (pe_f (v_pot T) hr (pa_cons (pv 0) (pa_cons pe_int pa_nil))) pa_nil))
    case rd => exact ⟨_, rfl, a, ns, rfl, ha, fun p H1 s1 p1 => ⟨p, rfl, p1, q⟩⟩
end
end K22
set_option Elab.async false
set_option linter.all false
set_option maxRecDepth 100000
set_option maxHeartbeats 0
/-! The end: the law's def over the head. -/
namespace K22
open PySem PySem.Spec PyProof.Rows L2
theorem facts {P : Program} {w : World} {K : PySem.W.Frag} {h : Heap} {mg : Str → Option Value} {f : Addr} (X : K.In h) (G : h.Ns mainGlobals mg) (hfa : mg ("law" : Str) = some (.ref f)) (s : He.SaysX fa fn [] [] ex w h K) :
    ∃ fd : FuncData, (∀ (s : Shared) (v : Value), BindsTo s fd ⟨[v], []⟩ [("_law_script", v)]) ∧ ∀ base : Heap, K.In base → base.Ns mainGlobals mg → FnOk P w K mg base CX0 12 f fd ["_law_script"] (spLaw K) := by
  have T := txt_of X G s
  obtain ⟨f2, fd, F, g⟩ := T.a_law.fn
  have e := hfa.symm.trans g
  cases e
  have b := FunD.bindsA (ps := ["_law_script"]) F fun _ _ _ _ _ _ us hl => match us, hl with | [_], _ => rfl
  exact ⟨fd, fun s v => b s [v] rfl, fun base _ _ => k_law T F⟩
end K22
open PySem PySem.W PySem.Calls PyProof.Rows
theorem PySem.Challenge.cw_aheadsums_k22_whole_words_over_rows_holds : PySem.Challenge.rw_aheadsums_k22_whole_words_over_rows.Holds := by
  w_on; o_law
  refine HeadRun.head_imp (r := K22.R) (q := K22.qv) (H := K22.hk) (ob := K22.ob) (M := 6000) (loose := K22.loose) (d := HandSHeadRun.topDef K22.R.prog 77) (kwd := []) K22.ob_eq
    K22.run (by kernel_rfl) (by kernel_rfl) (by kernel_rfl) (by rfl) (by first | assumption | decide +kernel) (by decide +kernel) ⟨rfl, rfl, rfl, rfl, rfl, by decide +kernel⟩ ?hw ?hc
  case hw => w_witness2
  case hc =>
    refine L2.walk_ofE (l := PySem.Challenge.rw_aheadsums_k22_whole_words_over_rows) (n := 63) (k := 12) (x := "_law_script") (CX := L2.CX0) rfl (by decide) (by kernel_rfl) ⟨rfl, by decide, by decide⟩ ?F (fun _ _ _ _ z => z)
    intro w mg fa h Y G hmg0
    obtain ⟨K, KX, c⟩ := Y
    have hmg : mg ("law" : PySem.Str) = some (.ref fa) := by
      have e : (HandSHeadRun.topDef K22.R.prog 77).name = ("law" : PySem.Str) := by kernel_rfl
      rw [← e]
      exact hmg0
    obtain ⟨fd, hb, hF⟩ := K22.facts (P := (PySem.Challenge.rw_aheadsums_k22_whole_words_over_rows).prog) (w := w) KX G hmg c
    exact ⟨K, fd, K22.spLaw K, KX, hb, fun H a ns hl _ hS => ⟨a, ns, rfl, hS, fun _ => rfl⟩, hF⟩
