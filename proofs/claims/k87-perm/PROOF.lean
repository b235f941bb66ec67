import PyProof.Rows.All
import Wide.All
import OpenK.AllK
import Wide.FinOn
import KE.KStateDown
import HandS.ForMost
import HandS.HeadHook4
import HandS.HeadWalk
import HandS.Head0
import HandS.Head1
import HandS.Head2
import PySem.Challenge.RW_thirtybits_k87_whole_rows_of_things
import HandS.Style
import HandS.TupAny
import HandS.Walk
import KE.GoesMore
import HandS.OwnEq
import PyProof.InstEq
import HandS.Nested
import HandS.IsInst
import HandS.Wide
import HandS.WideBits
import HandS.NoneIn
import PyProof.Rows.ChunkEnd
set_option Elab.async false
set_option linter.all false
set_option maxRecDepth 100000
set_option maxHeartbeats 4000000
namespace T87
open PySem L2
def top (i : Nat) : Stmt := PySem.Challenge.pw_thirtybits_k87_whole_rows_of_things.main.body.getD i (.Pass ⟨0, 0, 0, 0⟩)
abbrev s_is_integer : Stmt := top 6
abbrev s_is_between : Stmt := top 7
abbrev s_check_integer : Stmt := top 8
abbrev s_check_between : Stmt := top 9
abbrev s_Machine_init : Stmt := inClass (top 17) 0
abbrev s_Machine_eq : Stmt := inClass (top 17) 1
abbrev s_Machine_parts : Stmt := inClass (top 17) 2
abbrev s_Machine_tally : Stmt := inClass (top 17) 3
abbrev s_Machine_walk : Stmt := inClass (top 17) 4
abbrev s_Machine_reset : Stmt := inClass (top 17) 5
abbrev s_Machine_count : Stmt := inClass (top 17) 6
abbrev s_Machine_enter : Stmt := inClass (top 17) 7
abbrev s_check_machine : Stmt := top 18
abbrev s_Big_init : Stmt := inClass (top 20) 0
abbrev s_Big_eq : Stmt := inClass (top 20) 1
abbrev s_Big_sign : Stmt := inClass (top 20) 2
abbrev s_Big_digits : Stmt := inClass (top 20) 3
abbrev s_Big_bits : Stmt := inClass (top 20) 4
abbrev s_made : Stmt := top 21
abbrev s_digits_of : Stmt := top 22
abbrev s_big_of : Stmt := top 23
abbrev s_value_of : Stmt := top 24
abbrev s_check_big : Stmt := top 25
abbrev s_check_bigs : Stmt := top 26
abbrev s_check_any : Stmt := top 27
abbrev s_is_compact : Stmt := top 28
abbrev s_big : Stmt := top 29
abbrev s_plain : Stmt := top 30
abbrev s_shifted_left : Stmt := top 32
abbrev s_adding : Stmt := top 34
abbrev s_put_into : Stmt := top 35
abbrev s_into : Stmt := top 36
abbrev s_out_of : Stmt := top 37
abbrev s_trimmed : Stmt := top 39
abbrev s_rows_of : Stmt := top 40
abbrev s_square_rows_of : Stmt := top 41
abbrev s_row_product : Stmt := top 43
abbrev s_row_square : Stmt := top 44
abbrev s_by_slices : Stmt := top 45
abbrev s_parts_of : Stmt := top 46
abbrev s_by_parts : Stmt := top 47
abbrev s_multiplied : Stmt := top 48
abbrev s_multiply : Stmt := top 49
abbrev s_odd_product : Stmt := top 56
abbrev s_ones_in : Stmt := top 57
abbrev s_factorial : Stmt := top 58
abbrev s_small_row : Stmt := top 59
abbrev s_rows_made : Stmt := top 60
abbrev s_check_things : Stmt := top 61
abbrev s_perm : Stmt := top 62
abbrev s_law_mixed : Stmt := top 64
abbrev s_law_source : Stmt := top 65
abbrev s_law_draw : Stmt := top 66
abbrev s_law_one : Stmt := top 67
abbrev s_law_engines : Stmt := top 68
abbrev s_law_digits : Stmt := top 69
abbrev s_law_is : Stmt := top 70
abbrev s_law_ran : Stmt := top 71
abbrev s_law_world : Stmt := top 72
abbrev s_law_as_world : Stmt := top 73
abbrev s_law_worth : Stmt := top 74
abbrev s_law_due : Stmt := top 75
abbrev s_law_right : Stmt := top 76
abbrev s_law : Stmt := top 77
def d_is_integer : He.DefD := ⟨("is_integer", none), "is_integer", "is_integer", defArgs s_is_integer, defBody s_is_integer, defScope s_is_integer, [], []⟩
def d_is_between : He.DefD := ⟨("is_between", none), "is_between", "is_between", defArgs s_is_between, defBody s_is_between, defScope s_is_between, [], []⟩
def d_check_integer : He.DefD := ⟨("check_integer", none), "check_integer", "check_integer", defArgs s_check_integer, defBody s_check_integer, defScope s_check_integer, [], []⟩
def d_check_between : He.DefD := ⟨("check_between", none), "check_between", "check_between", defArgs s_check_between, defBody s_check_between, defScope s_check_between, [], []⟩
def d_Machine_init : He.DefD := ⟨("Machine", some "__init__"), "__init__", "Machine.__init__", defArgs s_Machine_init, defBody s_Machine_init, defScope s_Machine_init, [.int 30, .int 70], []⟩
def d_Machine_eq : He.DefD := ⟨("Machine", some "__eq__"), "__eq__", "Machine.__eq__", defArgs s_Machine_eq, defBody s_Machine_eq, defScope s_Machine_eq, [], []⟩
def d_Machine_parts : He.DefD := ⟨("Machine", some "parts"), "parts", "Machine.parts", defArgs s_Machine_parts, defBody s_Machine_parts, defScope s_Machine_parts, [], []⟩
def d_Machine_tally : He.DefD := ⟨("Machine", some "tally"), "tally", "Machine.tally", defArgs s_Machine_tally, defBody s_Machine_tally, defScope s_Machine_tally, [], []⟩
def d_Machine_walk : He.DefD := ⟨("Machine", some "walk"), "walk", "Machine.walk", defArgs s_Machine_walk, defBody s_Machine_walk, defScope s_Machine_walk, [], []⟩
def d_Machine_reset : He.DefD := ⟨("Machine", some "reset"), "reset", "Machine.reset", defArgs s_Machine_reset, defBody s_Machine_reset, defScope s_Machine_reset, [], []⟩
def d_Machine_count : He.DefD := ⟨("Machine", some "count"), "count", "Machine.count", defArgs s_Machine_count, defBody s_Machine_count, defScope s_Machine_count, [], []⟩
def d_Machine_enter : He.DefD := ⟨("Machine", some "enter"), "enter", "Machine.enter", defArgs s_Machine_enter, defBody s_Machine_enter, defScope s_Machine_enter, [], []⟩
def d_check_machine : He.DefD := ⟨("check_machine", none), "check_machine", "check_machine", defArgs s_check_machine, defBody s_check_machine, defScope s_check_machine, [], []⟩
def d_Big_init : He.DefD := ⟨("Big", some "__init__"), "__init__", "Big.__init__", defArgs s_Big_init, defBody s_Big_init, defScope s_Big_init, [], []⟩
def d_Big_eq : He.DefD := ⟨("Big", some "__eq__"), "__eq__", "Big.__eq__", defArgs s_Big_eq, defBody s_Big_eq, defScope s_Big_eq, [], []⟩
def d_Big_sign : He.DefD := ⟨("Big", some "sign"), "sign", "Big.sign", defArgs s_Big_sign, defBody s_Big_sign, defScope s_Big_sign, [], []⟩
def d_Big_digits : He.DefD := ⟨("Big", some "digits"), "digits", "Big.digits", defArgs s_Big_digits, defBody s_Big_digits, defScope s_Big_digits, [], []⟩
def d_Big_bits : He.DefD := ⟨("Big", some "bits"), "bits", "Big.bits", defArgs s_Big_bits, defBody s_Big_bits, defScope s_Big_bits, [], []⟩
def d_made : He.DefD := ⟨("made", none), "made", "made", defArgs s_made, defBody s_made, defScope s_made, [], []⟩
def d_digits_of : He.DefD := ⟨("digits_of", none), "digits_of", "digits_of", defArgs s_digits_of, defBody s_digits_of, defScope s_digits_of, [], []⟩
def d_big_of : He.DefD := ⟨("big_of", none), "big_of", "big_of", defArgs s_big_of, defBody s_big_of, defScope s_big_of, [], []⟩
def d_value_of : He.DefD := ⟨("value_of", none), "value_of", "value_of", defArgs s_value_of, defBody s_value_of, defScope s_value_of, [], []⟩
def d_check_big : He.DefD := ⟨("check_big", none), "check_big", "check_big", defArgs s_check_big, defBody s_check_big, defScope s_check_big, [], []⟩
def d_check_bigs : He.DefD := ⟨("check_bigs", none), "check_bigs", "check_bigs", defArgs s_check_bigs, defBody s_check_bigs, defScope s_check_bigs, [], []⟩
def d_check_any : He.DefD := ⟨("check_any", none), "check_any", "check_any", defArgs s_check_any, defBody s_check_any, defScope s_check_any, [], []⟩
def d_is_compact : He.DefD := ⟨("is_compact", none), "is_compact", "is_compact", defArgs s_is_compact, defBody s_is_compact, defScope s_is_compact, [], []⟩
def d_big : He.DefD := ⟨("big", none), "big", "big", defArgs s_big, defBody s_big, defScope s_big, [], []⟩
def d_plain : He.DefD := ⟨("plain", none), "plain", "plain", defArgs s_plain, defBody s_plain, defScope s_plain, [], []⟩
def d_shifted_left : He.DefD := ⟨("shifted_left", none), "shifted_left", "shifted_left", defArgs s_shifted_left, defBody s_shifted_left, defScope s_shifted_left, [], []⟩
def d_adding : He.DefD := ⟨("adding", none), "adding", "adding", defArgs s_adding, defBody s_adding, defScope s_adding, [], []⟩
def d_put_into : He.DefD := ⟨("put_into", none), "put_into", "put_into", defArgs s_put_into, defBody s_put_into, defScope s_put_into, [], []⟩
def d_into : He.DefD := ⟨("into", none), "into", "into", defArgs s_into, defBody s_into, defScope s_into, [], []⟩
def d_out_of : He.DefD := ⟨("out_of", none), "out_of", "out_of", defArgs s_out_of, defBody s_out_of, defScope s_out_of, [], []⟩
def d_trimmed : He.DefD := ⟨("trimmed", none), "trimmed", "trimmed", defArgs s_trimmed, defBody s_trimmed, defScope s_trimmed, [], []⟩
def d_rows_of : He.DefD := ⟨("rows_of", none), "rows_of", "rows_of", defArgs s_rows_of, defBody s_rows_of, defScope s_rows_of, [], []⟩
def d_square_rows_of : He.DefD := ⟨("square_rows_of", none), "square_rows_of", "square_rows_of", defArgs s_square_rows_of, defBody s_square_rows_of, defScope s_square_rows_of, [], []⟩
def d_row_product : He.DefD := ⟨("row_product", none), "row_product", "row_product", defArgs s_row_product, defBody s_row_product, defScope s_row_product, [], []⟩
def d_row_square : He.DefD := ⟨("row_square", none), "row_square", "row_square", defArgs s_row_square, defBody s_row_square, defScope s_row_square, [], []⟩
def d_by_slices : He.DefD := ⟨("by_slices", none), "by_slices", "by_slices", defArgs s_by_slices, defBody s_by_slices, defScope s_by_slices, [], []⟩
def d_parts_of : He.DefD := ⟨("parts_of", none), "parts_of", "parts_of", defArgs s_parts_of, defBody s_parts_of, defScope s_parts_of, [], []⟩
def d_by_parts : He.DefD := ⟨("by_parts", none), "by_parts", "by_parts", defArgs s_by_parts, defBody s_by_parts, defScope s_by_parts, [], []⟩
def d_multiplied : He.DefD := ⟨("multiplied", none), "multiplied", "multiplied", defArgs s_multiplied, defBody s_multiplied, defScope s_multiplied, [], []⟩
def d_multiply : He.DefD := ⟨("multiply", none), "multiply", "multiply", defArgs s_multiply, defBody s_multiply, defScope s_multiply, [], []⟩
def d_odd_product : He.DefD := ⟨("odd_product", none), "odd_product", "odd_product", defArgs s_odd_product, defBody s_odd_product, defScope s_odd_product, [], []⟩
def d_ones_in : He.DefD := ⟨("ones_in", none), "ones_in", "ones_in", defArgs s_ones_in, defBody s_ones_in, defScope s_ones_in, [], []⟩
def d_factorial : He.DefD := ⟨("factorial", none), "factorial", "factorial", defArgs s_factorial, defBody s_factorial, defScope s_factorial, [], []⟩
def d_small_row : He.DefD := ⟨("small_row", none), "small_row", "small_row", defArgs s_small_row, defBody s_small_row, defScope s_small_row, [], []⟩
def d_rows_made : He.DefD := ⟨("rows_made", none), "rows_made", "rows_made", defArgs s_rows_made, defBody s_rows_made, defScope s_rows_made, [], []⟩
def d_check_things : He.DefD := ⟨("check_things", none), "check_things", "check_things", defArgs s_check_things, defBody s_check_things, defScope s_check_things, [], []⟩
def d_perm : He.DefD := ⟨("perm", none), "perm", "perm", defArgs s_perm, defBody s_perm, defScope s_perm, [], []⟩
def d_law_mixed : He.DefD := ⟨("_law_mixed", none), "_law_mixed", "_law_mixed", defArgs s_law_mixed, defBody s_law_mixed, defScope s_law_mixed, [], []⟩
def d_law_source : He.DefD := ⟨("_law_source", none), "_law_source", "_law_source", defArgs s_law_source, defBody s_law_source, defScope s_law_source, [], []⟩
def d_law_draw : He.DefD := ⟨("_law_draw", none), "_law_draw", "_law_draw", defArgs s_law_draw, defBody s_law_draw, defScope s_law_draw, [], []⟩
def d_law_one : He.DefD := ⟨("_law_one", none), "_law_one", "_law_one", defArgs s_law_one, defBody s_law_one, defScope s_law_one, [], []⟩
def d_law_engines : He.DefD := ⟨("_law_engines", none), "_law_engines", "_law_engines", defArgs s_law_engines, defBody s_law_engines, defScope s_law_engines, [], []⟩
def d_law_digits : He.DefD := ⟨("_law_digits", none), "_law_digits", "_law_digits", defArgs s_law_digits, defBody s_law_digits, defScope s_law_digits, [], []⟩
def d_law_is : He.DefD := ⟨("_law_is", none), "_law_is", "_law_is", defArgs s_law_is, defBody s_law_is, defScope s_law_is, [], []⟩
def d_law_ran : He.DefD := ⟨("_law_ran", none), "_law_ran", "_law_ran", defArgs s_law_ran, defBody s_law_ran, defScope s_law_ran, [], []⟩
def d_law_world : He.DefD := ⟨("_law_world", none), "_law_world", "_law_world", defArgs s_law_world, defBody s_law_world, defScope s_law_world, [], []⟩
def d_law_as_world : He.DefD := ⟨("_law_as_world", none), "_law_as_world", "_law_as_world", defArgs s_law_as_world, defBody s_law_as_world, defScope s_law_as_world, [], []⟩
def d_law_worth : He.DefD := ⟨("_law_worth", none), "_law_worth", "_law_worth", defArgs s_law_worth, defBody s_law_worth, defScope s_law_worth, [], []⟩
def d_law_due : He.DefD := ⟨("_law_due", none), "_law_due", "_law_due", defArgs s_law_due, defBody s_law_due, defScope s_law_due, [], []⟩
def d_law_right : He.DefD := ⟨("_law_right", none), "_law_right", "_law_right", defArgs s_law_right, defBody s_law_right, defScope s_law_right, [], []⟩
def d_law : He.DefD := ⟨("law", none), "law", "law", defArgs s_law, defBody s_law, defScope s_law, [], []⟩
def fnAll : List He.DefD := [d_is_integer, d_is_between, d_check_integer, d_check_between, d_Machine_init, d_Machine_eq, d_Machine_parts, d_Machine_tally, d_Machine_walk, d_Machine_reset, d_Machine_count, d_Machine_enter, d_check_machine, d_Big_init, d_Big_eq, d_Big_sign, d_Big_digits, d_Big_bits, d_made, d_digits_of, d_big_of, d_value_of, d_check_big, d_check_bigs, d_check_any, d_is_compact, d_big, d_plain, d_shifted_left, d_adding, d_put_into, d_into, d_out_of, d_trimmed, d_rows_of, d_square_rows_of, d_row_product, d_row_square, d_by_slices, d_parts_of, d_by_parts, d_multiplied, d_multiply, d_odd_product, d_ones_in, d_factorial, d_small_row, d_rows_made, d_check_things, d_perm, d_law_mixed, d_law_source, d_law_draw, d_law_one, d_law_engines, d_law_digits, d_law_is, d_law_ran, d_law_world, d_law_as_world, d_law_worth, d_law_due, d_law_right, d_law]
def fa0 : List He.Fa := [.glo "is_integer", .glo "is_between", .glo "check_integer", .glo "check_between", .glo "check_machine", .glo "made", .glo "digits_of", .glo "big_of", .glo "value_of", .glo "check_big", .glo "check_bigs", .glo "check_any"]
def fa1 : List He.Fa := [.glo "is_compact", .glo "big", .glo "plain", .glo "shifted_left", .glo "adding", .glo "put_into", .glo "into", .glo "out_of", .glo "trimmed", .glo "rows_of", .glo "square_rows_of", .glo "row_product"]
def fa2 : List He.Fa := [.glo "row_square", .glo "by_slices", .glo "parts_of", .glo "by_parts", .glo "multiplied", .glo "multiply", .glo "odd_product", .glo "ones_in", .glo "factorial", .glo "small_row", .glo "rows_made", .glo "check_things"]
def fa3 : List He.Fa := [.glo "perm", .glo "_law_mixed", .glo "_law_source", .glo "_law_draw", .glo "_law_one", .glo "_law_engines", .glo "_law_digits", .glo "_law_is", .glo "_law_ran", .glo "_law_world", .glo "_law_as_world", .glo "_law_worth"]
def fa4 : List He.Fa := [.glo "_law_due", .glo "_law_right", .glo "Machine", .glo "Big", .glo "law", .glo "WORDS", .free "isinstance", .free "int", .free "bool", .free "len", .free "dict", .free "list"]
def fa5 : List He.Fa := [.free "tuple", .free "range", .free "enumerate", .free "abs", .free "divmod", .free "min", .int "LEAST_BITS" 8, .int "MOST_BITS" 30, .int "MOST_CUTOFF" 1000, .int "MOST_WALK" 1000, .int "MOST_FACTORIAL" 1100, .int "LEAST_TREE" 21]
def fa6 : List He.Fa := [.int "WORD_BITS" 64, .int "MOST_THINGS" 9223372036854775807, .int "MOST_CHOSEN" 400, .cls "Machine", .mkr "Machine", .noat "Machine" "width", .noat "Machine" "limit_of_rows", .noat "Machine" "base", .noat "Machine" "counts", .noat "Machine" "entered", .meth "Machine" "parts", .meth "Machine" "tally"]
def fa7 : List He.Fa := [.meth "Machine" "walk", .meth "Machine" "reset", .meth "Machine" "count", .meth "Machine" "enter", .cls "Big", .mkr "Big", .noat "Big" "width", .noat "Big" "side", .noat "Big" "row", .meth "Big" "sign", .meth "Big" "digits", .meth "Big" "bits"]
def fa8 : List He.Fa := [.meth "Big" "__eq__"]
def faAll : List He.Fa := fa0 ++ fa1 ++ fa2 ++ fa3 ++ fa4 ++ fa5 ++ fa6 ++ fa7 ++ fa8
def loose0 : List PySem.Str := ["BitsError", "InvalidMachine", "InvalidBound", "TooGreat", "is_integer", "is_between", "check_integer", "check_between", "LEAST_BITS", "MOST_BITS", "MOST_CUTOFF", "MOST_WALK"]
def loose1 : List PySem.Str := ["FIRST", "WORDS", "Machine", "check_machine", "Big", "made", "digits_of", "big_of", "value_of", "check_big", "check_bigs", "check_any"]
def loose2 : List PySem.Str := ["is_compact", "big", "plain", "shifted_left", "adding", "put_into", "into", "out_of", "trimmed", "rows_of", "square_rows_of", "row_product"]
def loose3 : List PySem.Str := ["row_square", "by_slices", "parts_of", "by_parts", "multiplied", "multiply", "MOST_FACTORIAL", "LEAST_TREE", "WORD_BITS", "MOST_THINGS", "MOST_CHOSEN", "odd_product"]
def loose4 : List PySem.Str := ["ones_in", "factorial", "small_row", "rows_made", "check_things", "perm", "_law_mixed", "_law_source", "_law_draw", "_law_one", "_law_engines", "_law_digits"]
def loose5 : List PySem.Str := ["_law_is", "_law_ran", "_law_world", "_law_as_world", "_law_worth", "_law_due", "_law_right"]
def looseAll : List PySem.Str := loose0 ++ loose1 ++ loose2 ++ loose3 ++ loose4 ++ loose5
def wordsV : List He.Dv := [.str "short", .str "sum", .str "product", .str "quotient", .str "corrected", .str "restored", .str "shifted", .str "combined", .str "complemented", .str "looked"]
def insB (K : PySem.W.Frag) (x : Str) : Bool := He.eqO (PySem.W.findIn K (.ref (He.ga K x)) "__class__") (some (some (.builtin "object.__class__"))) && (He.eqO (PySem.W.specialIn K (.builtin "object.__class__") "__get__") (some (some (.builtin "getset_descriptor.__get__"))) &&
  (decide (PySem.W.takesIn K (.builtin "object.__class__") = some true) && (decide (PySem.W.mroIn K (He.ga K x) (.type "object") = some true) && decide (PySem.W.kitOne K (.ref (He.ga K x)) (.ref (He.ga K x)) = some true))))
def exAll (K : PySem.W.Frag) : Bool := He.tupB K "WORDS" wordsV && (insB K "Machine" && (insB K "Big" && He.eqO (PySem.W.findIn K (.ref (He.ga K "Big")) "__ne__") (some (some (.builtin "object.__ne__")))))
def tfAll : List He.Defn := [("_law_due", none)]
abbrev RR : PySem.W.OpenRow := PySem.W.OpenLaw.row PySem.Challenge.rw_thirtybits_k87_whole_rows_of_things
abbrev hkAll : PySem.W.Hook := He.hookX 5 faAll fnAll [] tfAll exAll
def obAll (s : PySem.W.SharedT) : He.AlX := He.obsX 5 faAll fnAll [] tfAll exAll (HandSHeadRun.getT s)
theorem obAll_eq (s : PySem.W.SharedT) : obAll s = hkAll.obs s.abs := He.obsX_eq (HandSHeadRun.getT_eq s)
theorem runAll (w : World) : HandSHeadRun.RunEq RR (PySem.W.view RR.prog [77]) hkAll obAll 20000 looseAll w := by
  intro os
  kernel_rfl
end T87
namespace T87
/-! ### numbers as rows of digits, the base b -/
def val (b : Int) : List Int → Int
  | [] => 0
  | d :: r => d + b * val b r
def Dg (b : Int) (r : List Int) : Prop := ∀ d ∈ r, 0 ≤ d ∧ d < b
def digsF (b : Int) : Nat → Int → List Int
  | 0, _ => []
  | f + 1, v => if v ≤ 0 then [] else v % b :: digsF b f (v / b)
def digs (b : Int) (v : Int) : List Int := digsF b v.toNat v
theorem ipow_succ (b : Int) (n : Nat) : b ^ (n + 1) = b * b ^ n := by rw [Int.pow_succ, Int.mul_comm]
theorem ipow_pos {b : Int} (h : 0 < b) : ∀ n : Nat, 0 < b ^ n
  | 0 => by rw [Int.pow_zero]; decide
  | n + 1 => by rw [Int.pow_succ]; exact Int.mul_pos (ipow_pos h n) h
theorem ipow_le {b : Int} (h : 1 ≤ b) {n m : Nat} (hm : n ≤ m) : b ^ n ≤ b ^ m := by
  obtain ⟨k, rfl⟩ := Nat.exists_eq_add_of_le hm
  rw [Int.pow_add]
  have h1 := ipow_pos (show (0 : Int) < b by omega) n
  have h2 := ipow_pos (show (0 : Int) < b by omega) k
  have := Int.mul_le_mul_of_nonneg_left (show (1 : Int) ≤ b ^ k by omega) (Int.le_of_lt h1)
  rw [Int.mul_one] at this
  exact this
theorem val_append (b : Int) : ∀ x y : List Int, val b (x ++ y) = val b x + b ^ x.length * val b y
  | [], y => by simp [val]
  | d :: r, y => by
    rw [List.cons_append, val, val, val_append b r y, List.length_cons, ipow_succ, Int.mul_add, Int.mul_assoc, Int.add_assoc]
theorem Dg.nil {b : Int} : Dg b [] := fun d h => by cases h
theorem Dg.cons {b d : Int} {r : List Int} (h0 : 0 ≤ d) (h1 : d < b) (h : Dg b r) : Dg b (d :: r) := fun e he => by
  rcases List.mem_cons.mp he with rfl | he
  · exact ⟨h0, h1⟩
  · exact h e he
theorem Dg.tail {b d : Int} {r : List Int} (h : Dg b (d :: r)) : Dg b r := fun e he => h e (List.mem_cons_of_mem _ he)
theorem Dg.head {b d : Int} {r : List Int} (h : Dg b (d :: r)) : 0 ≤ d ∧ d < b := h d (List.mem_cons_self ..)
theorem Dg.append {b : Int} {x y : List Int} (h : Dg b x) (g : Dg b y) : Dg b (x ++ y) := fun e he => (List.mem_append.mp he).elim (h e) (g e)
theorem Dg.take {b : Int} {x : List Int} (h : Dg b x) (n : Nat) : Dg b (x.take n) := fun e he => h e (List.mem_of_mem_take he)
theorem Dg.drop {b : Int} {x : List Int} (h : Dg b x) (n : Nat) : Dg b (x.drop n) := fun e he => h e (List.mem_of_mem_drop he)
theorem Dg.set {b : Int} {x : List Int} (h : Dg b x) (i : Nat) {e : Int} (h0 : 0 ≤ e) (h1 : e < b) : Dg b (x.set i e) := fun d hd => by
  rcases List.mem_or_eq_of_mem_set hd with q | rfl
  · exact h d q
  · exact ⟨h0, h1⟩
theorem Dg.get {b : Int} {x : List Int} (h : Dg b x) {i : Nat} {d : Int} (e : x[i]? = some d) : 0 ≤ d ∧ d < b := h d (List.mem_of_getElem? e)
theorem Dg.zeros {b : Int} (hb : 0 < b) (n : Nat) : Dg b (List.replicate n 0) := fun d hd => by
  rw [(List.mem_replicate.mp hd).2]
  exact ⟨Int.le_refl 0, hb⟩
theorem val_zeros (b : Int) : ∀ n : Nat, val b (List.replicate n 0) = 0
  | 0 => rfl
  | n + 1 => by rw [List.replicate_succ, val, val_zeros b n]; simp
theorem val_nonneg {b : Int} (hb : 0 < b) : ∀ {r : List Int}, Dg b r → 0 ≤ val b r
  | [], _ => Int.le_refl 0
  | d :: r, h => by
    have h1 := h.head
    have h2 := Int.mul_nonneg (Int.le_of_lt hb) (val_nonneg hb h.tail)
    rw [val]; omega
theorem val_lt {b : Int} (hb : 0 < b) : ∀ {r : List Int}, Dg b r → val b r < b ^ r.length
  | [], _ => by simp [val]
  | d :: r, h => by
    have h1 := h.head
    have h2 := val_lt hb h.tail
    have h3 : b * val b r ≤ b * (b ^ r.length - 1) := Int.mul_le_mul_of_nonneg_left (by omega) (Int.le_of_lt hb)
    rw [Int.mul_sub, Int.mul_one] at h3
    rw [val, List.length_cons, ipow_succ]; omega
theorem val_split (b : Int) (r : List Int) (k : Nat) (hk : k ≤ r.length) : val b r = val b (r.take k) + b ^ k * val b (r.drop k) := by
  have h := val_append b (r.take k) (r.drop k)
  rw [List.take_append_drop, List.length_take, Nat.min_eq_left hk] at h
  exact h
theorem val_set (b : Int) : ∀ {r : List Int} {i : Nat} {d : Int} (e : Int), r[i]? = some d → val b (r.set i e) = val b r + b ^ i * (e - d)
  | [], _, _, _, h => by simp at h
  | a :: r, 0, d, e, h => by
    simp at h; subst h
    rw [List.set_cons_zero, val, val]; simp; omega
  | a :: r, i + 1, d, e, h => by
    have ih := val_set b (r := r) (i := i) (d := d) e (by simpa using h)
    rw [List.set_cons_succ, val, val, ih, ipow_succ, Int.mul_add, Int.mul_assoc]; omega
theorem val_take_succ (b : Int) {r : List Int} {i : Nat} {d : Int} (h : r[i]? = some d) : val b (r.take (i + 1)) = val b (r.take i) + b ^ i * d := by
  obtain ⟨hi, e⟩ := List.getElem?_eq_some_iff.mp h
  rw [List.take_succ, h, val_append, List.length_take, Nat.min_eq_left (Nat.le_of_lt hi)]
  simp [val]
/-- same length, same value: the same digits -/
theorem val_inj {b : Int} (hb : 0 < b) : ∀ {x y : List Int}, Dg b x → Dg b y → x.length = y.length → val b x = val b y → x = y
  | [], [], _, _, _, _ => rfl
  | [], _ :: _, _, _, h, _ => by simp at h
  | _ :: _, [], _, _, h, _ => by simp at h
  | a :: x, c :: y, hx, hy, hl, hv => by
    have h1 := hx.head
    have h2 := hy.head
    rw [val, val] at hv
    have e1 : (a + b * val b x) % b = a := by rw [Int.add_mul_emod_self_left]; exact Int.emod_eq_of_lt h1.1 h1.2
    have e2 : (c + b * val b y) % b = c := by rw [Int.add_mul_emod_self_left]; exact Int.emod_eq_of_lt h2.1 h2.2
    have e3 : a = c := by rw [← e1, ← e2, hv]
    subst e3
    have e4 : b * val b x = b * val b y := by omega
    have e5 := Int.eq_of_mul_eq_mul_left (show b ≠ 0 by omega) e4
    rw [val_inj hb hx.tail hy.tail (by simpa using hl) e5]
/-! ### the digits of a number -/
theorem digsF_fuel {b : Int} (hb : 2 ≤ b) : ∀ (f g : Nat) (v : Int), v.toNat ≤ f → v.toNat ≤ g → digsF b f v = digsF b g v
  | 0, 0, _, _, _ => rfl
  | 0, g + 1, v, h, _ => by rw [digsF, digsF, if_pos (by omega)]
  | f + 1, 0, v, _, h => by rw [digsF, digsF, if_pos (by omega)]
  | f + 1, g + 1, v, h1, h2 => by
    rw [digsF, digsF]
    by_cases hv : v ≤ 0
    · rw [if_pos hv, if_pos hv]
    · rw [if_neg hv, if_neg hv]
      have h3 : v / b < v := Int.ediv_lt_of_lt_mul (by omega) (by
        have := Int.mul_le_mul_of_nonneg_left hb (show 0 ≤ v by omega); omega)
      have h4 : 0 ≤ v / b := Int.ediv_nonneg (by omega) (by omega)
      rw [digsF_fuel hb f g (v / b) (by omega) (by omega)]
theorem digs_zero {b v : Int} (h : v ≤ 0) : digs b v = [] := by
  unfold digs
  rw [show v.toNat = 0 by omega, digsF]
theorem digs_pos {b v : Int} (hb : 2 ≤ b) (h : 0 < v) : digs b v = v % b :: digs b (v / b) := by
  unfold digs
  obtain ⟨k, hk⟩ : ∃ k, v.toNat = k + 1 := ⟨v.toNat - 1, by omega⟩
  have h3 : v / b < v := Int.ediv_lt_of_lt_mul (by omega) (by
    have := Int.mul_le_mul_of_nonneg_left hb (show 0 ≤ v by omega); omega)
  have h4 : 0 ≤ v / b := Int.ediv_nonneg (by omega) (by omega)
  rw [hk, digsF, if_neg (by omega), digsF_fuel hb k (v / b).toNat (v / b) (by omega) (Nat.le_refl _)]
theorem digs_facts {b : Int} (hb : 2 ≤ b) : ∀ (n : Nat) (v : Int), 0 ≤ v → v.toNat ≤ n → Dg b (digs b v) ∧ val b (digs b v) = v ∧ (digs b v).getLast? ≠ some 0 ∧ (∀ k : Nat, v < b ^ k → (digs b v).length ≤ k)
  | 0, v, h0, hn => by
    rw [digs_zero (by omega)]
    exact ⟨Dg.nil, by simp [val]; omega, by simp, fun k _ => Nat.zero_le _⟩
  | n + 1, v, h0, hn => by
    by_cases hv : v ≤ 0
    · rw [digs_zero hv]
      exact ⟨Dg.nil, by simp [val]; omega, by simp, fun k _ => Nat.zero_le _⟩
    · have h3 : v / b < v := Int.ediv_lt_of_lt_mul (by omega) (by
        have := Int.mul_le_mul_of_nonneg_left hb (show 0 ≤ v by omega); omega)
      have h4 : 0 ≤ v / b := Int.ediv_nonneg (by omega) (by omega)
      obtain ⟨i1, i2, i3, i4⟩ := digs_facts hb n (v / b) h4 (by omega)
      have m0 := Int.emod_nonneg v (show b ≠ 0 by omega)
      have m1 := Int.emod_lt_of_pos v (show 0 < b by omega)
      have em := Int.emod_add_mul_ediv v b
      rw [digs_pos hb (by omega)]
      refine ⟨Dg.cons m0 m1 i1, by rw [val, i2]; exact em, ?_, fun k hk => ?_⟩
      · by_cases hz : v / b = 0
        · rw [hz, digs_zero (Int.le_refl 0)]
          rw [hz] at em
          simp at em ⊢
          omega
        · rw [digs_pos hb (by omega)] at i3 ⊢
          rw [List.getLast?_cons_cons]
          exact i3
      · cases k with
        | zero => simp at hk; omega
        | succ k =>
          rw [List.length_cons]
          have := i4 k (Int.ediv_lt_of_lt_mul (by omega) (by rw [Int.mul_comm, ← ipow_succ]; exact hk))
          omega
section
variable {b v : Int} (hb : 2 ≤ b) (hv : 0 ≤ v)
include hb hv
theorem digs_dg : Dg b (digs b v) := (digs_facts hb _ v hv (Nat.le_refl _)).1
theorem val_digs : val b (digs b v) = v := (digs_facts hb _ v hv (Nat.le_refl _)).2.1
theorem digs_last : (digs b v).getLast? ≠ some 0 := (digs_facts hb _ v hv (Nat.le_refl _)).2.2.1
theorem digs_len {k : Nat} (h : v < b ^ k) : (digs b v).length ≤ k := (digs_facts hb _ v hv (Nat.le_refl _)).2.2.2 k h
end
/-- no 0 at the end -/
theorem digs_of {b : Int} (hb : 2 ≤ b) : ∀ {r : List Int}, Dg b r → r.getLast? ≠ some 0 → digs b (val b r) = r
  | [], _, _ => by simp [val, digs_zero]
  | d :: r, h, hl => by
    have h1 := h.head
    have h0 := val_nonneg (by omega) h.tail
    have hr : r.getLast? ≠ some 0 := by
      cases r with
      | nil => simp
      | cons a r => rw [List.getLast?_cons_cons] at hl; exact hl
    have ih := digs_of hb h.tail hr
    have hp : 0 < val b (d :: r) := by
      rw [val]
      have hm := Int.mul_nonneg (show 0 ≤ b by omega) h0
      by_cases hd : d = 0
      · cases r with
        | nil => simp [hd] at hl
        | cons a r =>
          by_cases hz : val b (a :: r) = 0
          · rw [hz, digs_zero (Int.le_refl 0)] at ih; cases ih
          · have := Int.mul_pos (show 0 < b by omega) (show 0 < val b (a :: r) by omega)
            omega
      · omega
    rw [digs_pos hb hp]
    rw [val] at hp ⊢
    rw [Int.add_mul_emod_self_left, Int.emod_eq_of_lt h1.1 h1.2, Int.add_mul_ediv_left _ _ (show b ≠ 0 by omega), Int.ediv_eq_zero_of_lt h1.1 h1.2, Int.zero_add, ih]
theorem digs_low {b v : Int} (hb : 2 ≤ b) (hv : 0 < v) : b ^ ((digs b v).length - 1) ≤ v := by
  have h := digs_dg hb (Int.le_of_lt hv)
  have hl := digs_last hb (Int.le_of_lt hv)
  have e := val_digs hb (Int.le_of_lt hv)
  have hp : digs b v ≠ [] := by rw [digs_pos hb hv]; simp
  obtain ⟨i, a, hi⟩ : ∃ i a, digs b v = i ++ [a] := ⟨_, _, (List.dropLast_concat_getLast hp).symm⟩
  rw [hi] at hl h e ⊢
  rw [List.getLast?_append] at hl
  simp at hl
  rw [val_append] at e
  have ha := h a (by simp)
  have hn := val_nonneg (show 0 < b by omega) (r := i) fun d hd => h d (List.mem_append_left _ hd)
  have hpw := ipow_pos (show 0 < b by omega) i.length
  have : b ^ i.length * 1 ≤ b ^ i.length * a := Int.mul_le_mul_of_nonneg_left (by omega) (Int.le_of_lt hpw)
  simp [val] at e
  rw [List.length_append, List.length_singleton, Nat.add_sub_cancel]
  omega
/-- zeros cut off -/
theorem trim_eq {b : Int} (hb : 2 ≤ b) {r : List Int} (h : Dg b r) {n : Nat} (hn : n ≤ r.length) (hz : ∀ i, n ≤ i → i < r.length → r[i]? = some 0) (hl : n = 0 ∨ r[n - 1]? ≠ some 0) : r.take n = digs b (val b r) := by
  have e0 : r.drop n = List.replicate (r.length - n) 0 := by
    apply List.ext_getElem?
    intro i
    rw [List.getElem?_drop, List.getElem?_replicate]
    by_cases hi : i < r.length - n
    · rw [if_pos hi]; exact hz (n + i) (by omega) (by omega)
    · rw [if_neg hi]; exact List.getElem?_eq_none_iff.mpr (by omega)
  rw [val_split b r n hn, e0, val_zeros, Int.mul_zero, Int.add_zero]
  refine (digs_of hb (h.take n) ?_).symm
  rcases hl with rfl | hl
  · simp
  · by_cases hz0 : n = 0
    · subst hz0; simp
    · rw [List.getLast?_eq_getElem?, List.length_take, Nat.min_eq_left hn, List.getElem?_take_of_lt (by omega)]
      exact hl
end T87
/-! own rules: t[::-1], a slice of a list or a tuple, enumerate of a tuple, a slice stored -/
namespace T87
open PySem PySem.Spec PyProof.Rows L2
section
variable {prog : Program} {w : World} {A : Around} {E : Value → Shared → Prop} {s : Shared}
theorem back_adjust (n : Nat) : Builtin.Slice.sliceAdjust none none (-1) (n : Int) = ((n : Int) - 1, -1) := rfl
theorem back_places (n : Nat) : Builtin.Slice.slicePlaces ((n : Int) - 1) (-1) (-1) = n := by
  unfold Builtin.Slice.slicePlaces
  rw [if_neg (show ¬ ((-1 : Int) > 0) by decide), show (- -1 : Int) = 1 by decide]
  by_cases h : (n : Int) - 1 > -1
  · rw [if_pos h, Int.ediv_one]; omega
  · rw [if_neg h]; omega
theorem back_applied {sl : Addr} {t : Tok} {n : Nat} {Q : Int × Int × Nat → Shared → Prop} (ho : s.heap.IsSliceOf sl .none .none (.int (-1) t))
    (h : Q ((n : Int) - 1, -1, n) s) : wpAny (model prog w) A (Builtin.Slice.sliceApplied (.ref sl) (pure (n : Int))) Q E s := by
  obtain ⟨o, h1, h2, h3⟩ := id ho
  unfold Builtin.Slice.sliceApplied Builtin.Slice.sliceFields
  refine wpAny_bind (wpAny_bind (wpAny_field h1 h3 (x := .none) rfl (wpAny_bind (wpAny_field h1 h3 (x := .none) rfl (wpAny_bind (wpAny_field h1 h3 (x := .int (-1) t) rfl (wpAny_pure ?_)))))))
  refine wpAny_bind (slicePart_int ?_)
  show wpAny _ _ (if ((-1 : Int) == 0) = true then _ else _) _ _ s
  rw [if_neg (show ¬ ((-1 : Int) == 0) = true by decide)]
  refine wpAny_bind (slicePart_none (wpAny_bind (slicePart_none (wpAny_bind (wpAny_pure ?_)))))
  show wpAny _ _ (match Builtin.Slice.sliceAdjust none none (-1) (n : Int) with | (lo, hi) => pure (lo, (-1 : Int), Builtin.Slice.slicePlaces lo hi (-1))) _ _ s
  rw [back_adjust]
  show wpAny _ _ (pure ((n : Int) - 1, (-1 : Int), Builtin.Slice.slicePlaces ((n : Int) - 1) (-1) (-1))) _ _ s
  rw [back_places]
  exact wpAny_pure h
theorem fm_same {α β : Type} {f g : α → Option β} : ∀ l : List α, (∀ a ∈ l, f a = g a) → l.filterMap f = l.filterMap g
  | [], _ => rfl
  | a :: l, h => by
    rw [List.filterMap_cons, List.filterMap_cons, h a (List.mem_cons_self ..), fm_same l fun b hb => h b (List.mem_cons_of_mem _ hb)]
theorem back_pick (xs : Array Value) : ((List.range xs.size).filterMap fun (m : Nat) => xs[((xs.size : Int) - 1 + (m : Int) * -1).toNat]?).toArray = xs.toList.reverse.toArray := by
  have e : (List.range xs.size).filterMap (fun (m : Nat) => xs[((xs.size : Int) - 1 + (m : Int) * -1).toNat]?) = ((List.range xs.size).map fun k => xs.size - 1 - k).filterMap (xs[·]?) := by
    rw [List.filterMap_map]
    refine fm_same _ fun m hm => ?_
    have hlt := List.mem_range.mp hm
    show xs[_]? = xs[xs.size - 1 - m]?
    have : ((xs.size : Int) - 1 + (m : Int) * -1).toNat = xs.size - 1 - m := by omega
    rw [this]
  rw [e, PySem.W.krv_range, List.filterMap_reverse, PySem.W.krv_all]
theorem back_item {t sl : Addr} {items : Array Value} {tk : Tok} {Q : Value → Shared → Prop} (hT : IsTup s.heap t items) (hs : s.heap.IsSliceOf sl .none .none (.int (-1) tk))
    (hQ : Q (.ref s.heap.objs.size) { s with heap := s.heap.push { cls := .type "tuple", data := .seq items.toList.reverse.toArray } }) (hsz : items.size ≤ sizeLine) :
    wpAny (model prog w) A (getItem (.ref t) (.ref sl)) Q E s := by
  have fits : sizeOk (.seq items.toList.reverse.toArray) := by
    show items.toList.reverse.toArray.size ≤ sizeLine
    simpa using hsz
  obtain ⟨o, h1, h2, h3⟩ := id hs
  have isS : s.TypeIs (.ref sl) "slice" := ⟨o, h1, h2⟩
  unfold getItem
  try with_reducible refine wpAny_holding ?_
  first | refine wpAny_bind (wpAny_pure ?_) | skip
  refine wpAny_bind (wpAny_sequenceKey hT.typeIs (by decide) ?_)
  refine wpAny_bind (wpAny_callSpecial?_slot (name := Str.ofString "__getitem__") hT.typeIs PyProof.Rows.slot_tuple_getitem (wpAny_call_entry PyProof.Rows.slot_tuple_getitem hT.typeIs entry_tuple_getitem ?_ (args_tuple_getitem _ _)))
  show wpAny _ _ (Builtin.Tuple.tupleItemsOf (.ref t) >>= _) _ _ s
  refine wpAny_bind (tupleItemsOf_ hT (wpAny_bind (wpAny_typeOf isS ?_)))
  rw [if_pos (show (Value.type "slice" == Value.type "slice") = true by decide)]
  refine wpAny_bind (back_applied hs ?_)
  show wpAny _ _ (if (((items.size : Int) - 1 == 0) && ((-1 : Int) == 1) && (items.size == items.size)) = true then _ else _) _ _ s
  rw [if_neg (show ¬ (((items.size : Int) - 1 == 0) && ((-1 : Int) == 1) && (items.size == items.size)) = true by simp), back_pick]
  first
    | exact wpAny_bind (m := Builtin.Tuple.tupleExact _) (wpAny_newObj_type (wpAny_pure ⟨_, rfl, wpAny_pure hQ⟩) fits)
    | exact wpAny_bind (m := Builtin.Tuple.tupleExact _) (wpAny_newObj_type (wpAny_bind (wpAny_pure (wpAny_pure ⟨_, rfl, wpAny_pure hQ⟩))) fits)
    | exact wpAny_bind (wpAny_bind (m := Builtin.Tuple.tupleExact _) (wpAny_newObj_type (wpAny_pure (wpAny_pure ⟨_, rfl, wpAny_pure hQ⟩)) fits))
    | exact wpAny_bind (wpAny_bind (m := Builtin.Tuple.tupleExact _) (wpAny_newObj_type (wpAny_pure ⟨_, rfl, wpAny_pure hQ⟩) fits))
end
/-- t[::-1] of a tuple -/
def tBack (te : TE) : TE := fun σ H Q => te σ H fun x H1 => ∃ a xs, x = .ref a ∧ H1 a = some (.tup xs) ∧ ∀ p, H1 p = none → Q (.ref p) (upd H1 p (.tup xs.reverse))
section
variable {X : Cx}
theorem pe_back {e : PySem.Expr} {te : TE} {k : Nat} {p1 p2 p3 pos : Pos} (he : PE X e te) : PE X (.Subscript e (.Slice none none (some (.UnaryOp .USub (.Constant (.int 1) k p1) p2)) p3) pos) (tBack te) := by
  refine ⟨fun pins s σ H Q I h => Subscript_ (thn (he.run pins s σ H _ I h) fun v s1 ⟨x, H1, I1, rx, a, xs, ex, hx, q⟩ => ?_)⟩
  subst ex
  cases rx
  have stp : PO X (some (.UnaryOp .USub (.Constant (.int 1) k p1) p2)) (tPart (tUn (rU fun i => .int (-i)) (tC (.int 1)))) := po_some (pe_un un_neg pe_int)
  refine wpAny_Slice (thn (po_none.run pins s1 σ H1 (fun o G => o = none ∧ G = H1) I1 ⟨rfl, rfl⟩) fun vl s2 ⟨l, G2, J2, pl, el, e2⟩ => ?_)
  subst el e2
  refine thn (po_none.run pins s2 σ G2 (fun o G => o = none ∧ G = G2) J2 ⟨rfl, rfl⟩) fun vu s3 ⟨u, G3, J3, pu, eu, e3⟩ => ?_
  subst eu e3
  refine thn (stp.run pins s3 σ G3 (fun o G => o = some (-1) ∧ G = G3) J3 ⟨1, rfl, -1, rfl, rfl, rfl⟩) fun vs s4 ⟨o, G4, J4, ps, eo, e4⟩ => ?_
  subst eo e4
  cases pl
  cases pu
  cases ps with
  | int i tk =>
  have J5 : Inv X pins σ G4 { s4 with heap := s4.heap.push { cls := .type "slice", data := .fields #[.none, .none, .int (-1) tk] } } := J4.kept (t' := s4.toks) fun b ob q => Heap.get?_push_of_some _ q
  obtain ⟨its, r, ht, hz⟩ := J5.tuple (.inl (.inl hx))
  have hlen := r.length
  show wpAny (model X.prog X.w) X.A (subscriptTail e (.Slice none none (some (.UnaryOp .USub (.Constant (.int 1) k p1) p2)) p3) (.ref a) (.ref s4.heap.objs.size)) (EP X pins σ Q) X.xe { s4 with heap := s4.heap.push { cls := .type "slice", data := .fields #[.none, .none, .int (-1) tk] } }
  refine tail_any (ops := [.ref a, .ref s4.heap.objs.size]) ht.typeIs PyProof.Rows.slot_tuple_getitem.lookup ?_ (by with_unfolding_all rfl)
  refine back_item ht (Heap.IsSliceOf.new _ .none .none (.int (-1) tk)) ?_ (by rw [List.size_toArray, ← hlen]; exact hz)
  refine ⟨.ref _, _, J5.laid (t' := s4.toks) (o := .tup xs.reverse) (fun b ob q => Heap.get?_push_of_some _ q) (Nat.le_refl _) ?_, rfl, q _ (J5.hok.fresh (Nat.le_refl _))⟩
  exact ⟨by rw [List.length_reverse]; exact hz, its.reverse, r.reverse, IsTup.new _ _⟩
end
end T87
namespace T87
open PySem PySem.Spec PyProof.Rows L2
open AutoSeq1 (wpAny_loadPart')
/-! ### a list or a tuple that stands at an address -/
def SeqO (o : HO) (xs : List V) : Prop := o = .lst xs ∨ o = .tup xs
def Sq (H : Hp) (a : Addr) (xs : List V) : Prop := ∃ o, SeqO o xs ∧ H a = some o
theorem Sq.lst {H : Hp} {a : Addr} {xs : List V} (h : H a = some (.lst xs)) : Sq H a xs := ⟨_, .inl rfl, h⟩
theorem Sq.tup {H : Hp} {a : Addr} {xs : List V} (h : H a = some (.tup xs)) : Sq H a xs := ⟨_, .inr rfl, h⟩
theorem Sq.or {K : PySem.W.Frag} {H : Hp} {a : Addr} {xs : List V} (h : Sq H a xs) : SqL K H a xs ∨ SqT K H a xs := by
  obtain ⟨o, rfl | rfl, e⟩ := h
  · exact .inl (SqL.of e)
  · exact .inr (SqT.of e)
theorem Sq.at {H H' : Hp} {a : Addr} {xs : List V} (h : Sq H a xs) (e : ∀ o, H a = some o → H' a = some o) : Sq H' a xs := let ⟨o, s, q⟩ := h; ⟨o, s, e o q⟩
/-! ### enumerate of a tuple -/
theorem new_enum_tup (t : Addr) (items : Array Value) (n : Nat) (dct : Option Addr) (sl : Array (Option Value)) :
    Meets (Builtin.«enumerate.__new__» ⟨[.type "enumerate", .ref t], []⟩) (fun _ R s => s.heap.get? t = some { cls := .type "tuple", dict := dct, data := .seq items n, slots := sl } ∧
      R (.ok (.ret (.ref (s.heap.push { cls := .type "tuple_iterator", data := .fields #[.ref t, .int 0 0] }).objs.size)))
        { s with heap := (s.heap.push { cls := .type "tuple_iterator", data := .fields #[.ref t, .int 0 0] }).push { cls := .type "enumerate", data := .fields #[.none, .bool false, .ref s.heap.objs.size, rawInt 0, .none, .none] } }) :=
  .of_wp fun prog w A R s h => by
    obtain ⟨hp, gs, dr, tk, os⟩ := s
    obtain ⟨ht, h⟩ := h
    have hsub := sub_enumerate
    have isT : (Shared.heap ⟨hp, gs, dr, tk, os⟩).IsTuple t items := ⟨_, ht, rfl, n, rfl⟩
    wp_walk using wpAny_loadPart' ht
    refine wpAny_stack_any fun st => wpAny_pure ?_
    split
    · rename_i c _ _ _ _ _
      cases (c == Value.type "enumerate") <;> (wp_walk using wpAny_loadPart' ht, wpAny_pyIter_tuple isT; exact ⟨_, rfl, h⟩)
    · wp_walk using wpAny_loadPart' ht, wpAny_pyIter_tuple isT
      exact ⟨_, rfl, h⟩
section
variable {prog : Program} {w : World} {A : Around} {E : Value → Shared → Prop} {s : Shared}
theorem enum_tup {t : Addr} {items : Array Value} {Q : Value → Shared → Prop} (isT : IsTup s.heap t items)
    (hQ : ∀ h', IsEnum h' (s.heap.objs.size + 1) s.heap.objs.size 0 .none → h'.IsTupleIter s.heap.objs.size t 0 →
      (∀ b o, s.heap.get? b = some o → h'.get? b = some o) → Q (.ref (s.heap.objs.size + 1)) { s with heap := h' }) :
    wpAny (model prog w) A (call (.type "enumerate") [.ref t]) Q E s := by
  obtain ⟨⟨c, dct, dt, sl⟩, ht, hc, n, hd⟩ := isT
  replace hc : c = .type "tuple" := hc
  replace hd : dt = .seq items n := hd
  subst hc hd
  refine callType_new F.called_enumerate (by decide) (F.typeCall_enumerate_1 _) (F.newCall_enumerate_1 _) (fun obj => F.args_object_init_2 obj _) F.entry_enumerate_new (new_enum_tup t items n dct sl) ⟨ht, ?_⟩
  have hz : (s.heap.push { cls := .type "tuple_iterator", data := .fields #[.ref t, .int 0 0] }).objs.size = s.heap.objs.size + 1 := Heap.size_push ..
  show _ ∧ _
  rw [hz]
  have he : IsEnum ((s.heap.push { cls := .type "tuple_iterator", data := .fields #[.ref t, .int 0 0] }).push { cls := .type "enumerate", data := .fields #[.none, .bool false, .ref s.heap.objs.size, rawInt 0, .none, .none] }) (s.heap.objs.size + 1) s.heap.objs.size 0 .none := by
    have q := Heap.get?_push_size (s.heap.push { cls := .type "tuple_iterator", data := .fields #[.ref t, .int 0 0] }) (o := { cls := .type "enumerate", data := .fields #[.none, .bool false, .ref s.heap.objs.size, rawInt 0, .none, .none] }) rfl
    rw [hz] at q
    exact q
  exact ⟨⟨_, he, rfl⟩, hQ _ he ⟨_, Heap.get?_push_of_some _ (Heap.get?_push_size _ rfl), rfl, rfl⟩ fun b o x => Heap.get?_push_of_some _ (Heap.get?_push_of_some _ x)⟩
end
/-- the tuple at a, each item in a new pair -/
def Iue (K : PySem.W.Frag) (a : Addr) : It :=
  ⟨fun i H => ∃ (xs : List V) (x : V), SqT K H a xs ∧ xs[i]? = some x, fun i H v H' => ∃ T x, v = .ref T ∧ H T = none ∧ H' = upd H T (.tup [.int (i : Nat), x]) ∧ ∀ xs, SqT K H a xs → xs[i]? = some x, fun i H => ∃ xs : List V, SqT K H a xs ∧ xs.length ≤ i⟩
theorem turn_enumT {P : Program} {w : World} {K : PySem.W.Frag} {elts : List PySem.Expr} {kk : Nat} {tpos : Pos} (a e it : Addr) :
    Turn P w K (.Tuple elts kk tpos) (Iue K a) [e, it] e (fun i h => (∃ old, IsEnum h e it ((i : Nat) : Int) old) ∧ h.IsTupleIter it a i ∧ e ≠ it ∧ a ≠ it ∧ e ≠ a) where
  mem := List.mem_cons_self ..
  obj := fun i h st b hb => by
    obtain ⟨⟨old, he⟩, ⟨o, ho, hc, hd⟩, _⟩ := st
    rcases (show b = e ∨ b = it by simpa using hb) with rfl | rfl
    · exact ⟨_, he, fun v q => nomatch q⟩
    · exact ⟨o, ho, fun v q => by rw [hd] at q; cases q⟩
  keep := fun i h h' ⟨⟨old, he⟩, hi, hne⟩ k => ⟨⟨old, k e (by simp) _ he⟩, hi.at fun o q => k it (by simp) o q, hne⟩
  item := by
    intro X hP hw hK hc i pins s σ H E I hf st hg
    subst hP hw hK
    obtain ⟨⟨old, he⟩, hit, hne, hai, hea⟩ := st
    obtain ⟨xs, x, hq, hx⟩ := hg
    obtain ⟨its, rv, isT, hz⟩ := I.tuple hq
    obtain ⟨u, hu, ru⟩ := rv.get hx
    have el : e < s.heap.objs.size := Heap.lt_size he
    have il : it < s.heap.objs.size := by obtain ⟨_, q, _⟩ := hit; exact Heap.lt_size q
    have hlt : i < its.toArray.size := by
      rw [List.size_toArray, ← rv.length]
      exact (List.getElem?_eq_some_iff.mp hx).1
    refine wpAny_pyNext_enum_itemD (Draws.tuple (prog := X.prog) (w := X.w) (A := X.A.in1) (I.ok.hd hc) it a hai its.toArray) he ⟨hit, isT⟩ hlt hne (by simp [hne, hea]) fun y h' tk hy ho hit' hT hsz hk => ?_
    obtain rfl : y = u := by
      have hy2 : its[i]? = some y := by simpa using hy
      rw [hu] at hy2
      exact (Option.some.inj hy2).symm
    refine ⟨_, rfl, wpAny_letOwnedTupleGo_enum (s := { s with heap := h', toks := tk + 1 }) ho fun h2 he2 sb => ?_⟩
    have hT2 : h2.get? s.heap.objs.size = some { cls := .type "tuple", data := .seq #[.int i tk, y] } := (sb.2 _ (Nat.ne_of_gt el)).trans hT
    have new : ObjOk X.prog X.w (upd H s.heap.objs.size (.tup [.int (i : Nat), x])) h2 s.heap.objs.size (.tup [.int (i : Nat), x]) :=
      ⟨by show 2 ≤ sizeLine; decide, [.int i tk, y], .cons ⟨_, rfl⟩ (.cons ru .nil), ⟨_, hT2, rfl, _, rfl⟩⟩
    have J : Inv X pins σ (upd H s.heap.objs.size (.tup [.int (i : Nat), x])) { s with heap := h2, toks := tk + 1 } :=
      I.turnedNew (ch := [e, it]) (fun b ob hb q => (sb.2 b (fun z => hb (by simp [z]))).trans (hk b ob (fun z => hb (by simp [z])) (fun z => hb (by simp [z])) q)) hf (Nat.le_refl _) new
    refine ⟨.ref s.heap.objs.size, _, J, rfl, ⟨_, x, rfl, I.hok.fresh (Nat.le_refl _), rfl, fun ys hy => by rw [I.tuple_inj hy hq]; exact hx⟩, ⟨⟨y, ?_⟩, hit'.1.at fun o q => (sb.2 it (Ne.symm hne)).trans q, hne, hai, hea⟩, fun b hb => ?_⟩
    · rw [show ((i + 1 : Nat) : Int) = (i : Int) + 1 by omega]
      exact he2
    · have hb' : b < s.heap.objs.size := by
        rcases (show b = e ∨ b = it by simpa using hb) with z | z
        · rw [z]; exact el
        · rw [z]; exact il
      rw [upd_ne (Nat.ne_of_lt hb')]
      exact (hf b hb).1
  done := by
    intro X hP hw hK hc i pins s σ H E I hf st hg
    subst hP hw hK
    obtain ⟨⟨old, he⟩, hit, hne, hai, hea⟩ := st
    obtain ⟨xs, hq, hx⟩ := hg
    obtain ⟨its, rv, isT, hz⟩ := I.tuple hq
    obtain ⟨f0, f1, f2, f3, f4, f5⟩ := hf it (by simp)
    have hl := rv.length
    have hh : X.A.in1.in1.handled = none := I.ok.hd hc
    unfold pyNext
    have hT : s.TypeIs (.ref e) "enumerate" := ⟨_, he, rfl⟩
    refine wpAny_bind (wpAny_attempt (wpAny_callSpecial?_slot (name := Str.ofString "__next__") hT F.slot_enumerate_next (wpAny_call_entry F.slot_enumerate_next hT F.entry_enumerate_next ?_ (F.args_enumerate_next_1 _))))
    show wpAny _ _ (field (.ref e) 2 >>= _) _ _ _
    refine wpAny_bind (wpAny_field he rfl (x := .ref it) rfl ?_)
    refine wpAny_bind (wpAny_nextOf_tuple_end hh hit (show s.heap.IsTuple a its.toArray from isT) (by simp; omega) fun h' y he' hx' => ?_)
    obtain ⟨o, ho, hc'⟩ := hx'
    refine wpAny_bind (wpAny_isInstance (T := "StopIteration") (b := true) ⟨o, ho, hc'⟩ isSubtype_stop ?_)
    exact wpAny_pure ⟨rfl, I.turned (t' := s.toks) (fun b ob hb q => he' b ob hb q) f0 f1 f3 f4 f5⟩
  self := fun A i s Q E ⟨⟨_, he⟩, _⟩ h => wpAny_pyIter_enum he h
theorem walk_enumT {K : PySem.W.Frag} {a : Addr} {xs : List V} : Walk (Iue K a) xs.length (fun H => H a = some (.tup xs)) (YPair (fun i => some (.int (i : Nat))) (fun i => xs[i]?)) := by
  refine ⟨fun i H hi q => ⟨xs, xs[i], SqT.of q, by simp [hi]⟩, fun H q => ⟨xs, SqT.of q, Nat.le_refl _⟩, fun i H v H' _ q y => ?_⟩
  obtain ⟨T, x, h1, h2, h3, h4⟩ := y
  exact ⟨T, .int (i : Nat), x, h1, h2, h3, rfl, h4 xs (SqT.of q)⟩
/-- enumerate(xs), xs a list or a tuple -/
def iEnumQ (ta : TA) : TI := fun σ H R => ta σ H fun vs H1 => ∃ a xs o, vs = [.ref a] ∧ SeqO o xs ∧ H1 a = some o ∧ ∀ J, Walk J xs.length (fun H => H a = some o) (YPair (fun i => some (.int (i : Nat))) (fun i => xs[i]?)) → R J H1
theorem pi_enumQ {X : Cx} {e : PySem.Expr} {ta : TA} {p pos tpos : Pos} {elts : List PySem.Expr} {kk : Nat} (hg : Gl X "enumerate") (hm : X.mg "enumerate" = none) (ha : PA X [e] ta) (hs : starEach [e] X.env = [(false, eval e X.env)] := by rfl) :
    PI X (.Tuple elts kk tpos) (.Call (.Name "enumerate" p) [e] [] pos) (iEnumQ ta) := by
  refine ⟨fun pins s σ H R I h => Call_ (ld_blt I hg hm boot_enumerate (PyProof.Rows.callWith_type1 (thn (ha.run pos pins s σ H _ I h) fun us s1 ⟨vs, H1, I1, r1, a, xs, o, ex, so, hq, q⟩ => ?_) hs rfl))⟩
  subst ex
  cases r1 with
  | cons r rr =>
    cases rr
    cases r
    have two : ∀ {b : Addr}, b ∈ [s1.heap.objs.size + 1, s1.heap.objs.size] → s1.heap.objs.size ≤ b := fun {b} hb => by
      rcases (show b = s1.heap.objs.size + 1 ∨ b = s1.heap.objs.size by simpa using hb) with z | z
      · rw [z]; exact Nat.le_add_right _ _
      · rw [z]; exact Nat.le_refl _
    rcases so with rfl | rfl
    · obtain ⟨its, rv, p', hz⟩ := I1.list (SqL.of hq)
      refine call_enumerate_list p'.isList fun h' he hit hsz hk => wpAny_pyIter_enum he ?_
      refine ⟨_, [s1.heap.objs.size + 1, s1.heap.objs.size], _, _, H1, rfl, I1.kept (t' := s1.toks) hk, turn_enum a (s1.heap.objs.size + 1) s1.heap.objs.size, ⟨⟨.none, he⟩, hit, Nat.succ_ne_self _⟩, fun b hb => I1.fpOk (two hb) (I1.hok.fresh (two hb)), ?_⟩
      exact q _ (walk_enum.mono (fun H e => SqL.of e) fun _ _ _ _ _ _ y => y)
    · obtain ⟨its, rv, p', hz⟩ := I1.tuple (SqT.of hq)
      have al : a < s1.heap.objs.size := p'.lt
      refine enum_tup p' fun h' he hit hk => wpAny_pyIter_enum he ?_
      refine ⟨_, [s1.heap.objs.size + 1, s1.heap.objs.size], _, _, H1, rfl, I1.kept (t' := s1.toks) hk, turn_enumT a (s1.heap.objs.size + 1) s1.heap.objs.size, ⟨⟨.none, he⟩, hit, Nat.succ_ne_self _, Nat.ne_of_lt al, Nat.ne_of_gt (Nat.lt_succ_of_lt al)⟩, fun b hb => I1.fpOk (two hb) (I1.hok.fresh (two hb)), ?_⟩
      exact q _ walk_enumT
/-! ### slices of a list or a tuple -/
theorem same_upd {H : Hp} {p : Addr} {o : HO} (h : H p = none) : Same H (upd H p o) := fun b u e => by
  rw [upd_ne (ne_of_none e h)]
  exact e
theorem cut_whole {xs : List V} {lo hi : Option Int} (h : HT.sIx xs.length 0 lo = 0 ∧ HT.sIx xs.length xs.length hi = xs.length) : cutV xs lo hi = xs := by
  unfold cutV
  rw [h.1, h.2, List.drop_zero, Nat.sub_zero, List.take_length]
theorem cut_to (xs : List V) (k : Nat) : cutV xs none (some (k : Int)) = xs.take k := by
  unfold cutV
  rw [HT.sIx_none, HT.sIx_nat, List.drop_zero, Nat.sub_zero]
  by_cases h : k ≤ xs.length
  · rw [Nat.min_eq_left h]
  · rw [Nat.min_eq_right (by omega), List.take_length, List.take_of_length_le (by omega)]
theorem cut_from (xs : List V) (k : Nat) : cutV xs (some (k : Int)) none = xs.drop k := by
  unfold cutV
  rw [HT.sIx_none, HT.sIx_nat]
  by_cases h : k ≤ xs.length
  · rw [Nat.min_eq_left h, List.take_of_length_le (by rw [List.length_drop]; omega)]
  · rw [Nat.min_eq_right (by omega), List.drop_length, List.drop_eq_nil_of_le (by omega)]
    simp
theorem cut_both (xs : List V) (i j : Nat) : cutV xs (some (i : Int)) (some (j : Int)) = (xs.drop i).take (j - i) := by
  unfold cutV
  rw [HT.sIx_nat, HT.sIx_nat]
  apply List.ext_getElem?
  intro m
  rw [List.getElem?_take, List.getElem?_take, List.getElem?_drop, List.getElem?_drop]
  by_cases h : i ≤ xs.length
  · rw [Nat.min_eq_left h]
    by_cases h1 : m < j - i
    · rw [if_pos h1]
      by_cases h2 : j ≤ xs.length
      · rw [Nat.min_eq_left h2, if_pos h1]
      · by_cases h3 : i + m < xs.length
        · rw [if_pos (by omega)]
        · rw [List.getElem?_eq_none_iff.mpr (by omega)]
          split <;> rfl
    · rw [if_neg h1, if_neg (by omega)]
  · rw [if_neg (by omega), List.getElem?_eq_none_iff.mpr (show xs.length ≤ i + m by omega)]
    split <;> rfl
def rSlQ : V → Option Int → Option Int → Hp → VK → Prop := fun x lo hi H Q => ∃ a xs, x = .ref a ∧ Sq H a xs ∧ ∀ p H', Same H H' → Sq H' p (cutV xs lo hi) → Q (.ref p) H'
theorem sl_seq {X : Cx} : SlR X rSlQ := by
  intro pins s σ H x v vl vu lo hi sl Q I rx hs pl pu h
  obtain ⟨a, xs, rfl, ⟨o, so, ha⟩, q⟩ := h
  rcases so with rfl | rfl
  · exact sl_list pins s σ H _ v vl vu lo hi sl Q I rx hs pl pu ⟨a, xs, rfl, SqL.of ha, fun p hp => q p _ (same_upd hp) (Sq.lst upd_same)⟩
  · refine sl_tupA pins s σ H _ v vl vu lo hi sl Q I rx hs pl pu ⟨a, xs, rfl, SqT.of ha, fun hw => ?_, fun _ p hp => q p _ (same_upd hp) (Sq.tup upd_same)⟩
    refine q a H (Same.refl H) (Sq.tup ?_)
    rw [cut_whole hw]
    exact ha
/-! ### a slice of a list stored -/
section
variable {prog : Program} {w : World} {A : Around} {E : Value → Shared → Prop} {s : Shared}
theorem put_slice {l b sl : Addr} {items new : Array Value} {n n2 : Nat} {vl vu : Value} {lo hi : Option Int} {a c : Nat} {Q : Unit → Shared → Prop}
    (e : s.heap.get? l = some { cls := .type "list", data := .seq items n }) (e2 : s.heap.get? b = some { cls := .type "list", data := .seq new n2 }) (hne : l ≠ b)
    (hs : s.heap.IsSliceOf sl vl vu .none) (pl : IsPart vl lo) (pu : IsPart vu hi) (hb : sliceBounds lo hi none items.size = ((a : Int), (c : Int), 1)) (hac : a ≤ c)
    (hsz : items.size + new.size ≤ sizeLine) (hQ : Q () { s with heap := s.heap.update l (Obj.mapSeq fun xs => xs.extract 0 a ++ new ++ xs.extract c xs.size) }) :
    wpAny (model prog w) A (setItem (.ref l) (.ref sl) (.ref b)) Q E s := by
  have isL : s.heap.IsList l items := PySem.IsL.isList e
  have isB : s.heap.IsList b new := PySem.IsL.isList e2
  obtain ⟨os, h1, h2, h3⟩ := id hs
  have isS : s.TypeIs (.ref sl) "slice" := ⟨os, h1, h2⟩
  have no0 : ¬ ((rawPart none == rawInt 0) = true) := Bool.false_ne_true
  have other : Builtin.List.listSameRef (.ref l) (.ref b) = false := beq_eq_false_iff_ne.mpr hne
  have top : (max (a : Int) (c : Int)).toNat = c := by omega
  have fits : ((fun xs : Array Value => xs.extract 0 a ++ new ++ xs.extract c xs.size) items).size ≤ sizeLine + 1 := by
    simp only [Array.size_append, Array.size_extract]
    omega
  unfold setItem
  try with_reducible refine wpAny_holding ?_
  first | refine wpAny_bind (wpAny_pure ?_) | skip
  refine wpAny_bind (wpAny_sequenceKey isL.typeIs (by decide) ?_)
  refine wpAny_bind (wpAny_callSpecial?_slot (name := Str.ofString "__setitem__") isL.typeIs slot_list_setitem (wpAny_call_entry slot_list_setitem isL.typeIs entry_list_setitem ?_ (args_list_setitem _ _ _)))
  show wpAny _ _ (Builtin.List.listSubscript? (.ref sl) >>= _) _ _ s
  refine wpAny_bind ?_
  unfold Builtin.List.listSubscript?
  refine wpAny_bind (wpAny_specialOf isS slice_no_index ?_)
  simp only [Option.isNone_none, if_true]
  refine wpAny_pure ?_
  show wpAny _ _ (typeOf (.ref sl) >>= _) _ _ s
  refine wpAny_bind (wpAny_typeOf isS ?_)
  first
    | rw [if_neg (by decide)]
    | refine PySem.W.KFB.if_not (by decide) ?_
  rw [listSliceParts_eq]
  refine wpAny_bind (wpAny_bind (wpAny_field h1 h3 (x := .none) rfl (wpAny_bind (wpAny_listPart .none ?_))))
  rw [if_neg no0]
  refine wpAny_bind (wpAny_field h1 h3 (x := vl) rfl (wpAny_bind (wpAny_listPart pl ?_)))
  refine wpAny_bind (wpAny_field h1 h3 (x := vu) rfl (wpAny_bind (wpAny_listPart pu (wpAny_pure ?_))))
  first
    | simp only [other, Bool.false_eq_true, if_false]
    | refine PySem.W.KFB.if_not other ?_
  refine wpAny_bind (m := Builtin.List.listAllItems (.ref b) "must assign iterable to extended slice") ?_
  unfold Builtin.List.listAllItems
  refine wpAny_bind (wpAny_typeOf isB.typeIs ?_)
  first
    | refine PySem.W.KFB.if_so (by decide) ?_
    | simp only [beq_self_eq_true, Bool.true_or, if_true]
  unfold Builtin.List.listItems
  refine wpAny_bind (wpAny_seqItems e2 rfl (wpAny_pure ?_))
  refine wpAny_bind (wpAny_bind (wpAny_seqItems e rfl (wpAny_pure ?_)))
  refine wpAny_bind (wpAny_of_eq ((sliceIndices_raw lo hi none items.size (by simp)).trans (congrArg (pure : Int × Int × Int → Sem (Int × Int × Int)) hb)) ?_)
  show wpAny _ _ (if ((1 : Int) == 1) = true then _ else _) _ _ s
  rw [if_pos (show ((1 : Int) == 1) = true by decide)]
  refine wpAny_bind (wpAny_rule ?_)
  first
    | simp only [notLongL hsz, Bool.false_eq_true, if_false]
    | refine PySem.W.KFB.if_not (notLongL hsz) ?_
  first | refine wpAny_bind (wpAny_pure ?_) | skip
  show wpAny _ _ (updateSeq l (fun xs => xs.extract 0 ((a : Int)).toNat ++ new ++ xs.extract (max (a : Int) (c : Int)).toNat xs.size) >>= _) _ _ s
  rw [top, Int.toNat_natCast]
  refine wpAny_bind (wpAny_updateSeq (hz := Nat.le_trans (Nat.le_add_right _ _) hsz) (_hz' := fits) e rfl ?_)
  refine wpAny_bind (wpAny_letGo ?_)
  first
    | exact wpAny_bind (wpAny_pure (wpAny_pure ⟨.none, rfl, wpAny_pure hQ⟩))
    | exact wpAny_pure ⟨.none, rfl, wpAny_pure hQ⟩
theorem bounds_to {c n : Nat} (hc : c ≤ n) : sliceBounds none (some (c : Int)) none n = (((0 : Nat) : Int), (c : Int), 1) := by
  simp only [sliceBounds, Option.getD_none]
  have h2 : ¬ ((c : Int) < 0) := by omega
  simp only [h2, if_false, show (1 : Int) > 0 by decide, if_true]
  congr 1
  congr 1
  omega
end
/-- what a written slice means over n items -/
def Bnds (lo hi : Option Int) (n a c : Nat) : Prop := sliceBounds lo hi none n = ((a : Int), (c : Int), 1) ∧ a ≤ c
def gSlice (to : TE) (tl th : TO) : TG := fun v σ H Q => to σ H fun x H1 => tl σ H1 fun lo H2 => th σ H2 fun hi H3 => ∃ l b xs ys a c, x = .ref l ∧ v = .ref b ∧ H3 l = some (.lst xs) ∧ H3 b = some (.lst ys) ∧ l ≠ b ∧
  Bnds lo hi xs.length a c ∧ xs.length + ys.length ≤ sizeLine ∧ Q σ (upd H3 l (.lst (xs.take a ++ ys ++ xs.drop c)))
theorem pg_slice {X : Cx} {o : PySem.Expr} {lo hi : Option PySem.Expr} {to : TE} {tl th : TO} {p2 pos : Pos} (ho : PE X o to) (hl : PO X lo tl) (hu : PO X hi th)
    (ha : ∀ v, assign (.Subscript o (.Slice lo hi none p2) pos) X.env v = (do
      let ov ← holding [v] (eval o X.env)
      let iv ← holding [v, ov] (eval (.Slice lo hi none p2) X.env)
      standAt pos
      holding [v, ov, iv] (setItem ov iv v)
      release [iv, v, ov] []) := by intro _; rfl) : PG X (.Subscript o (.Slice lo hi none p2) pos) (gSlice to tl th) := by
  refine ⟨fun pins s σ H v u Q I r h => ?_⟩
  rw [ha]
  refine wpAny_bind (wpAny_holding (thn (ho.run pins s σ H _ I h) fun ov s1 ⟨x, H1, I1, r1, q1⟩ => ?_))
  refine wpAny_bind (wpAny_holding (wpAny_Slice (thn (hl.run pins s1 σ H1 _ I1 q1) fun vl s2 ⟨l0, H2, I2, pl, q2⟩ => thn (hu.run pins s2 σ H2 _ I2 q2) fun vu s3 ⟨u0, H3, I3, pu, q3⟩ => ?_)))
  rw [evalPart_none]
  refine wpAny_pure ?_
  obtain ⟨l, b, xs, ys, a, c, rfl, rfl, el, eb, ne, ⟨hb, hac⟩, hz, q⟩ := q3
  cases r
  cases r1
  have J : Inv X pins σ H3 { s3 with heap := s3.heap.push { cls := .type "slice", data := .fields #[vl, vu, .none] } } := I3.kept (t' := s3.toks) fun b ob q => Heap.get?_push_of_some _ q
  obtain ⟨z, its, n, rv, hlen, e⟩ := J.lstM el
  obtain ⟨z2, its2, n2, rv2, hlen2, e2⟩ := J.lstM eb
  refine wpAny_bind (wpAny_standAt (wpAny_bind (wpAny_holding ?_)))
  refine put_slice (a := a) (c := c) e e2 ne (Heap.IsSliceOf.new ..) pl pu (by rw [List.size_toArray, ← hlen]; exact hb) hac (by rw [List.size_toArray, List.size_toArray]; omega) ?_
  refine wpAny_release ⟨σ, _, J.lset (its' := its.take a ++ its2 ++ its.drop c) (t' := s3.toks) el e ?_ (Vals.append (Vals.append (rv.take _) rv2) (rv.drop _)) ?_, q⟩
  · exact splice_eq its its2 a c
  · rw [List.length_append, List.length_append, List.length_take, List.length_drop]
    omega
end T87
namespace T87
open PySem PySem.Spec PyProof.Rows L2
/-! ### a != b of an own class that has __eq__ alone -/
section
variable {X : Cx} {CX : CXT} {n : Nat} {C f : Addr} {fd : FuncData} {ps : List Str} {R : Addr → Addr → Hp → Prop} {EX : XK}
theorem own_eq_call (F : FnOk X.prog X.w X.K X.mg X.base CX n f fd ps (spEq R)) (hb : Binds X.K fd ps []) (hx : Passes CX X EX) {A : Around} (sb : Sub X n A)
    {pins : List (Addr × Obj)} {s : Shared} {σ : L2.St} {H : Hp} {a b : Addr} (I : Inv X pins σ H s) (hr : R a b H) :
    wpAny (model X.prog X.w) A (call (.ref f) [.ref a, .ref b]) (fun v s' => v = .bool true ∧ ∃ H', Inv X pins σ H' s' ∧ Ext H H') X.xe s := by
  have hsp : spEq R [.ref a, .ref b] H (fun v H' => v = .bl true ∧ Ext H H') EX := ⟨a, b, rfl, hr, fun H' e => ⟨rfl, e⟩⟩
  have e0 : Env0 X.prog X.w X.K X.mg X.base A X.stack s H := by
    have e := I.env0
    exact ⟨by rw [sb.fr]; exact e.frames, e.mod, e.bs, e.bsz, e.funs, e.frf, e.hok, e.bare⟩
  have hl := F.len _ _ _ _ hsp
  refine wpAny_call (codeAny_mono (F.run A X.stack s H ⟨[.ref a, .ref b], []⟩ [.ref a, .ref b] [.ref a, .ref b] _ EX sb.room e0 (by
    have q := hb s [.ref a, .ref b] I.kIn (by simpa using hl)
    simpa using q) (.cons rfl (.cons rfl .nil)) hsp) fun r s' hq => ?_)
  cases r with
  | error e => exact hx pins σ H s e s' I hq
  | ok fl =>
    cases fl with
    | ret w =>
      obtain ⟨z, H', I', rz, ez, ex⟩ := I.after hq
      subst ez
      cases rz
      exact ⟨rfl, H', I', ex⟩
    | next => exact False.elim hq
    | brk => exact False.elim hq
    | cont => exact False.elim hq
/-- what a != b asks: two instances, R of them -/
def rNeI (C : Addr) (R : Addr → Addr → Hp → Prop) : R2 := fun x y H Q => DIns C R x y H ∧ ∀ H', Ext H H' → Q (.bl false) H'
theorem op_neI (F : FnOk X.prog X.w X.K X.mg X.base CX n f fd ps (spEq R)) (hb : Binds X.K fd ps []) (hx : Passes CX X EX) (hr : Room (n + 1) X.A)
    (hne : PySem.W.findIn X.K (.ref C) "__ne__" = some (some (.builtin "object.__ne__"))) (heq : PySem.W.findIn X.K (.ref C) "__eq__" = some (some (.ref f))) (hf : PySem.W.isFn X.K (.ref f) = true)
    (hm : PySem.W.mroIn X.K C (.type "object") = some true) : OpR X (compareOp .NotEq) (rNeI C R) := by
  intro pins s σ H x y v u Q I rx ry h
  obtain ⟨⟨a, b, dx, dy, fs, gs, rfl, rfl, ha, hb', hR⟩, q⟩ := h
  cases rx
  cases ry
  obtain ⟨mA, Ja, _⟩ := ins_get I.hok ha
  obtain ⟨mB, Jb, _⟩ := ins_get I.hok hb'
  obtain ⟨od, Ja, _⟩ := Ja.look
  obtain ⟨od', Jb, _⟩ := Jb.look
  have KX := I.kIn
  have sub : Sub X n X.A.in1 := ⟨hr.in1, rfl⟩
  have body : wpAny (model X.prog X.w) X.A.in1 (Builtin.«object.__ne__» ⟨[.ref a, .ref b], []⟩) (fun fin s' => fin = .done (.ret (.bool false)) ∧ ∃ H', Inv X pins σ H' s' ∧ Ext H H') X.xe s := by
    unfold Builtin.«object.__ne__»
    have go : ∀ {Q' : Option Value → Shared → Prop}, (∀ s' H', Inv X pins σ H' s' → Ext H H' → Q' (some (.bool true)) s') → wpAny (model X.prog X.w) X.A.in1 (callSpecialIfBound? (.ref a) "__eq__" [.ref b]) Q' X.xe s := fun {Q'} k =>
      PySem.W.ifBound_K KX Ja heq hf (wpAny_mono (own_eq_call F hb hx sub I hR) (fun v s' ⟨ev, H', I', e⟩ => by subst ev; exact k s' H' I' e) fun _ _ z => z)
    have hu : X.A.in1.units < cLine := sub.room.units0
    repeat (first | with_reducible refine wpAny_cRoomFor hu ?_ | (with_reducible refine go ?_; intro s' H' I' e) | wp_step)
    exact ⟨rfl, H', I', e⟩
  have slotcall : wpAny (model X.prog X.w) X.A (call (.builtin "object.__ne__") [.ref a, .ref b]) (fun v s' => v = .bool false ∧ ∃ H', Inv X pins σ H' s' ∧ Ext H H') X.xe s := by
    refine wpAny_call (codeAny_call_builtin PySem.F.cmp_object.ne.plain PySem.F.cmpEntry_ne (PySem.W.check_slot PySem.F.cmpKind_ne PySem.F.cmpSplit_ne (Ja.type.andThen (PySem.W.looks_mroIn KX hm)) (PySem.F.cmpArgs_ne _ _) ?_))
    refine wpAny_mono body (fun fin s' ⟨ef, k⟩ => ?_) fun _ _ z => z
    subst ef
    exact ⟨rfl, k⟩
  have one : wpAny (model X.prog X.w) X.A (tryCompare (.ref a) "__ne__" (.ref b)) (fun r s' => r = some (.bool false) ∧ ∃ H', Inv X pins σ H' s' ∧ Ext H H') X.xe s := by
    unfold tryCompare
    refine wpAny_bind ?_
    simp only [callSpecialIfBound?, bindSpecialIfBound?]
    refine wpAny_holding (wpAny_bind (wpAny_bind (wpAny_bind (Ja.type.here ((PySem.W.looks_findIn KX hne).here ?_)))))
    refine wpAny_bind (wpAny_askSetting (wpAny_ite ?_))
    have fin : wpAny (model X.prog X.w) X.A (call (.builtin "object.__ne__") ([.ref a] ++ [.ref b]) >>= fun v => pure (some v)) (fun r s' => wpAny (model X.prog X.w) X.A (match r with | some .notImplemented | none => pure none | some v => pure (some v)) (fun r s' => r = some (.bool false) ∧ ∃ H', Inv X pins σ H' s' ∧ Ext H H') X.xe s') X.xe s :=
      wpAny_bind (wpAny_mono slotcall (fun v s' ⟨ev, k⟩ => by subst ev; exact wpAny_pure (wpAny_pure ⟨rfl, k⟩)) fun _ _ z => z)
    rw [PySem.F.cmp_object.ne.bind]
    split
    · exact wpAny_bind (wpAny_pure (wpAny_pure (by exact fin)))
    · exact wpAny_tryCatch (wpAny_bind (wpAny_pure (wpAny_pure (by exact fin))))
  show wpAny (model X.prog X.w) X.A (richCompare .NotEq (.ref a) (.ref b)) (EP X pins σ Q) X.xe s
  unfold richCompare
  simp only [oneThing_ref]
  refine wpAny_holding (wpAny_bind (wpAny_cRoomFor hr.units0 (wpAny_bind (Ja.type.here (wpAny_bind (Jb.type.here ?_))))))
  rw [if_neg (show ¬ (Value.ref C != Value.ref C) = true by simp)]
  refine wpAny_bind (wpAny_pure ?_)
  simp only [Bool.false_eq_true, if_false]
  refine wpAny_bind (wpAny_mono one (fun r s' ⟨er, H', I', e⟩ => ?_) fun _ _ z => z)
  subst er
  exact wpAny_pure ⟨.bl false, H', I', rfl, q H' e⟩
end
/-! ### a list of the module or the script, + a new list -/
def rCatS (K : PySem.W.Frag) : R2 := fun x y H Q => ∃ l b xs zs, x = .ref l ∧ y = .ref b ∧ SqL K H l xs ∧ H b = some (.lst zs) ∧ xs.length + zs.length ≤ sizeLine ∧ ∀ p, H p = none → Q (.ref p) (upd H p (.lst (xs ++ zs)))
end T87
namespace T87
open PySem PySem.Spec PyProof.Rows L2 LamX NdefX
section
variable {X : Cx}
/-- a list, the script too, + a new list -/
theorem op_catS : OpR X (binaryOp .Add) (rCatS X.K) := by
  intro pins s σ H x y v u Q I rx ry h
  obtain ⟨l, b, xs, zs, rfl, rfl, hH, hB, hz, q⟩ := h
  cases rx
  cases ry
  obtain ⟨its, r, ⟨⟨cls, dd, data, sl⟩, n, e, hc, hdd, hd⟩, hn⟩ := I.list hH
  obtain ⟨z2, its2, n2, r2, hl2, e2⟩ := I.lstM hB
  simp only at hc hd
  subst hc hd
  have hlen := r.length
  have ea : its.toArray ++ its2.toArray = (its ++ its2).toArray := by simp
  refine concat_meets ⟨_, e, rfl⟩ ⟨_, e2, rfl⟩ noFill_list_add seq_list_add PySem.F.slot_list_add PySem.F.entry_list_add (PySem.F.args_list_add_2 _ _)
    (list_addW l b its.toArray its2.toArray n n2 dd none sl #[] (by rw [List.size_toArray, List.size_toArray]; omega)) ⟨e, e2, ?_⟩
  rw [ea]
  exact ⟨.ref _, _, I.lnew (t' := s.toks) (r.append r2) (by rw [List.length_append]; omega), rfl, q _ I.fresh⟩
end
/-! ### f(k = v, ..) -/
section
variable {X : Cx} {CX : CXT} {k : Nat} {f : Addr} {fd : FuncData} {ps ks : List Str} {sp : Sp} {E : XK} {x : Str} {p pos : Pos} {kws : List Keyword} {tk : TA} {g : List Value → List Value → List Value} {gV : List V → List V → List V}
theorem pe_callK0 (F : FnOk X.prog X.w X.K X.mg X.base CX k f fd ps sp) (hr : Room k X.A) (hg : Gl X x) (hm : X.mg x = some (.ref f)) (hk : PySem.W.keepIn X.K (.ref f) = true) (hb : KBinds X.K fd ps ks g gV) (hx : Passes CX X E) (hkw : PK X kws tk)
    (hall : (backToKw pos (keywordEach kws X.env)).all (·.1.isSome) = true := by rfl) (hks : (backToKw pos (keywordEach kws X.env)).filterMap (·.1) = ks := by rfl) (hdb : (x == ("__debug__" : Str)) = false := by decide)
    (hpl : ((backTo pos (starEach [] X.env)).any (·.1) || (backToKw pos (keywordEach kws X.env)).any (·.1.isNone)) = false := by rfl) :
    PE X (.Call (.Name x p) [] kws pos) (tCallK sp gV E tNil tk) := by
  refine ⟨fun pins s σ H Q I h => wpAny_Call_Name_kw (ld_glob I hg hm (PySem.W.callWith_KW0 (h₀ := X.base) I.ok.mod.kin hk hall ?_ hpl) hdb)⟩
  refine thn (hkw.run pos pins s σ H _ I h) fun ws s2 ⟨zs, H2, J, rz, q⟩ => ⟨J.kIn, ?_⟩
  rw [hks]
  exact run_fnk (us := []) F hr hb hx J .nil rz q
end
/-! ### a lambda of one parameter, handed to a def and called there -/
section
variable {P : Program} {w : World} {K : PySem.W.Frag} {mg : Str → Option Value} {base : Heap}
/-- the lambda's words -/
abbrev lamNF (q : Str) (params : Arguments) (scope : Scope) (cl : List (Str × Addr)) (c' : Addr) : NF := ⟨"<lambda>", q, params, [], scope, cl, c'⟩
/-- the lambda at f0 is called with one value -/
theorem lam_run {N fr : List Str} {a q : Str} {params : Arguments} {body : PySem.Expr} {scope : Scope} {cl : List (Str × Addr)} {pm ctv : Value} {c' f0 : Addr} {k : Nat} {ws : List (Option V)} {sp : V → Hp → VK → Prop}
    (S : NScope N [a] fr scope) (hbind : ∀ u : Value, bindArgs (PySem.W.kla_fn "<lambda>" q params body scope cl pm (.ref c') ctv) ⟨[u], []⟩ = pure [(a, u)])
    (hbody : ∀ (A : Around) (outer : List Env) (s : Shared) (H : Hp) (v : V) (Q : VK), Room k (A.deeper (envF (lamNF q params scope cl c') f0 s.heap.objs.size)) → sp v H Q →
      ∃ tb, PE (ncx CX0 P w K mg base N (lamNF q params scope cl c') f0 A outer s H E0).nox body tb ∧ tb (startF N [v] ws) H Q)
    {A : Around} {outer : List Env} {s : Shared} {H : Hp} {v : V} {u : Value} {Q : VK} (hr : Room (k + 1) A) (e0 : Env0 P w K mg base A outer s H)
    (hf : s.heap.get? f0 = some (PySem.W.kla_obj "<lambda>" q params body scope cl pm c' ctv)) (hc : H c' = some (CodeO c' q)) (C : CellsAt cl fr ws s.heap H) (r : L2.RelV v u) (h : sp v H Q) :
    codeAny (model P w) A (.call (.ref f0) ⟨[u], []⟩) (CR CX0 outer P w H s Q E0) s := by
  have lim : s.heap.NoLimit := e0.mod.nolimit.keeps fun b o e => (e0.bs b o e).1
  refine PySem.W.kla_callFunE hr.depth hf rfl S.co S.gen rfl (codeO_at e0.hok hc) ?_
  rw [hbind u]
  refine wpAny_pure (wpAny_newFunctionEnv S.nocell (fun y hy => ?_) (fun h₁ hns hsb => ⟨lim.fresh _ hsb, ?_⟩) S.kind)
  · have ey := List.mem_singleton.mp hy
    rw [ey]
    exact S.par a (List.mem_cons_self ..)
  show codeAny _ _ (.expr body (envF (lamNF q params scope cl c') f0 s.heap.objs.size)) _ _
  have kp : ∀ b o, s.heap.get? b = some o → h₁.get? b = some o := fun b o e => hsb.extBut b o (Nat.ne_of_lt (Heap.lt_size e)) (Heap.get?_push_of_some _ e)
  obtain ⟨tb, ht, hq⟩ := hbody A outer s H v Q (hr.deeper _) h
  have I : Inv (ncx CX0 P w K mg base N (lamNF q params scope cl c') f0 A outer s H E0) [] (startF N [v] ws) H { s with heap := h₁, toks := s.toks + ([a].zip [u]).length } := inv_startN S hr.hd e0 rfl (.cons r .nil) C hns kp
  refine PySem.W.kla_codeExpr (wpAny_mono (ht.nox.run [] _ _ H Q I hq) (fun z s' hs => ?_) fun e s' hs => hs)
  obtain ⟨y, H', J, rv, q'⟩ := hs
  exact ⟨y, H', J.os, J.bare, J.base, J.hok, rv, q'⟩
end
section
variable {Z : Cx} {pins : List (Addr × Obj)} {σ : L2.St} {H : Hp} {s : Shared}
def one1 (R : V → Hp → Prop) : List V → Hp → Prop
  | [v], H => R v H
  | _, _ => False
/-- a(e), a a name that holds the lambda -/
def tAct (i : Nat) (f0 c' : Addr) (q : Str) (sp : V → Hp → VK → Prop) (t : TE) : TE := fun σ H Q => σ[i]? = some (some (.ref f0)) ∧ t σ H fun v H1 => H1 c' = some (CodeO c' q) ∧ sp v H1 Q
theorem pe_act1 {N fr : List Str} {a b q : Str} {params : Arguments} {body e : PySem.Expr} {scope : Scope} {cl : List (Str × Addr)} {pm ctv : Value} {c' f0 : Addr} {k i : Nat} {ws : List (Option V)} {sp : V → Hp → VK → Prop} {t : TE} {p1 p2 : Pos}
    (S : NScope N [a] fr scope) (hbind : ∀ u : Value, bindArgs (PySem.W.kla_fn "<lambda>" q params body scope cl pm (.ref c') ctv) ⟨[u], []⟩ = pure [(a, u)])
    (hbody : ∀ (A : Around) (outer : List Env) (s : Shared) (H : Hp) (v : V) (Q : VK), Room k (A.deeper (envF (lamNF q params scope cl c') f0 s.heap.objs.size)) → sp v H Q →
      ∃ tb, PE (ncx CX0 Z.prog Z.w Z.K Z.mg Z.base N (lamNF q params scope cl c') f0 A outer s H E0).nox body tb ∧ tb (startF N [v] ws) H Q)
    (hr : Room (k + 1) Z.A) (hex : Z.ex = [])
    (hf : Z.s_0.heap.get? f0 = some (PySem.W.kla_obj "<lambda>" q params body scope cl pm c' ctv)) (hfn : Z.H_0 f0 = none) (hfr : f0 ∉ Z.fs) (C : CellsAt cl fr ws Z.s_0.heap Z.H_0) (hcf : ∀ y c, cl.lookup y = some c → c ∉ Z.fs)
    (he : PE Z e t) (hN : Z.N[i]? = some b) (hv : Vis Z.env.scope b) (hd : (b == ("__debug__" : Str)) = false := by decide) (hcd : (b == ("__classdict__" : Str)) = false := by decide)
    (hst : starEach [e] Z.env = (false, eval e Z.env) :: starEach [] Z.env := by rfl) (hpl : (backTo p2 (starEach [] Z.env)).any (·.1) = false := by rfl) (hst1 : starEach [e] Z.env = [(false, eval e Z.env)] := by rfl) :
    PE Z (.Call (.Name b p1) [e] [] p2) (tAct i f0 c' q sp t) := by
  refine ⟨fun pins s σ H Q I h => ?_⟩
  obtain ⟨hs, ht⟩ := h
  have noex : ∀ c : Addr, c ∉ Z.ex := fun c z => by rw [hex] at z; cases z
  have at_ : ∀ {s1 : Shared} {H1 : Hp} {σ1 : L2.St}, Inv Z pins σ1 H1 s1 → s1.heap.get? f0 = some (PySem.W.kla_obj "<lambda>" q params body scope cl pm c' ctv) := fun {s1 H1 σ1} I1 => I1.base.keep f0 _ hf hfn hfr (noex _)
  refine wpAny_Call_Name_kw (thn ((pe_var (pos := p1) (i := i) hN hv hd hcd).run pins s σ H (fun v H1 => v = .ref f0 ∧ H1 = H) I ⟨.ref f0, hs, rfl, rfl⟩) fun u s1 ⟨v, H1, I1, r1, ev, eH⟩ => ?_)
  subst ev
  rw [eH] at I1
  obtain rfl : u = Value.ref f0 := r1
  refine PySem.W.callWith_F (first := []) ⟨_, _, _, _, at_ I1⟩ (thn ((pa_cons he pa_nil hst).run p2 pins s1 σ H (one1 fun v H1 => H1 c' = some (CodeO c' q) ∧ sp v H1 Q) I1 ht) fun us s2 ⟨vs, H2, I2, r, q2⟩ => ⟨⟨_, _, _, _, at_ I2⟩, ?_⟩) hst hpl
  show wpAny _ _ (call (.ref f0) us) _ _ _
  obtain ⟨v, u, rfl, rfl, rv, hc, hsp⟩ : ∃ v u, vs = [v] ∧ us = [u] ∧ L2.RelV v u ∧ H2 c' = some (CodeO c' q) ∧ sp v H2 Q := by
    cases r with
    | nil => exact q2.elim
    | cons r rr =>
      cases rr with
      | nil => exact ⟨_, _, rfl, rfl, r, q2.1, q2.2⟩
      | cons _ _ => exact q2.elim
  refine wpAny_call (codeAny_mono (lam_run S hbind hbody hr I2.env0 (at_ I2) hc (C.later hcf (fun y c _ => noex c) I2) rv hsp) fun r s' hq => ?_)
  cases r with
  | error e => exact False.elim hq
  | ok fl =>
    cases fl with
    | ret u => exact I2.after hq
    | next => exact False.elim hq
    | brk => exact False.elim hq
    | cont => exact False.elim hq
end
/-- what the callee makes of the lambda: ask says what a call of it does -/
def tLam2 (T : List (Addr × Str)) (q : Str) (TT : Addr → Addr → V → Hp → VK → Prop) (t0 : TE) : TE := fun σ H Q => t0 σ H fun v0 H1 => Tabs T H1 ∧ ∀ f0 c' H2, ExtN H1 H2 → Tabs T H2 → H2 c' = some (CodeO c' q) → TT f0 c' v0 H2 Q
section
variable {X : Cx}
theorem pe_lam2 {T : List (Addr × Str)} {TT : List (Option V) → Addr → Addr → V → Hp → VK → Prop} {x : Str} {g c P : Addr} {k : Nat} {pg : Arguments} {bg : List Stmt} {sg : Scope} {dV kV doc pm cdv ct oc : Value} {an od : Option Addr} {osl : Array (Option Value)} {Ng N fr : List Str} {a0 a1 ap : Str} {js : List Nat}
    {params : Arguments} {body e0 : PySem.Expr} {scope : Scope} {t0 : TE} {spL : List (Option V) → V → Hp → VK → Prop} {p lpos pos : Pos} (hg : Gl X x) (hm : X.mg x = some (.ref g)) (hk : PySem.W.keepIn X.K (.ref g) = true)
    (lk : X.K.lookup g = some ⟨oc, od, .func (PySem.W.fnOf x x pg bg sg dV kV doc pm an cdv ct), osl⟩) (hcg : PySem.W.codeIn X.K cdv x = true) (hb : L2.Binds X.K (PySem.W.fnOf x x pg bg sg dV kV doc pm an cdv ct) [a0, a1] []) (Sg : FnScope Ng [a0, a1] sg)
    (hG : ∀ (f0 c' : Addr) (cl : List (Str × Addr)) (pml ctv : Value) (ws : List (Option V)) (s : Shared) (H : Hp) (v0 : V) (Q : VK), s.heap.get? f0 = some (PySem.W.kla_obj "<lambda>" (X.env.qual ++ "<lambda>") params body scope cl pml c' ctv) → H f0 = none → f0 ∉ frs X.stack → CellsAt cl fr ws s.heap H → (∀ y c, cl.lookup y = some c → c ∉ frs X.stack) →
      Room (k + 1) (X.A.deeper (envOfC x sg s.heap.objs.size g cdv)) → TT ws f0 c' v0 H Q →
      ∃ t, PSs (cxOf CX0 X.prog X.w X.K X.mg X.base Ng x sg g cdv X.A X.stack s H E0).nox bg t ∧ t { nx := fun _ H' => Q .non H', rt := Q } (start Ng [v0, .ref f0]) H)
    (TB : TabB X.base X.mg c P) (hcode : X.env.code = .ref c) (hmT : (P, X.env.qual ++ "<lambda>") ∈ T) (hu : ∀ p ∈ T, p.1 = P → p.2 = X.env.qual ++ "<lambda>") (hr : Room (k + 2) X.A)
    (hfree : ∀ y ∈ scope.names, y.2 = .free → X.env.scope.names.lookup y.1 = some .cell ∨ X.env.scope.names.lookup y.1 = some .free) (hfr : ∀ y ∈ fr, (y, NameKind.free) ∈ scope.names) (hjs : js.map (fun j => X.N[j]?) = fr.map some)
    (hdef : defaultsOf params X.env = ([], [])) (he : PE X e0 t0) (hfn0 : ∀ y, X.fn y = true)
    (hdb : (x == ("__debug__" : Str)) = false := by decide) (hst : starEach [e0, .Lambda params body scope lpos] X.env = (false, eval e0 X.env) :: starEach [.Lambda params body scope lpos] X.env := by rfl)
    (hst1 : starEach [.Lambda params body scope lpos] X.env = [(false, eval (.Lambda params body scope lpos) X.env)] := by rfl) :
    PE X (.Call (.Name x p) [e0, .Lambda params body scope lpos] [] pos) (fun σ H Q => tLam2 T (X.env.qual ++ "<lambda>") (TT (js.map (slotAt σ))) t0 σ H Q) := by
  refine ⟨fun pins s σ H Q I h => wpAny_Call_Name_kw (ld_glob I hg hm (PySem.W.callWith_K (h₀ := X.base) I.ok.mod.kin hk ?_ hst (by rw [hst1]; rfl)) hdb)⟩
  rw [hst, hst1]
  show wpAny _ _ (spliced ((false, eval e0 X.env) :: backTo pos [(false, eval (.Lambda params body scope lpos) X.env)])) _ _ s
  refine Calls.spliced_cons (thn (he.run pins s σ H _ I h) fun u0 s1 ⟨v0, H1, I1, r0, hT, h1⟩ => ?_)
  have hfr' : ∀ y ∈ scope.names, y.2 = .free → ∃ c, X.env.cells.lookup y.1 = some c := fun y hy e => (hfree y hy e).elim (fun z => I.ok.has _ (.inl z)) fun z => I.ok.has _ (.inr z)
  show wpAny _ _ (spliced ((false, eval (.Lambda params body scope lpos) X.env) :: backTo pos [])) _ _ s1
  refine Calls.spliced_cons (lam_make2 I1 TB hcode hmT hu hT hdef hfr' fun f0 c' pml ctv H2 s2 I2 eN T2 hf hfn hff hco => ?_)
  refine Calls.spliced_nil ⟨I2.kIn, ?_⟩
  have CC : CellsAt (cloFrom X.env.cells scope.names []) fr (js.map (slotAt σ)) s2.heap H2 := cells_of I2 (Caps.made I2.ok hfree hfr hjs)
  have cne : ∀ y c, (cloFrom X.env.cells scope.names []).lookup y = some c → c ∉ frs X.stack := fun y c e z => by
    have e2 := clo_cm hfr' e
    rcases List.mem_cons.mp (I2.stkSub c z) with q | q
    · exact I2.cne y c e2 q
    · obtain ⟨_, o, ho, _⟩ := I2.ok.funs.mem q
      exact Nat.lt_irrefl _ (Nat.lt_of_lt_of_le (Heap.lt_size ho) (I2.ok.cab y c (hfn0 y) e2))
  have rc : codeAny (model X.prog X.w) X.A (.call (.ref g) ⟨[u0, .ref f0], []⟩) (CR CX0 X.stack X.prog X.w H2 s2 Q E0) s2 := by
    refine run_ofS (N := Ng) (ps := [a0, a1]) (us := [u0, .ref f0]) (vs := [v0, .ref f0]) lk hcg Sg hr I2.env0 (hb s2 [u0, .ref f0] I2.kIn rfl) (.cons r0 (.cons rfl .nil)) rfl fun hr' => ?_
    obtain ⟨t', ht', hq'⟩ := hG f0 c' _ pml ctv (js.map (slotAt σ)) s2 H2 v0 Q hf hfn hff CC cne hr' (h1 f0 c' H2 eN T2 hco)
    exact ⟨t', ht'.nox, hq'⟩
  refine wpAny_call (codeAny_mono rc fun r s3 hq => ?_)
  cases r with
  | error e => exact False.elim hq
  | ok fl =>
    cases fl with
    | ret u => exact I2.after hq
    | next => exact False.elim hq
    | brk => exact False.elim hq
    | cont => exact False.elim hq
end
end T87
namespace T87
open PySem PySem.Spec PyProof.Rows L2
/-! ### what the head tells, by names (printed by mkhd.py) -/
structure Tx (K : PySem.W.Frag) (mg : Str → Option Value) : Prop where
  d : He.SaysD faAll fnAll K
  ex : exAll K = true
  h : ∃ h : Heap, K.In h ∧ h.Ns mainGlobals mg
section
variable {K : PySem.W.Frag} {mg : Str → Option Value} (T : Tx K mg)
include T
theorem Tx.glo {x : Str} (c : (He.Fa.glo x).ok K = true) : mg x = some (.ref (He.ga K x)) := let ⟨_, X, G⟩ := T.h; He.glo_ok X G c
theorem Tx.free {x : Str} (c : (He.Fa.free x).ok K = true) : mg x = none := let ⟨_, X, G⟩ := T.h; He.free_ok X G c
theorem Tx.int {x : Str} {i : Int} (c : (He.Fa.int x i).ok K = true) : ∃ t, mg x = some (.int i t) := let ⟨_, X, G⟩ := T.h; He.int_ok X G c
theorem Tx.m_is_integer : mg "is_integer" = some (.ref (He.ga K "is_integer")) := T.glo (T.d.fact 0 (f := .glo "is_integer") rfl)
theorem Tx.m_is_between : mg "is_between" = some (.ref (He.ga K "is_between")) := T.glo (T.d.fact 1 (f := .glo "is_between") rfl)
theorem Tx.m_check_integer : mg "check_integer" = some (.ref (He.ga K "check_integer")) := T.glo (T.d.fact 2 (f := .glo "check_integer") rfl)
theorem Tx.m_check_between : mg "check_between" = some (.ref (He.ga K "check_between")) := T.glo (T.d.fact 3 (f := .glo "check_between") rfl)
theorem Tx.m_check_machine : mg "check_machine" = some (.ref (He.ga K "check_machine")) := T.glo (T.d.fact 4 (f := .glo "check_machine") rfl)
theorem Tx.m_made : mg "made" = some (.ref (He.ga K "made")) := T.glo (T.d.fact 5 (f := .glo "made") rfl)
theorem Tx.m_digits_of : mg "digits_of" = some (.ref (He.ga K "digits_of")) := T.glo (T.d.fact 6 (f := .glo "digits_of") rfl)
theorem Tx.m_big_of : mg "big_of" = some (.ref (He.ga K "big_of")) := T.glo (T.d.fact 7 (f := .glo "big_of") rfl)
theorem Tx.m_value_of : mg "value_of" = some (.ref (He.ga K "value_of")) := T.glo (T.d.fact 8 (f := .glo "value_of") rfl)
theorem Tx.m_check_big : mg "check_big" = some (.ref (He.ga K "check_big")) := T.glo (T.d.fact 9 (f := .glo "check_big") rfl)
theorem Tx.m_check_bigs : mg "check_bigs" = some (.ref (He.ga K "check_bigs")) := T.glo (T.d.fact 10 (f := .glo "check_bigs") rfl)
theorem Tx.m_check_any : mg "check_any" = some (.ref (He.ga K "check_any")) := T.glo (T.d.fact 11 (f := .glo "check_any") rfl)
theorem Tx.m_is_compact : mg "is_compact" = some (.ref (He.ga K "is_compact")) := T.glo (T.d.fact 12 (f := .glo "is_compact") rfl)
theorem Tx.m_big : mg "big" = some (.ref (He.ga K "big")) := T.glo (T.d.fact 13 (f := .glo "big") rfl)
theorem Tx.m_plain : mg "plain" = some (.ref (He.ga K "plain")) := T.glo (T.d.fact 14 (f := .glo "plain") rfl)
theorem Tx.m_shifted_left : mg "shifted_left" = some (.ref (He.ga K "shifted_left")) := T.glo (T.d.fact 15 (f := .glo "shifted_left") rfl)
theorem Tx.m_adding : mg "adding" = some (.ref (He.ga K "adding")) := T.glo (T.d.fact 16 (f := .glo "adding") rfl)
theorem Tx.m_put_into : mg "put_into" = some (.ref (He.ga K "put_into")) := T.glo (T.d.fact 17 (f := .glo "put_into") rfl)
theorem Tx.m_into : mg "into" = some (.ref (He.ga K "into")) := T.glo (T.d.fact 18 (f := .glo "into") rfl)
theorem Tx.m_out_of : mg "out_of" = some (.ref (He.ga K "out_of")) := T.glo (T.d.fact 19 (f := .glo "out_of") rfl)
theorem Tx.m_trimmed : mg "trimmed" = some (.ref (He.ga K "trimmed")) := T.glo (T.d.fact 20 (f := .glo "trimmed") rfl)
theorem Tx.m_rows_of : mg "rows_of" = some (.ref (He.ga K "rows_of")) := T.glo (T.d.fact 21 (f := .glo "rows_of") rfl)
theorem Tx.m_square_rows_of : mg "square_rows_of" = some (.ref (He.ga K "square_rows_of")) := T.glo (T.d.fact 22 (f := .glo "square_rows_of") rfl)
theorem Tx.m_row_product : mg "row_product" = some (.ref (He.ga K "row_product")) := T.glo (T.d.fact 23 (f := .glo "row_product") rfl)
theorem Tx.m_row_square : mg "row_square" = some (.ref (He.ga K "row_square")) := T.glo (T.d.fact 24 (f := .glo "row_square") rfl)
theorem Tx.m_by_slices : mg "by_slices" = some (.ref (He.ga K "by_slices")) := T.glo (T.d.fact 25 (f := .glo "by_slices") rfl)
theorem Tx.m_parts_of : mg "parts_of" = some (.ref (He.ga K "parts_of")) := T.glo (T.d.fact 26 (f := .glo "parts_of") rfl)
theorem Tx.m_by_parts : mg "by_parts" = some (.ref (He.ga K "by_parts")) := T.glo (T.d.fact 27 (f := .glo "by_parts") rfl)
theorem Tx.m_multiplied : mg "multiplied" = some (.ref (He.ga K "multiplied")) := T.glo (T.d.fact 28 (f := .glo "multiplied") rfl)
theorem Tx.m_multiply : mg "multiply" = some (.ref (He.ga K "multiply")) := T.glo (T.d.fact 29 (f := .glo "multiply") rfl)
theorem Tx.m_odd_product : mg "odd_product" = some (.ref (He.ga K "odd_product")) := T.glo (T.d.fact 30 (f := .glo "odd_product") rfl)
theorem Tx.m_ones_in : mg "ones_in" = some (.ref (He.ga K "ones_in")) := T.glo (T.d.fact 31 (f := .glo "ones_in") rfl)
theorem Tx.m_factorial : mg "factorial" = some (.ref (He.ga K "factorial")) := T.glo (T.d.fact 32 (f := .glo "factorial") rfl)
theorem Tx.m_small_row : mg "small_row" = some (.ref (He.ga K "small_row")) := T.glo (T.d.fact 33 (f := .glo "small_row") rfl)
theorem Tx.m_rows_made : mg "rows_made" = some (.ref (He.ga K "rows_made")) := T.glo (T.d.fact 34 (f := .glo "rows_made") rfl)
theorem Tx.m_check_things : mg "check_things" = some (.ref (He.ga K "check_things")) := T.glo (T.d.fact 35 (f := .glo "check_things") rfl)
theorem Tx.m_perm : mg "perm" = some (.ref (He.ga K "perm")) := T.glo (T.d.fact 36 (f := .glo "perm") rfl)
theorem Tx.m_law_mixed : mg "_law_mixed" = some (.ref (He.ga K "_law_mixed")) := T.glo (T.d.fact 37 (f := .glo "_law_mixed") rfl)
theorem Tx.m_law_source : mg "_law_source" = some (.ref (He.ga K "_law_source")) := T.glo (T.d.fact 38 (f := .glo "_law_source") rfl)
theorem Tx.m_law_draw : mg "_law_draw" = some (.ref (He.ga K "_law_draw")) := T.glo (T.d.fact 39 (f := .glo "_law_draw") rfl)
theorem Tx.m_law_one : mg "_law_one" = some (.ref (He.ga K "_law_one")) := T.glo (T.d.fact 40 (f := .glo "_law_one") rfl)
theorem Tx.m_law_engines : mg "_law_engines" = some (.ref (He.ga K "_law_engines")) := T.glo (T.d.fact 41 (f := .glo "_law_engines") rfl)
theorem Tx.m_law_digits : mg "_law_digits" = some (.ref (He.ga K "_law_digits")) := T.glo (T.d.fact 42 (f := .glo "_law_digits") rfl)
theorem Tx.m_law_is : mg "_law_is" = some (.ref (He.ga K "_law_is")) := T.glo (T.d.fact 43 (f := .glo "_law_is") rfl)
theorem Tx.m_law_ran : mg "_law_ran" = some (.ref (He.ga K "_law_ran")) := T.glo (T.d.fact 44 (f := .glo "_law_ran") rfl)
theorem Tx.m_law_world : mg "_law_world" = some (.ref (He.ga K "_law_world")) := T.glo (T.d.fact 45 (f := .glo "_law_world") rfl)
theorem Tx.m_law_as_world : mg "_law_as_world" = some (.ref (He.ga K "_law_as_world")) := T.glo (T.d.fact 46 (f := .glo "_law_as_world") rfl)
theorem Tx.m_law_worth : mg "_law_worth" = some (.ref (He.ga K "_law_worth")) := T.glo (T.d.fact 47 (f := .glo "_law_worth") rfl)
theorem Tx.m_law_due : mg "_law_due" = some (.ref (He.ga K "_law_due")) := T.glo (T.d.fact 48 (f := .glo "_law_due") rfl)
theorem Tx.m_law_right : mg "_law_right" = some (.ref (He.ga K "_law_right")) := T.glo (T.d.fact 49 (f := .glo "_law_right") rfl)
theorem Tx.m_Machine : mg "Machine" = some (.ref (He.ga K "Machine")) := T.glo (T.d.fact 50 (f := .glo "Machine") rfl)
theorem Tx.m_Big : mg "Big" = some (.ref (He.ga K "Big")) := T.glo (T.d.fact 51 (f := .glo "Big") rfl)
theorem Tx.m_law : mg "law" = some (.ref (He.ga K "law")) := T.glo (T.d.fact 52 (f := .glo "law") rfl)
theorem Tx.m_WORDS : mg "WORDS" = some (.ref (He.ga K "WORDS")) := T.glo (T.d.fact 53 (f := .glo "WORDS") rfl)
theorem Tx.b_isinstance : mg "isinstance" = none := T.free (T.d.fact 54 (f := .free "isinstance") rfl)
theorem Tx.b_int : mg "int" = none := T.free (T.d.fact 55 (f := .free "int") rfl)
theorem Tx.b_bool : mg "bool" = none := T.free (T.d.fact 56 (f := .free "bool") rfl)
theorem Tx.b_len : mg "len" = none := T.free (T.d.fact 57 (f := .free "len") rfl)
theorem Tx.b_dict : mg "dict" = none := T.free (T.d.fact 58 (f := .free "dict") rfl)
theorem Tx.b_list : mg "list" = none := T.free (T.d.fact 59 (f := .free "list") rfl)
theorem Tx.b_tuple : mg "tuple" = none := T.free (T.d.fact 60 (f := .free "tuple") rfl)
theorem Tx.b_range : mg "range" = none := T.free (T.d.fact 61 (f := .free "range") rfl)
theorem Tx.b_enumerate : mg "enumerate" = none := T.free (T.d.fact 62 (f := .free "enumerate") rfl)
theorem Tx.b_abs : mg "abs" = none := T.free (T.d.fact 63 (f := .free "abs") rfl)
theorem Tx.b_divmod : mg "divmod" = none := T.free (T.d.fact 64 (f := .free "divmod") rfl)
theorem Tx.b_min : mg "min" = none := T.free (T.d.fact 65 (f := .free "min") rfl)
theorem Tx.i_LEAST_BITS : ∃ u, mg "LEAST_BITS" = some u ∧ RelV (.int 8) u := let ⟨t, e⟩ := T.int (T.d.fact 66 (f := .int "LEAST_BITS" 8) rfl); ⟨_, e, t, rfl⟩
theorem Tx.i_MOST_BITS : ∃ u, mg "MOST_BITS" = some u ∧ RelV (.int 30) u := let ⟨t, e⟩ := T.int (T.d.fact 67 (f := .int "MOST_BITS" 30) rfl); ⟨_, e, t, rfl⟩
theorem Tx.i_MOST_CUTOFF : ∃ u, mg "MOST_CUTOFF" = some u ∧ RelV (.int 1000) u := let ⟨t, e⟩ := T.int (T.d.fact 68 (f := .int "MOST_CUTOFF" 1000) rfl); ⟨_, e, t, rfl⟩
theorem Tx.i_MOST_WALK : ∃ u, mg "MOST_WALK" = some u ∧ RelV (.int 1000) u := let ⟨t, e⟩ := T.int (T.d.fact 69 (f := .int "MOST_WALK" 1000) rfl); ⟨_, e, t, rfl⟩
theorem Tx.i_MOST_FACTORIAL : ∃ u, mg "MOST_FACTORIAL" = some u ∧ RelV (.int 1100) u := let ⟨t, e⟩ := T.int (T.d.fact 70 (f := .int "MOST_FACTORIAL" 1100) rfl); ⟨_, e, t, rfl⟩
theorem Tx.i_LEAST_TREE : ∃ u, mg "LEAST_TREE" = some u ∧ RelV (.int 21) u := let ⟨t, e⟩ := T.int (T.d.fact 71 (f := .int "LEAST_TREE" 21) rfl); ⟨_, e, t, rfl⟩
theorem Tx.i_WORD_BITS : ∃ u, mg "WORD_BITS" = some u ∧ RelV (.int 64) u := let ⟨t, e⟩ := T.int (T.d.fact 72 (f := .int "WORD_BITS" 64) rfl); ⟨_, e, t, rfl⟩
theorem Tx.i_MOST_THINGS : ∃ u, mg "MOST_THINGS" = some u ∧ RelV (.int 9223372036854775807) u := let ⟨t, e⟩ := T.int (T.d.fact 73 (f := .int "MOST_THINGS" 9223372036854775807) rfl); ⟨_, e, t, rfl⟩
theorem Tx.i_MOST_CHOSEN : ∃ u, mg "MOST_CHOSEN" = some u ∧ RelV (.int 400) u := let ⟨t, e⟩ := T.int (T.d.fact 74 (f := .int "MOST_CHOSEN" 400) rfl); ⟨_, e, t, rfl⟩
theorem Tx.c_Machine : Cls K (He.ga K "Machine") := He.cls_ok (T.d.fact 75 (f := .cls "Machine") rfl)
theorem Tx.k_Machine : Mk K (He.ga K "Machine") (He.ma K (He.ga K "Machine") "__init__") := He.mkr_ok (T.d.fact 76 (f := .mkr "Machine") rfl)
theorem Tx.n_Machine_width : NoAttr K (He.ga K "Machine") "width" := He.noat_ok (T.d.fact 77 (f := .noat "Machine" "width") rfl)
theorem Tx.n_Machine_limit_of_rows : NoAttr K (He.ga K "Machine") "limit_of_rows" := He.noat_ok (T.d.fact 78 (f := .noat "Machine" "limit_of_rows") rfl)
theorem Tx.n_Machine_base : NoAttr K (He.ga K "Machine") "base" := He.noat_ok (T.d.fact 79 (f := .noat "Machine" "base") rfl)
theorem Tx.n_Machine_counts : NoAttr K (He.ga K "Machine") "counts" := He.noat_ok (T.d.fact 80 (f := .noat "Machine" "counts") rfl)
theorem Tx.n_Machine_entered : NoAttr K (He.ga K "Machine") "entered" := He.noat_ok (T.d.fact 81 (f := .noat "Machine" "entered") rfl)
theorem Tx.t_Machine_parts : Meth K (He.ga K "Machine") "parts" (He.ma K (He.ga K "Machine") "parts") := He.meth_ok (T.d.fact 82 (f := .meth "Machine" "parts") rfl)
theorem Tx.t_Machine_tally : Meth K (He.ga K "Machine") "tally" (He.ma K (He.ga K "Machine") "tally") := He.meth_ok (T.d.fact 83 (f := .meth "Machine" "tally") rfl)
theorem Tx.t_Machine_walk : Meth K (He.ga K "Machine") "walk" (He.ma K (He.ga K "Machine") "walk") := He.meth_ok (T.d.fact 84 (f := .meth "Machine" "walk") rfl)
theorem Tx.t_Machine_reset : Meth K (He.ga K "Machine") "reset" (He.ma K (He.ga K "Machine") "reset") := He.meth_ok (T.d.fact 85 (f := .meth "Machine" "reset") rfl)
theorem Tx.t_Machine_count : Meth K (He.ga K "Machine") "count" (He.ma K (He.ga K "Machine") "count") := He.meth_ok (T.d.fact 86 (f := .meth "Machine" "count") rfl)
theorem Tx.t_Machine_enter : Meth K (He.ga K "Machine") "enter" (He.ma K (He.ga K "Machine") "enter") := He.meth_ok (T.d.fact 87 (f := .meth "Machine" "enter") rfl)
theorem Tx.c_Big : Cls K (He.ga K "Big") := He.cls_ok (T.d.fact 88 (f := .cls "Big") rfl)
theorem Tx.k_Big : Mk K (He.ga K "Big") (He.ma K (He.ga K "Big") "__init__") := He.mkr_ok (T.d.fact 89 (f := .mkr "Big") rfl)
theorem Tx.n_Big_width : NoAttr K (He.ga K "Big") "width" := He.noat_ok (T.d.fact 90 (f := .noat "Big" "width") rfl)
theorem Tx.n_Big_side : NoAttr K (He.ga K "Big") "side" := He.noat_ok (T.d.fact 91 (f := .noat "Big" "side") rfl)
theorem Tx.n_Big_row : NoAttr K (He.ga K "Big") "row" := He.noat_ok (T.d.fact 92 (f := .noat "Big" "row") rfl)
theorem Tx.t_Big_sign : Meth K (He.ga K "Big") "sign" (He.ma K (He.ga K "Big") "sign") := He.meth_ok (T.d.fact 93 (f := .meth "Big" "sign") rfl)
theorem Tx.t_Big_digits : Meth K (He.ga K "Big") "digits" (He.ma K (He.ga K "Big") "digits") := He.meth_ok (T.d.fact 94 (f := .meth "Big" "digits") rfl)
theorem Tx.t_Big_bits : Meth K (He.ga K "Big") "bits" (He.ma K (He.ga K "Big") "bits") := He.meth_ok (T.d.fact 95 (f := .meth "Big" "bits") rfl)
theorem Tx.t_Big_eq : Meth K (He.ga K "Big") "__eq__" (He.ma K (He.ga K "Big") "__eq__") := He.meth_ok (T.d.fact 96 (f := .meth "Big" "__eq__") rfl)
theorem Tx.f_is_integer : ∃ fd, FunD K "is_integer" "is_integer" (defArgs s_is_integer) (defBody s_is_integer) (defScope s_is_integer) [] [] (He.ga K "is_integer") fd := T.d.def_ 0 (d := d_is_integer) rfl
theorem Tx.f_is_between : ∃ fd, FunD K "is_between" "is_between" (defArgs s_is_between) (defBody s_is_between) (defScope s_is_between) [] [] (He.ga K "is_between") fd := T.d.def_ 1 (d := d_is_between) rfl
theorem Tx.f_check_integer : ∃ fd, FunD K "check_integer" "check_integer" (defArgs s_check_integer) (defBody s_check_integer) (defScope s_check_integer) [] [] (He.ga K "check_integer") fd := T.d.def_ 2 (d := d_check_integer) rfl
theorem Tx.f_check_between : ∃ fd, FunD K "check_between" "check_between" (defArgs s_check_between) (defBody s_check_between) (defScope s_check_between) [] [] (He.ga K "check_between") fd := T.d.def_ 3 (d := d_check_between) rfl
theorem Tx.f_Machine_init : ∃ fd, FunD K "__init__" "Machine.__init__" (defArgs s_Machine_init) (defBody s_Machine_init) (defScope s_Machine_init) [V.int 30, V.int 70] [] (He.ma K (He.ga K "Machine") "__init__") fd := T.d.def_ 4 (d := d_Machine_init) rfl
theorem Tx.f_Machine_eq : ∃ fd, FunD K "__eq__" "Machine.__eq__" (defArgs s_Machine_eq) (defBody s_Machine_eq) (defScope s_Machine_eq) [] [] (He.ma K (He.ga K "Machine") "__eq__") fd := T.d.def_ 5 (d := d_Machine_eq) rfl
theorem Tx.f_Machine_parts : ∃ fd, FunD K "parts" "Machine.parts" (defArgs s_Machine_parts) (defBody s_Machine_parts) (defScope s_Machine_parts) [] [] (He.ma K (He.ga K "Machine") "parts") fd := T.d.def_ 6 (d := d_Machine_parts) rfl
theorem Tx.f_Machine_tally : ∃ fd, FunD K "tally" "Machine.tally" (defArgs s_Machine_tally) (defBody s_Machine_tally) (defScope s_Machine_tally) [] [] (He.ma K (He.ga K "Machine") "tally") fd := T.d.def_ 7 (d := d_Machine_tally) rfl
theorem Tx.f_Machine_walk : ∃ fd, FunD K "walk" "Machine.walk" (defArgs s_Machine_walk) (defBody s_Machine_walk) (defScope s_Machine_walk) [] [] (He.ma K (He.ga K "Machine") "walk") fd := T.d.def_ 8 (d := d_Machine_walk) rfl
theorem Tx.f_Machine_reset : ∃ fd, FunD K "reset" "Machine.reset" (defArgs s_Machine_reset) (defBody s_Machine_reset) (defScope s_Machine_reset) [] [] (He.ma K (He.ga K "Machine") "reset") fd := T.d.def_ 9 (d := d_Machine_reset) rfl
theorem Tx.f_Machine_count : ∃ fd, FunD K "count" "Machine.count" (defArgs s_Machine_count) (defBody s_Machine_count) (defScope s_Machine_count) [] [] (He.ma K (He.ga K "Machine") "count") fd := T.d.def_ 10 (d := d_Machine_count) rfl
theorem Tx.f_Machine_enter : ∃ fd, FunD K "enter" "Machine.enter" (defArgs s_Machine_enter) (defBody s_Machine_enter) (defScope s_Machine_enter) [] [] (He.ma K (He.ga K "Machine") "enter") fd := T.d.def_ 11 (d := d_Machine_enter) rfl
theorem Tx.f_check_machine : ∃ fd, FunD K "check_machine" "check_machine" (defArgs s_check_machine) (defBody s_check_machine) (defScope s_check_machine) [] [] (He.ga K "check_machine") fd := T.d.def_ 12 (d := d_check_machine) rfl
theorem Tx.f_Big_init : ∃ fd, FunD K "__init__" "Big.__init__" (defArgs s_Big_init) (defBody s_Big_init) (defScope s_Big_init) [] [] (He.ma K (He.ga K "Big") "__init__") fd := T.d.def_ 13 (d := d_Big_init) rfl
theorem Tx.f_Big_eq : ∃ fd, FunD K "__eq__" "Big.__eq__" (defArgs s_Big_eq) (defBody s_Big_eq) (defScope s_Big_eq) [] [] (He.ma K (He.ga K "Big") "__eq__") fd := T.d.def_ 14 (d := d_Big_eq) rfl
theorem Tx.f_Big_sign : ∃ fd, FunD K "sign" "Big.sign" (defArgs s_Big_sign) (defBody s_Big_sign) (defScope s_Big_sign) [] [] (He.ma K (He.ga K "Big") "sign") fd := T.d.def_ 15 (d := d_Big_sign) rfl
theorem Tx.f_Big_digits : ∃ fd, FunD K "digits" "Big.digits" (defArgs s_Big_digits) (defBody s_Big_digits) (defScope s_Big_digits) [] [] (He.ma K (He.ga K "Big") "digits") fd := T.d.def_ 16 (d := d_Big_digits) rfl
theorem Tx.f_Big_bits : ∃ fd, FunD K "bits" "Big.bits" (defArgs s_Big_bits) (defBody s_Big_bits) (defScope s_Big_bits) [] [] (He.ma K (He.ga K "Big") "bits") fd := T.d.def_ 17 (d := d_Big_bits) rfl
theorem Tx.f_made : ∃ fd, FunD K "made" "made" (defArgs s_made) (defBody s_made) (defScope s_made) [] [] (He.ga K "made") fd := T.d.def_ 18 (d := d_made) rfl
theorem Tx.f_digits_of : ∃ fd, FunD K "digits_of" "digits_of" (defArgs s_digits_of) (defBody s_digits_of) (defScope s_digits_of) [] [] (He.ga K "digits_of") fd := T.d.def_ 19 (d := d_digits_of) rfl
theorem Tx.f_big_of : ∃ fd, FunD K "big_of" "big_of" (defArgs s_big_of) (defBody s_big_of) (defScope s_big_of) [] [] (He.ga K "big_of") fd := T.d.def_ 20 (d := d_big_of) rfl
theorem Tx.f_value_of : ∃ fd, FunD K "value_of" "value_of" (defArgs s_value_of) (defBody s_value_of) (defScope s_value_of) [] [] (He.ga K "value_of") fd := T.d.def_ 21 (d := d_value_of) rfl
theorem Tx.f_check_big : ∃ fd, FunD K "check_big" "check_big" (defArgs s_check_big) (defBody s_check_big) (defScope s_check_big) [] [] (He.ga K "check_big") fd := T.d.def_ 22 (d := d_check_big) rfl
theorem Tx.f_check_bigs : ∃ fd, FunD K "check_bigs" "check_bigs" (defArgs s_check_bigs) (defBody s_check_bigs) (defScope s_check_bigs) [] [] (He.ga K "check_bigs") fd := T.d.def_ 23 (d := d_check_bigs) rfl
theorem Tx.f_check_any : ∃ fd, FunD K "check_any" "check_any" (defArgs s_check_any) (defBody s_check_any) (defScope s_check_any) [] [] (He.ga K "check_any") fd := T.d.def_ 24 (d := d_check_any) rfl
theorem Tx.f_is_compact : ∃ fd, FunD K "is_compact" "is_compact" (defArgs s_is_compact) (defBody s_is_compact) (defScope s_is_compact) [] [] (He.ga K "is_compact") fd := T.d.def_ 25 (d := d_is_compact) rfl
theorem Tx.f_big : ∃ fd, FunD K "big" "big" (defArgs s_big) (defBody s_big) (defScope s_big) [] [] (He.ga K "big") fd := T.d.def_ 26 (d := d_big) rfl
theorem Tx.f_plain : ∃ fd, FunD K "plain" "plain" (defArgs s_plain) (defBody s_plain) (defScope s_plain) [] [] (He.ga K "plain") fd := T.d.def_ 27 (d := d_plain) rfl
theorem Tx.f_shifted_left : ∃ fd, FunD K "shifted_left" "shifted_left" (defArgs s_shifted_left) (defBody s_shifted_left) (defScope s_shifted_left) [] [] (He.ga K "shifted_left") fd := T.d.def_ 28 (d := d_shifted_left) rfl
theorem Tx.f_adding : ∃ fd, FunD K "adding" "adding" (defArgs s_adding) (defBody s_adding) (defScope s_adding) [] [] (He.ga K "adding") fd := T.d.def_ 29 (d := d_adding) rfl
theorem Tx.f_put_into : ∃ fd, FunD K "put_into" "put_into" (defArgs s_put_into) (defBody s_put_into) (defScope s_put_into) [] [] (He.ga K "put_into") fd := T.d.def_ 30 (d := d_put_into) rfl
theorem Tx.f_into : ∃ fd, FunD K "into" "into" (defArgs s_into) (defBody s_into) (defScope s_into) [] [] (He.ga K "into") fd := T.d.def_ 31 (d := d_into) rfl
theorem Tx.f_out_of : ∃ fd, FunD K "out_of" "out_of" (defArgs s_out_of) (defBody s_out_of) (defScope s_out_of) [] [] (He.ga K "out_of") fd := T.d.def_ 32 (d := d_out_of) rfl
theorem Tx.f_trimmed : ∃ fd, FunD K "trimmed" "trimmed" (defArgs s_trimmed) (defBody s_trimmed) (defScope s_trimmed) [] [] (He.ga K "trimmed") fd := T.d.def_ 33 (d := d_trimmed) rfl
theorem Tx.f_rows_of : ∃ fd, FunD K "rows_of" "rows_of" (defArgs s_rows_of) (defBody s_rows_of) (defScope s_rows_of) [] [] (He.ga K "rows_of") fd := T.d.def_ 34 (d := d_rows_of) rfl
theorem Tx.f_square_rows_of : ∃ fd, FunD K "square_rows_of" "square_rows_of" (defArgs s_square_rows_of) (defBody s_square_rows_of) (defScope s_square_rows_of) [] [] (He.ga K "square_rows_of") fd := T.d.def_ 35 (d := d_square_rows_of) rfl
theorem Tx.f_row_product : ∃ fd, FunD K "row_product" "row_product" (defArgs s_row_product) (defBody s_row_product) (defScope s_row_product) [] [] (He.ga K "row_product") fd := T.d.def_ 36 (d := d_row_product) rfl
theorem Tx.f_row_square : ∃ fd, FunD K "row_square" "row_square" (defArgs s_row_square) (defBody s_row_square) (defScope s_row_square) [] [] (He.ga K "row_square") fd := T.d.def_ 37 (d := d_row_square) rfl
theorem Tx.f_by_slices : ∃ fd, FunD K "by_slices" "by_slices" (defArgs s_by_slices) (defBody s_by_slices) (defScope s_by_slices) [] [] (He.ga K "by_slices") fd := T.d.def_ 38 (d := d_by_slices) rfl
theorem Tx.f_parts_of : ∃ fd, FunD K "parts_of" "parts_of" (defArgs s_parts_of) (defBody s_parts_of) (defScope s_parts_of) [] [] (He.ga K "parts_of") fd := T.d.def_ 39 (d := d_parts_of) rfl
theorem Tx.f_by_parts : ∃ fd, FunD K "by_parts" "by_parts" (defArgs s_by_parts) (defBody s_by_parts) (defScope s_by_parts) [] [] (He.ga K "by_parts") fd := T.d.def_ 40 (d := d_by_parts) rfl
theorem Tx.f_multiplied : ∃ fd, FunD K "multiplied" "multiplied" (defArgs s_multiplied) (defBody s_multiplied) (defScope s_multiplied) [] [] (He.ga K "multiplied") fd := T.d.def_ 41 (d := d_multiplied) rfl
theorem Tx.f_multiply : ∃ fd, FunD K "multiply" "multiply" (defArgs s_multiply) (defBody s_multiply) (defScope s_multiply) [] [] (He.ga K "multiply") fd := T.d.def_ 42 (d := d_multiply) rfl
theorem Tx.f_odd_product : ∃ fd, FunD K "odd_product" "odd_product" (defArgs s_odd_product) (defBody s_odd_product) (defScope s_odd_product) [] [] (He.ga K "odd_product") fd := T.d.def_ 43 (d := d_odd_product) rfl
theorem Tx.f_ones_in : ∃ fd, FunD K "ones_in" "ones_in" (defArgs s_ones_in) (defBody s_ones_in) (defScope s_ones_in) [] [] (He.ga K "ones_in") fd := T.d.def_ 44 (d := d_ones_in) rfl
theorem Tx.f_factorial : ∃ fd, FunD K "factorial" "factorial" (defArgs s_factorial) (defBody s_factorial) (defScope s_factorial) [] [] (He.ga K "factorial") fd := T.d.def_ 45 (d := d_factorial) rfl
theorem Tx.f_small_row : ∃ fd, FunD K "small_row" "small_row" (defArgs s_small_row) (defBody s_small_row) (defScope s_small_row) [] [] (He.ga K "small_row") fd := T.d.def_ 46 (d := d_small_row) rfl
theorem Tx.f_rows_made : ∃ fd, FunD K "rows_made" "rows_made" (defArgs s_rows_made) (defBody s_rows_made) (defScope s_rows_made) [] [] (He.ga K "rows_made") fd := T.d.def_ 47 (d := d_rows_made) rfl
theorem Tx.f_check_things : ∃ fd, FunD K "check_things" "check_things" (defArgs s_check_things) (defBody s_check_things) (defScope s_check_things) [] [] (He.ga K "check_things") fd := T.d.def_ 48 (d := d_check_things) rfl
theorem Tx.f_perm : ∃ fd, FunD K "perm" "perm" (defArgs s_perm) (defBody s_perm) (defScope s_perm) [] [] (He.ga K "perm") fd := T.d.def_ 49 (d := d_perm) rfl
theorem Tx.f_law_mixed : ∃ fd, FunD K "_law_mixed" "_law_mixed" (defArgs s_law_mixed) (defBody s_law_mixed) (defScope s_law_mixed) [] [] (He.ga K "_law_mixed") fd := T.d.def_ 50 (d := d_law_mixed) rfl
theorem Tx.f_law_source : ∃ fd, FunD K "_law_source" "_law_source" (defArgs s_law_source) (defBody s_law_source) (defScope s_law_source) [] [] (He.ga K "_law_source") fd := T.d.def_ 51 (d := d_law_source) rfl
theorem Tx.f_law_draw : ∃ fd, FunD K "_law_draw" "_law_draw" (defArgs s_law_draw) (defBody s_law_draw) (defScope s_law_draw) [] [] (He.ga K "_law_draw") fd := T.d.def_ 52 (d := d_law_draw) rfl
theorem Tx.f_law_one : ∃ fd, FunD K "_law_one" "_law_one" (defArgs s_law_one) (defBody s_law_one) (defScope s_law_one) [] [] (He.ga K "_law_one") fd := T.d.def_ 53 (d := d_law_one) rfl
theorem Tx.f_law_engines : ∃ fd, FunD K "_law_engines" "_law_engines" (defArgs s_law_engines) (defBody s_law_engines) (defScope s_law_engines) [] [] (He.ga K "_law_engines") fd := T.d.def_ 54 (d := d_law_engines) rfl
theorem Tx.f_law_digits : ∃ fd, FunD K "_law_digits" "_law_digits" (defArgs s_law_digits) (defBody s_law_digits) (defScope s_law_digits) [] [] (He.ga K "_law_digits") fd := T.d.def_ 55 (d := d_law_digits) rfl
theorem Tx.f_law_is : ∃ fd, FunD K "_law_is" "_law_is" (defArgs s_law_is) (defBody s_law_is) (defScope s_law_is) [] [] (He.ga K "_law_is") fd := T.d.def_ 56 (d := d_law_is) rfl
theorem Tx.f_law_ran : ∃ fd, FunD K "_law_ran" "_law_ran" (defArgs s_law_ran) (defBody s_law_ran) (defScope s_law_ran) [] [] (He.ga K "_law_ran") fd := T.d.def_ 57 (d := d_law_ran) rfl
theorem Tx.f_law_world : ∃ fd, FunD K "_law_world" "_law_world" (defArgs s_law_world) (defBody s_law_world) (defScope s_law_world) [] [] (He.ga K "_law_world") fd := T.d.def_ 58 (d := d_law_world) rfl
theorem Tx.f_law_as_world : ∃ fd, FunD K "_law_as_world" "_law_as_world" (defArgs s_law_as_world) (defBody s_law_as_world) (defScope s_law_as_world) [] [] (He.ga K "_law_as_world") fd := T.d.def_ 59 (d := d_law_as_world) rfl
theorem Tx.f_law_worth : ∃ fd, FunD K "_law_worth" "_law_worth" (defArgs s_law_worth) (defBody s_law_worth) (defScope s_law_worth) [] [] (He.ga K "_law_worth") fd := T.d.def_ 60 (d := d_law_worth) rfl
theorem Tx.f_law_due : ∃ fd, FunD K "_law_due" "_law_due" (defArgs s_law_due) (defBody s_law_due) (defScope s_law_due) [] [] (He.ga K "_law_due") fd := T.d.def_ 61 (d := d_law_due) rfl
theorem Tx.f_law_right : ∃ fd, FunD K "_law_right" "_law_right" (defArgs s_law_right) (defBody s_law_right) (defScope s_law_right) [] [] (He.ga K "_law_right") fd := T.d.def_ 62 (d := d_law_right) rfl
theorem Tx.f_law : ∃ fd, FunD K "law" "law" (defArgs s_law) (defBody s_law) (defScope s_law) [] [] (He.ga K "law") fd := T.d.def_ 63 (d := d_law) rfl
theorem Tx.words (H : Hp) : SqT K H (He.ga K "WORDS") (wordsV.map (He.Dv.v K)) := He.tupB_ok (He.ba T.ex).1 H
theorem insB_ok {x : Str} (c : Cls K (He.ga K x)) (h : insB K x = true) : C8.InsC K (He.ga K x) := by
  obtain ⟨h1, h⟩ := He.ba h
  obtain ⟨h2, h⟩ := He.ba h
  obtain ⟨h3, h⟩ := He.ba h
  obtain ⟨h4, h5⟩ := He.ba h
  exact ⟨c, He.eqO_ok h1, He.eqO_ok h2, of_decide_eq_true h3, of_decide_eq_true h4, of_decide_eq_true h5⟩
theorem Tx.insM : C8.InsC K (He.ga K "Machine") := insB_ok T T.c_Machine (He.ba (He.ba T.ex).2).1
theorem Tx.insG : C8.InsC K (He.ga K "Big") := insB_ok T T.c_Big (He.ba (He.ba (He.ba T.ex).2).2).1
theorem Tx.neG : PySem.W.findIn K (.ref (He.ga K "Big")) "__ne__" = some (some (.builtin "object.__ne__")) := He.eqO_ok (He.ba (He.ba (He.ba T.ex).2).2).2
end
end T87
namespace T87
open PySem PySem.Spec PyProof.Rows L2
/-! ### what stays -/
def Kp (xs : List Addr) (H H' : Hp) : Prop := ∀ b o, H b = some o → b ∉ xs → H' b = some o
theorem Kp.refl (xs : List Addr) (H : Hp) : Kp xs H H := fun _ _ h _ => h
theorem Kp.trans {xs : List Addr} {H H1 H2 : Hp} (a : Kp xs H H1) (b : Kp xs H1 H2) : Kp xs H H2 := fun c o h n => b c o (a c o h n) n
theorem Kp.of {xs : List Addr} {H H' : Hp} (s : Same H H') : Kp xs H H' := fun b o h _ => s b o h
theorem Kp.mono {xs ys : List Addr} {H H' : Hp} (k : Kp xs H H') (h : ∀ b ∈ xs, b ∈ ys) : Kp ys H H' := fun b o e n => k b o e fun z => n (h b z)
theorem Kp.put {xs : List Addr} {H : Hp} {p : Addr} {o : HO} (h : p ∈ xs) : Kp xs H (upd H p o) := fun b u e n => by
  rw [upd_ne fun z => n (by rw [z]; exact h)]
  exact e
theorem Kp.new {xs : List Addr} {H : Hp} {p : Addr} {o : HO} (h : H p = none) : Kp xs H (upd H p o) := Kp.of (same_upd h)
/-- an object made within may be written -/
theorem Kp.own {xs : List Addr} {H H1 H2 : Hp} {p : Addr} (a : Kp xs H H1) (hp : H p = none) (b : Kp (p :: xs) H1 H2) : Kp xs H H2 := fun c o h n => b c o (a c o h n) fun z => by
  rcases List.mem_cons.mp z with rfl | z
  · rw [hp] at h
    cases h
  · exact n z
/-! ### a machine -/
structure MS where
  w : Nat
  c : Nat
  cnt : Str → Int
  ent : List (Str × Int × Int)
inductive Op where
  | en (x : Str) (m n : Int)
  | ct (x : Str) (k : Int)
def MS.op (S : MS) : Op → MS
  | .en x m n => if S.ent.length < 1000 then { S with ent := S.ent ++ [(x, m, n)] } else S
  | .ct x k => { S with cnt := fun y => if y = x then S.cnt y + k else S.cnt y }
def MS.ops (S : MS) (l : List Op) : MS := l.foldl MS.op S
theorem MS.ops_app (S : MS) (a b : List Op) : S.ops (a ++ b) = (S.ops a).ops b := List.foldl_append
theorem MS.ops_nil (S : MS) : S.ops [] = S := rfl
theorem MS.ops_one (S : MS) (o : Op) : S.ops [o] = S.op o := rfl
theorem MS.op_w (S : MS) (o : Op) : (S.op o).w = S.w := by
  cases o with
  | en x m n =>
    show (if S.ent.length < 1000 then { S with ent := S.ent ++ [(x, m, n)] } else S).w = _
    split <;> rfl
  | ct x k => rfl
theorem MS.op_c (S : MS) (o : Op) : (S.op o).c = S.c := by
  cases o with
  | en x m n =>
    show (if S.ent.length < 1000 then { S with ent := S.ent ++ [(x, m, n)] } else S).c = _
    split <;> rfl
  | ct x k => rfl
theorem MS.ops_w (S : MS) (l : List Op) : (S.ops l).w = S.w := by
  induction l generalizing S with
  | nil => rfl
  | cons o l ih => exact (ih (S.op o)).trans (S.op_w o)
theorem MS.ops_c (S : MS) (l : List Op) : (S.ops l).c = S.c := by
  induction l generalizing S with
  | nil => rfl
  | cons o l ih => exact (ih (S.op o)).trans (S.op_c o)
/-- the words of the tally -/
def wordsL : List Str := ["short", "sum", "product", "quotient", "corrected", "restored", "shifted", "combined", "complemented", "looked"]
def kvsOf (cnt : Str → Int) : List (Key × V) := wordsL.map fun x => (Sum.inr x, V.int (cnt x))
theorem valV_words {cnt : Str → Int} {x : Str} : ∀ {l : List Str}, x ∈ l → valV (l.map fun x => ((Sum.inr x : Key), V.int (cnt x))) (Sum.inr x) = some (.int (cnt x))
  | y :: l, h => by
    rw [List.map_cons]
    by_cases e : y = x
    · rw [valV_pos (by show (Sum.inr y : Key) = Sum.inr x; rw [e]), e]
    · rw [valV_neg (by show ¬ (Sum.inr y : Key) = Sum.inr x; exact fun z => e (Sum.inr.inj z))]
      exact valV_words ((List.mem_cons.mp h).resolve_left fun z => e z.symm)
theorem valV_kvs {cnt : Str → Int} {x : Str} (h : x ∈ wordsL) : valV (kvsOf cnt) (Sum.inr x) = some (.int (cnt x)) := valV_words h
theorem putK_kvs {cnt : Str → Int} {x : Str} {k : Int} (h : x ∈ wordsL) : putK (kvsOf cnt) (Sum.inr x) (.int k) = kvsOf fun y => if y = x then k else cnt y := by
  unfold putK
  have a : ((kvsOf cnt).any fun kv => decide (kv.1 = Sum.inr x)) = true := by
    rw [valV_any, valV_kvs h] <;> rfl
  rw [if_pos a]
  unfold kvsOf
  rw [List.map_map]
  refine List.map_congr_left fun y _ => ?_
  show (if (Sum.inr y : Key) = Sum.inr x then ((Sum.inr y : Key), V.int k) else (Sum.inr y, V.int (cnt y))) = (Sum.inr y, V.int (if y = x then k else cnt y))
  by_cases e : y = x
  · rw [if_pos (by rw [e]), if_pos e]
  · rw [if_neg (fun z => e (Sum.inr.inj z)), if_neg e]
theorem kvs_len (cnt : Str → Int) : (kvsOf cnt).length = 10 := rfl
/-- a machine's attributes -/
structure FlM (fs : List (Str × V)) (w c : Nat) (d e : Addr) : Prop where
  l : fs.length ≤ 5
  wd : fs.lookup ("width" : Str) = some (V.int w)
  lm : fs.lookup ("limit_of_rows" : Str) = some (V.int c)
  bs : fs.lookup ("base" : Str) = some (V.int (2 ^ w))
  co : fs.lookup ("counts" : Str) = some (V.ref d)
  en : fs.lookup ("entered" : Str) = some (V.ref e)
  no : ∀ m : Str, m ∉ (["width", "limit_of_rows", "base", "counts", "entered"] : List Str) → fs.lookup m = none
def EntAt (H : Hp) (ts : List Addr) (ent : List (Str × Int × Int)) : Prop := Paired (fun t (x : Str × Int × Int) => H t = some (.tup [.str x.1, .int x.2.1, .int x.2.2])) ts ent
structure MachAt (C : Addr) (H : Hp) (p d e : Addr) (S : MS) : Prop where
  ob : ∃ dx fs, H p = some (.ins C dx fs) ∧ FlM fs S.w S.c d e
  cn : H d = some (.dK (kvsOf S.cnt))
  en : ∃ ts : List Addr, H e = some (.lst (ts.map V.ref)) ∧ EntAt H ts S.ent
  w1 : 8 ≤ S.w
  w2 : S.w ≤ 30
  c1 : 2 ≤ S.c
  c2 : S.c ≤ 1000
  vl : S.ent.length ≤ 1000
theorem EntAt.mono {H H' : Hp} {ts : List Addr} {ent : List (Str × Int × Int)} (h : EntAt H ts ent) (k : ∀ t xs, H t = some (.tup xs) → H' t = some (.tup xs)) : EntAt H' ts ent :=
  Paired.mapP h fun _ _ e => k _ _ e
theorem EntAt.snoc {H : Hp} : ∀ {ts : List Addr} {ent : List (Str × Int × Int)} {t : Addr} {x : Str} {m n : Int}, EntAt H ts ent → H t = some (.tup [.str x, .int m, .int n]) → EntAt H (ts ++ [t]) (ent ++ [(x, m, n)])
  | _, _, _, _, _, _, .nil, h => .cons h .nil
  | _, _, _, _, _, _, .cons a r, h => .cons a (EntAt.snoc r h)
theorem EntAt.append {H : Hp} : ∀ {ts us : List Addr} {ent em : List (Str × Int × Int)}, EntAt H ts ent → EntAt H us em → EntAt H (ts ++ us) (ent ++ em)
  | _, _, _, _, .nil, h => h
  | _, _, _, _, .cons a r, h => .cons a (EntAt.append r h)
theorem EntAt.len {H : Hp} {ts : List Addr} {ent : List (Str × Int × Int)} (h : EntAt H ts ent) : ts.length = ent.length := Paired.length h
theorem EntAt.drop {H : Hp} : ∀ {ts : List Addr} {ent : List (Str × Int × Int)} (n : Nat), EntAt H ts ent → EntAt H (ts.drop n) (ent.drop n)
  | _, _, 0, h => h
  | _, _, _ + 1, .nil => .nil
  | _, _, n + 1, .cons _ r => EntAt.drop n r
theorem EntAt.take {H : Hp} : ∀ {ts : List Addr} {ent : List (Str × Int × Int)} (n : Nat), EntAt H ts ent → EntAt H (ts.take n) (ent.take n)
  | _, _, 0, _ => .nil
  | _, _, _ + 1, .nil => .nil
  | _, _, n + 1, .cons a r => .cons a (EntAt.take n r)
section
variable {C p d e : Addr} {H H' : Hp} {S : MS}
/-- where each thing of it stands -/
theorem MachAt.mono (M : MachAt C H p d e S) (hp : ∀ o, H p = some o → H' p = some o) (hd : ∀ o, H d = some o → H' d = some o) (he : ∀ o, H e = some o → H' e = some o) (ht : ∀ t xs, H t = some (.tup xs) → H' t = some (.tup xs)) : MachAt C H' p d e S := by
  obtain ⟨dx, fs, h1, F⟩ := M.ob
  obtain ⟨ts, h2, E⟩ := M.en
  exact ⟨⟨dx, fs, hp _ h1, F⟩, hd _ M.cn, ⟨ts, he _ h2, E.mono ht⟩, M.w1, M.w2, M.c1, M.c2, M.vl⟩
theorem MachAt.same (M : MachAt C H p d e S) (s : Same H H') : MachAt C H' p d e S := M.mono (fun o => s p o) (fun o => s d o) (fun o => s e o) fun t xs => s t _
/-- another list is written -/
theorem MachAt.lst (M : MachAt C H p d e S) {l : Addr} {xs : List V} {o : HO} (h : H l = some (.lst xs)) (ne : l ≠ e) : MachAt C (upd H l o) p d e S := by
  obtain ⟨dx, fs, h1, _⟩ := M.ob
  refine M.mono (fun u q => ?_) (fun u q => ?_) (fun u q => ?_) fun t ys q => ?_
  · rw [upd_ne (ne_of h1 h (by intro z; cases z))]; exact q
  · rw [upd_ne (ne_of M.cn h (by intro z; cases z))]; exact q
  · rw [upd_ne (Ne.symm ne)]; exact q
  · rw [upd_ne (ne_of q h (by intro z; cases z))]; exact q
theorem MachAt.ed (M : MachAt C H p d e S) : H e ≠ none ∧ H d ≠ none ∧ H p ≠ none := by
  obtain ⟨dx, fs, h1, _⟩ := M.ob
  obtain ⟨ts, h2, _⟩ := M.en
  exact ⟨by rw [h2]; simp, by rw [M.cn]; simp, by rw [h1]; simp⟩
theorem MachAt.neN (M : MachAt C H p d e S) {l : Addr} (h : H l = none) : l ≠ e := fun z => M.ed.1 (by rw [← z]; exact h)
theorem MachAt.kTup (M : MachAt C H p d e S) (k : Kp [d, e] H H') {t : Addr} {xs : List V} (h : H t = some (.tup xs)) : H' t = some (.tup xs) := by
  obtain ⟨ts, h2, _⟩ := M.en
  refine k t _ h fun z => ?_
  rcases List.mem_cons.mp z with z | z
  · exact ne_of h M.cn (by intro q; cases q) z
  · exact ne_of h h2 (by intro q; cases q) (List.mem_singleton.mp z)
theorem MachAt.kIns (M : MachAt C H p d e S) (k : Kp [d, e] H H') {t D dx : Addr} {fs : List (Str × V)} (h : H t = some (.ins D dx fs)) : H' t = some (.ins D dx fs) := by
  obtain ⟨ts, h2, _⟩ := M.en
  refine k t _ h fun z => ?_
  rcases List.mem_cons.mp z with z | z
  · exact ne_of h M.cn (by intro q; cases q) z
  · exact ne_of h h2 (by intro q; cases q) (List.mem_singleton.mp z)
theorem MachAt.kLst (M : MachAt C H p d e S) (k : Kp [d, e] H H') {l : Addr} {xs : List V} (h : H l = some (.lst xs)) (ne : l ≠ e) : H' l = some (.lst xs) := by
  refine k l _ h fun z => ?_
  rcases List.mem_cons.mp z with z | z
  · exact ne_of h M.cn (by intro q; cases q) z
  · exact ne (List.mem_singleton.mp z)
theorem MachAt.kSq (M : MachAt C H p d e S) (k : Kp [d, e] H H') {l : Addr} {xs : List V} (h : Sq H l xs) (ne : l ≠ e) : Sq H' l xs := by
  obtain ⟨o, rfl | rfl, h⟩ := h
  · exact Sq.lst (M.kLst k h ne)
  · exact Sq.tup (M.kTup k h)
end
/-! ### a number -/
structure FlB (fs : List (Str × V)) (w : Nat) (side : Int) (t : Addr) : Prop where
  l : fs.length ≤ 3
  wd : fs.lookup ("width" : Str) = some (V.int w)
  sd : fs.lookup ("side" : Str) = some (V.int side)
  rw_ : fs.lookup ("row" : Str) = some (V.ref t)
  no : ∀ m : Str, m ∉ (["width", "side", "row"] : List Str) → fs.lookup m = none
def sgn (v : Int) : Int := if v = 0 then 0 else 1
def iv (l : List Int) : List V := l.map V.int
theorem iv_len (l : List Int) : (iv l).length = l.length := List.length_map _
theorem iv_get {l : List Int} {i : Nat} {x : Int} (h : l[i]? = some x) : (iv l)[i]? = some (.int x) := by
  unfold iv
  rw [List.getElem?_map, h] <;> rfl
theorem iv_of {l : List Int} {i : Nat} {v : V} (h : (iv l)[i]? = some v) : ∃ x, l[i]? = some x ∧ v = .int x := by
  unfold iv at h
  rw [List.getElem?_map] at h
  cases e : l[i]? with
  | none => rw [e] at h; cases h
  | some x => rw [e] at h; exact ⟨x, rfl, (Option.some.inj h).symm⟩
theorem iv_set (l : List Int) (i : Nat) (x : Int) : (iv l).set i (.int x) = iv (l.set i x) := by
  unfold iv
  rw [List.map_set]
theorem iv_app (a b : List Int) : iv a ++ iv b = iv (a ++ b) := (List.map_append).symm
theorem iv_take (a : List Int) (n : Nat) : (iv a).take n = iv (a.take n) := (List.map_take).symm
theorem iv_drop (a : List Int) (n : Nat) : (iv a).drop n = iv (a.drop n) := (List.map_drop).symm
theorem iv_inj {a b : List Int} (h : iv a = iv b) : a = b := by
  unfold iv at h
  exact List.map_inj_right (fun x y e => V.int.inj e) |>.mp h
structure BigAt (C : Addr) (H : Hp) (x : Addr) (w : Nat) (v : Int) : Prop where
  ob : ∃ dx fs t, H x = some (.ins C dx fs) ∧ FlB fs w (sgn v) t ∧ H t = some (.tup (iv (digs (2 ^ w) v)))
  nn : 0 ≤ v
section
variable {C x : Addr} {H H' : Hp} {w : Nat} {v : Int}
theorem BigAt.mono (B : BigAt C H x w v) (hi : ∀ o D dx fs, H o = some (.ins D dx fs) → H' o = some (.ins D dx fs)) (ht : ∀ t xs, H t = some (.tup xs) → H' t = some (.tup xs)) : BigAt C H' x w v := by
  obtain ⟨dx, fs, t, h1, F, h2⟩ := B.ob
  exact ⟨⟨dx, fs, t, hi _ _ _ _ h1, F, ht _ _ h2⟩, B.nn⟩
theorem BigAt.same (B : BigAt C H x w v) (s : Same H H') : BigAt C H' x w v := B.mono (fun o D dx fs => s o _) fun t xs => s t _
theorem BigAt.keep {D p d e : Addr} {S : MS} (B : BigAt C H x w v) (M : MachAt D H p d e S) (k : Kp [d, e] H H') : BigAt C H' x w v := B.mono (fun _ _ _ _ h => M.kIns k h) fun _ _ h => M.kTup k h
theorem BigAt.lst (B : BigAt C H x w v) {l : Addr} {xs : List V} {o : HO} (h : H l = some (.lst xs)) : BigAt C (upd H l o) x w v :=
  B.mono (fun _ _ _ _ q => by rw [upd_ne (ne_of q h (by intro z; cases z))]; exact q) fun _ _ q => by rw [upd_ne (ne_of q h (by intro z; cases z))]; exact q
end
/-! ### defs that may be called by their names, methods -/
structure Cl (P : Program) (w : World) (K : PySem.W.Frag) (mg : Str → Option Value) (base : Heap) (k : Nat) (x : Str) (ps : List Str) (sp : Sp) : Prop where
  ex : ∃ fd : FuncData, FnOk P w K mg base CX0 k (He.ga K x) fd ps sp ∧ Binds K fd ps []
  m : mg x = some (.ref (He.ga K x))
  kp : PySem.W.keepIn K (.ref (He.ga K x)) = true
structure Mt (P : Program) (w : World) (K : PySem.W.Frag) (mg : Str → Option Value) (base : Heap) (k : Nat) (C : Addr) (m : Str) (ps : List Str) (sp : Sp) : Prop where
  ex : ∃ (f : Addr) (fd : FuncData), Cls K C ∧ Meth K C m f ∧ FnOk P w K mg base CX0 k f fd ps sp ∧ Binds K fd ps []
section
variable {P : Program} {w : World} {K : PySem.W.Frag} {mg : Str → Option Value} {base : Heap} {k j : Nat} {x : Str} {ps : List Str} {sp sp' : Sp}
theorem Cl.mono (c : Cl P w K mg base j x ps sp) (h : j ≤ k) : Cl P w K mg base k x ps sp := let ⟨fd, F, b⟩ := c.ex; ⟨⟨fd, F.mono h, b⟩, c.m, c.kp⟩
theorem Cl.imp (c : Cl P w K mg base k x ps sp) (h : ∀ vs H Q E, sp' vs H Q E → sp vs H Q E) : Cl P w K mg base k x ps sp' := let ⟨fd, F, b⟩ := c.ex; ⟨⟨fd, F.imp h, b⟩, c.m, c.kp⟩
theorem cl_of {st : Stmt} {N : List Str} (F : ∃ fd, FunD K x x (defArgs st) (defBody st) (defScope st) [] [] (He.ga K x) fd) (m : mg x = some (.ref (He.ga K x))) (S : C8.scC N ps (defScope st) = true)
    (b : ∀ (kV doc pm : Value) (an : Option Addr) (cdv ct : Value) (us : List Value), us.length = ps.length → bindArgs (PySem.W.fnOf x x (defArgs st) (defBody st) (defScope st) .none kV doc pm an cdv ct) ⟨us, []⟩ = pure (ps.zip us))
    (len : ∀ vs H Q E, sp vs H Q E → vs.length = ps.length)
    (hbody : ∀ (cdv : Value) (A : Around) (outer : List Env) (s : Shared) (H : Hp) (vs : List V) (Q : VK) (E : XK), Room k (A.deeper (envOfC x (defScope st) s.heap.objs.size (He.ga K x) cdv)) → sp vs H Q E →
      ∃ t, PSs (cxOf CX0 P w K mg base N x (defScope st) (He.ga K x) cdv A outer s H E).nox (defBody st) t ∧ t { nx := fun _ H' => Q .non H', rt := Q } (start N vs) H) : Cl P w K mg base (k + 1) x ps sp := by
  obtain ⟨fd, F⟩ := F
  refine ⟨⟨fd, F.ok (C8.fnScope_by S) len fun cdv A outer s H vs Q E hr h => ?_, F.bindsN b⟩, m, F.kp⟩
  obtain ⟨t, ht, hq⟩ := hbody cdv A outer s H vs Q E hr h
  exact ⟨t, ht.nox, hq⟩
theorem mt_of {C f : Addr} {q : Str} {st : Stmt} {N : List Str} (F : ∃ fd, FunD K x q (defArgs st) (defBody st) (defScope st) [] [] f fd) (c : Cls K C) (me : Meth K C x f) (S : C8.scC N ps (defScope st) = true)
    (b : ∀ (kV doc pm : Value) (an : Option Addr) (cdv ct : Value) (us : List Value), us.length = ps.length → bindArgs (PySem.W.fnOf x q (defArgs st) (defBody st) (defScope st) .none kV doc pm an cdv ct) ⟨us, []⟩ = pure (ps.zip us))
    (len : ∀ vs H Q E, sp vs H Q E → vs.length = ps.length)
    (hbody : ∀ (cdv : Value) (A : Around) (outer : List Env) (s : Shared) (H : Hp) (vs : List V) (Q : VK) (E : XK), Room k (A.deeper (envOfC q (defScope st) s.heap.objs.size f cdv)) → sp vs H Q E →
      ∃ t, PSs (cxOf CX0 P w K mg base N q (defScope st) f cdv A outer s H E).nox (defBody st) t ∧ t { nx := fun _ H' => Q .non H', rt := Q } (start N vs) H) : Mt P w K mg base (k + 1) C x ps sp := by
  obtain ⟨fd, F⟩ := F
  refine ⟨f, fd, c, me, F.ok (C8.fnScope_by S) len fun cdv A outer s H vs Q E hr h => ?_, F.bindsN b⟩
  obtain ⟨t, ht, hq⟩ := hbody cdv A outer s H vs Q E hr h
  exact ⟨t, ht.nox, hq⟩
end
/-- x(..): the promise of the arguments -/
def tCl (sp : Sp) (t : TA) : TE := fun σ H Q => t σ H fun vs H1 => sp vs H1 Q E0
/-- o.m(..) -/
def tMt (C : Addr) (m : Str) (sp : Sp) (ta : TE) (t : TA) : TE := fun σ H Q => ta σ H fun x H1 => ∃ a dx fs, x = .ref a ∧ H1 a = some (.ins C dx fs) ∧ fs.lookup m = none ∧ t σ H1 fun vs H2 => sp (x :: vs) H2 Q E0
section
variable {X : Cx} {k j : Nat} {C : Addr} {x m : Str} {ps : List Str} {sp : Sp} {p pos apos : Pos} {e o : PySem.Expr} {es : List PySem.Expr} {ta : TE} {t : TA}
theorem pe_cl (c : Cl X.prog X.w X.K X.mg X.base k x ps sp) (hr : Room j X.A) (hk : k ≤ j) (ha : PA X (e :: es) t) (hg : Gl X x := by rfl)
    (hdb : (x == ("__debug__" : Str)) = false := by decide) (he : starEach (e :: es) X.env = (false, eval e X.env) :: starEach es X.env := by rfl) (hpl : (backTo pos (starEach es X.env)).any (·.1) = false := by rfl) :
    PE X (.Call (.Name x p) (e :: es) [] pos) (tCl sp t) := by
  obtain ⟨fd, F, b⟩ := c.ex
  have q := pe_call (p := p) (pos := pos) F (hr.mono hk) hg c.m c.kp b .nil pass0 ha hdb he hpl
  refine ⟨fun pins s σ H Q I h => q.run pins s σ H Q I ?_⟩
  show t σ H fun vs H1 => sp (vs ++ []) H1 Q E0
  simp only [List.append_nil]
  exact h
theorem pe_mt {pl : Sem Bool} (c : Mt X.prog X.w X.K X.mg X.base k C m ps sp) (hr : Room j X.A) (hk : k ≤ j) (he : PE X o ta) (ha : PA X (e :: es) t)
    (hst : starEach (e :: es) X.env = (false, eval e X.env) :: starEach es X.env := by rfl) (hpl : (backTo pos (starEach es X.env)).any (·.1) = false := by rfl)
    (ht : eval (.Call (.Attribute o m apos) (e :: es) [] pos) X.env = (do
      let ov ← eval o X.env
      standAt apos.atName
      let (f, first) ← holding [ov] (getMethod ov m pl)
      callWith pos f first (backTo pos (starEach (e :: es) X.env)) (backToKw pos (keywordEach [] X.env))) := by rfl) :
    PE X (.Call (.Attribute o m apos) (e :: es) [] pos) (tMt C m sp ta t) := by
  obtain ⟨f, fd, hc, hm, F, b⟩ := c.ex
  have q := pe_meth (pl := pl) (apos := apos) (pos := pos) he hc hm F (hr.mono hk) b .nil pass0 ha hst hpl ht
  refine ⟨fun pins s σ H Q I h => q.run pins s σ H Q I ?_⟩
  show ta σ H fun x H1 => ∃ a dx fs, x = .ref a ∧ H1 a = some (.ins C dx fs) ∧ fs.lookup m = none ∧ t σ H1 fun vs H2 => sp (x :: (vs ++ [])) H2 Q E0
  simp only [List.append_nil]
  exact h
theorem pe_mt0 {pl : Sem Bool} (c : Mt X.prog X.w X.K X.mg X.base k C m ps sp) (hr : Room j X.A) (hk : k ≤ j) (he : PE X o ta)
    (ht : eval (.Call (.Attribute o m apos) [] [] pos) X.env = (do
      let ov ← eval o X.env
      standAt apos.atName
      let (f, first) ← holding [ov] (getMethod ov m pl)
      callWith pos f first (backTo pos (starEach [] X.env)) (backToKw pos (keywordEach [] X.env))) := by rfl) :
    PE X (.Call (.Attribute o m apos) [] [] pos) (tMt C m sp ta tNil) := by
  obtain ⟨f, fd, hc, hm, F, b⟩ := c.ex
  exact pe_meth0 (pl := pl) (apos := apos) (pos := pos) he hc hm F (hr.mono hk) b .nil pass0 ht
end
/-! ### a machine's and a number's attributes, read; a method's call -/
abbrev CM (K : PySem.W.Frag) : Addr := He.ga K "Machine"
abbrev CB (K : PySem.W.Frag) : Addr := He.ga K "Big"
section
variable {K : PySem.W.Frag} {mg : Str → Option Value} {H : Hp} {p d e x : Addr} {S : MS} {w : Nat} {v : Int} {Q : V → Prop} {R : Prop}
theorem MachAt.self (M : MachAt (CM K) H p d e S) {m : Str} (hm : m ∉ (["width", "limit_of_rows", "base", "counts", "entered"] : List Str)) (h : R) : ∃ a dx fs, V.ref p = .ref a ∧ H a = some (.ins (CM K) dx fs) ∧ fs.lookup m = none ∧ R := by
  obtain ⟨dx, fs, h1, F⟩ := M.ob
  exact ⟨p, dx, fs, rfl, h1, F.no m hm, h⟩
theorem fld_width (T : Tx K mg) (M : MachAt (CM K) H p d e S) (h : Q (.int S.w)) : ∃ a C dx fs v, V.ref p = .ref a ∧ H a = some (.ins C dx fs) ∧ Cls K C ∧ NoAttr K C "width" ∧ fs.lookup ("width" : Str) = some v ∧ Q v := by
  obtain ⟨dx, fs, h1, F⟩ := M.ob
  exact ⟨p, _, dx, fs, _, rfl, h1, T.c_Machine, T.n_Machine_width, F.wd, h⟩
theorem fld_limit (T : Tx K mg) (M : MachAt (CM K) H p d e S) (h : Q (.int S.c)) : ∃ a C dx fs v, V.ref p = .ref a ∧ H a = some (.ins C dx fs) ∧ Cls K C ∧ NoAttr K C "limit_of_rows" ∧ fs.lookup ("limit_of_rows" : Str) = some v ∧ Q v := by
  obtain ⟨dx, fs, h1, F⟩ := M.ob
  exact ⟨p, _, dx, fs, _, rfl, h1, T.c_Machine, T.n_Machine_limit_of_rows, F.lm, h⟩
theorem fld_base (T : Tx K mg) (M : MachAt (CM K) H p d e S) (h : Q (.int (2 ^ S.w))) : ∃ a C dx fs v, V.ref p = .ref a ∧ H a = some (.ins C dx fs) ∧ Cls K C ∧ NoAttr K C "base" ∧ fs.lookup ("base" : Str) = some v ∧ Q v := by
  obtain ⟨dx, fs, h1, F⟩ := M.ob
  exact ⟨p, _, dx, fs, _, rfl, h1, T.c_Machine, T.n_Machine_base, F.bs, h⟩
theorem fld_counts (T : Tx K mg) (M : MachAt (CM K) H p d e S) (h : Q (.ref d)) : ∃ a C dx fs v, V.ref p = .ref a ∧ H a = some (.ins C dx fs) ∧ Cls K C ∧ NoAttr K C "counts" ∧ fs.lookup ("counts" : Str) = some v ∧ Q v := by
  obtain ⟨dx, fs, h1, F⟩ := M.ob
  exact ⟨p, _, dx, fs, _, rfl, h1, T.c_Machine, T.n_Machine_counts, F.co, h⟩
theorem fld_entered (T : Tx K mg) (M : MachAt (CM K) H p d e S) (h : Q (.ref e)) : ∃ a C dx fs v, V.ref p = .ref a ∧ H a = some (.ins C dx fs) ∧ Cls K C ∧ NoAttr K C "entered" ∧ fs.lookup ("entered" : Str) = some v ∧ Q v := by
  obtain ⟨dx, fs, h1, F⟩ := M.ob
  exact ⟨p, _, dx, fs, _, rfl, h1, T.c_Machine, T.n_Machine_entered, F.en, h⟩
theorem fld_bwidth (T : Tx K mg) (B : BigAt (CB K) H x w v) (h : Q (.int w)) : ∃ a C dx fs v, V.ref x = .ref a ∧ H a = some (.ins C dx fs) ∧ Cls K C ∧ NoAttr K C "width" ∧ fs.lookup ("width" : Str) = some v ∧ Q v := by
  obtain ⟨dx, fs, t, h1, F, _⟩ := B.ob
  exact ⟨x, _, dx, fs, _, rfl, h1, T.c_Big, T.n_Big_width, F.wd, h⟩
theorem fld_side (T : Tx K mg) (B : BigAt (CB K) H x w v) (h : Q (.int (sgn v))) : ∃ a C dx fs v, V.ref x = .ref a ∧ H a = some (.ins C dx fs) ∧ Cls K C ∧ NoAttr K C "side" ∧ fs.lookup ("side" : Str) = some v ∧ Q v := by
  obtain ⟨dx, fs, t, h1, F, _⟩ := B.ob
  exact ⟨x, _, dx, fs, _, rfl, h1, T.c_Big, T.n_Big_side, F.sd, h⟩
theorem fld_row (T : Tx K mg) (B : BigAt (CB K) H x w v) (h : ∀ t, H t = some (.tup (iv (digs (2 ^ w) v))) → Q (.ref t)) : ∃ a C dx fs v, V.ref x = .ref a ∧ H a = some (.ins C dx fs) ∧ Cls K C ∧ NoAttr K C "row" ∧ fs.lookup ("row" : Str) = some v ∧ Q v := by
  obtain ⟨dx, fs, t, h1, F, h2⟩ := B.ob
  exact ⟨x, _, dx, fs, _, rfl, h1, T.c_Big, T.n_Big_row, F.rw_, h t h2⟩
end
/-! ### what the defs promise: small ones, the machine's -/
def spInt : Sp := fun vs H Q _ => ∃ i : Int, vs = [.int i] ∧ Q (.bl true) H
def spBetween : Sp := fun vs H Q _ => ∃ i a b : Int, vs = [.int i, .int a, .int b] ∧ a ≤ i ∧ i ≤ b ∧ Q (.bl true) H
def spCheckInt : Sp := fun vs H Q _ => ∃ (x : Str) (i : Int), vs = [.str x, .int i] ∧ Q .non H
def spCheckBetween : Sp := fun vs H Q _ => ∃ (x : Str) (i a b : Int), vs = [.str x, .int i, .int a, .int b] ∧ a ≤ i ∧ i ≤ b ∧ Q .non H
def spEnter (C : Addr) : Sp := fun vs H Q _ => ∃ p d e S x m n, vs = [.ref p, .str x, .int m, .int n] ∧ MachAt C H p d e S ∧ ∀ H', Kp [d, e] H H' → MachAt C H' p d e (S.op (.en x m n)) → Q .non H'
def spCount (C : Addr) : Sp := fun vs H Q _ => ∃ p d e S x k, vs = [.ref p, .str x, .int k] ∧ MachAt C H p d e S ∧ x ∈ wordsL ∧ ∀ H', Kp [d, e] H H' → MachAt C H' p d e (S.op (.ct x k)) → Q .non H'
end T87
namespace T87
open PySem PySem.Spec PyProof.Rows L2
section
variable {P : Program} {w : World} {K : PySem.W.Frag} {mg : Str → Option Value} {base : Heap} (T : Tx K mg)
include T
theorem ok_is_integer : Cl P w K mg base 1 "is_integer" ["value"] spInt := by
  refine cl_of (N := ["value"]) T.f_is_integer T.m_is_integer (by decide +kernel) (fun _ _ _ _ _ _ us hl => match us, hl with | [_], _ => rfl) (fun vs H Q E h => ?_) (fun cdv A outer s H vs Q E hr h => ?_)
  · obtain ⟨i, rfl, _⟩ := h
    rfl
  obtain ⟨i, rfl, q⟩ := h
  refine ⟨_, pss_one (ps_ret (pe_and (pe_callB call_isi (by rfl) T.b_isinstance (by decide +kernel) (pa_cons (pv 0) (pa_cons (pe_bltn (v := .ty "int") (by rfl) T.b_int (by decide +kernel) rfl) pa_nil)))
    (pe_one (pe_not (pe_callB call_isi (by rfl) T.b_isinstance (by decide +kernel) (pa_cons (pv 0) (pa_cons (pe_bltn (v := .ty "bool") (by rfl) T.b_bool (by decide +kernel) rfl) pa_nil))))))), ?_⟩
  refine ⟨_, rfl, _, _, _, _, true, rfl, .ty _, .base (.int _), kit_ty (by decide +kernel), true, rfl, ?_⟩
  refine iteT ?_
  exact ⟨_, rfl, _, _, _, _, false, rfl, .ty _, .base (.int _), kit_ty (by decide +kernel), _, rfl, q⟩
theorem ok_is_between : Cl P w K mg base 2 "is_between" ["value", "low", "high"] spBetween := by
  refine cl_of (N := ["value", "low", "high"]) T.f_is_between T.m_is_between (by decide +kernel) (fun _ _ _ _ _ _ us hl => match us, hl with | [_, _, _], _ => rfl) (fun vs H Q E h => ?_) (fun cdv A outer s H vs Q E hr h => ?_)
  · obtain ⟨i, a, b, rfl, _⟩ := h
    rfl
  obtain ⟨i, a, b, rfl, h1, h2, q⟩ := h
  refine ⟨_, pss_one (ps_ret (pe_and (pe_cl (ok_is_integer T) hr (by decide) (pa_cons (pv 0) pa_nil)) (pe_one (pe_chain op_le op_le (pv 1) (pv 0) (pv 2))))), ?_⟩
  refine ⟨_, rfl, i, rfl, true, rfl, ?_⟩
  refine iteT ?_
  refine ⟨_, rfl, _, rfl, _, _, rfl, rfl, _, rfl, ?_⟩
  rw [decide_eq_true h1]
  refine iteT ?_
  refine ⟨_, rfl, _, _, rfl, rfl, ?_⟩
  show Q (.bl (decide (i ≤ b))) H
  rw [decide_eq_true h2]
  exact q
theorem ok_check_integer : Cl P w K mg base 2 "check_integer" ["argument", "value"] spCheckInt := by
  refine cl_of (N := ["argument", "value"]) T.f_check_integer T.m_check_integer (by decide +kernel) (fun _ _ _ _ _ _ us hl => match us, hl with | [_, _], _ => rfl) (fun vs H Q E h => ?_) (fun cdv A outer s H vs Q E hr h => ?_)
  · obtain ⟨x, i, rfl, _⟩ := h
    rfl
  obtain ⟨x, i, rfl, q⟩ := h
  refine ⟨_, pss_one (ps_if (pt_not (pt_val (pe_cl (ok_is_integer T) hr (by decide) (pa_cons (pv 1) pa_nil)))) (pss_one ps_never) pss_nil), ?_⟩
  refine ⟨_, rfl, i, rfl, true, rfl, ?_⟩
  refine iteF ?_
  exact q
theorem ok_check_between : Cl P w K mg base 3 "check_between" ["argument", "value", "low", "high"] spCheckBetween := by
  refine cl_of (N := ["argument", "value", "low", "high"]) T.f_check_between T.m_check_between (by decide +kernel) (fun _ _ _ _ _ _ us hl => match us, hl with | [_, _, _, _], _ => rfl) (fun vs H Q E h => ?_) (fun cdv A outer s H vs Q E hr h => ?_)
  · obtain ⟨x, i, a, b, rfl, _⟩ := h
    rfl
  obtain ⟨x, i, a, b, rfl, h1, h2, q⟩ := h
  refine ⟨_, pss_one (ps_if (pt_not (pt_val (pe_cl (ok_is_between T) hr (by decide) (pa_cons (pv 1) (pa_cons (pv 2) (pa_cons (pv 3) pa_nil)))))) (pss_one ps_never) pss_nil), ?_⟩
  refine ⟨_, rfl, _, rfl, _, rfl, i, a, b, rfl, h1, h2, true, rfl, ?_⟩
  exact iteF q
end
end T87
namespace T87
open PySem PySem.Spec PyProof.Rows L2
theorem kvs_cong {a b : Str → Int} (h : ∀ x ∈ wordsL, a x = b x) : kvsOf a = kvsOf b := by
  unfold kvsOf
  exact List.map_congr_left fun x hx => by rw [h x hx]
section
variable {C p d e : Addr} {H H' : Hp} {S : MS}
theorem MachAt.pde (M : MachAt C H p d e S) : p ≠ d ∧ p ≠ e ∧ d ≠ e := by
  obtain ⟨dx, fs, h1, _⟩ := M.ob
  obtain ⟨ts, h2, _⟩ := M.en
  exact ⟨ne_of h1 M.cn (by intro z; cases z), ne_of h1 h2 (by intro z; cases z), ne_of M.cn h2 (by intro z; cases z)⟩
/-- the tally is written -/
theorem MachAt.setC (M : MachAt C H p d e S) (f : Str → Int) : MachAt C (upd H d (.dK (kvsOf f))) p d e { S with cnt := f } := by
  obtain ⟨dx, fs, h1, F⟩ := M.ob
  obtain ⟨ts, h2, E⟩ := M.en
  obtain ⟨n1, n2, n3⟩ := M.pde
  exact ⟨⟨dx, fs, by rw [upd_ne n1]; exact h1, F⟩, upd_same, ⟨ts, by rw [upd_ne (Ne.symm n3)]; exact h2, E.mono fun t xs q => by rw [upd_ne (ne_of q M.cn (by intro z; cases z))]; exact q⟩, M.w1, M.w2, M.c1, M.c2, M.vl⟩
theorem MachAt.setE (M : MachAt C H p d e S) {ts : List Addr} {en : List (Str × Int × Int)} (E : EntAt H ts en) (l : en.length ≤ 1000) : MachAt C (upd H e (.lst (ts.map V.ref))) p d e { S with ent := en } := by
  obtain ⟨dx, fs, h1, F⟩ := M.ob
  obtain ⟨ts0, h2, _⟩ := M.en
  obtain ⟨n1, n2, n3⟩ := M.pde
  exact ⟨⟨dx, fs, by rw [upd_ne n2]; exact h1, F⟩, by rw [upd_ne n3]; exact M.cn, ⟨ts, upd_same, E.mono fun t xs q => by rw [upd_ne (ne_of q h2 (by intro z; cases z))]; exact q⟩, M.w1, M.w2, M.c1, M.c2, l⟩
end
/-! ### the machine's methods -/
def spMInit (C : Addr) : Sp := fun vs H Q _ => ∃ (p dx : Addr) (w c : Nat), vs = [.ref p, .int w, .int c] ∧ H p = some (.ins C dx []) ∧ 8 ≤ w ∧ w ≤ 30 ∧ 2 ≤ c ∧ c ≤ 1000 ∧
  ∀ d e H', H d = none → H e = none → Kp [p] H H' → MachAt C H' p d e ⟨w, c, fun _ => 0, []⟩ → Q .non H'
def spParts (C : Addr) : Sp := fun vs H Q _ => ∃ p d e S, vs = [.ref p] ∧ MachAt C H p d e S ∧ ∀ t, H t = none → Q (.ref t) (upd H t (.tup [.int S.w, .int S.c]))
def spTally (C : Addr) : Sp := fun vs H Q _ => ∃ p d e S, vs = [.ref p] ∧ MachAt C H p d e S ∧ ∀ D ts H', H D = none → Same H H' → H' D = some (.lst (ts.map V.ref)) → Paired (fun t x => H' t = some (.tup [.str x, .int (S.cnt x)])) ts wordsL → Q (.ref D) H'
def spWalk (C : Addr) : Sp := fun vs H Q _ => ∃ p d e S, vs = [.ref p] ∧ MachAt C H p d e S ∧ ∀ (ts : List Addr) l, EntAt H ts S.ent → H l = none → Q (.ref l) (upd H l (.lst (ts.map V.ref)))
def spReset (C : Addr) : Sp := fun vs H Q _ => ∃ p d e S, vs = [.ref p] ∧ MachAt C H p d e S ∧ ∀ H', Kp [d, e] H H' → MachAt C H' p d e ⟨S.w, S.c, fun _ => 0, []⟩ → Q .non H'
def spCheckM (C : Addr) : Sp := fun vs H Q _ => ∃ p d e S, vs = [.ref p] ∧ MachAt C H p d e S ∧ Q .non H
theorem words_eq (K : PySem.W.Frag) : wordsV.map (He.Dv.v K) = wordsL.map V.str := rfl
section
variable {P : Program} {w : World} {K : PySem.W.Frag} {mg : Str → Option Value} {base : Heap} (T : Tx K mg)
include T
theorem ok_parts : Mt P w K mg base 1 (CM K) "parts" ["self"] (spParts (CM K)) := by
  refine mt_of (N := ["self"]) T.f_Machine_parts T.c_Machine T.t_Machine_parts (by decide +kernel) (fun _ _ _ _ _ _ us hl => match us, hl with | [_], _ => rfl) (fun vs H Q E h => ?_) (fun cdv A outer s H vs Q E hr h => ?_)
  · obtain ⟨p, d, e, S, rfl, _⟩ := h
    rfl
  obtain ⟨p, d, e, S, rfl, M, q⟩ := h
  refine ⟨_, pss_one (ps_ret (pe_tup (pa_cons (pe_fld (pv 0) rfl) (pa_cons (pe_fld (pv 0) rfl) pa_nil)))), ?_⟩
  refine ⟨_, rfl, ?_⟩
  refine fld_width T M ⟨_, rfl, ?_⟩
  refine fld_limit T M ⟨by show 2 ≤ sizeLine; decide, q⟩
theorem ok_walk : Mt P w K mg base 1 (CM K) "walk" ["self"] (spWalk (CM K)) := by
  refine mt_of (N := ["self"]) T.f_Machine_walk T.c_Machine T.t_Machine_walk (by decide +kernel) (fun _ _ _ _ _ _ us hl => match us, hl with | [_], _ => rfl) (fun vs H Q E h => ?_) (fun cdv A outer s H vs Q E hr h => ?_)
  · obtain ⟨p, d, e, S, rfl, _⟩ := h
    rfl
  obtain ⟨p, d, e, S, rfl, M, q⟩ := h
  obtain ⟨ts, h2, E2⟩ := M.en
  refine ⟨_, pss_one (ps_ret (pe_callTy call_list_of (by rfl) T.b_list (by decide +kernel) (pa_cons (pe_fld (pv 0) rfl) pa_nil))), ?_⟩
  refine ⟨_, rfl, ?_⟩
  refine fld_entered T M ?_
  exact ⟨e, _, rfl, .inl (SqL.of h2), fun l hl => q ts l E2 hl⟩
theorem ok_count : Mt P w K mg base 1 (CM K) "count" ["self", "word", "number"] (spCount (CM K)) := by
  refine mt_of (N := ["self", "word", "number"]) T.f_Machine_count T.c_Machine T.t_Machine_count (by decide +kernel) (fun _ _ _ _ _ _ us hl => match us, hl with | [_, _, _], _ => rfl) (fun vs H Q E h => ?_) (fun cdv A outer s H vs Q E hr h => ?_)
  · obtain ⟨p, d, e, S, x, k, rfl, _⟩ := h
    rfl
  obtain ⟨p, d, e, S, x, k, rfl, M, hx, q⟩ := h
  have hu := hu_of hr
  refine ⟨_, pss_one (ps_dput hu (pe_fld (pv 0) rfl) (pv 1) (pe_op op_add (pe_dget hu (pe_fld (pv 0) rfl) (pv 1) (fun _ _ => rfl)) (pv 2)) rfl), ?_⟩
  refine ⟨_, rfl, ?_⟩
  have g : DGet H d (V.str x) (some (.int (S.cnt x))) := by
    rw [← valV_kvs hx]
    exact DGet.k (k := Sum.inr x) M.cn
  refine fld_counts T M ⟨_, rfl, d, _, rfl, g, ?_⟩
  refine ⟨_, rfl, _, _, rfl, rfl, _, rfl, ?_⟩
  refine fld_counts T M ⟨_, rfl, d, _, rfl, DPut.k (k := Sum.inr x) M.cn (by rw [kvs_len]; decide), ?_⟩
  rw [putK_kvs hx]
  refine q _ (Kp.put (by simp)) ?_
  have e1 : (fun y => if y = x then S.cnt x + k else S.cnt y) = fun y => if y = x then S.cnt y + k else S.cnt y := by
    funext y
    by_cases z : y = x
    · rw [if_pos z, if_pos z, z]
    · rw [if_neg z, if_neg z]
  rw [e1]
  exact M.setC _
theorem ok_enter : Mt P w K mg base 1 (CM K) "enter" ["self", "word", "m", "n"] (spEnter (CM K)) := by
  refine mt_of (N := ["self", "word", "m", "n"]) T.f_Machine_enter T.c_Machine T.t_Machine_enter (by decide +kernel) (fun _ _ _ _ _ _ us hl => match us, hl with | [_, _, _, _], _ => rfl) (fun vs H Q E h => ?_) (fun cdv A outer s H vs Q E hr h => ?_)
  · obtain ⟨p, d, e, S, x, m, n, rfl, _⟩ := h
    rfl
  obtain ⟨p, d, e, S, x, m, n, rfl, M, q⟩ := h
  obtain ⟨ts, h2, E2⟩ := M.en
  obtain ⟨u, hu1, ru⟩ := T.i_MOST_WALK
  refine ⟨_, pss_one (ps_if (pt_cmpR op_lt (pe_callB call_len_seq (by rfl) T.b_len PySem.boot_len (pa_cons (pe_fld (pv 0) rfl) pa_nil)) (pe_glob rfl hu1 ru) (nomark _))
    (pss_one (ps_expr (pe_bm PySem.F.plainAttrs_list PySem.F.slot_list_append PySem.F.type_list_append mt_append (pe_fld (pv 0) rfl) (pa_cons (pe_tup (pa_cons (pv 1) (pa_cons (pv 2) (pa_cons (pv 3) pa_nil)))) pa_nil)))) pss_nil), ?_⟩
  refine ⟨_, rfl, ?_⟩
  refine fld_entered T M ?_
  refine ⟨e, _, rfl, .inl (SqL.of h2), _, _, rfl, rfl, _, rfl, ?_⟩
  have hl : (ts.map V.ref).length = S.ent.length := by rw [List.length_map]; exact E2.len
  refine ite2 (fun c => ?_) (fun c => ?_)
  · have c' := of_decide_eq_true c
    rw [hl] at c'
    have c2 : S.ent.length < 1000 := by omega
    refine ⟨_, rfl, ?_⟩
    refine fld_entered T M ?_
    refine ⟨.inl ⟨rfl, _, SqL.of h2⟩, _, rfl, _, rfl, _, rfl, (by show 3 ≤ sizeLine; decide), fun t ht => ?_⟩
    have ne : e ≠ t := ne_of_none h2 ht
    refine ⟨e, ts.map V.ref, _, rfl, rfl, by rw [upd_ne ne]; exact h2, by rw [hl]; exact Nat.lt_of_lt_of_le c2 (by decide), ?_⟩
    have s1 : Same H (upd H t (.tup [.str x, .int m, .int n])) := same_upd ht
    refine q _ ((Kp.of s1).trans (Kp.put (by simp))) ?_
    have E3 : EntAt (upd H t (.tup [.str x, .int m, .int n])) (ts ++ [t]) (S.ent ++ [(x, m, n)]) := EntAt.snoc (E2.mono fun b xs z => s1 b _ z) upd_same
    have M3 := (M.same s1).setE E3 (by rw [List.length_append, List.length_singleton]; omega)
    rw [List.map_append] at M3
    show MachAt (CM K) _ p d e (if S.ent.length < 1000 then { S with ent := S.ent ++ [(x, m, n)] } else S)
    rw [if_pos c2]
    exact M3
  · have c' := of_decide_eq_false (Bool.eq_false_iff.mpr c)
    rw [hl] at c'
    refine q H (Kp.refl _ _) ?_
    show MachAt (CM K) _ p d e (if S.ent.length < 1000 then { S with ent := S.ent ++ [(x, m, n)] } else S)
    rw [if_neg (by omega)]
    exact M
theorem ok_check_machine : Cl P w K mg base 1 "check_machine" ["value"] (spCheckM (CM K)) := by
  refine cl_of (N := ["value"]) T.f_check_machine T.m_check_machine (by decide +kernel) (fun _ _ _ _ _ _ us hl => match us, hl with | [_], _ => rfl) (fun vs H Q E h => ?_) (fun cdv A outer s H vs Q E hr h => ?_)
  · obtain ⟨p, d, e, S, rfl, _⟩ := h
    rfl
  obtain ⟨p, d, e, S, rfl, M, q⟩ := h
  obtain ⟨dx, fs, h1, _⟩ := M.ob
  refine ⟨_, pss_one (ps_if (pt_not (pt_val (pe_callB (C8.call_isC T.insM) (by rfl) T.b_isinstance (by decide +kernel) (pa_cons (pv 0) (pa_cons (pe_glob (v := .ref (CM K)) rfl T.m_Machine rfl) pa_nil))))) (pss_one ps_never) pss_nil), ?_⟩
  refine ⟨_, rfl, p, dx, fs, rfl, h1, true, rfl, ?_⟩
  exact iteF q
end
end T87
namespace T87
open PySem PySem.Spec PyProof.Rows L2
theorem look_no : ∀ {fs : List (Str × V)} {m : Str}, m ∉ fs.map (·.1) → fs.lookup m = none
  | [], _, _ => rfl
  | (k, v) :: fs, m, h => by
    have h1 : ¬ m = k := fun z => h (by rw [z]; simp)
    have h2 : m ∉ fs.map (·.1) := fun z => h (by simp [z])
    rw [List.lookup_cons, beq_eq_false_iff_ne.mpr h1]
    exact look_no h2
theorem Kp.free {xs : List Addr} {H H' : Hp} {D : Addr} (k : Kp xs H H') (h : H' D = none) (n : D ∉ xs) : H D = none := by
  cases e : H D with
  | none => rfl
  | some o =>
    have := k D o e n
    rw [h] at this
    cases this
theorem pair_map {α β γ : Type} {F : α → γ → Prop} {G : α → β → Prop} {f : β → γ} : ∀ {as : List α} {bs : List β}, Paired G as bs → (∀ a b, G a b → F a (f b)) → Paired F as (bs.map f)
  | _, _, .nil, _ => .nil
  | _, _, .cons x r, h => .cons (h _ _ x) (pair_map r h)
theorem take_next {α : Type} {l : List α} {i : Nat} {x : α} (h : l[i]? = some x) : l.take (i + 1) = l.take i ++ [x] := by
  rw [List.take_add_one, h] <;> rfl
structure Mr (P : Program) (w : World) (K : PySem.W.Frag) (mg : Str → Option Value) (base : Heap) (k : Nat) (x : Str) (ps : List Str) (sp : Sp) : Prop where
  ex : ∃ (f : Addr) (fd : FuncData), Mk K (He.ga K x) f ∧ FnOk P w K mg base CX0 k f fd ps sp ∧ Binds K fd ps []
  m : mg x = some (.ref (He.ga K x))
theorem pe_mr {X : Cx} {k j : Nat} {x : Str} {ps : List Str} {sp : Sp} {p pos : Pos} {e : PySem.Expr} {es : List PySem.Expr} {t : TA} (c : Mr X.prog X.w X.K X.mg X.base k x ps sp) (hr : Room j X.A) (hk : k + 1 ≤ j) (ha : PA X (e :: es) t) (hg : Gl X x := by rfl)
    (hdb : (x == ("__debug__" : Str)) = false := by decide) (he : starEach (e :: es) X.env = (false, eval e X.env) :: starEach es X.env := by rfl) (hpl : (backTo pos (starEach es X.env)).any (·.1) = false := by rfl) :
    PE X (.Call (.Name x p) (e :: es) [] pos) (tMake (He.ga X.K x) sp [] E0 t) := by
  obtain ⟨f, fd, M, F, b⟩ := c.ex
  exact pe_make (p := p) (pos := pos) M F (hr.mono hk) hg c.m b .nil pass0 ha hdb he hpl
theorem mergeW {f : Str → Int} : ∀ {l : List Str} {acc : List (Key × V)}, (∀ x ∈ l, ∀ kv ∈ acc, kv.1 ≠ Sum.inr x) → l.Nodup → mergeK acc (l.map fun x => ((Sum.inr x : Key), V.int (f x))) = acc ++ l.map fun x => (Sum.inr x, V.int (f x))
  | [], acc, _, _ => by simp [mergeK]
  | x :: l, acc, h, nd => by
    have h1 : putK acc (Sum.inr x : Key) (V.int (f x)) = acc ++ [(Sum.inr x, V.int (f x))] := by
      unfold putK
      rw [if_neg]
      intro z
      obtain ⟨kv, hk, e⟩ := List.any_eq_true.mp z
      exact h x (by simp) kv hk (of_decide_eq_true e)
    rw [List.map_cons]
    show mergeK (putK acc (Sum.inr x : Key) (V.int (f x))) _ = _
    rw [h1, mergeW ?_ (List.nodup_cons.mp nd).2]
    · simp
    · intro y hy kv hk
      rcases List.mem_append.mp hk with z | z
      · exact h y (by simp [hy]) kv z
      · rw [List.mem_singleton] at z
        rw [z]
        intro q
        exact (List.nodup_cons.mp nd).1 (by rw [Sum.inr.inj q]; exact hy)
section
variable {P : Program} {w : World} {K : PySem.W.Frag} {mg : Str → Option Value} {base : Heap} (T : Tx K mg)
include T
theorem ok_Minit : Mr P w K mg base 3 "Machine" ["self", "bits", "cutoff"] (spMInit (CM K)) := by
  obtain ⟨fd, F⟩ := T.f_Machine_init
  obtain ⟨ds, hv, hb⟩ := F.binds1 (ps := ["self", "bits", "cutoff"]) 3 2 (by simp) rfl fun T kV doc pm an cdv ct us its h1 h2 => match us, its, h1, h2 with | [_, _, _], [_, _], _, _ => ⟨_, rfl, rfl⟩
  obtain rfl : ds = [] := by
    cases hv
    rfl
  refine ⟨⟨_, fd, T.k_Machine, ?_, hb⟩, T.m_Machine⟩
  refine F.ok (N := ["self", "bits", "cutoff", "word"]) (C8.fnScope_by (by decide +kernel)) (fun vs H Q E h => ?_) (fun cdv A outer s H vs Q E hr h => ?_)
  · obtain ⟨p, dx, w, c, rfl, _⟩ := h
    rfl
  obtain ⟨p, dx, w, c, rfl, h0, w1, w2, c1, c2, q⟩ := h
  obtain ⟨u1, hu1, ru1⟩ := T.i_LEAST_BITS
  obtain ⟨u2, hu2, ru2⟩ := T.i_MOST_BITS
  obtain ⟨u3, hu3, ru3⟩ := T.i_MOST_CUTOFF
  have nd : (["self", "bits", "cutoff", "word"] : List Str).Nodup := by decide +kernel
  refine ⟨_, PSs.nox (pss_cons (ps_if (pt_not (pt_val (pe_cl (ok_is_between T) hr (by decide) (pa_cons (pv 1) (pa_cons (pe_glob rfl hu1 ru1) (pa_cons (pe_glob rfl hu2 ru2) pa_nil)))))) (pss_one ps_never) pss_nil)
    (pss_cons (ps_if (pt_not (pt_val (pe_cl (ok_is_between T) hr (by decide) (pa_cons (pv 2) (pa_cons pe_int (pa_cons (pe_glob rfl hu3 ru3) pa_nil)))))) (pss_one ps_never) pss_nil)
    (pss_cons (ps_fld (pv 0) (pv 1) rfl)
    (pss_cons (ps_fld (pv 0) (pv 2) rfl)
    (pss_cons (ps_fld (pv 0) (pe_op op_shl pe_int (pv 1)) rfl)
    (pss_cons (ps_fld (pv 0) (pe_callTy (call_dictP rfl) (by rfl) T.b_dict (by decide +kernel) (pa_cons (pe_lc (own := [("word", 3)]) (g := gName 3) (tt := tYes) (by rfl) nd (pi_tup (pe_glob (v := .ref (He.ga K "WORDS")) rfl T.m_WORDS rfl))
        (blkOk_by (own := [("word", 3)]) (N := ["self", "bits", "cutoff", "word"]) (sc := defScope s_Machine_init) (by decide +kernel)) (fun _ _ _ _ _ => pg_name (i := 3) nd rfl (Or.inl rfl)) (fun _ _ _ _ _ => pts_nil)
        (fun _ _ _ _ _ => pe_tup (pa_cons (pv 3) (pa_cons pe_int pa_nil)))) pa_nil)) rfl)
    (pss_one (ps_fld (pv 0) (pe_lst pa_nil) rfl)))))))), ?_⟩
  refine ⟨_, rfl, w, 8, 30, rfl, by omega, by omega, true, rfl, ?_⟩
  refine iteF ?_
  refine ⟨_, rfl, c, 2, 1000, rfl, by omega, by omega, true, rfl, ?_⟩
  refine iteF ?_
  refine ⟨_, rfl, _, rfl, p, _, dx, _, rfl, h0, T.c_Machine, T.n_Machine_width, by decide, ?_⟩
  refine ⟨_, rfl, _, rfl, p, _, dx, _, rfl, upd_same, T.c_Machine, T.n_Machine_limit_of_rows, by show 1 < 1000; decide, ?_⟩
  refine ⟨_, rfl, _, _, rfl, rfl, ⟨by omega, by omega, by decide⟩, _, rfl, p, _, dx, _, rfl, upd_same, T.c_Machine, T.n_Machine_base, by show 2 < 1000; decide, ?_⟩
  refine ⟨_, rfl, ⟨_, T.words _⟩, fun D hD => ?_⟩
  have nDp : D ≠ p := fun z => by rw [z, upd_same] at hD; cases hD
  have k1 : Kp [p] H (upd (upd (upd H p (.ins (CM K) dx (putF "width" (.int w) []))) p (.ins (CM K) dx (putF "limit_of_rows" (.int c) (putF "width" (.int w) [])))) p (.ins (CM K) dx (putF "base" (.int (1 * 2 ^ (w : Int).toNat)) (putF "limit_of_rows" (.int c) (putF "width" (.int w) []))))) :=
    ((Kp.put (by simp)).trans (Kp.put (by simp))).trans (Kp.put (by simp))
  have hD0 : H D = none := k1.free hD (by simpa using nDp)
  refine lc_tup (K := K) (a := He.ga K "WORDS") (xs := wordsL.map V.str) (fun i H2 => ∃ ts : List Addr, Kp [p] H H2 ∧ H2 p = some (.ins (CM K) dx (putF "base" (.int (1 * 2 ^ (w : Int).toNat)) (putF "limit_of_rows" (.int c) (putF "width" (.int w) [])))) ∧
    H2 D = some (.lst (ts.map V.ref)) ∧ Paired (fun t x => H2 t = some (.tup [.str x, .int 0])) ts (wordsL.take i)) ?_ ?_ ?_ ?_
  · exact ⟨[], k1.trans (Kp.new hD), by rw [upd_ne (Ne.symm nDp), upd_same], upd_same, .nil⟩
  · intro i H2 _ _
    exact T.words H2
  · rintro i x H2 hx ⟨ts, kp, hp, hl, hts⟩
    obtain ⟨z, hz, rfl⟩ : ∃ z, wordsL[i]? = some z ∧ x = V.str z := by
      rw [List.getElem?_map] at hx
      cases e : wordsL[i]? with
      | none => rw [e] at hx; cases hx
      | some z => rw [e] at hx; exact ⟨z, rfl, (Option.some.inj hx).symm⟩
    refine ⟨rfl, ?_⟩
    refine ⟨_, rfl, by show 2 ≤ sizeLine; decide, fun t ht => ?_⟩
    have hl' : (upd H2 t (.tup [.str z, .int 0])) D = some (.lst (ts.map V.ref)) := by rw [upd_ne (ne_of_none hl ht)]; exact hl
    have lt : ts.length ≤ 10 := by
      rw [Paired.length hts, List.length_take]
      exact Nat.min_le_right _ _
    refine ⟨_, hl', by rw [List.length_map]; exact Nat.lt_of_le_of_lt lt (by decide), ts ++ [t], ?_, ?_, ?_, ?_⟩
    · exact (kp.trans (Kp.new ht)).own hD0 (Kp.put (by simp))
    · rw [upd_ne (Ne.symm nDp), upd_ne (ne_of_none hp ht)]
      exact hp
    · rw [upd_same, List.map_append] <;> rfl
    · rw [take_next hz]
      refine Paired.snoc (Paired.mapP hts fun a b e => ?_) ?_
      · rw [upd_ne (ne_of (e) hl (by intro q; cases q)), upd_ne (ne_of_none e ht)]
        exact e
      · rw [upd_ne (Ne.symm (ne_of_none hl ht)), upd_same]
  rintro H2 ⟨ts, kp, hp, hl, hts⟩
  rw [show (wordsL.map V.str).length = 10 from rfl, show wordsL.take 10 = wordsL from rfl] at hts
  have hps : Paired (fun t kv => SqT K H2 t [kV kv.1, kv.2]) ts (kvsOf fun _ => 0) := by
    unfold kvsOf
    exact pair_map hts fun a b e => SqT.of e
  refine ⟨D, ts, kvsOf fun _ => 0, rfl, SqL.of hl, hps, fun d hd => ?_⟩
  refine ⟨_, rfl, p, _, dx, _, rfl, by rw [upd_ne (ne_of_none hp hd)]; exact hp, T.c_Machine, T.n_Machine_counts, by show 3 < 1000; decide, ?_⟩
  refine ⟨by show 0 ≤ sizeLine; decide, fun e he => ?_⟩
  have nep : e ≠ p := fun z => by rw [z, upd_same] at he; cases he
  have ndp : d ≠ p := Ne.symm (ne_of_none hp hd)
  have ned : e ≠ d := fun z => by rw [z, upd_ne ndp, upd_same] at he; cases he
  have kp2 : Kp [p] H (upd (upd H2 d (.dK (mergeK [] (kvsOf fun _ => 0)))) p (.ins (CM K) dx (putF "counts" (.ref d) (putF "base" (.int (1 * 2 ^ (w : Int).toNat)) (putF "limit_of_rows" (.int c) (putF "width" (.int w) [])))))) := (kp.trans (Kp.new hd)).trans (Kp.put (by simp))
  have hd0 : H d = none := kp.free hd (by simpa using ndp)
  have he0 : H e = none := kp2.free he (by simpa using nep)
  refine ⟨_, rfl, p, _, dx, _, rfl, by rw [upd_ne (Ne.symm nep), upd_same], T.c_Machine, T.n_Machine_entered, by show 4 < 1000; decide, ?_⟩
  refine q d e _ hd0 he0 ((kp2.trans (Kp.new he)).trans (Kp.put (by simp))) ?_
  refine ⟨⟨dx, _, upd_same, ?_⟩, ?_, ⟨[], ?_, .nil⟩, w1, w2, c1, c2, by show 0 ≤ 1000; decide⟩
  · have ew : (1 * 2 ^ (w : Int).toNat : Int) = 2 ^ w := by rw [Int.toNat_natCast]; omega
    rw [ew]
    refine ⟨by show 5 ≤ 5; decide, rfl, rfl, rfl, rfl, rfl, fun m hm => look_no ?_⟩
    show m ∉ (["width", "limit_of_rows", "base", "counts", "entered"] : List Str)
    exact hm
  · rw [upd_ne ndp, upd_ne (Ne.symm ned), upd_ne ndp, upd_same, show mergeK [] (kvsOf fun _ => 0) = kvsOf fun _ => 0 from mergeW (f := fun _ => 0) (l := wordsL) (by simp) (by decide +kernel)]
  · rw [upd_ne nep, upd_same] <;> rfl
end
end T87
namespace T87
open PySem PySem.Spec PyProof.Rows L2
/-! ### deep data -/
def Fit (k : Nat) (d : PyData) : Prop := d.canLay0 = true ∧ d.depth ≤ k
theorem Fit.shaped {d : PyData} (h : Fit 8 d) : SeqAt.shaped d = true := by
  show (d.canLay0 && decide (d.depth ≤ 64)) = true
  rw [Bool.and_eq_true]
  exact ⟨h.1, decide_eq_true (by have := h.2; omega)⟩
theorem Fit.mono {d : PyData} {j k : Nat} (h : Fit j d) (l : j ≤ k) : Fit k d := ⟨h.1, Nat.le_trans h.2 l⟩
theorem Fit.refl {d : PyData} {k : Nat} (h : Fit k d) : PyData.eqv d d = true := SeqAt.eqv_refl d h.1
theorem fit_all {k : Nat} : ∀ {ds : List PyData}, (∀ d ∈ ds, Fit k d) → PyData.canLayAll0 ds = true ∧ PyData.depthAll ds ≤ k
  | [], _ => ⟨by simp [PyData.canLayAll0], by simp [PyData.depthAll]⟩
  | d :: ds, h => by
    have h1 := h d (by simp)
    have h2 := fit_all (ds := ds) fun e he => h e (by simp [he])
    refine ⟨by simp [PyData.canLayAll0, h1.1, h2.1], ?_⟩
    have := h1.2
    have := h2.2
    simp only [PyData.depthAll]
    omega
theorem fit_int (k : Nat) (i : Int) : Fit k (.int i) := ⟨by simp [PyData.canLay0], by simp [PyData.depth]⟩
theorem fit_str (k : Nat) {x : Str} (h : PyData.strOk x = true) : Fit k (.str x) := ⟨by simp [PyData.canLay0, h], by simp [PyData.depth]⟩
theorem fit_lst {k : Nat} {ds : List PyData} (h : ∀ d ∈ ds, Fit k d) : Fit (k + 1) (.list ds) := by
  have := fit_all h
  exact ⟨by simp only [PyData.canLay0]; exact this.1, by simp only [PyData.depth]; have := this.2; omega⟩
theorem fit_tup {k : Nat} {ds : List PyData} (h : ∀ d ∈ ds, Fit k d) : Fit (k + 1) (.tuple ds) := by
  have := fit_all h
  exact ⟨by simp only [PyData.canLay0]; exact this.1, by simp only [PyData.depth]; have := this.2; omega⟩
theorem fit_ints (k : Nat) (l : List Int) : ∀ d ∈ l.map PyData.int, Fit k d := fun d h => by
  obtain ⟨i, _, rfl⟩ := List.mem_map.mp h
  exact fit_int k i
theorem dp_ints {K : PySem.W.Frag} {H : Hp} : ∀ l : List Int, DpAll K H (iv l) (l.map PyData.int)
  | [] => .nil
  | i :: l => .cons (.int i) (dp_ints l)
theorem pe_fldK {X : Cx} {K : PySem.W.Frag} {e : PySem.Expr} {f : Str} {pos : Pos} {ta : TE} (hK : X.K = K) (he : PE X e ta) (hb : attributeBase e f X.env (eval e X.env) = eval e X.env) : PE X (.Attribute e f pos) (tFld K ta f) := by
  subst hK
  exact pe_fld he hb
/-! ### the numbers' class -/
def spBInit (C : Addr) : Sp := fun vs H Q _ => ∃ (x dx : Addr) (w : Nat) (s : Int) (t : Addr), vs = [.ref x, .int w, .int s, .ref t] ∧ H x = some (.ins C dx []) ∧
  ∀ fs H', Kp [x] H H' → H' x = some (.ins C dx fs) → FlB fs w s t → Q .non H'
def REq (C : Addr) : Addr → Addr → Hp → Prop := fun a b H => ∃ w v, BigAt C H a w v ∧ BigAt C H b w v
def spSign (C : Addr) : Sp := fun vs H Q _ => ∃ x w v, vs = [.ref x] ∧ BigAt C H x w v ∧ Q (.int (sgn v)) H
def spDigits (C : Addr) : Sp := fun vs H Q _ => ∃ x w v, vs = [.ref x] ∧ BigAt C H x w v ∧ ∀ l, H l = none → Q (.ref l) (upd H l (.lst (iv (digs (2 ^ w) v))))
def spBits (C : Addr) : Sp := fun vs H Q _ => ∃ x w v, vs = [.ref x] ∧ BigAt C H x w v ∧ Q (.int w) H
theorem BigAt.self {C x : Addr} {H : Hp} {w : Nat} {v : Int} (B : BigAt C H x w v) {R : Prop} {m : Str} (hm : m ∉ (["width", "side", "row"] : List Str)) (h : R) : ∃ a dx fs, V.ref x = .ref a ∧ H a = some (.ins C dx fs) ∧ fs.lookup m = none ∧ R := by
  obtain ⟨dx, fs, t, h1, F, _⟩ := B.ob
  exact ⟨x, dx, fs, rfl, h1, F.no m hm, h⟩
section
variable {P : Program} {w : World} {K : PySem.W.Frag} {mg : Str → Option Value} {base : Heap} (T : Tx K mg)
include T
theorem ok_tally : Mt P w K mg base 1 (CM K) "tally" ["self"] (spTally (CM K)) := by
  refine mt_of (N := ["self", "word"]) T.f_Machine_tally T.c_Machine T.t_Machine_tally (by decide +kernel) (fun _ _ _ _ _ _ us hl => match us, hl with | [_], _ => rfl) (fun vs H Q E h => ?_) (fun cdv A outer s H vs Q E hr h => ?_)
  · obtain ⟨p, d, e, S, rfl, _⟩ := h
    rfl
  obtain ⟨p, d, e, S, rfl, M, q⟩ := h
  have hu := hu_of hr
  have nd : (["self", "word"] : List Str).Nodup := by decide +kernel
  refine ⟨_, pss_one (ps_ret (pe_lc (own := [("word", 1)]) (g := gName 1) (tt := tYes) (by rfl) nd (pi_tup (pe_glob (v := .ref (He.ga K "WORDS")) rfl T.m_WORDS rfl))
        (blkOk_by (own := [("word", 1)]) (N := ["self", "word"]) (sc := defScope s_Machine_tally) (by decide +kernel)) (fun _ _ _ _ _ => pg_name (i := 1) nd rfl (Or.inl rfl)) (fun _ _ _ _ _ => pts_nil)
        (fun _ _ _ _ _ => pe_tup (pa_cons (pv 1) (pa_cons (pe_dget (by exact hu) (pe_fldK (K := K) rfl (pv 0) rfl) (pv 1) (fun _ _ => rfl)) pa_nil))))), ?_⟩
  refine ⟨_, rfl, ⟨_, T.words _⟩, fun D hD => ?_⟩
  refine lc_tup (K := K) (a := He.ga K "WORDS") (xs := wordsL.map V.str) (fun i H2 => ∃ ts : List Addr, Same H H2 ∧
    H2 D = some (.lst (ts.map V.ref)) ∧ Paired (fun t x => H2 t = some (.tup [.str x, .int (S.cnt x)])) ts (wordsL.take i)) ?_ ?_ ?_ ?_
  · exact ⟨[], same_upd hD, upd_same, .nil⟩
  · intro i H2 _ _
    exact T.words H2
  · rintro i x H2 hx ⟨ts, kp, hl, hts⟩
    obtain ⟨z, hz, rfl⟩ : ∃ z, wordsL[i]? = some z ∧ x = V.str z := by
      rw [List.getElem?_map] at hx
      cases e : wordsL[i]? with
      | none => rw [e] at hx; cases hx
      | some z => rw [e] at hx; exact ⟨z, rfl, (Option.some.inj hx).symm⟩
    have M2 := M.same kp
    have g : DGet H2 d (V.str z) (some (.int (S.cnt z))) := by
      rw [← valV_kvs (List.mem_of_getElem? hz)]
      exact DGet.k (k := Sum.inr z) M2.cn
    refine ⟨rfl, ?_⟩
    refine ⟨_, rfl, _, rfl, ?_⟩
    refine fld_counts T M2 ⟨_, rfl, d, _, rfl, g, ?_⟩
    refine ⟨by show 2 ≤ sizeLine; decide, fun t ht => ?_⟩
    have hl' : (upd H2 t (.tup [.str z, .int (S.cnt z)])) D = some (.lst (ts.map V.ref)) := by rw [upd_ne (ne_of_none hl ht)]; exact hl
    have lt : ts.length ≤ 10 := by
      rw [Paired.length hts, List.length_take]
      exact Nat.min_le_right _ _
    refine ⟨_, hl', by rw [List.length_map]; exact Nat.lt_of_le_of_lt lt (by decide), ts ++ [t], ?_, ?_, ?_⟩
    · intro b o hb
      have n1 : b ≠ D := fun z => by rw [z, hD] at hb; cases hb
      rw [upd_ne n1, upd_ne (ne_of_none (kp b o hb) ht)]
      exact kp b o hb
    · rw [upd_same, List.map_append] <;> rfl
    · rw [take_next hz]
      refine Paired.snoc (Paired.mapP hts fun a b e => ?_) ?_
      · rw [upd_ne (ne_of e hl (by intro q; cases q)), upd_ne (ne_of_none e ht)]
        exact e
      · rw [upd_ne (Ne.symm (ne_of_none hl ht)), upd_same]
  rintro H2 ⟨ts, kp, hl, hts⟩
  exact q D ts H2 hD kp hl hts
theorem ok_reset : Mt P w K mg base 1 (CM K) "reset" ["self"] (spReset (CM K)) := by
  refine mt_of (N := ["self", "word"]) T.f_Machine_reset T.c_Machine T.t_Machine_reset (by decide +kernel) (fun _ _ _ _ _ _ us hl => match us, hl with | [_], _ => rfl) (fun vs H Q E h => ?_) (fun cdv A outer s H vs Q E hr h => ?_)
  · obtain ⟨p, d, e, S, rfl, _⟩ := h
    rfl
  obtain ⟨p, d, e, S, rfl, M, q⟩ := h
  have hu := hu_of hr
  have nd : (["self", "word"] : List Str).Nodup := by decide +kernel
  refine ⟨_, pss_cons (ps_for PassesOwn.never rfl (pi_tup (pe_glob (v := .ref (He.ga K "WORDS")) rfl T.m_WORDS rfl)) (pg_name (i := 1) nd rfl (Or.inl rfl))
      (pss_one (ps_dput hu (pe_fld (pv 0) rfl) (pv 1) pe_int rfl)))
    (pss_one (ps_expr (pe_bm0 PySem.F.plainAttrs_list PySem.F.slot_list_clear PySem.F.type_list_clear mt_clear (pe_fld (pv 0) rfl)))), ?_⟩
  refine ⟨_, rfl, ⟨_, T.words _⟩, ?_⟩
  refine for_tup (K := K) (a := He.ga K "WORDS") (xs := wordsL.map V.str) (fun i σ H2 => ∃ v, σ = [some (.ref p), v] ∧ Kp [d, e] H H2 ∧ MachAt (CM K) H2 p d e { S with cnt := fun y => if y ∈ wordsL.take i then 0 else S.cnt y }) ?_ ?_ ?_ ?_
  · exact ⟨none, rfl, Kp.refl _ _, M⟩
  · intro i σ H2 _ _
    exact T.words H2
  · rintro i x σ H2 hx ⟨v, rfl, kp, M2⟩
    obtain ⟨z, hz, rfl⟩ : ∃ z, wordsL[i]? = some z ∧ x = V.str z := by
      rw [List.getElem?_map] at hx
      cases e : wordsL[i]? with
      | none => rw [e] at hx; cases hx
      | some z => rw [e] at hx; exact ⟨z, rfl, (Option.some.inj hx).symm⟩
    refine ⟨_, rfl, ?_⟩
    refine fld_counts T M2 ⟨_, rfl, d, _, rfl, DPut.k (k := Sum.inr z) M2.cn (by rw [kvs_len]; decide), ?_⟩
    rw [putK_kvs (List.mem_of_getElem? hz)]
    refine ⟨_, rfl, kp.trans (Kp.put (by simp)), ?_⟩
    have e1 : (fun y => if y = z then (0 : Int) else if y ∈ wordsL.take i then 0 else S.cnt y) = fun y => if y ∈ wordsL.take (i + 1) then 0 else S.cnt y := by
      funext y
      rw [take_next hz]
      by_cases h : y = z
      · rw [if_pos h, if_pos (by simp [h])]
      · rw [if_neg h]
        by_cases h2 : y ∈ wordsL.take i
        · rw [if_pos h2, if_pos (by simp [h2])]
        · rw [if_neg h2, if_neg (by simp [h2, h])]
    rw [e1]
    exact M2.setC _
  rintro σ H2 ⟨v, rfl, kp, M2⟩
  obtain ⟨ts, h2, E2⟩ := M2.en
  refine ⟨_, rfl, ?_⟩
  refine fld_entered T M2 ?_
  refine ⟨.inl ⟨rfl, _, SqL.of h2⟩, e, _, rfl, rfl, h2, ?_⟩
  refine q _ (kp.trans (Kp.put (by simp))) ?_
  have M3 := M2.setE (ts := []) (en := []) .nil (by decide)
  have e2 : kvsOf (fun y => if y ∈ wordsL.take (wordsL.map V.str).length then (0 : Int) else S.cnt y) = kvsOf fun _ => 0 := kvs_cong fun x hx => by
    rw [show wordsL.take (wordsL.map V.str).length = wordsL from rfl, if_pos hx]
  refine ⟨M3.ob, ?_, M3.en, M3.w1, M3.w2, M3.c1, M3.c2, M3.vl⟩
  have := M3.cn
  rw [show (({ S with cnt := fun y => if y ∈ wordsL.take (wordsL.map V.str).length then (0 : Int) else S.cnt y, ent := [] } : MS)).cnt = fun y => if y ∈ wordsL.take (wordsL.map V.str).length then (0 : Int) else S.cnt y from rfl] at this
  rw [← e2]
  exact this
theorem ok_Binit : Mr P w K mg base 1 "Big" ["self", "width", "side", "row"] (spBInit (CB K)) := by
  obtain ⟨fd, F⟩ := T.f_Big_init
  refine ⟨⟨_, fd, T.k_Big, ?_, F.bindsN fun _ _ _ _ _ _ us hl => match us, hl with | [_, _, _, _], _ => rfl⟩, T.m_Big⟩
  refine F.ok (N := ["self", "width", "side", "row"]) (C8.fnScope_by (by decide +kernel)) (fun vs H Q E h => ?_) (fun cdv A outer s H vs Q E hr h => ?_)
  · obtain ⟨x, dx, w, sd, t, rfl, _⟩ := h
    rfl
  obtain ⟨x, dx, w, sd, t, rfl, h0, q⟩ := h
  refine ⟨_, PSs.nox (pss_cons (ps_fld (pv 0) (pv 1) rfl) (pss_cons (ps_fld (pv 0) (pv 2) rfl) (pss_one (ps_fld (pv 0) (pv 3) rfl)))), ?_⟩
  refine ⟨_, rfl, _, rfl, x, _, dx, _, rfl, h0, T.c_Big, T.n_Big_width, by decide, ?_⟩
  refine ⟨_, rfl, _, rfl, x, _, dx, _, rfl, upd_same, T.c_Big, T.n_Big_side, by show 1 < 1000; decide, ?_⟩
  refine ⟨_, rfl, _, rfl, x, _, dx, _, rfl, upd_same, T.c_Big, T.n_Big_row, by show 2 < 1000; decide, ?_⟩
  refine q _ _ ((Kp.put (by simp)).trans ((Kp.put (by simp)).trans (Kp.put (by simp)))) upd_same ?_
  refine ⟨by show 3 ≤ 3; decide, rfl, rfl, rfl, fun m hm => look_no ?_⟩
  show m ∉ (["width", "side", "row"] : List Str)
  exact hm
theorem ok_sign : Mt P w K mg base 1 (CB K) "sign" ["self"] (spSign (CB K)) := by
  refine mt_of (N := ["self"]) T.f_Big_sign T.c_Big T.t_Big_sign (by decide +kernel) (fun _ _ _ _ _ _ us hl => match us, hl with | [_], _ => rfl) (fun vs H Q E h => ?_) (fun cdv A outer s H vs Q E hr h => ?_)
  · obtain ⟨x, w, v, rfl, _⟩ := h
    rfl
  obtain ⟨x, w, v, rfl, B, q⟩ := h
  refine ⟨_, pss_one (ps_ret (pe_fld (pv 0) rfl)), ?_⟩
  refine ⟨_, rfl, ?_⟩
  exact fld_side T B q
theorem ok_bits : Mt P w K mg base 1 (CB K) "bits" ["self"] (spBits (CB K)) := by
  refine mt_of (N := ["self"]) T.f_Big_bits T.c_Big T.t_Big_bits (by decide +kernel) (fun _ _ _ _ _ _ us hl => match us, hl with | [_], _ => rfl) (fun vs H Q E h => ?_) (fun cdv A outer s H vs Q E hr h => ?_)
  · obtain ⟨x, w, v, rfl, _⟩ := h
    rfl
  obtain ⟨x, w, v, rfl, B, q⟩ := h
  refine ⟨_, pss_one (ps_ret (pe_fld (pv 0) rfl)), ?_⟩
  refine ⟨_, rfl, ?_⟩
  exact fld_bwidth T B q
theorem ok_digits : Mt P w K mg base 1 (CB K) "digits" ["self"] (spDigits (CB K)) := by
  refine mt_of (N := ["self"]) T.f_Big_digits T.c_Big T.t_Big_digits (by decide +kernel) (fun _ _ _ _ _ _ us hl => match us, hl with | [_], _ => rfl) (fun vs H Q E h => ?_) (fun cdv A outer s H vs Q E hr h => ?_)
  · obtain ⟨x, w, v, rfl, _⟩ := h
    rfl
  obtain ⟨x, w, v, rfl, B, q⟩ := h
  refine ⟨_, pss_one (ps_ret (pe_callTy call_list_of (by rfl) T.b_list (by decide +kernel) (pa_cons (pe_fld (pv 0) rfl) pa_nil))), ?_⟩
  refine ⟨_, rfl, ?_⟩
  exact fld_row T B fun t ht => ⟨t, _, rfl, .inr (SqT.of ht), q⟩
theorem ok_Beq : Mt P w K mg base 1 (CB K) "__eq__" ["self", "other"] (spEq (REq (CB K))) := by
  refine mt_of (N := ["self", "other"]) T.f_Big_eq T.c_Big T.t_Big_eq (by decide +kernel) (fun _ _ _ _ _ _ us hl => match us, hl with | [_, _], _ => rfl) (fun vs H Q E h => ?_) (fun cdv A outer s H vs Q E hr h => ?_)
  · obtain ⟨a, b, rfl, _⟩ := h
    rfl
  obtain ⟨a, b, rfl, ⟨w, v, B1, B2⟩, q⟩ := h
  obtain ⟨dx, fs, t2, h1, _⟩ := B2.ob
  refine ⟨_, pss_one (ps_ret (pe_and (pe_callB (C8.call_isC T.insG) (by rfl) T.b_isinstance (by decide +kernel) (pa_cons (pv 1) (pa_cons (pe_glob (v := .ref (CB K)) rfl T.m_Big rfl) pa_nil)))
    (pe_one (pe_cmpR (op_eqD hr.units) (pe_tup (pa_cons (pe_fld (pv 0) rfl) (pa_cons (pe_fld (pv 0) rfl) (pa_cons (pe_fld (pv 0) rfl) pa_nil)))) (pe_tup (pa_cons (pe_fld (pv 1) rfl) (pa_cons (pe_fld (pv 1) rfl) (pa_cons (pe_fld (pv 1) rfl) pa_nil)))) (nomark _))))), ?_⟩
  refine ⟨_, rfl, b, dx, fs, rfl, h1, true, rfl, ?_⟩
  refine iteT ?_
  refine ⟨_, rfl, ?_⟩
  refine fld_bwidth T B1 ⟨_, rfl, ?_⟩
  refine fld_side T B1 ⟨_, rfl, ?_⟩
  refine fld_row T B1 fun r1 e1 => ?_
  refine ⟨by show 3 ≤ sizeLine; decide, fun p hp => ?_⟩
  have s1 := same_upd (o := .tup [.int w, .int (sgn v), .ref r1]) hp
  have B2' := B2.same s1
  refine ⟨_, rfl, ?_⟩
  refine fld_bwidth T B2' ⟨_, rfl, ?_⟩
  refine fld_side T B2' ⟨_, rfl, ?_⟩
  refine fld_row T B2' fun r2 e2 => ?_
  refine ⟨by show 3 ≤ sizeLine; decide, fun p2 hp2 => ?_⟩
  have s2 := same_upd (o := .tup [.int w, .int (sgn v), .ref r2]) hp2
  have f : Fit 8 (.tuple [.int w, .int (sgn v), .tuple ((digs (2 ^ w) v).map PyData.int)]) := fit_tup fun d hd => by
    rcases List.mem_cons.mp hd with rfl | hd
    · exact fit_int _ _
    rcases List.mem_cons.mp hd with rfl | hd
    · exact fit_int _ _
    obtain rfl := List.mem_singleton.mp hd
    exact fit_tup (fit_ints _ _)
  refine ⟨_, _, .tup (SqT.of (s2 _ _ upd_same)) (.cons (.int _) (.cons (.int _) (.cons (.tup (SqT.of (s2 _ _ (s1 _ _ e1))) (dp_ints _)) .nil))), .tup (SqT.of upd_same) (.cons (.int _) (.cons (.int _) (.cons (.tup (SqT.of (s2 _ _ e2)) (dp_ints _)) .nil))), f.shaped, f.shaped, ?_⟩
  rw [f.refl]
  exact q _ (s1.trans s2)
end
end T87
namespace T87
open PySem PySem.Spec PyProof.Rows L2
/-! ### numbers made, read, checked -/
def BIG : Int := 2 ^ 8000
def spMade (K : PySem.W.Frag) : Sp := fun vs H Q _ => ∃ p d e S sd l ds, vs = [.ref p, .int sd, .ref l] ∧ MachAt (CM K) H p d e S ∧ H l = some (.lst (iv ds)) ∧ Dg (2 ^ S.w) ds ∧ (0 < val (2 ^ S.w) ds → sd = 1) ∧
  ∀ x H', H x = none → Same H H' → BigAt (CB K) H' x S.w (val (2 ^ S.w) ds) → Q (.ref x) H'
def spDigs (K : PySem.W.Frag) : Sp := fun vs H Q _ => ∃ p d e S n, vs = [.ref p, .int n] ∧ MachAt (CM K) H p d e S ∧ 0 ≤ n ∧ n < BIG ∧
  ∀ l H', H l = none → Same H H' → H' l = some (.lst (iv (digs (2 ^ S.w) n))) → Q (.ref l) H'
def spBigOf (K : PySem.W.Frag) : Sp := fun vs H Q _ => ∃ p d e S n, vs = [.ref p, .int n] ∧ MachAt (CM K) H p d e S ∧ 0 ≤ n ∧ n < BIG ∧
  ∀ x H', H x = none → Same H H' → BigAt (CB K) H' x S.w n → Q (.ref x) H'
def spValue (C : Addr) : Sp := fun vs H Q _ => ∃ x w v, vs = [.ref x] ∧ BigAt C H x w v ∧ 1 ≤ w ∧ w ≤ 100 ∧ v < BIG ∧ ∀ H', Same H H' → Q (.int v) H'
def spCheckBig (K : PySem.W.Frag) : Sp := fun vs H Q _ => ∃ p d e S a x v, vs = [.ref p, .str a, .ref x] ∧ MachAt (CM K) H p d e S ∧ BigAt (CB K) H x S.w v ∧ Q .non H
def spCheckBigs (K : PySem.W.Frag) : Sp := fun vs H Q _ => ∃ p d e S x v y u, vs = [.ref p, .ref x, .ref y] ∧ MachAt (CM K) H p d e S ∧ BigAt (CB K) H x S.w v ∧ BigAt (CB K) H y S.w u ∧ Q .non H
def spCheckAny (K : PySem.W.Frag) : Sp := fun vs H Q _ => ∃ x w v, vs = [.ref x] ∧ BigAt (CB K) H x w v ∧ Q .non H
def spCompact (K : PySem.W.Frag) : Sp := fun vs H Q _ => ∃ x w v, vs = [.ref x] ∧ BigAt (CB K) H x w v ∧ Q (.bl (decide (((digs (2 ^ w) v).length : Int) ≤ 1))) H
theorem two_pow {w : Nat} (h : 1 ≤ w) : (2 : Int) ≤ 2 ^ w := by
  have := ipow_le (b := 2) (by decide) h
  simpa using this
theorem MachAt.b2 {C p d e : Addr} {H : Hp} {S : MS} (M : MachAt C H p d e S) : (2 : Int) ≤ 2 ^ S.w := two_pow (by have := M.w1; omega)
theorem pow_len {w : Nat} (h : 8 ≤ w) {n : Int} (hn : n < BIG) : n < ((2 : Int) ^ w) ^ 1000 := by
  rw [← Int.pow_mul]
  exact Int.lt_of_lt_of_le hn (ipow_le (by decide) (by omega))
theorem s1000 : 1000 < sizeLine := small1000 (Nat.le_refl _)
theorem nat_abs_lt {i : Int} {n : Nat} (h0 : 0 ≤ i) (h : i < 2 ^ n) : i.natAbs < 2 ^ n := by
  have e : ((i.natAbs : Nat) : Int) = i := Int.natAbs_of_nonneg h0
  have : ((i.natAbs : Nat) : Int) < ((2 ^ n : Nat) : Int) := by rw [e, Int.natCast_pow]; exact h
  omega
section
variable {P : Program} {w : World} {K : PySem.W.Frag} {mg : Str → Option Value} {base : Heap} (T : Tx K mg)
include T
theorem ok_made : Cl P w K mg base 3 "made" ["machine", "side", "digits"] (spMade K) := by
  refine cl_of (N := ["machine", "side", "digits", "size"]) T.f_made T.m_made (by decide +kernel) (fun _ _ _ _ _ _ us hl => match us, hl with | [_, _, _], _ => rfl) (fun vs H Q E h => ?_) (fun cdv A outer s H vs Q E hr h => ?_)
  · obtain ⟨p, d, e, S, sd, l, ds, rfl, _⟩ := h
    rfl
  obtain ⟨p, d, e, S, sd, l, ds, rfl, M, hl, D, hsd, q⟩ := h
  have nd : (["machine", "side", "digits", "size"] : List Str).Nodup := by decide +kernel
  have hlen : (iv ds).length = ds.length := iv_len ds
  refine ⟨_, pss_cons (ps_set (i := 3) nd rfl (Or.inl rfl) (pe_callB call_len_seq (by rfl) T.b_len PySem.boot_len (pa_cons (pv 2) pa_nil)))
    (pss_cons (ps_while PassesOwn.never (PW.pt (pw_and (pt_cmpR op_gt (pv 3) pe_int (nomark _)) (pw_and1 (pt_cmpR op_eq (pe_ix ix_list (pv 2) (pe_op op_sub (pv 3) pe_int) (fun _ _ => rfl)) pe_int (nomark _)))))
      (pss_one (ps_set (i := 3) nd rfl (Or.inl rfl) (pe_op op_sub (pv 3) pe_int))))
    (pss_one (ps_ret (pe_mr (ok_Binit T) hr (by decide) (pa_cons (pe_fld (pv 0) rfl) (pa_cons (pe_ifExp (pt_cmpR op_gt (pv 3) pe_int (nomark _)) (pv 1) pe_int)
      (pa_cons (pe_callTy call_tuple_of (by rfl) T.b_tuple (by decide +kernel) (pa_cons (pe_slice sl_list (pv 2) po_none (po_some (pv 3))) pa_nil)) pa_nil))))))), ?_⟩
  refine ⟨_, rfl, l, _, rfl, .inl (SqL.of hl), ?_⟩
  rw [hlen]
  refine ⟨fun m σ H2 => H2 = H ∧ m ≤ ds.length ∧ σ = [some (.ref p), some (.int sd), some (.ref l), some (.int (m : Nat))] ∧ ∀ i, m ≤ i → i < ds.length → ds[i]? = some 0, ⟨ds.length, rfl, Nat.le_refl _, rfl, fun i h1 h2 => by omega⟩, ?_⟩
  rintro m σ H2 ⟨rfl, hm, rfl, hz⟩
  refine ⟨_, rfl, _, _, rfl, rfl, _, rfl, ?_⟩
  refine ite2 (fun c => ?_) (fun c => ?_)
  · have c' : (0 : Int) < (m : Int) := of_decide_eq_true c
    have hm1 : m - 1 < ds.length := by omega
    have e1 : ((m : Int) - 1) = ((m - 1 : Nat) : Int) := by omega
    refine ⟨_, rfl, _, rfl, _, _, rfl, rfl, l, _, _, .int ds[m - 1], rfl, rfl, SqL.of hl, by rw [e1]; exact atI_nat (iv_get (List.getElem?_eq_getElem hm1)), rfl, _, rfl, ?_⟩
    refine ite2 (fun c2 => ?_) (fun c2 => ?_)
    · have c2' : V.int ds[m - 1] = V.int 0 := of_decide_eq_true c2
      refine ⟨fun σ' H' => ∃ m', m' < m ∧ (H' = H2 ∧ m' ≤ ds.length ∧ σ' = [some (.ref p), some (.int sd), some (.ref l), some (.int (m' : Nat))] ∧ ∀ i, m' ≤ i → i < ds.length → ds[i]? = some 0), fun σ' H' h => h, ?_⟩
      refine ⟨_, rfl, _, _, rfl, rfl, m - 1, by omega, rfl, by omega, by rw [← e1] <;> rfl, fun i h1 h2 => ?_⟩
      by_cases e : i = m - 1
      · rw [e, List.getElem?_eq_getElem hm1, V.int.inj c2']
      · exact hz i (by omega) h2
    · have c2' : ¬ V.int ds[m - 1] = V.int 0 := of_decide_eq_false (Bool.eq_false_iff.mpr c2)
      have hcond : m = 0 ∨ ds[m - 1]? ≠ some 0 := .inr fun z => c2' (by rw [List.getElem?_eq_getElem hm1] at z; rw [Option.some.inj z])
      have hdone : ds.take m = digs (2 ^ S.w) (val (2 ^ S.w) ds) := trim_eq M.b2 D hm hz hcond
      refine ⟨_, rfl, ?_⟩
      refine fld_width T M ⟨_, rfl, _, _, rfl, rfl, _, rfl, ?_⟩
      have big : ∀ (sd2 : Int), sd2 = sgn (val (2 ^ S.w) ds) → ∀ (p2 : Addr) (H3 : Hp), Same H2 H3 → H3 p2 = some (.lst (iv (digs (2 ^ S.w) (val (2 ^ S.w) ds)))) → ∀ (t : Addr), H3 t = none → ∀ (x dx : Addr), (upd H3 t (.tup (iv (digs (2 ^ S.w) (val (2 ^ S.w) ds))))) x = none → (upd H3 t (.tup (iv (digs (2 ^ S.w) (val (2 ^ S.w) ds))))) dx = none → dx ≠ x →
          spBInit (CB K) [V.ref x, V.int S.w, V.int sd2, V.ref t] (upd (upd (upd H3 t (.tup (iv (digs (2 ^ S.w) (val (2 ^ S.w) ds))))) dx (.own x)) x (.ins (CB K) dx [])) (fun v H4 => v = .non ∧ Q (.ref x) H4) E0 := by
        intro sd2 hs p2 H3 s3 hp2 t ht x dx hx hdx hne
        refine ⟨x, dx, S.w, sd2, t, rfl, upd_same, fun fs H4 k4 h4 F4 => ⟨rfl, ?_⟩⟩
        have s4 : Same (upd H3 t (.tup (iv (digs (2 ^ S.w) (val (2 ^ S.w) ds))))) H4 := fun b o hb => k4 b o (by rw [upd_ne (ne_of_none hb hx), upd_ne (ne_of_none hb hdx)]; exact hb) (by simpa using ne_of_none hb hx)
        have hx2 : H2 x = none := (s3.trans (same_upd ht)).free hx
        refine q x H4 hx2 (s3.trans ((same_upd ht).trans s4)) ⟨⟨dx, fs, t, h4, ?_, s4 _ _ upd_same⟩, val_nonneg (by have := M.b2; omega) D⟩
        rw [← hs]
        exact F4
      refine ite2 (fun c => ?_) (fun c => ?_)
      · have c' : (0 : Int) < (m : Int) := of_decide_eq_true c
        refine ⟨_, rfl, _, rfl, _, rfl, _, rfl, l, _, rfl, SqL.of hl, fun p2 hp2 => ?_⟩
        rw [cut_to, iv_take, hdone]
        refine ⟨p2, _, rfl, .inl ⟨SqL.of upd_same, fun t ht => ?_⟩⟩
        refine big sd ?_ p2 _ (same_upd hp2) upd_same t ht
        have hv : 0 < val (2 ^ S.w) ds := by
          rcases Int.lt_or_le 0 (val (2 ^ S.w) ds) with z | z
          · exact z
          · rw [digs_zero z] at hdone
            have := congrArg List.length hdone
            rw [List.length_take, List.length_nil] at this
            omega
        rw [hsd hv]
        unfold sgn
        rw [if_neg (by omega)]
      · have c' : ¬ (0 : Int) < (m : Int) := of_decide_eq_false (Bool.eq_false_iff.mpr c)
        obtain rfl : m = 0 := by omega
        refine ⟨_, rfl, _, rfl, _, rfl, l, _, rfl, SqL.of hl, fun p2 hp2 => ?_⟩
        rw [cut_to, iv_take, hdone]
        refine ⟨p2, _, rfl, .inl ⟨SqL.of upd_same, fun t ht => ?_⟩⟩
        refine big 0 ?_ p2 _ (same_upd hp2) upd_same t ht
        have hv : val (2 ^ S.w) ds = 0 := by
          rw [← val_digs M.b2 (val_nonneg (by have := M.b2; omega) D), ← hdone, List.take_zero]
          rfl
        rw [hv]
        rfl
  · have c' : ¬ (0 : Int) < (m : Int) := of_decide_eq_false (Bool.eq_false_iff.mpr c)
    have hcond : m = 0 ∨ ds[m - 1]? ≠ some 0 := .inl (by omega)
    have hdone : ds.take m = digs (2 ^ S.w) (val (2 ^ S.w) ds) := trim_eq M.b2 D hm hz hcond
    refine ⟨_, rfl, ?_⟩
    refine fld_width T M ⟨_, rfl, _, _, rfl, rfl, _, rfl, ?_⟩
    have big : ∀ (sd2 : Int), sd2 = sgn (val (2 ^ S.w) ds) → ∀ (p2 : Addr) (H3 : Hp), Same H2 H3 → H3 p2 = some (.lst (iv (digs (2 ^ S.w) (val (2 ^ S.w) ds)))) → ∀ (t : Addr), H3 t = none → ∀ (x dx : Addr), (upd H3 t (.tup (iv (digs (2 ^ S.w) (val (2 ^ S.w) ds))))) x = none → (upd H3 t (.tup (iv (digs (2 ^ S.w) (val (2 ^ S.w) ds))))) dx = none → dx ≠ x →
        spBInit (CB K) [V.ref x, V.int S.w, V.int sd2, V.ref t] (upd (upd (upd H3 t (.tup (iv (digs (2 ^ S.w) (val (2 ^ S.w) ds))))) dx (.own x)) x (.ins (CB K) dx [])) (fun v H4 => v = .non ∧ Q (.ref x) H4) E0 := by
      intro sd2 hs p2 H3 s3 hp2 t ht x dx hx hdx hne
      refine ⟨x, dx, S.w, sd2, t, rfl, upd_same, fun fs H4 k4 h4 F4 => ⟨rfl, ?_⟩⟩
      have s4 : Same (upd H3 t (.tup (iv (digs (2 ^ S.w) (val (2 ^ S.w) ds))))) H4 := fun b o hb => k4 b o (by rw [upd_ne (ne_of_none hb hx), upd_ne (ne_of_none hb hdx)]; exact hb) (by simpa using ne_of_none hb hx)
      have hx2 : H2 x = none := (s3.trans (same_upd ht)).free hx
      refine q x H4 hx2 (s3.trans ((same_upd ht).trans s4)) ⟨⟨dx, fs, t, h4, ?_, s4 _ _ upd_same⟩, val_nonneg (by have := M.b2; omega) D⟩
      rw [← hs]
      exact F4
    refine ite2 (fun c => ?_) (fun c => ?_)
    · have c' : (0 : Int) < (m : Int) := of_decide_eq_true c
      refine ⟨_, rfl, _, rfl, _, rfl, _, rfl, l, _, rfl, SqL.of hl, fun p2 hp2 => ?_⟩
      rw [cut_to, iv_take, hdone]
      refine ⟨p2, _, rfl, .inl ⟨SqL.of upd_same, fun t ht => ?_⟩⟩
      refine big sd ?_ p2 _ (same_upd hp2) upd_same t ht
      have hv : 0 < val (2 ^ S.w) ds := by
        rcases Int.lt_or_le 0 (val (2 ^ S.w) ds) with z | z
        · exact z
        · rw [digs_zero z] at hdone
          have := congrArg List.length hdone
          rw [List.length_take, List.length_nil] at this
          omega
      rw [hsd hv]
      unfold sgn
      rw [if_neg (by omega)]
    · have c' : ¬ (0 : Int) < (m : Int) := of_decide_eq_false (Bool.eq_false_iff.mpr c)
      obtain rfl : m = 0 := by omega
      refine ⟨_, rfl, _, rfl, _, rfl, l, _, rfl, SqL.of hl, fun p2 hp2 => ?_⟩
      rw [cut_to, iv_take, hdone]
      refine ⟨p2, _, rfl, .inl ⟨SqL.of upd_same, fun t ht => ?_⟩⟩
      refine big 0 ?_ p2 _ (same_upd hp2) upd_same t ht
      have hv : val (2 ^ S.w) ds = 0 := by
        rw [← val_digs M.b2 (val_nonneg (by have := M.b2; omega) D), ← hdone, List.take_zero]
        rfl
      rw [hv]
      rfl
end
end T87
namespace T87
open PySem PySem.Spec PyProof.Rows L2
def spBig (K : PySem.W.Frag) : Sp := spBigOf K
theorem sgn_mul {v : Int} : sgn v * v = v := by
  unfold sgn
  by_cases h : v = 0
  · rw [if_pos h, h] <;> rfl
  · rw [if_neg h, Int.one_mul]
theorem sgn_bound (v : Int) : -(2 ^ 64) < sgn v ∧ sgn v < 2 ^ 64 := by
  unfold sgn
  split <;> decide
theorem rev_take {α : Type} (l : List α) (i : Nat) : (l.reverse.take i).reverse = l.drop (l.length - i) := by
  rw [List.reverse_take, List.reverse_reverse, List.length_reverse]
section
variable {P : Program} {w : World} {K : PySem.W.Frag} {mg : Str → Option Value} {base : Heap} (T : Tx K mg)
include T
theorem ok_digits_of : Cl P w K mg base 1 "digits_of" ["machine", "n"] (spDigs K) := by
  refine cl_of (N := ["machine", "n", "found"]) T.f_digits_of T.m_digits_of (by decide +kernel) (fun _ _ _ _ _ _ us hl => match us, hl with | [_, _], _ => rfl) (fun vs H Q E h => ?_) (fun cdv A outer s H vs Q E hr h => ?_)
  · obtain ⟨p, d, e, S, n, rfl, _⟩ := h
    rfl
  obtain ⟨p, d, e, S, n, rfl, M, n0, n1, q⟩ := h
  have nd : (["machine", "n", "found"] : List Str).Nodup := by decide +kernel
  refine ⟨_, pss_cons (ps_set (i := 2) nd rfl (Or.inl rfl) (pe_lst pa_nil))
    (pss_cons (ps_while PassesOwn.never (pt_cmpR op_gt (pv 1) pe_int (nomark _))
      (pss_cons (ps_expr (pe_bm PySem.F.plainAttrs_list PySem.F.slot_list_append PySem.F.type_list_append mt_append (pv 2) (pa_cons (pe_op op_mod (pv 1) (pe_fld (pv 0) rfl)) pa_nil)))
      (pss_one (ps_set (i := 1) nd rfl (Or.inl rfl) (pe_op op_shrN (pv 1) (pe_fld (pv 0) rfl))))))
    (pss_one (ps_ret (pv 2)))), ?_⟩
  refine ⟨by show 0 ≤ sizeLine; decide, fun l hl => ?_⟩
  have total : (digs (2 ^ S.w) n).length ≤ 1000 := digs_len M.b2 n0 (pow_len M.w1 n1)
  refine ⟨fun m σ H2 => ∃ pre, Same H H2 ∧ H2 l = some (.lst (iv pre)) ∧ σ = [some (.ref p), some (.int (m : Nat)), some (.ref l)] ∧ digs (2 ^ S.w) n = pre ++ digs (2 ^ S.w) (m : Nat), ⟨n.toNat, [], same_upd hl, upd_same, by rw [Int.toNat_of_nonneg n0] <;> rfl, by rw [Int.toNat_of_nonneg n0] <;> rfl⟩, ?_⟩
  rintro m σ H2 ⟨pre, s2, hl2, rfl, hpre⟩
  have M2 := M.same s2
  refine ⟨_, rfl, _, _, rfl, rfl, _, rfl, ?_⟩
  refine ite2 (fun c => ?_) (fun c => ?_)
  · have c' : (0 : Int) < (m : Int) := of_decide_eq_true c
    rw [digs_pos M.b2 c'] at hpre
    refine ⟨fun σ' H' => ∃ m', m' < m ∧ ∃ pre, Same H H' ∧ H' l = some (.lst (iv pre)) ∧ σ' = [some (.ref p), some (.int (m' : Nat)), some (.ref l)] ∧ digs (2 ^ S.w) n = pre ++ digs (2 ^ S.w) (m' : Nat), fun σ' H' h => h, ?_⟩
    refine ⟨_, rfl, ?_⟩
    refine ⟨.inl ⟨rfl, _, SqL.of hl2⟩, _, rfl, _, rfl, ?_⟩
    refine fld_base T M2 ?_
    refine ⟨_, _, rfl, rfl, ipow_pos (by decide) _, ?_⟩
    refine ⟨l, _, _, rfl, rfl, hl2, ?_, ?_⟩
    · have := congrArg List.length hpre
      rw [List.length_append, List.length_cons] at this
      rw [iv_len]
      exact Nat.lt_of_le_of_lt (by omega) s1000
    refine ⟨_, rfl, _, rfl, ?_⟩
    refine fld_width T (M2.lst hl2 (M.neN hl)) ?_
    refine ⟨(m : Int), S.w, rfl, rfl, ?_⟩
    have eq : (m : Int) / 2 ^ S.w = ((((m : Int) / 2 ^ S.w).toNat : Nat) : Int) := (Int.toNat_of_nonneg (Int.ediv_nonneg (by omega) (Int.le_of_lt (ipow_pos (by decide) _)))).symm
    have lt : (m : Int) / 2 ^ S.w < m := Int.ediv_lt_of_lt_mul (by have := M.b2; omega) (by
      have := Int.mul_le_mul_of_nonneg_left M.b2 (show (0 : Int) ≤ m by omega); omega)
    refine ⟨((m : Int) / 2 ^ S.w).toNat, by omega, pre ++ [(m : Int) % 2 ^ S.w], ?_, ?_, ?_, ?_⟩
    · intro b o hb
      rw [upd_ne fun z => by rw [z, hl] at hb; cases hb]
      exact s2 b o hb
    · rw [upd_same, ← iv_app] <;> rfl
    · rw [← eq] <;> rfl
    · rw [← eq, hpre, List.append_assoc] <;> rfl
  · have c' : ¬ (0 : Int) < (m : Int) := of_decide_eq_false (Bool.eq_false_iff.mpr c)
    rw [digs_zero (show (m : Int) ≤ 0 by omega), List.append_nil] at hpre
    refine ⟨_, rfl, ?_⟩
    exact q l H2 hl s2 (by rw [hpre]; exact hl2)
theorem ok_big_of : Cl P w K mg base 4 "big_of" ["machine", "n"] (spBigOf K) := by
  refine cl_of (N := ["machine", "n"]) T.f_big_of T.m_big_of (by decide +kernel) (fun _ _ _ _ _ _ us hl => match us, hl with | [_, _], _ => rfl) (fun vs H Q E h => ?_) (fun cdv A outer s H vs Q E hr h => ?_)
  · obtain ⟨p, d, e, S, n, rfl, _⟩ := h
    rfl
  obtain ⟨p, d, e, S, n, rfl, M, n0, n1, q⟩ := h
  refine ⟨_, pss_one (ps_ret (pe_cl (ok_made T) hr (by decide) (pa_cons (pv 0) (pa_cons (pe_ifExp (pt_cmpR op_lt (pv 1) pe_int (nomark _)) (pe_un un_neg pe_int) pe_int)
    (pa_cons (pe_cl (ok_digits_of T) hr (by decide) (pa_cons (pv 0) (pa_cons (pe_callB call_abs (by rfl) T.b_abs (by decide +kernel) (pa_cons (pv 1) pa_nil)) pa_nil))) pa_nil))))), ?_⟩
  refine ⟨_, rfl, _, rfl, _, _, rfl, rfl, _, rfl, ?_⟩
  rw [decide_eq_false (show ¬ n < 0 by omega)]
  refine iteF ?_
  refine ⟨_, rfl, _, rfl, _, rfl, ?_⟩
  rw [if_neg (show ¬ n < 0 by omega)]
  refine ⟨p, d, e, S, n, rfl, M, n0, n1, fun l H2 hl s2 hl2 => ?_⟩
  refine ⟨p, d, e, S, 1, l, _, rfl, M.same s2, hl2, digs_dg M.b2 n0, fun _ => rfl, fun x H3 hx s3 B => ?_⟩
  rw [val_digs M.b2 n0] at B
  exact q x H3 (s2.free hx) (s2.trans s3) B
theorem ok_value_of : Cl P w K mg base 1 "value_of" ["x"] (spValue (CB K)) := by
  refine cl_of (N := ["x", "found", "digit"]) T.f_value_of T.m_value_of (by decide +kernel) (fun _ _ _ _ _ _ us hl => match us, hl with | [_], _ => rfl) (fun vs H Q E h => ?_) (fun cdv A outer s H vs Q E hr h => ?_)
  · obtain ⟨x, w, v, rfl, _⟩ := h
    rfl
  obtain ⟨x, w, v, rfl, B, w1, w2, hv, q⟩ := h
  have nd : (["x", "found", "digit"] : List Str).Nodup := by decide +kernel
  have b2 : (2 : Int) ≤ 2 ^ w := two_pow w1
  refine ⟨_, pss_cons (ps_set (i := 1) nd rfl (Or.inl rfl) pe_int)
    (pss_cons (ps_for PassesOwn.never rfl (pi_tup (pe_back (pe_fld (pv 0) rfl))) (pg_name (i := 2) nd rfl (Or.inl rfl))
      (pss_one (ps_set (i := 1) nd rfl (Or.inl rfl) (pe_op op_orL (pe_op op_shlN (pv 1) (pe_fld (pv 0) rfl)) (pv 2)))))
    (pss_one (ps_ret (pe_op op_mul (pe_fld (pv 0) rfl) (pv 1))))), ?_⟩
  refine ⟨_, rfl, ?_⟩
  refine fld_row T B fun t ht => ?_
  have dl := digs_dg b2 B.nn
  have vl := val_digs b2 B.nn
  obtain ⟨L, hL⟩ : ∃ L, L = digs (2 ^ w) v := ⟨_, rfl⟩
  rw [← hL] at dl vl ht
  have er : (iv L).reverse = iv L.reverse := (List.map_reverse).symm
  refine ⟨t, _, rfl, ht, fun b hb => ?_⟩
  rw [er]
  have s1 := same_upd (o := .tup (iv L.reverse)) hb
  refine ⟨b, rfl, ⟨_, SqT.of upd_same⟩, ?_⟩
  refine for_tup (K := K) (a := b) (xs := iv L.reverse) (fun i σ H2 => ∃ u, H2 = upd H b (.tup (iv L.reverse)) ∧ σ = [some (.ref x), some (.int (val (2 ^ w) (L.reverse.take i).reverse)), u]) ?_ ?_ ?_ ?_
  · exact ⟨none, rfl, rfl⟩
  · rintro i σ H2 _ ⟨u, rfl, _⟩
    exact SqT.of upd_same
  · rintro i y σ H2 hy ⟨u, rfl, rfl⟩
    obtain ⟨z, hz, rfl⟩ := iv_of hy
    have hz2 := dl z (List.mem_reverse.mp (List.mem_of_getElem? hz))
    have hf : 0 ≤ val (2 ^ w) (L.reverse.take i).reverse := by
      rw [rev_take]
      exact val_nonneg (by omega) (dl.drop _)
    have hf2 : val (2 ^ w) (L.reverse.take i).reverse < BIG := by
      refine Int.lt_of_le_of_lt ?_ hv
      rw [rev_take, ← vl, val_split (2 ^ w) L (L.length - i) (by omega)]
      have h1 := val_nonneg (b := 2 ^ w) (by omega) (dl.take (L.length - i))
      have h2 := val_nonneg (b := 2 ^ w) (by omega) (dl.drop (L.length - i))
      have h3 : 1 * val (2 ^ w) (L.drop (L.length - i)) ≤ (2 ^ w) ^ (L.length - i) * val (2 ^ w) (L.drop (L.length - i)) := Int.mul_le_mul_of_nonneg_right (by have := ipow_pos (show (0 : Int) < 2 ^ w by omega) (L.length - i); omega) h2
      omega
    refine ⟨_, rfl, _, rfl, ?_⟩
    refine fld_bwidth T (B.same s1) ⟨_, w, rfl, rfl, shl_ok (nat_abs_lt hf hf2) (by omega), ?_⟩
    refine ⟨_, rfl, _, z, w, rfl, rfl, ⟨hf, hz2.1, hz2.2⟩, ?_⟩
    refine ⟨some (.int z), rfl, ?_⟩
    rw [take_next hz, List.reverse_append]
    show _ = [some (V.ref x), some (V.int (z + 2 ^ w * val (2 ^ w) (L.reverse.take i).reverse)), some (V.int z)]
    rw [show z + 2 ^ w * val (2 ^ w) (L.reverse.take i).reverse = val (2 ^ w) (L.reverse.take i).reverse * 2 ^ w + z by rw [Int.mul_comm, Int.add_comm]]
    rfl
  · rintro σ H2 ⟨u, rfl, rfl⟩
    refine ⟨_, rfl, ?_⟩
    refine fld_side T (B.same s1) ⟨_, rfl, _, _, rfl, rfl, .inl (sgn_bound v), ?_⟩
    rw [iv_len, List.take_length, List.reverse_reverse, vl]
    show Q (.int (sgn v * v)) _
    rw [sgn_mul]
    exact q _ s1
theorem ok_check_big : Cl P w K mg base 1 "check_big" ["machine", "argument", "value"] (spCheckBig K) := by
  refine cl_of (N := ["machine", "argument", "value"]) T.f_check_big T.m_check_big (by decide +kernel) (fun _ _ _ _ _ _ us hl => match us, hl with | [_, _, _], _ => rfl) (fun vs H Q E h => ?_) (fun cdv A outer s H vs Q E hr h => ?_)
  · obtain ⟨p, d, e, S, a, x, v, rfl, _⟩ := h
    rfl
  obtain ⟨p, d, e, S, a, x, v, rfl, M, B, q⟩ := h
  obtain ⟨dx, fs, t, h1, _⟩ := B.ob
  refine ⟨_, pss_one (ps_if (PW.pt (pw_or (pt_not (pt_val (pe_callB (C8.call_isC T.insG) (by rfl) T.b_isinstance (by decide +kernel) (pa_cons (pv 2) (pa_cons (pe_glob (v := .ref (CB K)) rfl T.m_Big rfl) pa_nil)))))
    (pw_or1 (pt_cmpR op_ne (pe_fld (pv 2) rfl) (pe_fld (pv 0) rfl) (nomark _))))) (pss_one ps_never) pss_nil), ?_⟩
  refine ⟨_, rfl, x, dx, fs, rfl, h1, true, rfl, ?_⟩
  refine iteF ?_
  refine ⟨_, rfl, ?_⟩
  refine fld_bwidth T B ⟨_, rfl, ?_⟩
  refine fld_width T M ⟨rfl, _, rfl, ?_⟩
  exact iteNS rfl q
theorem ok_check_bigs : Cl P w K mg base 2 "check_bigs" ["machine", "x", "y"] (spCheckBigs K) := by
  refine cl_of (N := ["machine", "x", "y"]) T.f_check_bigs T.m_check_bigs (by decide +kernel) (fun _ _ _ _ _ _ us hl => match us, hl with | [_, _, _], _ => rfl) (fun vs H Q E h => ?_) (fun cdv A outer s H vs Q E hr h => ?_)
  · obtain ⟨p, d, e, S, x, v, y, u, rfl, _⟩ := h
    rfl
  obtain ⟨p, d, e, S, x, v, y, u, rfl, M, B1, B2, q⟩ := h
  refine ⟨_, pss_cons (ps_expr (pe_cl (ok_check_machine T) hr (by decide) (pa_cons (pv 0) pa_nil)))
    (pss_cons (ps_expr (pe_cl (ok_check_big T) hr (by decide) (pa_cons (pv 0) (pa_cons pe_str (pa_cons (pv 1) pa_nil)))))
    (pss_one (ps_expr (pe_cl (ok_check_big T) hr (by decide) (pa_cons (pv 0) (pa_cons pe_str (pa_cons (pv 2) pa_nil))))))), ?_⟩
  refine ⟨_, rfl, p, d, e, S, rfl, M, ?_⟩
  refine ⟨_, rfl, _, rfl, p, d, e, S, _, x, v, rfl, M, B1, ?_⟩
  exact ⟨_, rfl, _, rfl, p, d, e, S, _, y, u, rfl, M, B2, q⟩
theorem ok_check_any : Cl P w K mg base 1 "check_any" ["value"] (spCheckAny K) := by
  refine cl_of (N := ["value"]) T.f_check_any T.m_check_any (by decide +kernel) (fun _ _ _ _ _ _ us hl => match us, hl with | [_], _ => rfl) (fun vs H Q E h => ?_) (fun cdv A outer s H vs Q E hr h => ?_)
  · obtain ⟨x, w, v, rfl, _⟩ := h
    rfl
  obtain ⟨x, w, v, rfl, B, q⟩ := h
  obtain ⟨dx, fs, t, h1, _⟩ := B.ob
  refine ⟨_, pss_one (ps_if (pt_not (pt_val (pe_callB (C8.call_isC T.insG) (by rfl) T.b_isinstance (by decide +kernel) (pa_cons (pv 0) (pa_cons (pe_glob (v := .ref (CB K)) rfl T.m_Big rfl) pa_nil))))) (pss_one ps_never) pss_nil), ?_⟩
  refine ⟨_, rfl, x, dx, fs, rfl, h1, true, rfl, ?_⟩
  exact iteF q
theorem ok_is_compact : Cl P w K mg base 1 "is_compact" ["x"] (spCompact K) := by
  refine cl_of (N := ["x"]) T.f_is_compact T.m_is_compact (by decide +kernel) (fun _ _ _ _ _ _ us hl => match us, hl with | [_], _ => rfl) (fun vs H Q E h => ?_) (fun cdv A outer s H vs Q E hr h => ?_)
  · obtain ⟨x, w, v, rfl, _⟩ := h
    rfl
  obtain ⟨x, w, v, rfl, B, q⟩ := h
  refine ⟨_, pss_one (ps_ret (pe_cmpR op_le (pe_callB call_len_seq (by rfl) T.b_len PySem.boot_len (pa_cons (pe_fld (pv 0) rfl) pa_nil)) pe_int (nomark _))), ?_⟩
  refine ⟨_, rfl, ?_⟩
  refine fld_row T B fun t ht => ⟨t, _, rfl, .inr (SqT.of ht), _, _, rfl, rfl, ?_⟩
  show Q (.bl (decide ((((iv (digs (2 ^ w) v)).length : Nat) : Int) ≤ 1))) H
  rw [iv_len]
  exact q
theorem ok_big : Cl P w K mg base 5 "big" ["machine", "n"] (spBig K) := by
  refine cl_of (N := ["machine", "n"]) T.f_big T.m_big (by decide +kernel) (fun _ _ _ _ _ _ us hl => match us, hl with | [_, _], _ => rfl) (fun vs H Q E h => ?_) (fun cdv A outer s H vs Q E hr h => ?_)
  · obtain ⟨p, d, e, S, n, rfl, _⟩ := h
    rfl
  obtain ⟨p, d, e, S, n, rfl, M, n0, n1, q⟩ := h
  refine ⟨_, pss_cons (ps_expr (pe_cl (ok_check_machine T) hr (by decide) (pa_cons (pv 0) pa_nil)))
    (pss_cons (ps_expr (pe_cl (ok_check_integer T) hr (by decide) (pa_cons pe_str (pa_cons (pv 1) pa_nil))))
    (pss_one (ps_ret (pe_cl (ok_big_of T) hr (by decide) (pa_cons (pv 0) (pa_cons (pv 1) pa_nil)))))), ?_⟩
  refine ⟨_, rfl, p, d, e, S, rfl, M, ?_⟩
  refine ⟨_, rfl, _, n, rfl, ?_⟩
  exact ⟨_, rfl, _, rfl, p, d, e, S, n, rfl, M, n0, n1, q⟩
theorem ok_plain : Cl P w K mg base 2 "plain" ["x"] (spValue (CB K)) := by
  refine cl_of (N := ["x"]) T.f_plain T.m_plain (by decide +kernel) (fun _ _ _ _ _ _ us hl => match us, hl with | [_], _ => rfl) (fun vs H Q E h => ?_) (fun cdv A outer s H vs Q E hr h => ?_)
  · obtain ⟨x, w, v, rfl, _⟩ := h
    rfl
  obtain ⟨x, w, v, rfl, B, w1, w2, hv, q⟩ := h
  refine ⟨_, pss_cons (ps_expr (pe_cl (ok_check_any T) hr (by decide) (pa_cons (pv 0) pa_nil))) (pss_one (ps_ret (pe_cl (ok_value_of T) hr (by decide) (pa_cons (pv 0) pa_nil)))), ?_⟩
  refine ⟨_, rfl, x, w, v, rfl, B, ?_⟩
  exact ⟨_, rfl, x, w, v, rfl, B, w1, w2, hv, q⟩
end
end T87
namespace T87
/-! ### a row of given length -/
def padd (B : Int) (n : Nat) (v : Int) : List Int := digs B v ++ List.replicate (n - (digs B v).length) 0
theorem padd_eq {B : Int} (hB : 2 ≤ B) {r : List Int} (h : Dg B r) : r = padd B r.length (val B r) := by
  have v0 := val_nonneg (b := B) (by omega) h
  have v1 := val_lt (b := B) (by omega) h
  have l := digs_len hB v0 v1
  refine val_inj (b := B) (by omega) h ((digs_dg hB v0).append (Dg.zeros (by omega) _)) ?_ ?_
  · show r.length = (digs B (val B r) ++ List.replicate (r.length - (digs B (val B r)).length) 0).length
    rw [List.length_append, List.length_replicate]
    omega
  · show val B r = val B (digs B (val B r) ++ List.replicate (r.length - (digs B (val B r)).length) 0)
    rw [val_append, val_zeros, val_digs hB v0]
    omega
theorem padd_dg {B : Int} (hB : 2 ≤ B) {n : Nat} {v : Int} (v0 : 0 ≤ v) : Dg B (padd B n v) := (digs_dg hB v0).append (Dg.zeros (by omega) _)
theorem padd_val {B : Int} (hB : 2 ≤ B) {n : Nat} {v : Int} (v0 : 0 ≤ v) : val B (padd B n v) = v := by
  unfold padd
  rw [val_append, val_zeros, val_digs hB v0]
  omega
theorem padd_len {B : Int} (hB : 2 ≤ B) {n : Nat} {v : Int} (v0 : 0 ≤ v) (v1 : v < B ^ n) : (padd B n v).length = n := by
  have l := digs_len hB v0 v1
  unfold padd
  rw [List.length_append, List.length_replicate]
  omega
theorem val_get (b : Int) {r : List Int} {i : Nat} {d : Int} (h : r[i]? = some d) : val b (r.drop i) = d + b * val b (r.drop (i + 1)) := by
  obtain ⟨hi, e⟩ := List.getElem?_eq_some_iff.mp h
  rw [List.drop_eq_getElem_cons hi, e]
  rfl
/-! ### a row added into another, taken from it -/
def absI (x : Int) : Int := if x < 0 then -x else x
def digOf (sg : Int) (start : Nat) (more room : List Int) (p : Nat) (c : Int) : Int := room.getD (start + p) 0 + sg * (more.getD p 0 + c)
def putF (B sg : Int) (start : Nat) (more : List Int) : Nat → List Int → Nat → Int → List Int × Nat
  | 0, room, p, _ => (room, p)
  | f + 1, room, p, c => if p < more.length ∨ (c ≠ 0 ∧ start + p < room.length) then
      putF B sg start more f (room.set (start + p) (digOf sg start more room p c % B)) (p + 1) (absI (digOf sg start more room p c / B)) else (room, p)
theorem getD_dg {B : Int} (hB : 0 < B) {r : List Int} (h : Dg B r) (i : Nat) : 0 ≤ r.getD i 0 ∧ r.getD i 0 < B := by
  rw [List.getD_eq_getElem?_getD]
  cases e : r[i]? with
  | none => exact ⟨Int.le_refl _, hB⟩
  | some d => exact h.get e
theorem digit_ok {B sg rd md c : Int} (hB : 2 ≤ B) (hs : sg = 1 ∨ sg = -1) (r0 : 0 ≤ rd) (r1 : rd < B) (m0 : 0 ≤ md) (m1 : md < B) (c0 : 0 ≤ c) (c1 : c ≤ 1) :
    0 ≤ absI ((rd + sg * (md + c)) / B) ∧ absI ((rd + sg * (md + c)) / B) ≤ 1 ∧ (rd + sg * (md + c)) = (rd + sg * (md + c)) % B + B * (sg * absI ((rd + sg * (md + c)) / B)) := by
  have e := Int.emod_add_mul_ediv (rd + sg * (md + c)) B
  rcases hs with rfl | rfl
  · have h0 : 0 ≤ (rd + 1 * (md + c)) / B := Int.ediv_nonneg (by omega) (by omega)
    have h1 : (rd + 1 * (md + c)) / B < 2 := Int.ediv_lt_of_lt_mul (by omega) (by omega)
    unfold absI
    rw [if_neg (by omega), show 1 * ((rd + 1 * (md + c)) / B) = (rd + 1 * (md + c)) / B by omega]
    exact ⟨h0, by omega, e.symm⟩
  · have h0 : (rd + -1 * (md + c)) / B < 1 := Int.ediv_lt_of_lt_mul (by omega) (by omega)
    have h1 : -1 ≤ (rd + -1 * (md + c)) / B := Int.le_ediv_of_mul_le (by omega) (by omega)
    unfold absI
    by_cases z : (rd + -1 * (md + c)) / B < 0
    · rw [if_pos z, show -1 * -((rd + -1 * (md + c)) / B) = (rd + -1 * (md + c)) / B by omega]
      exact ⟨by omega, by omega, e.symm⟩
    · rw [if_neg z, show -1 * ((rd + -1 * (md + c)) / B) = (rd + -1 * (md + c)) / B by omega]
      exact ⟨by omega, by omega, e.symm⟩
theorem putF_ok {B sg : Int} (hB : 2 ≤ B) (hs : sg = 1 ∨ sg = -1) {start : Nat} {more : List Int} (dm : Dg B more) : ∀ (f : Nat) (room : List Int) (p : Nat) (c : Int), Dg B room → start + more.length ≤ room.length → 0 ≤ c → c ≤ 1 → start + p ≤ room.length → room.length < start + p + f →
    Dg B (putF B sg start more f room p c).1 ∧ (putF B sg start more f room p c).1.length = room.length ∧
      ∃ q, val B (putF B sg start more f room p c).1 = val B room + sg * B ^ (start + p) * (c + val B (more.drop p)) + q * B ^ room.length
  | 0, room, p, c, _, _, _, _, h, h2 => by omega
  | f + 1, room, p, c, dr, hl, c0, c1, hp, hf => by
    rw [putF]
    by_cases hc : p < more.length ∨ (c ≠ 0 ∧ start + p < room.length)
    · rw [if_pos hc]
      have hi : start + p < room.length := by omega
      have r := getD_dg (by omega) dr (start + p)
      have m := getD_dg (by omega) dm p
      have k := digit_ok hB hs r.1 r.2 m.1 m.2 c0 c1
      have hx0 : 0 ≤ digOf sg start more room p c % B := Int.emod_nonneg _ (by omega)
      have hx1 : digOf sg start more room p c % B < B := Int.emod_lt_of_pos _ (by omega)
      obtain ⟨g1, g2, q, g3⟩ := putF_ok hB hs dm f (room.set (start + p) (digOf sg start more room p c % B)) (p + 1) (absI (digOf sg start more room p c / B)) (dr.set _ hx0 hx1) (by rw [List.length_set]; exact hl) k.1 k.2.1 (by rw [List.length_set]; omega) (by rw [List.length_set]; omega)
      rw [List.length_set] at g2 g3
      refine ⟨g1, g2, q, ?_⟩
      rw [g3, val_set B _ (List.getElem?_eq_getElem hi)]
      have eg : room.getD (start + p) 0 = room[start + p] := by
        rw [List.getD_eq_getElem?_getD, List.getElem?_eq_getElem hi]
        rfl
      have ed : val B (more.drop p) = more.getD p 0 + B * val B (more.drop (p + 1)) := by
        by_cases hm : p < more.length
        · rw [List.getD_eq_getElem?_getD, List.getElem?_eq_getElem hm, val_get B (List.getElem?_eq_getElem hm)] <;> rfl
        · rw [List.getD_eq_getElem?_getD, List.getElem?_eq_none_iff.mpr (by omega), List.drop_eq_nil_of_le (by omega), List.drop_eq_nil_of_le (by omega)]
          show (0 : Int) = 0 + B * 0
          omega
      rw [ed, ← eg, show start + (p + 1) = (start + p) + 1 by omega, Int.pow_succ]
      have k3 : digOf sg start more room p c = digOf sg start more room p c % B + B * (sg * absI (digOf sg start more room p c / B)) := k.2.2
      have k4 : digOf sg start more room p c = room.getD (start + p) 0 + sg * (more.getD p 0 + c) := rfl
      generalize digOf sg start more room p c % B = x at k3 ⊢
      generalize absI (digOf sg start more room p c / B) = y at k3 ⊢
      generalize digOf sg start more room p c = z at k3 k4
      generalize room.getD (start + p) 0 = rd at k4 ⊢
      generalize more.getD p 0 = md at k4 ⊢
      generalize val B (more.drop (p + 1)) = V
      generalize B ^ (start + p) = T
      generalize B ^ room.length = U
      grind
    · rw [if_neg hc]
      have h1 : more.length ≤ p := by omega
      refine ⟨dr, rfl, ?_⟩
      rw [List.drop_eq_nil_of_le h1]
      by_cases z : c = 0
      · refine ⟨0, ?_⟩
        rw [z]
        show val B room = val B room + sg * B ^ (start + p) * (0 + 0) + 0 * B ^ room.length
        rw [Int.add_zero, Int.mul_zero, Int.zero_mul]
        omega
      · have e : start + p = room.length := by omega
        refine ⟨-(sg * c), ?_⟩
        rw [e]
        show val B room = val B room + sg * B ^ room.length * (c + 0) + -(sg * c) * B ^ room.length
        generalize B ^ room.length = U
        grind
def putR (B sg : Int) (room : List Int) (start : Nat) (more : List Int) : List Int × Nat := putF B sg start more (room.length + 1) room 0 0
theorem putR_ok {B sg : Int} (hB : 2 ≤ B) (hs : sg = 1 ∨ sg = -1) {room : List Int} {start : Nat} {more : List Int} (dr : Dg B room) (dm : Dg B more) (hl : start + more.length ≤ room.length) :
    Dg B (putR B sg room start more).1 ∧ (putR B sg room start more).1.length = room.length ∧ val B (putR B sg room start more).1 = (val B room + sg * B ^ start * val B more) % B ^ room.length := by
  obtain ⟨h1, h2, q, h3⟩ := putF_ok hB hs dm (room.length + 1) room 0 0 dr hl (Int.le_refl _) (by decide) (by omega) (by omega)
  refine ⟨h1, h2, ?_⟩
  have l0 := val_nonneg (b := B) (by omega) h1
  have l1 := val_lt (b := B) (by omega) h1
  rw [h2] at l1
  have h4 : val B (putR B sg room start more).1 = val B room + sg * B ^ start * val B more + q * B ^ room.length := by
    have : val B (putR B sg room start more).1 = val B room + sg * B ^ (start + 0) * (0 + val B (more.drop 0)) + q * B ^ room.length := h3
    rw [List.drop_zero, Int.zero_add] at this
    exact this
  have h5 : val B (putR B sg room start more).1 % B ^ room.length = (val B room + sg * B ^ start * val B more) % B ^ room.length := by
    rw [h4, Int.add_mul_emod_self_right]
  rw [← h5]
  exact (Int.emod_eq_of_lt l0 l1).symm
end T87
namespace T87
theorem canon {B : Int} (hB : 2 ≤ B) {r : List Int} (h : Dg B r) (hl : r.length = 0 ∨ B ^ (r.length - 1) ≤ val B r) : r = digs B (val B r) := by
  rcases hl with hl | hl
  · rw [List.length_eq_zero_iff.mp hl]
    exact (digs_zero (Int.le_refl 0)).symm
  · have v0 := val_nonneg (b := B) (by omega) h
    have e := padd_eq hB h
    by_cases z : r.length ≤ (digs B (val B r)).length
    · have e2 : padd B r.length (val B r) = digs B (val B r) := by
        unfold padd
        rw [show r.length - (digs B (val B r)).length = 0 by omega]
        simp
      rw [e2] at e
      exact e
    · have l1 := val_lt (b := B) (by omega) (digs_dg hB v0)
      rw [val_digs hB v0] at l1
      have := ipow_le (b := B) (by omega) (show (digs B (val B r)).length ≤ r.length - 1 by omega)
      omega
theorem digs_dig {B v : Int} (hB : 2 ≤ B) (hv : 0 ≤ v) : Dg B (digs B v) := digs_dg hB hv
/-- the sum of two rows, the carry behind it -/
theorem add_canon {B u v : Int} (hB : 2 ≤ B) (hu : 0 ≤ u) (hv : 0 ≤ v) {f : List Int} {c : Int} (hf : Dg B f) (hl : f.length = (digs B u).length) (c0 : 0 ≤ c) (c1 : c ≤ 1) (h : val B f + B ^ f.length * c = u + v) :
    (if 0 < c then f ++ [c] else f) = digs B (u + v) := by
  by_cases z : 0 < c
  · rw [if_pos z]
    have c2 : c = 1 := by omega
    have d2 : Dg B (f ++ [c]) := hf.append (Dg.cons (by omega) (by omega) Dg.nil)
    have e : val B (f ++ [c]) = u + v := by
      rw [val_append, ← h]
      show val B f + B ^ f.length * (c + B * 0) = _
      rw [Int.mul_zero, Int.add_zero]
    have := canon hB d2 (.inr (by
      rw [val_append, List.length_append, List.length_singleton, Nat.add_sub_cancel]
      show B ^ f.length ≤ val B f + B ^ f.length * (c + B * 0)
      have := val_nonneg (b := B) (by omega) hf
      rw [c2, Int.mul_zero, Int.add_zero, Int.mul_one]
      omega))
    rw [e] at this
    exact this
  · rw [if_neg z]
    have c2 : c = 0 := by omega
    rw [c2, Int.mul_zero, Int.add_zero] at h
    rw [← h]
    refine canon hB hf ?_
    by_cases y : f.length = 0
    · exact .inl y
    · refine .inr ?_
      have u1 : 0 < u := by
        rcases Int.lt_or_le 0 u with q | q
        · exact q
        · rw [digs_zero q] at hl
          exact absurd hl y
      have := digs_low hB u1
      rw [← hl] at this
      omega
/-! ### the product of two rows, digit by digit -/
theorem row_turn {B r d o c : Int} (hB : 2 ≤ B) (r0 : 0 ≤ r) (r1 : r < B) (d0 : 0 ≤ d) (d1 : d < B) (o0 : 0 ≤ o) (o1 : o < B) (c0 : 0 ≤ c) (c1 : c < B) :
    0 ≤ (r + d * o + c) ∧ 0 ≤ (r + d * o + c) / B ∧ (r + d * o + c) / B < B ∧ r + d * o + c = (r + d * o + c) % B + B * ((r + d * o + c) / B) := by
  have h1 : 0 ≤ d * o := Int.mul_nonneg d0 o0
  have h2 : d * o ≤ (B - 1) * (B - 1) := Int.mul_le_mul (by omega) (by omega) o0 (by omega)
  have h3 : (B - 1) * (B - 1) = B * B - 2 * B + 1 := by grind
  refine ⟨by omega, Int.ediv_nonneg (by omega) (by omega), Int.ediv_lt_of_lt_mul (by omega) (by omega), (Int.emod_add_mul_ediv _ _).symm⟩
/-! ### how deep a product goes -/
def Fuel (B : Int) (g : Nat) (a b : List Int) : Prop := (1 ≤ g ∧ a.length ≤ 2 ∧ b.length ≤ 2) ∨ (2 ≤ g ∧ a.length ≤ 3 ∧ b.length ≤ 3 ∧ val B a < B * B + B ∧ val B b < B * B + B) ∨
  ∃ F : Nat, F + 3 ≤ g ∧ a.length ≤ 2 ^ F + 2 ∧ b.length ≤ 2 ^ F + 2
theorem Fuel.swap {B : Int} {g : Nat} {a b : List Int} (h : Fuel B g a b) : Fuel B g b a := by
  rcases h with ⟨h1, h2, h3⟩ | ⟨h1, h2, h3, h4, h5⟩ | ⟨F, h1, h2, h3⟩
  · exact .inl ⟨h1, h3, h2⟩
  · exact .inr (.inl ⟨h1, h3, h2, h5, h4⟩)
  · exact .inr (.inr ⟨F, h1, h3, h2⟩)
theorem Fuel.pos {B : Int} {g : Nat} {a b : List Int} (h : Fuel B g a b) : 1 ≤ g := by
  rcases h with ⟨h1, h2, h3⟩ | ⟨h1, h2, h3, h4, h5⟩ | ⟨F, h1, h2, h3⟩ <;> omega
theorem fit_slice {B : Int} {g : Nat} {a b : List Int} (h : Fuel B (g + 1) a b) (h3 : 3 ≤ a.length) (h2 : 2 * a.length ≤ b.length) (s : List Int) (hs : s.length ≤ a.length) : Fuel B g a s := by
  rcases h with ⟨h1, h2, h3⟩ | ⟨h1, h2, h3, h4, h5⟩ | ⟨F, h1, h4, h5⟩
  · omega
  · omega
  · cases F with
    | zero => simp at h5; omega
    | succ F =>
      rw [Nat.pow_succ] at h4 h5
      exact .inr (.inr ⟨F, by omega, by omega, by omega⟩)
section
variable {B : Int} (hB : 256 ≤ B) {a : List Int} (da : Dg B a) (p : Nat)
include hB da
theorem lo_nn : 0 ≤ val B (a.take p) := val_nonneg (by omega) (da.take p)
theorem hi_nn : 0 ≤ val B (a.drop p) := val_nonneg (by omega) (da.drop p)
theorem lo_lt : val B (a.take p) < B ^ p := by
  have h := val_lt (b := B) (by omega) (da.take p)
  exact Int.lt_of_lt_of_le h (ipow_le (by omega) (by rw [List.length_take]; omega))
theorem hi_lt : val B (a.drop p) < B ^ (a.length - p) := by
  have h := val_lt (b := B) (by omega) (da.drop p)
  rw [List.length_drop] at h
  exact h
theorem lo_len : (digs B (val B (a.take p))).length ≤ p := digs_len (by omega) (lo_nn hB da p) (lo_lt hB da p)
theorem hi_len : (digs B (val B (a.drop p))).length ≤ a.length - p := digs_len (by omega) (hi_nn hB da p) (hi_lt hB da p)
end
theorem fit_parts {B : Int} (hB : 256 ≤ B) {g : Nat} {a b : List Int} (da : Dg B a) (db : Dg B b) (h : Fuel B (g + 1) a b) (h3 : 3 ≤ a.length) (hab : a.length ≤ b.length) (h2 : b.length < 2 * a.length) :
    Fuel B g (digs B (val B (a.drop (b.length / 2)))) (digs B (val B (b.drop (b.length / 2)))) ∧ Fuel B g (digs B (val B (a.take (b.length / 2)))) (digs B (val B (b.take (b.length / 2)))) ∧
      Fuel B g (digs B (val B (a.drop (b.length / 2)) + val B (a.take (b.length / 2)))) (digs B (val B (b.drop (b.length / 2)) + val B (b.take (b.length / 2)))) := by
  have la := lo_len hB da (b.length / 2)
  have lb := lo_len hB db (b.length / 2)
  have ha := hi_len hB da (b.length / 2)
  have hb := hi_len hB db (b.length / 2)
  have na := lo_nn hB da (b.length / 2)
  have nb := lo_nn hB db (b.length / 2)
  have ma := hi_nn hB da (b.length / 2)
  have mb := hi_nn hB db (b.length / 2)
  have ta := lo_lt hB da (b.length / 2)
  have tb := lo_lt hB db (b.length / 2)
  have ua := hi_lt hB da (b.length / 2)
  have ub := hi_lt hB db (b.length / 2)
  have b2 : (2 : Int) ≤ B := by omega
  rcases h with ⟨h1, h4, h5⟩ | ⟨h1, h4, h5, h6, h7⟩ | ⟨F, h1, h4, h5⟩
  · omega
  · have e1 : a.length = 3 := by omega
    have e2 : b.length = 3 := by omega
    have key : ∀ r : List Int, Dg B r → r.length = 3 → val B r < B * B + B → (digs B (val B (r.drop 1) + val B (r.take 1))).length ≤ 2 := fun r dr er hv => by
      have s := val_split B r 1 (by omega)
      have t0 := lo_nn hB dr 1
      have t1 := lo_lt hB dr 1
      have t2 := hi_nn hB dr 1
      rw [Int.pow_one] at s
      rw [Int.pow_succ, Int.pow_zero, Int.one_mul] at t1
      have t3 : val B (r.drop 1) < B + 1 := by
        refine Int.lt_of_mul_lt_mul_left (a := B) ?_ (by omega)
        have : B * (B + 1) = B * B + B := by grind
        omega
      refine digs_len b2 (by omega) ?_
      rw [show B ^ 2 = B * B by rw [Int.pow_succ, Int.pow_succ, Int.pow_zero, Int.one_mul]]
      have : 256 * B ≤ B * B := Int.mul_le_mul_of_nonneg_right hB (by omega)
      omega
    have k1 := key a da e1 h6
    have k2 := key b db e2 h7
    rw [e2] at la lb ha hb ⊢
    rw [e1] at ha
    exact ⟨.inl ⟨by omega, by omega, by omega⟩, .inl ⟨by omega, by omega, by omega⟩, .inl ⟨by omega, k1, k2⟩⟩
  · cases F with
    | zero =>
      have e1 : a.length = 3 := by simp at h4; omega
      have e2 : b.length = 3 := by simp at h5; omega
      rw [e2] at la lb ha hb na nb ma mb ta tb ua ub ⊢
      rw [e1] at ha ua
      rw [show (3 : Nat) / 2 = 1 from rfl] at *
      rw [show (3 : Nat) - 1 = 2 from rfl] at *
      rw [show B ^ 2 = B * B by rw [Int.pow_succ, Int.pow_succ, Int.pow_zero, Int.one_mul]] at ua ub
      rw [Int.pow_succ, Int.pow_zero, Int.one_mul] at ta tb
      have b3 : B * B + B ≤ B ^ 3 := by
        rw [show B ^ 3 = B * B * B by rw [Int.pow_succ, Int.pow_succ, Int.pow_succ, Int.pow_zero, Int.one_mul]]
        have h8 : 256 * B ≤ B * B := Int.mul_le_mul_of_nonneg_right hB (by omega)
        have : B * B * 256 ≤ B * B * B := Int.mul_le_mul_of_nonneg_left hB (by omega)
        omega
      refine ⟨.inl ⟨by omega, by omega, by omega⟩, .inl ⟨by omega, by omega, by omega⟩, .inr (.inl ⟨by omega, digs_len b2 (by omega) (by omega), digs_len b2 (by omega) (by omega), ?_, ?_⟩)⟩
      · rw [val_digs b2 (by omega)]
        omega
      · rw [val_digs b2 (by omega)]
        omega
    | succ F =>
      rw [Nat.pow_succ] at h4 h5
      have g1 : b.length / 2 ≤ 2 ^ F + 1 := by omega
      have g2 : a.length - b.length / 2 ≤ 2 ^ F + 1 := by omega
      have g3 : b.length - b.length / 2 ≤ 2 ^ F + 1 := by omega
      have p1 := ipow_le (b := B) (by omega) g1
      have p2 := ipow_le (b := B) (by omega) g2
      have p3 := ipow_le (b := B) (by omega) g3
      have p4 : B ^ (2 ^ F + 2) = B ^ (2 ^ F + 1) * B := Int.pow_succ ..
      have p5 : B ^ (2 ^ F + 1) * 256 ≤ B ^ (2 ^ F + 1) * B := Int.mul_le_mul_of_nonneg_left hB (Int.le_of_lt (ipow_pos (by omega) _))
      have p6 := ipow_pos (show (0 : Int) < B by omega) (2 ^ F + 1)
      exact ⟨.inr (.inr ⟨F, by omega, by omega, by omega⟩), .inr (.inr ⟨F, by omega, by omega, by omega⟩), .inr (.inr ⟨F, by omega, digs_len b2 (by omega) (by omega), digs_len b2 (by omega) (by omega)⟩)⟩
/-- the middle product's room -/
theorem mid_len {B : Int} (hB : 256 ≤ B) {a b : List Int} (da : Dg B a) (db : Dg B b) (h3 : 3 ≤ a.length) (hab : a.length ≤ b.length) (h2 : b.length < 2 * a.length) :
    b.length / 2 + (digs B ((val B (a.drop (b.length / 2)) + val B (a.take (b.length / 2))) * (val B (b.drop (b.length / 2)) + val B (b.take (b.length / 2))))).length ≤ a.length + b.length := by
  have na := lo_nn hB da (b.length / 2)
  have nb := lo_nn hB db (b.length / 2)
  have ma := hi_nn hB da (b.length / 2)
  have mb := hi_nn hB db (b.length / 2)
  have ta := lo_lt hB da (b.length / 2)
  have tb := lo_lt hB db (b.length / 2)
  have ua := hi_lt hB da (b.length / 2)
  have ub := hi_lt hB db (b.length / 2)
  obtain ⟨p, hp⟩ : ∃ p, p = b.length / 2 := ⟨_, rfl⟩
  rw [← hp] at na nb ma mb ta tb ua ub ⊢
  obtain ⟨h1, e1⟩ : ∃ h1, h1 = a.length - p := ⟨_, rfl⟩
  obtain ⟨h4, e2⟩ : ∃ h4, h4 = b.length - p := ⟨_, rfl⟩
  rw [← e1] at ua
  rw [← e2] at ub
  have q : (digs B ((val B (a.drop p) + val B (a.take p)) * (val B (b.drop p) + val B (b.take p)))).length ≤ h1 + h4 + p - 1 + 1 := by
    refine digs_len (by omega) (Int.mul_nonneg (by omega) (by omega)) ?_
    have m : (val B (a.drop p) + val B (a.take p)) * (val B (b.drop p) + val B (b.take p)) < (B ^ h1 + B ^ p) * (B ^ h4 + B ^ p) :=
      Int.lt_of_le_of_lt (Int.mul_le_mul_of_nonneg_right (by omega) (by omega)) (Int.mul_lt_mul_of_pos_left (by omega) (by omega))
    have x1 := ipow_le (b := B) (by omega) (show h1 + h4 ≤ h1 + h4 + p - 1 by omega)
    have x2 := ipow_le (b := B) (by omega) (show h1 + p ≤ h1 + h4 + p - 1 by omega)
    have x3 := ipow_le (b := B) (by omega) (show p + h4 ≤ h1 + h4 + p - 1 by omega)
    have x4 := ipow_le (b := B) (by omega) (show p + p ≤ h1 + h4 + p - 1 by omega)
    have e : (B ^ h1 + B ^ p) * (B ^ h4 + B ^ p) = B ^ (h1 + h4) + B ^ (h1 + p) + (B ^ (p + h4) + B ^ (p + p)) := by
      rw [Int.pow_add, Int.pow_add, Int.pow_add, Int.pow_add]
      grind
    have y : B ^ (h1 + h4 + p - 1) * 256 ≤ B ^ (h1 + h4 + p - 1) * B := Int.mul_le_mul_of_nonneg_left hB (Int.le_of_lt (ipow_pos (by omega) _))
    have z := ipow_pos (show (0 : Int) < B by omega) (h1 + h4 + p - 1)
    rw [Int.pow_succ]
    omega
  omega
/-- the three products make the whole -/
theorem kara {B P x0 x1 y0 y1 n U : Int} (hU : U = P * P) {A C : Int} (ha : A = x0 + P * x1) (hc : C = y0 + P * y1) (N : Int) (h0 : 0 ≤ A * C) (h1 : A * C < N) :
    ((((x0 * y0 + U * (x1 * y1)) + -1 * P * (x0 * y0)) % N + -1 * P * (x1 * y1)) % N + 1 * P * ((x1 + x0) * (y1 + y0))) % N = A * C := by
  rw [Int.emod_add_emod, Int.add_assoc, Int.emod_add_emod]
  have e : x0 * y0 + U * (x1 * y1) + -1 * P * (x0 * y0) + (-1 * P * (x1 * y1) + 1 * P * ((x1 + x0) * (y1 + y0))) = A * C := by
    rw [ha, hc, hU]
    grind
  rw [e]
  exact Int.emod_eq_of_lt h0 h1
end T87
namespace T87
open PySem PySem.Spec PyProof.Rows L2
/-! ### len and items of a list or a tuple -/
theorem call_lnQ {X : Cx} : CallR X (.builtin "len") (fun xs H Q => ∃ a ys, xs = [.ref a] ∧ Sq H a ys ∧ Q (.int (ys.length : Nat)) H) := by
  intro pins s σ H xs us Q I r h
  obtain ⟨a, ys, rfl, hq, q⟩ := h
  exact call_len_seq pins s σ H _ us Q I r ⟨a, ys, rfl, hq.or, q⟩
def rIxQ : R2 := fun x y H Q => ∃ a ys i v, x = .ref a ∧ y = .int i ∧ Sq H a ys ∧ atI ys i = some v ∧ Q v H
theorem ix_sq {X : Cx} : IxR X rIxQ := by
  intro value slice pins s σ H x y v u Q I rx ry h hs
  obtain ⟨a, ys, i, z, rfl, rfl, hq, he, q⟩ := h
  refine ix_seq value slice pins s σ H _ _ v u Q I rx ry ?_ hs
  rcases hq.or (K := X.K) with e | e
  · exact .inl ⟨a, ys, i, z, rfl, rfl, e, he, q⟩
  · exact .inr (.inl ⟨a, ys, i, z, rfl, rfl, e, he, q⟩)
theorem ixN_n {n j : Nat} (hj : j < n) : ixN n (j : Int) = some j := by
  unfold ixN
  rw [if_pos (by omega), if_pos (by omega)]
  simp
theorem fld_widthE {K : PySem.W.Frag} {mg : Str → Option Value} {H : Hp} {p d e : Addr} {S : MS} {n : Nat} {Q : V → Prop} (T : Tx K mg) (M : MachAt (CM K) H p d e S) (hw : S.w = n) (h : Q (.int n)) : ∃ a C dx fs v, V.ref p = .ref a ∧ H a = some (.ins C dx fs) ∧ Cls K C ∧ NoAttr K C "width" ∧ fs.lookup ("width" : Str) = some v ∧ Q v := by
  subst hw
  exact fld_width T M h
theorem fld_baseE {K : PySem.W.Frag} {mg : Str → Option Value} {H : Hp} {p d e : Addr} {S : MS} {n : Nat} {Q : V → Prop} (T : Tx K mg) (M : MachAt (CM K) H p d e S) (hw : S.w = n) (h : Q (.int (2 ^ n))) : ∃ a C dx fs v, V.ref p = .ref a ∧ H a = some (.ins C dx fs) ∧ Cls K C ∧ NoAttr K C "base" ∧ fs.lookup ("base" : Str) = some v ∧ Q v := by
  subst hw
  exact fld_base T M h
/-! ### an own object is written -/
theorem Kp.wr {xs : List Addr} {H H1 : Hp} {r : Addr} {o : HO} (k : Kp xs H H1) (h : H r = none) : Kp xs H (upd H1 r o) := k.own h (Kp.put (by simp))
theorem Kp.fr {xs : List Addr} {H H1 : Hp} {r : Addr} {o : HO} (k : Kp xs H H1) (h : H1 r = none) : Kp xs H (upd H1 r o) := k.trans (Kp.new h)
theorem Same.wr {H H1 : Hp} {r : Addr} {o : HO} (k : Same H H1) (h : H r = none) : Same H (upd H1 r o) := fun b u hb => by
  rw [upd_ne fun z => by rw [z, h] at hb; cases hb]
  exact k b u hb
theorem Sq.same {H H' : Hp} {a : Addr} {xs : List V} (h : Sq H a xs) (k : Same H H') : Sq H' a xs := h.at fun o => k a o
theorem Sq.some {H : Hp} {a : Addr} {xs : List V} (h : Sq H a xs) : H a ≠ none := by
  obtain ⟨o, _, e⟩ := h
  rw [e]
  exact fun z => by cases z
/-! ### what is entered and counted -/
def rowsE (a b : List Int) : List Op := [.en "rows" (a.length : Nat) (b.length : Nat), .ct "product" ((a.length * b.length : Nat) : Int)]
def addE (a b : List Int) : List Op := [.en "add" (a.length : Nat) (b.length : Nat), .ct "sum" ((max a.length b.length : Nat) : Int)]
def intoE (x : Str) (B sg : Int) (room : List Int) (start : Nat) (more : List Int) : List Op := [.en x ((room.length : Int) - start) (more.length : Nat), .ct "sum" ((putR B sg room start more).2 : Nat)]
def spTrim : Sp := fun vs H Q _ => ∃ l r B, vs = [.ref l] ∧ (2 : Int) ≤ B ∧ Sq H l (iv r) ∧ Dg B r ∧ ∀ l' H', H l' = none → Same H H' → H' l' = some (.lst (iv (digs B (val B r)))) → Q (.ref l') H'
def spRows (K : PySem.W.Frag) : Sp := fun vs H Q _ => ∃ p d e S la a lb b, vs = [.ref p, .ref la, .ref lb] ∧ MachAt (CM K) H p d e S ∧ Sq H la (iv a) ∧ la ≠ e ∧ Sq H lb (iv b) ∧ lb ≠ e ∧ Dg (2 ^ S.w) a ∧ Dg (2 ^ S.w) b ∧ a.length ≤ 400 ∧ b.length ≤ 400 ∧
  ∀ l rr H', H l = none → Kp [d, e] H H' → MachAt (CM K) H' p d e (S.ops (rowsE a b)) → H' l = some (.lst (iv rr)) → Dg (2 ^ S.w) rr → val (2 ^ S.w) rr = val (2 ^ S.w) a * val (2 ^ S.w) b → Q (.ref l) H'
section
variable {P : Program} {w : World} {K : PySem.W.Frag} {mg : Str → Option Value} {base : Heap} (T : Tx K mg)
include T
theorem ok_trimmed : Cl P w K mg base 1 "trimmed" ["row"] spTrim := by
  refine cl_of (N := ["row", "size"]) T.f_trimmed T.m_trimmed (by decide +kernel) (fun _ _ _ _ _ _ us hl => match us, hl with | [_], _ => rfl) (fun vs H Q E h => ?_) (fun cdv A outer s H vs Q E hr h => ?_)
  · obtain ⟨l, r, B, rfl, _⟩ := h
    rfl
  obtain ⟨l, r, B, rfl, hB, hl, D, q⟩ := h
  have nd : (["row", "size"] : List Str).Nodup := by decide +kernel
  have hlen : (iv r).length = r.length := iv_len r
  refine ⟨_, pss_cons (ps_set (i := 1) nd rfl (Or.inl rfl) (pe_callB call_lnQ (by rfl) T.b_len PySem.boot_len (pa_cons (pv 0) pa_nil)))
    (pss_cons (ps_while PassesOwn.never (PW.pt (pw_and (pt_cmpR op_gt (pv 1) pe_int (nomark _)) (pw_and1 (pt_cmpR op_eq (pe_ix ix_sq (pv 0) (pe_op op_sub (pv 1) pe_int) (fun _ _ => rfl)) pe_int (nomark _)))))
      (pss_one (ps_set (i := 1) nd rfl (Or.inl rfl) (pe_op op_sub (pv 1) pe_int))))
    (pss_one (ps_ret (pe_callTy call_list_of (by rfl) T.b_list (by decide +kernel) (pa_cons (pe_slice sl_seq (pv 0) po_none (po_some (pv 1))) pa_nil))))), ?_⟩
  refine ⟨_, rfl, l, _, rfl, hl, ?_⟩
  rw [hlen]
  refine ⟨fun m σ H2 => H2 = H ∧ m ≤ r.length ∧ σ = [some (.ref l), some (.int (m : Nat))] ∧ ∀ i, m ≤ i → i < r.length → r[i]? = some 0, ⟨r.length, rfl, Nat.le_refl _, rfl, fun i h1 h2 => by omega⟩, ?_⟩
  rintro m σ H2 ⟨rfl, hm, rfl, hz⟩
  have fin : (m = 0 ∨ r[m - 1]? ≠ some 0) → rSlQ (V.ref l) none (some ((m : Nat) : Int)) H2 (fun x H3 => ∃ p ys, [x] = [V.ref p] ∧ (SqL K H3 p ys ∨ SqT K H3 p ys) ∧ ∀ l, H3 l = none → Q (.ref l) (upd H3 l (.lst ys))) := fun hcond => by
    have hdone : r.take m = digs B (val B r) := trim_eq hB D hm hz hcond
    refine ⟨l, _, rfl, hl, fun p2 H3 s3 hp2 => ?_⟩
    rw [cut_to, iv_take, hdone] at hp2
    exact ⟨p2, _, rfl, hp2.or, fun l' hl' => q l' _ (s3.free hl') (s3.trans (same_upd hl')) upd_same⟩
  refine ⟨_, rfl, _, _, rfl, rfl, _, rfl, ?_⟩
  refine ite2 (fun c => ?_) (fun c => ?_)
  · have c' : (0 : Int) < (m : Int) := of_decide_eq_true c
    have hm1 : m - 1 < r.length := by omega
    have e1 : ((m : Int) - 1) = ((m - 1 : Nat) : Int) := by omega
    refine ⟨_, rfl, _, rfl, _, _, rfl, rfl, l, _, _, .int r[m - 1], rfl, rfl, hl, by rw [e1]; exact atI_nat (iv_get (List.getElem?_eq_getElem hm1)), rfl, _, rfl, ?_⟩
    refine ite2 (fun c2 => ?_) (fun c2 => ?_)
    · have c2' : V.int r[m - 1] = V.int 0 := of_decide_eq_true c2
      refine ⟨fun σ' H' => ∃ m', m' < m ∧ (H' = H2 ∧ m' ≤ r.length ∧ σ' = [some (.ref l), some (.int (m' : Nat))] ∧ ∀ i, m' ≤ i → i < r.length → r[i]? = some 0), fun σ' H' h => h, ?_⟩
      refine ⟨_, rfl, _, _, rfl, rfl, m - 1, by omega, rfl, by omega, by rw [← e1] <;> rfl, fun i h1 h2 => ?_⟩
      by_cases e : i = m - 1
      · rw [e, List.getElem?_eq_getElem hm1, V.int.inj c2']
      · exact hz i (by omega) h2
    · have c2' : ¬ V.int r[m - 1] = V.int 0 := of_decide_eq_false (Bool.eq_false_iff.mpr c2)
      have f := fin (.inr fun z => c2' (by rw [List.getElem?_eq_getElem hm1] at z; rw [Option.some.inj z]))
      exact ⟨_, rfl, _, rfl, _, rfl, f⟩
  · have c' : ¬ (0 : Int) < (m : Int) := of_decide_eq_false (Bool.eq_false_iff.mpr c)
    have f := fin (.inl (by omega))
    exact ⟨_, rfl, _, rfl, _, rfl, f⟩
theorem ok_rows_of : Cl P w K mg base 2 "rows_of" ["machine", "a", "b"] (spRows K) := by
  refine cl_of (N := ["machine", "a", "b", "room", "i", "digit", "carry", "k", "other"]) T.f_rows_of T.m_rows_of (by decide +kernel) (fun _ _ _ _ _ _ us hl => match us, hl with | [_, _, _], _ => rfl) (fun vs H Q E h => ?_) (fun cdv A outer s H vs Q E hr h => ?_)
  · obtain ⟨p, d, e, S, la, a, lb, b, rfl, _⟩ := h
    rfl
  obtain ⟨p, d, e, S, la, a, lb, b, rfl, M, hA, nA, hB, nB, dA, dB, zA, zB, q⟩ := h
  have nd : (["machine", "a", "b", "room", "i", "digit", "carry", "k", "other"] : List Str).Nodup := by decide +kernel
  refine ⟨_, (pss_cons (ps_expr (pe_mt (ok_enter T) hr (by decide) (pv 0) (pa_cons pe_str (pa_cons (pe_callB call_lnQ (by rfl) T.b_len PySem.boot_len (pa_cons (pv 1) pa_nil)) (pa_cons (pe_callB call_lnQ (by rfl) T.b_len PySem.boot_len (pa_cons (pv 2) pa_nil)) pa_nil)))))
  (pss_cons (ps_set (i := 3) nd rfl (Or.inl rfl) (pe_op op_rep (pe_lst (pa_cons pe_int pa_nil)) (pe_op op_add (pe_callB call_lnQ (by rfl) T.b_len PySem.boot_len (pa_cons (pv 1) pa_nil)) (pe_callB call_lnQ (by rfl) T.b_len PySem.boot_len (pa_cons (pv 2) pa_nil)))))
  (pss_cons (ps_for PassesOwn.never rfl (pi_enumQ (by rfl) T.b_enumerate (pa_cons (pv 1) pa_nil)) (pg_tup (by rfl) (pgs_cons (pg_name (i := 4) nd rfl (Or.inl rfl)) (pgs_cons (pg_name (i := 5) nd rfl (Or.inl rfl)) pgs_nil))) (pss_cons (ps_set (i := 6) nd rfl (Or.inl rfl) pe_int)
  (pss_cons (ps_for PassesOwn.never rfl (pi_enumQ (by rfl) T.b_enumerate (pa_cons (pv 2) pa_nil)) (pg_tup (by rfl) (pgs_cons (pg_name (i := 7) nd rfl (Or.inl rfl)) (pgs_cons (pg_name (i := 8) nd rfl (Or.inl rfl)) pgs_nil))) (pss_cons (ps_set (i := 6) nd rfl (Or.inl rfl) (pe_op op_add (pe_op op_add (pe_ix ix_list (pv 3) (pe_op op_add (pv 4) (pv 7)) (fun _ _ => rfl)) (pe_op op_mul (pv 5) (pv 8))) (pv 6)))
  (pss_cons (ps_asg (pe_op op_mod (pv 6) (pe_fld (pv 0) rfl)) (pg_sub (pv 3) (pe_op op_add (pv 4) (pv 7)) set_list))
  (pss_one
  (ps_set (i := 6) nd rfl (Or.inl rfl) (pe_op op_shrN (pv 6) (pe_fld (pv 0) rfl)))))))
  (pss_one
  (ps_asg (pe_op op_add (pe_ix ix_list (pv 3) (pe_op op_add (pv 4) (pe_callB call_lnQ (by rfl) T.b_len PySem.boot_len (pa_cons (pv 2) pa_nil))) (fun _ _ => rfl)) (pv 6)) (pg_sub (pv 3) (pe_op op_add (pv 4) (pe_callB call_lnQ (by rfl) T.b_len PySem.boot_len (pa_cons (pv 2) pa_nil))) set_list))))))
  (pss_cons (ps_expr (pe_mt (ok_count T) hr (by decide) (pv 0) (pa_cons pe_str (pa_cons (pe_op op_mul (pe_callB call_lnQ (by rfl) T.b_len PySem.boot_len (pa_cons (pv 1) pa_nil)) (pe_callB call_lnQ (by rfl) T.b_len PySem.boot_len (pa_cons (pv 2) pa_nil))) pa_nil))))
  (pss_one
  (ps_ret (pv 3))))))), ?_⟩
  refine ⟨_, rfl, ?_⟩
  refine M.self (m := "enter") (by decide +kernel) ?_
  refine ⟨_, rfl, la, _, rfl, hA, _, rfl, lb, _, rfl, hB, ?_⟩
  refine ⟨p, d, e, S, "rows", _, _, rfl, M, fun H1 k1 M1 => ?_⟩
  have hA1 : Sq H1 la (iv a) := M.kSq k1 hA nA
  have hB1 : Sq H1 lb (iv b) := M.kSq k1 hB nB
  refine ⟨by show 1 ≤ sizeLine; decide, fun l0 hl0 => ?_⟩
  have s0 := same_upd (o := .lst [.int 0]) hl0
  refine ⟨_, rfl, la, _, rfl, hA1.same s0, _, rfl, lb, _, rfl, hB1.same s0, _, _, rfl, rfl, ?_⟩
  rw [iv_len, iv_len]
  have en : (((a.length : Nat) : Int) + ((b.length : Nat) : Int)).toNat = a.length + b.length := by omega
  refine ⟨l0, _, _, rfl, rfl, upd_same, by omega, by omega, ?_, fun r hr0 => ?_⟩
  · rw [en]
    exact Nat.le_trans (by rw [List.length_singleton]; omega) (Nat.le_of_lt s1000)
  have er : (List.replicate (((a.length : Nat) : Int) + ((b.length : Nat) : Int)).toNat [V.int 0]).flatten = iv (List.replicate (a.length + b.length) 0) := by
    rw [en]
    show _ = List.map V.int (List.replicate (a.length + b.length) 0)
    rw [List.map_replicate]
    simp
  rw [er]
  have k0 : Kp [d, e] H (upd H1 l0 (.lst [.int 0])) := k1.fr hl0
  have M0 := M1.same s0
  have r0 : H r = none := k0.free hr0 fun z => by
    rcases List.mem_cons.mp z with z | z
    · exact M0.ed.2.1 (by rw [← z]; exact hr0)
    · exact M0.ed.1 (by rw [← List.mem_singleton.mp z]; exact hr0)
  have B2 := M.b2
  have M0r := M0.same (same_upd (o := .lst (iv (List.replicate (a.length + b.length) 0))) hr0)
  obtain ⟨Hs, hHs⟩ : ∃ Hs, Hs = upd (upd H1 l0 (.lst [.int 0])) r (.lst (iv (List.replicate (a.length + b.length) 0))) := ⟨_, rfl⟩
  rw [← hHs] at M0r ⊢
  have kS : Kp [d, e] H Hs := by rw [hHs]; exact k0.fr hr0
  have hr : Hs r = some (.lst (iv (List.replicate (a.length + b.length) 0))) := by rw [hHs]; exact upd_same
  have nre : r ≠ e := M.neN r0
  obtain ⟨oA, soA, eA⟩ := M.kSq kS hA nA
  obtain ⟨oB, soB, eB⟩ := M.kSq kS hB nB
  have rA : la ≠ r := fun z => hA.some (by rw [z]; exact r0)
  have rB : lb ≠ r := fun z => hB.some (by rw [z]; exact r0)
  refine ⟨_, rfl, la, iv a, oA, rfl, soA, eA, fun J wk => for_it wk (fun i σ H2 => ∃ rr u1 u2 u3 u4 u5, σ = [some (.ref p), some (.ref la), some (.ref lb), some (.ref r), u1, u2, u3, u4, u5] ∧ Kp [r] Hs H2 ∧ H2 r = some (.lst (iv rr)) ∧ Dg (2 ^ S.w) rr ∧ rr.length = a.length + b.length ∧
    val (2 ^ S.w) rr = val (2 ^ S.w) (a.take i) * val (2 ^ S.w) b ∧ ∀ j, i + b.length ≤ j → j < a.length + b.length → rr[j]? = some 0) ?_ ?_ ?_ ?_⟩
  · refine ⟨_, none, none, none, none, none, rfl, Kp.refl _ _, hr, Dg.zeros (by omega) _, List.length_replicate, ?_, fun j _ h => ?_⟩
    · rw [val_zeros, List.take_zero]
      show (0 : Int) = 0 * _
      rw [Int.zero_mul]
    · rw [List.getElem?_replicate, if_pos h]
  · rintro i σ H2 _ ⟨rr, u1, u2, u3, u4, u5, rfl, kp, _⟩
    exact kp la _ eA (by simpa using rA)
  · rintro i x σ H2 H3 hi ⟨rr, u1, u2, u3, u4, u5, rfl, kp, hrr, drr, lrr, vrr, zrr⟩ ⟨t1, x1, y1, rfl, ht1, rfl, hx1, hy1⟩
    obtain ⟨di, hdi, rfl⟩ := iv_of hy1
    cases hx1
    rw [iv_len] at hi
    have ddi := dA.get hdi
    refine ⟨t1, _, rfl, SqT.of upd_same, rfl, _, _, rfl, _, _, rfl, rfl, ?_⟩
    -- carry = 0; for k, other in enumerate(b)
    have bound : ∀ j : Nat, j < a.length + b.length → (j : Int) < 1000 := fun j h => by omega
    refine ⟨_, rfl, lb, iv b, oB, rfl, soB, by rw [upd_ne (ne_of_none (kp lb _ eB (by simpa using rB)) ht1)]; exact kp lb _ eB (by simpa using rB), fun J2 wk2 => for_it wk2 (fun k σ H4 => ∃ rr c u7 u8, σ = [some (.ref p), some (.ref la), some (.ref lb), some (.ref r), some (.int (i : Nat)), some (.int di), some (.int c), u7, u8] ∧ Kp [r] Hs H4 ∧ H4 r = some (.lst (iv rr)) ∧ Dg (2 ^ S.w) rr ∧ rr.length = a.length + b.length ∧
      0 ≤ c ∧ c < 2 ^ S.w ∧ val (2 ^ S.w) rr + c * (2 ^ S.w) ^ (i + k) = val (2 ^ S.w) (a.take i) * val (2 ^ S.w) b + di * (2 ^ S.w) ^ i * val (2 ^ S.w) (b.take k) ∧ ∀ j, i + b.length ≤ j → j < a.length + b.length → rr[j]? = some 0) ?_ ?_ ?_ ?_⟩
    · refine ⟨rr, 0, u4, u5, rfl, kp.fr ht1, by rw [upd_ne (ne_of_none hrr ht1)]; exact hrr, drr, lrr, Int.le_refl _, by omega, ?_, zrr⟩
      rw [vrr, List.take_zero, Int.zero_mul, Int.add_zero]
      show _ = _ + _ * (0 : Int)
      rw [Int.mul_zero, Int.add_zero]
    · rintro k σ H4 _ ⟨rr, c, u7, u8, rfl, kp, _⟩
      exact kp lb _ eB (by simpa using rB)
    · rintro k x σ H4 H5 hk ⟨rr, c, u7, u8, rfl, kp, hrr, drr, lrr, c0, c1, vrr, zrr⟩ ⟨t2, x2, y2, rfl, ht2, rfl, hx2, hy2⟩
      obtain ⟨dk, hdk, rfl⟩ := iv_of hy2
      cases hx2
      rw [iv_len] at hk
      have ddk := dB.get hdk
      have hik : i + k < rr.length := by omega
      have hget : rr[i + k]? = some rr[i + k] := List.getElem?_eq_getElem hik
      have drk := drr.get hget
      have tn := row_turn B2 drk.1 drk.2 ddi.1 ddi.2 ddk.1 ddk.2 c0 c1
      have eik : ((i : Nat) : Int) + ((k : Nat) : Int) = ((i + k : Nat) : Int) := by omega
      have w30 : (2 : Int) ^ S.w ≤ 2 ^ 30 := ipow_le (by decide) M.w2
      have M5 : MachAt (CM K) (upd H4 t2 (.tup [.int (k : Nat), .int dk])) p d e _ := (M0r.mono (fun o q => kp p o q (by
        obtain ⟨dx, fs, z, _⟩ := M0r.ob
        simpa using ne_of z hr (by intro q; cases q))) (fun o q => kp d o q (by simpa using ne_of M0r.cn hr (by intro q; cases q))) (fun o q => kp e o q (by simpa using Ne.symm nre)) fun t xs q => kp t _ q (by simpa using ne_of q hr (by intro q; cases q))).same (same_upd ht2)
      have hrr5 : (upd H4 t2 (.tup [.int (k : Nat), .int dk])) r = some (.lst (iv rr)) := by rw [upd_ne (ne_of_none hrr ht2)]; exact hrr
      refine ⟨t2, _, rfl, SqT.of upd_same, rfl, _, _, rfl, _, _, rfl, rfl, ?_⟩
      refine ⟨_, rfl, _, rfl, _, rfl, _, _, rfl, rfl, r, _, _, .int rr[i + k], rfl, rfl, SqL.of hrr5, by rw [eik]; exact atI_nat (iv_get hget), ?_⟩
      refine ⟨_, rfl, _, rfl, _, _, rfl, rfl, .inl ⟨by omega, by omega⟩, _, _, rfl, rfl, ?_⟩
      refine ⟨_, rfl, _, _, rfl, rfl, ?_⟩
      refine ⟨_, rfl, _, rfl, ?_⟩
      refine fld_baseE T M5 (MS.op_w _ _) ?_
      refine ⟨_, _, rfl, rfl, ipow_pos (by decide) _, ?_⟩
      refine ⟨_, rfl, _, rfl, _, rfl, _, _, rfl, rfl, r, _, _, i + k, rfl, rfl, hrr5, by rw [eik, iv_len]; exact ixN_n hik, ?_⟩
      refine ⟨_, rfl, _, rfl, ?_⟩
      refine fld_widthE T (M5.lst hrr5 nre) (MS.op_w _ _) ?_
      refine ⟨_, S.w, rfl, rfl, ?_⟩
      have x0 : 0 ≤ (rr[i + k] + di * dk + c) % 2 ^ S.w := Int.emod_nonneg _ (by omega)
      have x1 : (rr[i + k] + di * dk + c) % 2 ^ S.w < 2 ^ S.w := Int.emod_lt_of_pos _ (by omega)
      refine ⟨rr.set (i + k) ((rr[i + k] + di * dk + c) % 2 ^ S.w), (rr[i + k] + di * dk + c) / 2 ^ S.w, some (.int (k : Nat)), some (.int dk), rfl, ?_, ?_, drr.set _ x0 x1, by rw [List.length_set]; exact lrr, tn.2.1, tn.2.2.1, ?_, fun j j1 j2 => ?_⟩
      · exact (kp.fr ht2).trans (Kp.put (by simp))
      · rw [upd_same, ← iv_set] <;> rfl
      · rw [val_set _ _ hget, val_take_succ _ hdk]
        have t4 := tn.2.2.2
        have t5 : ((2 : Int) ^ S.w) ^ (i + (k + 1)) = (2 ^ S.w) ^ (i + k) * 2 ^ S.w := by rw [← Nat.add_assoc, Int.pow_succ]
        have t6 : ((2 : Int) ^ S.w) ^ (i + k) = (2 ^ S.w) ^ i * (2 ^ S.w) ^ k := Int.pow_add ..
        rw [t5]
        rw [t6] at vrr ⊢
        generalize (rr[i + k] + di * dk + c) % 2 ^ S.w = X at t4 ⊢
        generalize (rr[i + k] + di * dk + c) / 2 ^ S.w = Y at t4 ⊢
        generalize rr[i + k] = R at t4 ⊢
        generalize val (2 ^ S.w) rr = V1 at vrr ⊢
        generalize val (2 ^ S.w) (b.take k) = V2 at vrr ⊢
        generalize val (2 ^ S.w) (a.take i) * val (2 ^ S.w) b = V3 at vrr ⊢
        generalize ((2 : Int) ^ S.w) ^ i = P1 at vrr ⊢
        generalize ((2 : Int) ^ S.w) ^ k = P2 at vrr ⊢
        generalize (2 : Int) ^ S.w = BB at t4 ⊢
        grind
      · rw [List.getElem?_set_ne (by omega)]
        exact zrr j j1 j2
    · rintro σ H4 ⟨rr, c, u7, u8, rfl, kp, hrr, drr, lrr, c0, c1, vrr, zrr⟩
      rw [iv_len] at vrr
      rw [List.take_length] at vrr
      have hz : rr[i + b.length]? = some 0 := zrr _ (Nat.le_refl _) (by omega)
      have hik : i + b.length < rr.length := by omega
      have hB4 : Sq H4 lb (iv b) := ⟨oB, soB, kp lb _ eB (by simpa using rB)⟩
      have eik : ((i : Nat) : Int) + ((b.length : Nat) : Int) = ((i + b.length : Nat) : Int) := by omega
      refine ⟨_, rfl, _, rfl, _, rfl, lb, _, rfl, hB4, _, _, rfl, rfl, ?_⟩
      refine ⟨r, _, _, .int 0, rfl, rfl, SqL.of hrr, by rw [iv_len, eik]; exact atI_nat (iv_get hz), _, rfl, _, _, rfl, rfl, ?_⟩
      refine ⟨_, rfl, _, rfl, _, rfl, lb, _, rfl, hB4, _, _, rfl, rfl, ?_⟩
      refine ⟨r, _, _, i + b.length, rfl, rfl, hrr, by rw [iv_len, iv_len, eik]; exact ixN_n hik, ?_⟩
      refine ⟨rr.set (i + b.length) c, some (.int (i : Nat)), some (.int di), some (.int c), u7, u8, rfl, kp.trans (Kp.put (by simp)), ?_, drr.set _ c0 c1, by rw [List.length_set]; exact lrr, ?_, fun j j1 j2 => ?_⟩
      · rw [upd_same, ← iv_set]
        show some (HO.lst ((iv rr).set (i + b.length) (V.int (0 + c)))) = _
        rw [Int.zero_add]
      · rw [val_set _ _ hz, val_take_succ _ hdi]
        generalize ((2 : Int) ^ S.w) ^ (i + b.length) = P2 at vrr ⊢
        generalize ((2 : Int) ^ S.w) ^ i = P1 at vrr ⊢
        grind
      · rw [List.getElem?_set_ne (by omega)]
        exact zrr j (by omega) j2
  · rintro σ H2 ⟨rr, u1, u2, u3, u4, u5, rfl, kp, hrr, drr, lrr, vrr, zrr⟩
    rw [iv_len, List.take_length] at vrr
    have M5 : MachAt (CM K) H2 p d e _ := M0r.mono (fun o q => kp p o q (by
        obtain ⟨dx, fs, z, _⟩ := M0r.ob
        simpa using ne_of z hr (by intro q; cases q))) (fun o q => kp d o q (by simpa using ne_of M0r.cn hr (by intro q; cases q))) (fun o q => kp e o q (by simpa using Ne.symm nre)) fun t xs q => kp t _ q (by simpa using ne_of q hr (by intro q; cases q))
    refine ⟨_, rfl, ?_⟩
    refine M5.self (m := "count") (by decide +kernel) ?_
    refine ⟨_, rfl, la, _, rfl, ⟨oA, soA, kp la _ eA (by simpa using rA)⟩, _, rfl, lb, _, rfl, ⟨oB, soB, kp lb _ eB (by simpa using rB)⟩, _, _, rfl, rfl, ?_⟩
    rw [iv_len, iv_len]
    refine ⟨.inl ⟨by omega, by omega⟩, p, d, e, _, "product", _, rfl, M5, by decide +kernel, fun H3 k3 M3 => ?_⟩
    have em : ((a.length : Nat) : Int) * ((b.length : Nat) : Int) = ((a.length * b.length : Nat) : Int) := (Int.natCast_mul ..).symm
    refine ⟨_, rfl, q r rr H3 r0 (((kS.own r0 (kp.mono (by simp))).trans k3)) ?_ (M5.kLst k3 hrr nre) drr vrr⟩
    have eo : (S.op (.en "rows" ((iv a).length : Nat) ((iv b).length : Nat))).op (.ct "product" (((a.length : Nat) : Int) * ((b.length : Nat) : Int))) = S.ops (rowsE a b) := by
      rw [iv_len, iv_len, em]
      rfl
    rw [← eo]
    exact M3
end
end T87
namespace T87
open PySem PySem.Spec PyProof.Rows L2
theorem MachAt.lstK {C p d e r : Addr} {H H' : Hp} {S : MS} {xs : List V} (M : MachAt C H p d e S) (hr : H r = some (.lst xs)) (ne : r ≠ e) (k : Kp [r] H H') : MachAt C H' p d e S := by
  obtain ⟨dx, fs, z, _⟩ := M.ob
  exact M.mono (fun o q => k p o q (by simpa using ne_of z hr (by intro q; cases q))) (fun o q => k d o q (by simpa using ne_of M.cn hr (by intro q; cases q))) (fun o q => k e o q (by simpa using Ne.symm ne))
    fun t xs q => k t _ q (by simpa using ne_of q hr (by intro q; cases q))
def spAdd (K : PySem.W.Frag) : Sp := fun vs H Q _ => ∃ p d e S la u lb v, vs = [.ref p, .ref la, .ref lb] ∧ MachAt (CM K) H p d e S ∧ Sq H la (iv (digs (2 ^ S.w) u)) ∧ la ≠ e ∧ Sq H lb (iv (digs (2 ^ S.w) v)) ∧ lb ≠ e ∧ 0 ≤ u ∧ 0 ≤ v ∧ (digs (2 ^ S.w) u).length ≤ 400 ∧ (digs (2 ^ S.w) v).length ≤ 400 ∧
  ∀ l H', H l = none → Kp [d, e] H H' → MachAt (CM K) H' p d e (S.ops (addE (digs (2 ^ S.w) u) (digs (2 ^ S.w) v))) → H' l = some (.lst (iv (digs (2 ^ S.w) (u + v)))) → Q (.ref l) H'
def spPut (K : PySem.W.Frag) : Sp := fun vs H Q _ => ∃ p d e S r rr m ms sg start, vs = [.ref p, .ref r, .int (start : Nat), .ref m, .int sg] ∧ MachAt (CM K) H p d e S ∧ H r = some (.lst (iv rr)) ∧ r ≠ e ∧ Sq H m (iv ms) ∧ m ≠ r ∧ m ≠ e ∧ Dg (2 ^ S.w) rr ∧ Dg (2 ^ S.w) ms ∧
  start + ms.length ≤ rr.length ∧ (sg = 1 ∨ sg = -1) ∧
  ∀ c H', Kp [r, d, e] H H' → MachAt (CM K) H' p d e (S.op (.ct "sum" ((putR (2 ^ S.w) sg rr start ms).2 : Nat))) → H' r = some (.lst (iv (putR (2 ^ S.w) sg rr start ms).1)) → Q (.int c) H'
section
variable {P : Program} {w : World} {K : PySem.W.Frag} {mg : Str → Option Value} {base : Heap} (T : Tx K mg)
include T
theorem ok_adding : Cl P w K mg base 2 "adding" ["machine", "a", "b"] (spAdd K) := by
  refine cl_of (N := ["machine", "a", "b", "found", "carry", "place", "digit"]) T.f_adding T.m_adding (by decide +kernel) (fun _ _ _ _ _ _ us hl => match us, hl with | [_, _, _], _ => rfl) (fun vs H Q E h => ?_) (fun cdv A outer s H vs Q E hr h => ?_)
  · obtain ⟨p, d, e, S, la, u, lb, v, rfl, _⟩ := h
    rfl
  obtain ⟨p, d, e, S, la, u, lb, v, rfl, M, hA, nA, hB, nB, hu, hv, zA, zB, q⟩ := h
  have nd : (["machine", "a", "b", "found", "carry", "place", "digit"] : List Str).Nodup := by decide +kernel
  have B2 := M.b2
  refine ⟨_, (pss_cons (ps_expr (pe_mt (ok_enter T) hr (by decide) (pv 0) (pa_cons pe_str (pa_cons (pe_callB call_lnQ (by rfl) T.b_len PySem.boot_len (pa_cons (pv 1) pa_nil)) (pa_cons (pe_callB call_lnQ (by rfl) T.b_len PySem.boot_len (pa_cons (pv 2) pa_nil)) pa_nil)))))
  (pss_cons (ps_if (pt_cmpR op_lt (pe_callB call_lnQ (by rfl) T.b_len PySem.boot_len (pa_cons (pv 1) pa_nil)) (pe_callB call_lnQ (by rfl) T.b_len PySem.boot_len (pa_cons (pv 2) pa_nil)) (nomark _)) (pss_one
  (ps_par (i := 1) (j := 2) (by rfl) nd rfl rfl (by decide) rfl rfl (pa_cons (pv 2) (pa_cons (pv 1) pa_nil)) (by rfl))) pss_nil)
  (pss_cons (ps_par (i := 3) (j := 4) (by rfl) nd rfl rfl (by decide) rfl rfl (pa_cons (pe_lst pa_nil) (pa_cons pe_int pa_nil)) (by rfl))
  (pss_cons (ps_for PassesOwn.never rfl (pi_enumQ (by rfl) T.b_enumerate (pa_cons (pv 1) pa_nil)) (pg_tup (by rfl) (pgs_cons (pg_name (i := 5) nd rfl (Or.inl rfl)) (pgs_cons (pg_name (i := 6) nd rfl (Or.inl rfl)) pgs_nil))) (pss_cons (ps_set (i := 4) nd rfl (Or.inl rfl) (pe_op op_add (pe_op op_add (pv 4) (pv 6)) (pe_ifExp (pt_cmpR op_lt (pv 5) (pe_callB call_lnQ (by rfl) T.b_len PySem.boot_len (pa_cons (pv 2) pa_nil)) (nomark _)) (pe_ix ix_sq (pv 2) (pv 5) (fun _ _ => rfl)) pe_int)))
  (pss_cons (ps_expr (pe_bm PySem.F.plainAttrs_list PySem.F.slot_list_append PySem.F.type_list_append mt_append (pv 3) (pa_cons (pe_op op_mod (pv 4) (pe_fld (pv 0) rfl)) pa_nil)))
  (pss_one
  (ps_set (i := 4) nd rfl (Or.inl rfl) (pe_op op_shrN (pv 4) (pe_fld (pv 0) rfl)))))))
  (pss_cons (ps_expr (pe_mt (ok_count T) hr (by decide) (pv 0) (pa_cons pe_str (pa_cons (pe_callB call_lnQ (by rfl) T.b_len PySem.boot_len (pa_cons (pv 1) pa_nil)) pa_nil))))
  (pss_one
  (ps_ret (pe_ifExp (pt_cmpR op_gt (pv 4) pe_int (nomark _)) (pe_op op_cat (pv 3) (pe_lst (pa_cons (pv 4) pa_nil))) (pv 3))))))))), ?_⟩
  refine ⟨_, rfl, ?_⟩
  refine M.self (m := "enter") (by decide +kernel) ?_
  refine ⟨_, rfl, la, _, rfl, hA, _, rfl, lb, _, rfl, hB, ?_⟩
  refine ⟨p, d, e, S, "add", _, _, rfl, M, fun H1 k1 M1 => ?_⟩
  have hA1 := M.kSq k1 hA nA
  have hB1 := M.kSq k1 hB nB
  have dA0 := digs_dg B2 hu
  have dB0 := digs_dg B2 hv
  refine ⟨_, rfl, la, _, rfl, hA1, _, rfl, lb, _, rfl, hB1, _, _, rfl, rfl, _, rfl, ?_⟩
  refine ite2 (fun c => ?_) (fun c => ?_)
  · have c' := of_decide_eq_true c
    rw [iv_len, iv_len] at c'
    refine ⟨_, rfl, _, rfl, _, _, rfl, ?_⟩
    obtain ⟨a, haX⟩ : ∃ a, a = digs (2 ^ S.w) v := ⟨_, rfl⟩
    obtain ⟨b, hbY⟩ : ∃ b, b = digs (2 ^ S.w) u := ⟨_, rfl⟩
    have hlen : b.length ≤ a.length := by rw [haX, hbY]; omega
    have hmx : ((a.length : Nat) : Int) = ((max (digs (2 ^ S.w) u).length (digs (2 ^ S.w) v).length : Nat) : Int) := by rw [haX]; omega
    have dA : Dg (2 ^ S.w) a := by rw [haX]; exact dB0
    have dB : Dg (2 ^ S.w) b := by rw [hbY]; exact dA0
    have zX : a.length ≤ 400 := by rw [haX]; exact zB
    have hX : Sq H1 lb (iv a) := by rw [haX]; exact hB1
    have hY : Sq H1 la (iv b) := by rw [hbY]; exact hA1
    obtain ⟨oA, soA, eA⟩ := hX
    obtain ⟨oB, soB, eB⟩ := hY
    refine ⟨by show 0 ≤ sizeLine; decide, fun r hr0 => ?_⟩
    refine ⟨_, _, rfl, ?_⟩
    have r0 : H r = none := k1.free hr0 fun z => by
      rcases List.mem_cons.mp z with z | z
      · exact M1.ed.2.1 (by rw [← z]; exact hr0)
      · exact M1.ed.1 (by rw [← List.mem_singleton.mp z]; exact hr0)
    have nre : r ≠ e := M.neN r0
    have rA : lb ≠ r := ne_of_none eA hr0
    have rB : la ≠ r := ne_of_none eB hr0
    obtain ⟨Hs, hHs⟩ : ∃ Hs, Hs = upd H1 r (.lst (iv [])) := ⟨_, rfl⟩
    have e0 : upd H1 r (.lst []) = Hs := hHs.symm
    rw [e0]
    have hrs : Hs r = some (.lst (iv [])) := by rw [hHs]; exact upd_same
    have kS : Kp [d, e] H Hs := by rw [hHs]; exact k1.fr hr0
    have M0r := M1.same (same_upd (o := .lst (iv [])) hr0)
    rw [← hHs] at M0r
    have eA1 : Hs lb = some oA := by rw [hHs, upd_ne rA]; exact eA
    have eB1 : Hs la = some oB := by rw [hHs, upd_ne rB]; exact eB
    refine ⟨_, rfl, lb, iv a, oA, rfl, soA, eA1, fun J wk => for_it wk (fun i σ H2 => ∃ f c u5 u6, σ = [some (.ref p), some (.ref lb), some (.ref la), some (.ref r), some (.int c), u5, u6] ∧ Kp [r] Hs H2 ∧ H2 r = some (.lst (iv f)) ∧ Dg (2 ^ S.w) f ∧ f.length = i ∧ 0 ≤ c ∧ c ≤ 1 ∧
      val (2 ^ S.w) f + (2 ^ S.w) ^ i * c = val (2 ^ S.w) (a.take i) + val (2 ^ S.w) (b.take i)) ?_ ?_ ?_ ?_⟩
    · exact ⟨[], 0, none, none, rfl, Kp.refl _ _, hrs, Dg.nil, rfl, by decide, by decide, by rw [List.take_zero, List.take_zero]; rfl⟩
    · rintro i σ H2 _ ⟨f, c, u5, u6, rfl, kp, _⟩
      exact kp lb _ eA1 (by simpa using rA)
    · rintro i x σ H2 H3 hi ⟨f, c, u5, u6, rfl, kp, hf, df, lf, c0, c1, vf⟩ ⟨t1, x1, y1, rfl, ht1, rfl, hx1, hy1⟩
      obtain ⟨di, hdi, rfl⟩ := iv_of hy1
      cases hx1
      rw [iv_len] at hi
      have ddi := dA.get hdi
      have M5 : MachAt (CM K) (upd H2 t1 (.tup [.int (i : Nat), .int di])) p d e _ := (M0r.lstK hrs nre kp).same (same_upd ht1)
      have hf5 : (upd H2 t1 (.tup [.int (i : Nat), .int di])) r = some (.lst (iv f)) := by rw [upd_ne (ne_of_none hf ht1)]; exact hf
      have hB5 : Sq (upd H2 t1 (.tup [.int (i : Nat), .int di])) la (iv b) := ⟨oB, soB, same_upd ht1 _ _ (kp la _ eB1 (by simpa using rB))⟩
      refine ⟨t1, _, rfl, SqT.of upd_same, rfl, _, _, rfl, _, _, rfl, rfl, ?_⟩
      refine ⟨_, rfl, _, rfl, _, _, rfl, rfl, ?_⟩
      refine ⟨_, rfl, _, rfl, la, _, rfl, hB5, _, _, rfl, rfl, _, rfl, ?_⟩
      have main : ∀ z : Int, b.getD i 0 = z → 0 ≤ c + di + z ∧ (c + di + z) / 2 ^ S.w ≤ 1 ∧ 0 ≤ (c + di + z) / 2 ^ S.w ∧ Dg (2 ^ S.w) (f ++ [(c + di + z) % 2 ^ S.w]) ∧
          val (2 ^ S.w) (f ++ [(c + di + z) % 2 ^ S.w]) + (2 ^ S.w) ^ (i + 1) * ((c + di + z) / 2 ^ S.w) = val (2 ^ S.w) (a.take (i + 1)) + val (2 ^ S.w) (b.take (i + 1)) := fun z hz => by
        have dz := getD_dg (show (0 : Int) < 2 ^ S.w by omega) dB i
        rw [hz] at dz
        have s1 : (c + di + z) / 2 ^ S.w < 2 := Int.ediv_lt_of_lt_mul (by omega) (by omega)
        refine ⟨by omega, by omega, Int.ediv_nonneg (by omega) (by omega), df.append (Dg.cons (Int.emod_nonneg _ (by omega)) (Int.emod_lt_of_pos _ (by omega)) Dg.nil), ?_⟩
        have eb : val (2 ^ S.w) (b.take (i + 1)) = val (2 ^ S.w) (b.take i) + (2 ^ S.w) ^ i * z := by
          by_cases hb : i < b.length
          · rw [List.getD_eq_getElem?_getD, List.getElem?_eq_getElem hb] at hz
            have hz2 : b[i] = z := hz
            rw [val_take_succ _ (List.getElem?_eq_getElem hb), hz2]
          · rw [List.getD_eq_getElem?_getD, List.getElem?_eq_none_iff.mpr (by omega)] at hz
            have hz2 : (0 : Int) = z := hz
            rw [← hz2, List.take_of_length_le (by omega), List.take_of_length_le (by omega)]
            omega
        rw [val_append, val_take_succ _ hdi, eb, lf, Int.pow_succ]
        show val (2 ^ S.w) f + (2 ^ S.w) ^ i * ((c + di + z) % 2 ^ S.w + 2 ^ S.w * 0) + _ = _
        have t4 : (c + di + z) % 2 ^ S.w + 2 ^ S.w * ((c + di + z) / 2 ^ S.w) = c + di + z := Int.emod_add_mul_ediv ..
        generalize (c + di + z) % 2 ^ S.w = XX at t4 ⊢
        generalize (c + di + z) / 2 ^ S.w = YY at t4 ⊢
        generalize val (2 ^ S.w) f = V1 at vf ⊢
        generalize val (2 ^ S.w) (b.take i) = V2 at vf ⊢
        generalize val (2 ^ S.w) (a.take i) = V3 at vf ⊢
        generalize ((2 : Int) ^ S.w) ^ i = P1 at vf ⊢
        generalize (2 : Int) ^ S.w = BB at t4 ⊢
        grind
      have fin : ∀ z : Int, b.getD i 0 = z → ∃ v, some (V.ref r) = some v ∧ True := fun z _ => ⟨_, rfl, trivial⟩
      refine ite2 (fun cc => ?_) (fun cc => ?_)
      · have cc' := of_decide_eq_true cc
        rw [iv_len] at cc'
        have hb : i < b.length := by omega
        have hz : b.getD i 0 = b[i] := by
          rw [List.getD_eq_getElem?_getD, List.getElem?_eq_getElem hb]
          rfl
        refine ⟨_, rfl, _, rfl, la, _, _, _, rfl, rfl, hB5, atI_nat (iv_get (List.getElem?_eq_getElem hb)), _, _, rfl, rfl, ?_⟩
        obtain ⟨m0, m1, m2, m3, m4⟩ := main _ hz
        refine ⟨_, rfl, ?_⟩
        refine ⟨.inl ⟨rfl, _, SqL.of hf5⟩, _, rfl, _, rfl, ?_⟩
        refine fld_baseE T M5 (MS.op_w _ _) ?_
        refine ⟨_, _, rfl, rfl, ipow_pos (by decide) _, ?_⟩
        refine ⟨r, _, _, rfl, rfl, hf5, ?_, ?_⟩
        · rw [iv_len, lf]
          exact Nat.lt_of_le_of_lt (show i ≤ 1000 by omega) s1000
        refine ⟨_, rfl, _, rfl, ?_⟩
        refine fld_widthE T (M5.lst hf5 nre) (MS.op_w _ _) ?_
        refine ⟨_, S.w, rfl, rfl, ?_⟩
        refine ⟨f ++ [(c + di + b[i]) % 2 ^ S.w], (c + di + b[i]) / 2 ^ S.w, some (.int (i : Nat)), some (.int di), rfl, (kp.fr ht1).trans (Kp.put (by simp)), ?_, m3, by rw [List.length_append, lf]; rfl, m2, m1, m4⟩
        rw [upd_same, ← iv_app] <;> rfl
      · have cc' := of_decide_eq_false (Bool.eq_false_iff.mpr cc)
        rw [iv_len] at cc'
        have hz : b.getD i 0 = 0 := by
          rw [List.getD_eq_getElem?_getD, List.getElem?_eq_none_iff.mpr (by omega)]
          rfl
        refine ⟨_, _, rfl, rfl, ?_⟩
        obtain ⟨m0, m1, m2, m3, m4⟩ := main _ hz
        refine ⟨_, rfl, ?_⟩
        refine ⟨.inl ⟨rfl, _, SqL.of hf5⟩, _, rfl, _, rfl, ?_⟩
        refine fld_baseE T M5 (MS.op_w _ _) ?_
        refine ⟨_, _, rfl, rfl, ipow_pos (by decide) _, ?_⟩
        refine ⟨r, _, _, rfl, rfl, hf5, ?_, ?_⟩
        · rw [iv_len, lf]
          exact Nat.lt_of_le_of_lt (show i ≤ 1000 by omega) s1000
        refine ⟨_, rfl, _, rfl, ?_⟩
        refine fld_widthE T (M5.lst hf5 nre) (MS.op_w _ _) ?_
        refine ⟨_, S.w, rfl, rfl, ?_⟩
        refine ⟨f ++ [(c + di + 0) % 2 ^ S.w], (c + di + 0) / 2 ^ S.w, some (.int (i : Nat)), some (.int di), rfl, (kp.fr ht1).trans (Kp.put (by simp)), ?_, m3, by rw [List.length_append, lf]; rfl, m2, m1, m4⟩
        rw [upd_same, ← iv_app] <;> rfl
    · rintro σ H2 ⟨f, c, u5, u6, rfl, kp, hf, df, lf, c0, c1, vf⟩
      rw [iv_len] at lf vf
      rw [List.take_length, List.take_of_length_le hlen] at vf
      have M5 : MachAt (CM K) H2 p d e _ := M0r.lstK hrs nre kp
      refine ⟨_, rfl, ?_⟩
      refine M5.self (m := "count") (by decide +kernel) ?_
      refine ⟨_, rfl, lb, _, rfl, ⟨oA, soA, kp lb _ eA1 (by simpa using rA)⟩, ?_⟩
      refine ⟨p, d, e, _, "sum", _, rfl, M5, by decide +kernel, fun H3 k3 M3 => ?_⟩
      have hf3 := M5.kLst k3 hf nre
      have kT : Kp [d, e] H H3 := (kS.own r0 (kp.mono (by simp))).trans k3
      rw [← lf] at vf
      have cn := add_canon M.b2 hv hu df (by rw [lf, ← haX]) c0 c1 (by rw [vf, haX, hbY, val_digs M.b2 hv, val_digs M.b2 hu])
      have M4 : MachAt (CM K) H3 p d e (S.ops (addE (digs (2 ^ S.w) u) (digs (2 ^ S.w) v))) := by
        have eo : (S.op (.en "add" ((iv (digs (2 ^ S.w) u)).length : Nat) ((iv (digs (2 ^ S.w) v)).length : Nat))).op (.ct "sum" ((iv a).length : Nat)) = S.ops (addE (digs (2 ^ S.w) u) (digs (2 ^ S.w) v)) := by
          rw [iv_len, iv_len, iv_len, hmx]
          rfl
        rw [← eo]
        exact M3
      refine ⟨_, rfl, _, _, rfl, rfl, _, rfl, ?_⟩
      refine ite2 (fun cc => ?_) (fun cc => ?_)
      · have cc' : (0 : Int) < c := of_decide_eq_true cc
        rw [if_pos cc'] at cn
        refine ⟨_, rfl, _, rfl, by show 1 ≤ sizeLine; decide, fun g hg => ?_⟩
        refine ⟨r, g, _, _, rfl, rfl, by rw [upd_ne (ne_of_none hf3 hg)]; exact hf3, upd_same, ?_, fun l hl => ?_⟩
        · rw [iv_len, lf]
          exact Nat.le_trans (by rw [List.length_singleton]; omega) (Nat.le_of_lt s1000)
        refine q l _ ?_ ((kT.fr hg).fr hl) ((M4.same (same_upd hg)).same (same_upd hl)) ?_
        · exact (kT.fr hg).free hl fun z => by
            rcases List.mem_cons.mp z with z | z
            · exact (M4.same (same_upd hg)).ed.2.1 (by rw [← z]; exact hl)
            · exact (M4.same (same_upd hg)).ed.1 (by rw [← List.mem_singleton.mp z]; exact hl)
        · rw [upd_same, ← (Int.add_comm v u), ← cn]
          show some (HO.lst (iv f ++ iv [c])) = _
          rw [iv_app]
      · have cc' : ¬ (0 : Int) < c := of_decide_eq_false (Bool.eq_false_iff.mpr cc)
        rw [if_neg cc'] at cn
        refine ⟨_, rfl, q r H3 r0 kT M4 ?_⟩
        rw [hf3, ← (Int.add_comm v u), ← cn]
  · have c' := of_decide_eq_false (Bool.eq_false_iff.mpr c)
    rw [iv_len, iv_len] at c'
    obtain ⟨a, haX⟩ : ∃ a, a = digs (2 ^ S.w) u := ⟨_, rfl⟩
    obtain ⟨b, hbY⟩ : ∃ b, b = digs (2 ^ S.w) v := ⟨_, rfl⟩
    have hlen : b.length ≤ a.length := by rw [haX, hbY]; omega
    have hmx : ((a.length : Nat) : Int) = ((max (digs (2 ^ S.w) u).length (digs (2 ^ S.w) v).length : Nat) : Int) := by rw [haX]; omega
    have dA : Dg (2 ^ S.w) a := by rw [haX]; exact dA0
    have dB : Dg (2 ^ S.w) b := by rw [hbY]; exact dB0
    have zX : a.length ≤ 400 := by rw [haX]; exact zA
    have hX : Sq H1 la (iv a) := by rw [haX]; exact hA1
    have hY : Sq H1 lb (iv b) := by rw [hbY]; exact hB1
    obtain ⟨oA, soA, eA⟩ := hX
    obtain ⟨oB, soB, eB⟩ := hY
    refine ⟨by show 0 ≤ sizeLine; decide, fun r hr0 => ?_⟩
    refine ⟨_, _, rfl, ?_⟩
    have r0 : H r = none := k1.free hr0 fun z => by
      rcases List.mem_cons.mp z with z | z
      · exact M1.ed.2.1 (by rw [← z]; exact hr0)
      · exact M1.ed.1 (by rw [← List.mem_singleton.mp z]; exact hr0)
    have nre : r ≠ e := M.neN r0
    have rA : la ≠ r := ne_of_none eA hr0
    have rB : lb ≠ r := ne_of_none eB hr0
    obtain ⟨Hs, hHs⟩ : ∃ Hs, Hs = upd H1 r (.lst (iv [])) := ⟨_, rfl⟩
    have e0 : upd H1 r (.lst []) = Hs := hHs.symm
    rw [e0]
    have hrs : Hs r = some (.lst (iv [])) := by rw [hHs]; exact upd_same
    have kS : Kp [d, e] H Hs := by rw [hHs]; exact k1.fr hr0
    have M0r := M1.same (same_upd (o := .lst (iv [])) hr0)
    rw [← hHs] at M0r
    have eA1 : Hs la = some oA := by rw [hHs, upd_ne rA]; exact eA
    have eB1 : Hs lb = some oB := by rw [hHs, upd_ne rB]; exact eB
    refine ⟨_, rfl, la, iv a, oA, rfl, soA, eA1, fun J wk => for_it wk (fun i σ H2 => ∃ f c u5 u6, σ = [some (.ref p), some (.ref la), some (.ref lb), some (.ref r), some (.int c), u5, u6] ∧ Kp [r] Hs H2 ∧ H2 r = some (.lst (iv f)) ∧ Dg (2 ^ S.w) f ∧ f.length = i ∧ 0 ≤ c ∧ c ≤ 1 ∧
      val (2 ^ S.w) f + (2 ^ S.w) ^ i * c = val (2 ^ S.w) (a.take i) + val (2 ^ S.w) (b.take i)) ?_ ?_ ?_ ?_⟩
    · exact ⟨[], 0, none, none, rfl, Kp.refl _ _, hrs, Dg.nil, rfl, by decide, by decide, by rw [List.take_zero, List.take_zero]; rfl⟩
    · rintro i σ H2 _ ⟨f, c, u5, u6, rfl, kp, _⟩
      exact kp la _ eA1 (by simpa using rA)
    · rintro i x σ H2 H3 hi ⟨f, c, u5, u6, rfl, kp, hf, df, lf, c0, c1, vf⟩ ⟨t1, x1, y1, rfl, ht1, rfl, hx1, hy1⟩
      obtain ⟨di, hdi, rfl⟩ := iv_of hy1
      cases hx1
      rw [iv_len] at hi
      have ddi := dA.get hdi
      have M5 : MachAt (CM K) (upd H2 t1 (.tup [.int (i : Nat), .int di])) p d e _ := (M0r.lstK hrs nre kp).same (same_upd ht1)
      have hf5 : (upd H2 t1 (.tup [.int (i : Nat), .int di])) r = some (.lst (iv f)) := by rw [upd_ne (ne_of_none hf ht1)]; exact hf
      have hB5 : Sq (upd H2 t1 (.tup [.int (i : Nat), .int di])) lb (iv b) := ⟨oB, soB, same_upd ht1 _ _ (kp lb _ eB1 (by simpa using rB))⟩
      refine ⟨t1, _, rfl, SqT.of upd_same, rfl, _, _, rfl, _, _, rfl, rfl, ?_⟩
      refine ⟨_, rfl, _, rfl, _, _, rfl, rfl, ?_⟩
      refine ⟨_, rfl, _, rfl, lb, _, rfl, hB5, _, _, rfl, rfl, _, rfl, ?_⟩
      have main : ∀ z : Int, b.getD i 0 = z → 0 ≤ c + di + z ∧ (c + di + z) / 2 ^ S.w ≤ 1 ∧ 0 ≤ (c + di + z) / 2 ^ S.w ∧ Dg (2 ^ S.w) (f ++ [(c + di + z) % 2 ^ S.w]) ∧
          val (2 ^ S.w) (f ++ [(c + di + z) % 2 ^ S.w]) + (2 ^ S.w) ^ (i + 1) * ((c + di + z) / 2 ^ S.w) = val (2 ^ S.w) (a.take (i + 1)) + val (2 ^ S.w) (b.take (i + 1)) := fun z hz => by
        have dz := getD_dg (show (0 : Int) < 2 ^ S.w by omega) dB i
        rw [hz] at dz
        have s1 : (c + di + z) / 2 ^ S.w < 2 := Int.ediv_lt_of_lt_mul (by omega) (by omega)
        refine ⟨by omega, by omega, Int.ediv_nonneg (by omega) (by omega), df.append (Dg.cons (Int.emod_nonneg _ (by omega)) (Int.emod_lt_of_pos _ (by omega)) Dg.nil), ?_⟩
        have eb : val (2 ^ S.w) (b.take (i + 1)) = val (2 ^ S.w) (b.take i) + (2 ^ S.w) ^ i * z := by
          by_cases hb : i < b.length
          · rw [List.getD_eq_getElem?_getD, List.getElem?_eq_getElem hb] at hz
            have hz2 : b[i] = z := hz
            rw [val_take_succ _ (List.getElem?_eq_getElem hb), hz2]
          · rw [List.getD_eq_getElem?_getD, List.getElem?_eq_none_iff.mpr (by omega)] at hz
            have hz2 : (0 : Int) = z := hz
            rw [← hz2, List.take_of_length_le (by omega), List.take_of_length_le (by omega)]
            omega
        rw [val_append, val_take_succ _ hdi, eb, lf, Int.pow_succ]
        show val (2 ^ S.w) f + (2 ^ S.w) ^ i * ((c + di + z) % 2 ^ S.w + 2 ^ S.w * 0) + _ = _
        have t4 : (c + di + z) % 2 ^ S.w + 2 ^ S.w * ((c + di + z) / 2 ^ S.w) = c + di + z := Int.emod_add_mul_ediv ..
        generalize (c + di + z) % 2 ^ S.w = XX at t4 ⊢
        generalize (c + di + z) / 2 ^ S.w = YY at t4 ⊢
        generalize val (2 ^ S.w) f = V1 at vf ⊢
        generalize val (2 ^ S.w) (b.take i) = V2 at vf ⊢
        generalize val (2 ^ S.w) (a.take i) = V3 at vf ⊢
        generalize ((2 : Int) ^ S.w) ^ i = P1 at vf ⊢
        generalize (2 : Int) ^ S.w = BB at t4 ⊢
        grind
      have fin : ∀ z : Int, b.getD i 0 = z → ∃ v, some (V.ref r) = some v ∧ True := fun z _ => ⟨_, rfl, trivial⟩
      refine ite2 (fun cc => ?_) (fun cc => ?_)
      · have cc' := of_decide_eq_true cc
        rw [iv_len] at cc'
        have hb : i < b.length := by omega
        have hz : b.getD i 0 = b[i] := by
          rw [List.getD_eq_getElem?_getD, List.getElem?_eq_getElem hb]
          rfl
        refine ⟨_, rfl, _, rfl, lb, _, _, _, rfl, rfl, hB5, atI_nat (iv_get (List.getElem?_eq_getElem hb)), _, _, rfl, rfl, ?_⟩
        obtain ⟨m0, m1, m2, m3, m4⟩ := main _ hz
        refine ⟨_, rfl, ?_⟩
        refine ⟨.inl ⟨rfl, _, SqL.of hf5⟩, _, rfl, _, rfl, ?_⟩
        refine fld_baseE T M5 (MS.op_w _ _) ?_
        refine ⟨_, _, rfl, rfl, ipow_pos (by decide) _, ?_⟩
        refine ⟨r, _, _, rfl, rfl, hf5, ?_, ?_⟩
        · rw [iv_len, lf]
          exact Nat.lt_of_le_of_lt (show i ≤ 1000 by omega) s1000
        refine ⟨_, rfl, _, rfl, ?_⟩
        refine fld_widthE T (M5.lst hf5 nre) (MS.op_w _ _) ?_
        refine ⟨_, S.w, rfl, rfl, ?_⟩
        refine ⟨f ++ [(c + di + b[i]) % 2 ^ S.w], (c + di + b[i]) / 2 ^ S.w, some (.int (i : Nat)), some (.int di), rfl, (kp.fr ht1).trans (Kp.put (by simp)), ?_, m3, by rw [List.length_append, lf]; rfl, m2, m1, m4⟩
        rw [upd_same, ← iv_app] <;> rfl
      · have cc' := of_decide_eq_false (Bool.eq_false_iff.mpr cc)
        rw [iv_len] at cc'
        have hz : b.getD i 0 = 0 := by
          rw [List.getD_eq_getElem?_getD, List.getElem?_eq_none_iff.mpr (by omega)]
          rfl
        refine ⟨_, _, rfl, rfl, ?_⟩
        obtain ⟨m0, m1, m2, m3, m4⟩ := main _ hz
        refine ⟨_, rfl, ?_⟩
        refine ⟨.inl ⟨rfl, _, SqL.of hf5⟩, _, rfl, _, rfl, ?_⟩
        refine fld_baseE T M5 (MS.op_w _ _) ?_
        refine ⟨_, _, rfl, rfl, ipow_pos (by decide) _, ?_⟩
        refine ⟨r, _, _, rfl, rfl, hf5, ?_, ?_⟩
        · rw [iv_len, lf]
          exact Nat.lt_of_le_of_lt (show i ≤ 1000 by omega) s1000
        refine ⟨_, rfl, _, rfl, ?_⟩
        refine fld_widthE T (M5.lst hf5 nre) (MS.op_w _ _) ?_
        refine ⟨_, S.w, rfl, rfl, ?_⟩
        refine ⟨f ++ [(c + di + 0) % 2 ^ S.w], (c + di + 0) / 2 ^ S.w, some (.int (i : Nat)), some (.int di), rfl, (kp.fr ht1).trans (Kp.put (by simp)), ?_, m3, by rw [List.length_append, lf]; rfl, m2, m1, m4⟩
        rw [upd_same, ← iv_app] <;> rfl
    · rintro σ H2 ⟨f, c, u5, u6, rfl, kp, hf, df, lf, c0, c1, vf⟩
      rw [iv_len] at lf vf
      rw [List.take_length, List.take_of_length_le hlen] at vf
      have M5 : MachAt (CM K) H2 p d e _ := M0r.lstK hrs nre kp
      refine ⟨_, rfl, ?_⟩
      refine M5.self (m := "count") (by decide +kernel) ?_
      refine ⟨_, rfl, la, _, rfl, ⟨oA, soA, kp la _ eA1 (by simpa using rA)⟩, ?_⟩
      refine ⟨p, d, e, _, "sum", _, rfl, M5, by decide +kernel, fun H3 k3 M3 => ?_⟩
      have hf3 := M5.kLst k3 hf nre
      have kT : Kp [d, e] H H3 := (kS.own r0 (kp.mono (by simp))).trans k3
      rw [← lf] at vf
      have cn := add_canon M.b2 hu hv df (by rw [lf, ← haX]) c0 c1 (by rw [vf, haX, hbY, val_digs M.b2 hu, val_digs M.b2 hv])
      have M4 : MachAt (CM K) H3 p d e (S.ops (addE (digs (2 ^ S.w) u) (digs (2 ^ S.w) v))) := by
        have eo : (S.op (.en "add" ((iv (digs (2 ^ S.w) u)).length : Nat) ((iv (digs (2 ^ S.w) v)).length : Nat))).op (.ct "sum" ((iv a).length : Nat)) = S.ops (addE (digs (2 ^ S.w) u) (digs (2 ^ S.w) v)) := by
          rw [iv_len, iv_len, iv_len, hmx]
          rfl
        rw [← eo]
        exact M3
      refine ⟨_, rfl, _, _, rfl, rfl, _, rfl, ?_⟩
      refine ite2 (fun cc => ?_) (fun cc => ?_)
      · have cc' : (0 : Int) < c := of_decide_eq_true cc
        rw [if_pos cc'] at cn
        refine ⟨_, rfl, _, rfl, by show 1 ≤ sizeLine; decide, fun g hg => ?_⟩
        refine ⟨r, g, _, _, rfl, rfl, by rw [upd_ne (ne_of_none hf3 hg)]; exact hf3, upd_same, ?_, fun l hl => ?_⟩
        · rw [iv_len, lf]
          exact Nat.le_trans (by rw [List.length_singleton]; omega) (Nat.le_of_lt s1000)
        refine q l _ ?_ ((kT.fr hg).fr hl) ((M4.same (same_upd hg)).same (same_upd hl)) ?_
        · exact (kT.fr hg).free hl fun z => by
            rcases List.mem_cons.mp z with z | z
            · exact (M4.same (same_upd hg)).ed.2.1 (by rw [← z]; exact hl)
            · exact (M4.same (same_upd hg)).ed.1 (by rw [← List.mem_singleton.mp z]; exact hl)
        · rw [upd_same, ← (show u + v = u + v from rfl), ← cn]
          show some (HO.lst (iv f ++ iv [c])) = _
          rw [iv_app]
      · have cc' : ¬ (0 : Int) < c := of_decide_eq_false (Bool.eq_false_iff.mpr cc)
        rw [if_neg cc'] at cn
        refine ⟨_, rfl, q r H3 r0 kT M4 ?_⟩
        rw [hf3, ← (show u + v = u + v from rfl), ← cn]
end
end T87
namespace T87
open PySem PySem.Spec PyProof.Rows L2
def spInto (K : PySem.W.Frag) (x : Str) (sg : Int) : Sp := fun vs H Q _ => ∃ p d e S r rr m ms start, vs = [.ref p, .ref r, .int (start : Nat), .ref m] ∧ MachAt (CM K) H p d e S ∧ H r = some (.lst (iv rr)) ∧ r ≠ e ∧ Sq H m (iv ms) ∧ m ≠ r ∧ m ≠ e ∧ Dg (2 ^ S.w) rr ∧ Dg (2 ^ S.w) ms ∧
  start + ms.length ≤ rr.length ∧
  ∀ c H', Kp [r, d, e] H H' → MachAt (CM K) H' p d e (S.ops (intoE x (2 ^ S.w) sg rr start ms)) → H' r = some (.lst (iv (putR (2 ^ S.w) sg rr start ms).1)) → Q (.int c) H'
section
variable {P : Program} {w : World} {K : PySem.W.Frag} {mg : Str → Option Value} {base : Heap} (T : Tx K mg)
include T
theorem ok_put_into : Cl P w K mg base 2 "put_into" ["machine", "room", "start", "more", "sign"] (spPut K) := by
  refine cl_of (N := ["machine", "room", "start", "more", "sign", "place", "carry", "digit"]) T.f_put_into T.m_put_into (by decide +kernel) (fun _ _ _ _ _ _ us hl => match us, hl with | [_, _, _, _, _], _ => rfl) (fun vs H Q E h => ?_) (fun cdv A outer s H vs Q E hr h => ?_)
  · obtain ⟨p, d, e, S, r, rr, x, ms, sg, start, rfl, _⟩ := h
    rfl
  obtain ⟨p, d, e, S, r, rr, x, ms, sg, start, rfl, M, hR, nR, hX, nXr, nXe, dR, dM, hfit, hsg, q⟩ := h
  have nd : (["machine", "room", "start", "more", "sign", "place", "carry", "digit"] : List Str).Nodup := by decide +kernel
  have B2 := M.b2
  refine ⟨_, (pss_cons (ps_asg (pe_tup (pa_cons pe_int (pa_cons pe_int pa_nil))) (pg_tup (by rfl) (pgs_cons (pg_name (i := 5) nd rfl (Or.inl rfl)) (pgs_cons (pg_name (i := 6) nd rfl (Or.inl rfl)) pgs_nil))))
  (pss_cons (ps_while PassesOwn.never (PW.pt (pw_or (pt_cmpR op_lt (pv 5) (pe_callB call_lnQ (by rfl) T.b_len PySem.boot_len (pa_cons (pv 3) pa_nil)) (nomark _)) (pw_or1 (PW.pt (pw_and (pt_cmpR op_ne (pv 6) pe_int (nomark _)) (pw_and1 (pt_cmpR op_lt (pe_op op_add (pv 2) (pv 5)) (pe_callB call_lnQ (by rfl) T.b_len PySem.boot_len (pa_cons (pv 1) pa_nil)) (nomark _)))))))) (pss_cons (ps_set (i := 7) nd rfl (Or.inl rfl) (pe_op op_add (pe_ix ix_list (pv 1) (pe_op op_add (pv 2) (pv 5)) (fun _ _ => rfl)) (pe_op op_mul (pv 4) (pe_op op_add (pe_ifExp (pt_cmpR op_lt (pv 5) (pe_callB call_lnQ (by rfl) T.b_len PySem.boot_len (pa_cons (pv 3) pa_nil)) (nomark _)) (pe_ix ix_sq (pv 3) (pv 5) (fun _ _ => rfl)) pe_int) (pv 6)))))
  (pss_cons (ps_asg (pe_op op_mod (pv 7) (pe_fld (pv 0) rfl)) (pg_sub (pv 1) (pe_op op_add (pv 2) (pv 5)) set_list))
  (pss_cons (ps_set (i := 6) nd rfl (Or.inl rfl) (pe_callB call_abs (by rfl) T.b_abs (by decide +kernel) (pa_cons (pe_op op_shrN (pv 7) (pe_fld (pv 0) rfl)) pa_nil)))
  (pss_one
  (ps_set (i := 5) nd rfl (Or.inl rfl) (pe_op op_add (pv 5) pe_int)))))))
  (pss_cons (ps_expr (pe_mt (ok_count T) hr (by decide) (pv 0) (pa_cons pe_str (pa_cons (pv 5) pa_nil))))
  (pss_one
  (ps_ret (pv 6)))))), ?_⟩
  refine ⟨by show 2 ≤ sizeLine; decide, fun t0 ht0 => ?_⟩
  refine ⟨t0, _, rfl, SqT.of upd_same, rfl, _, _, rfl, _, _, rfl, rfl, ?_⟩
  refine ⟨fun m σ' H' => (∃ place cur c u, σ' = [some (.ref p), some (.ref r), some (.int (start : Nat)), some (.ref x), some (.int sg), some (.int (place : Nat)), some (.int c), u] ∧ Kp [r] H H' ∧ H' r = some (.lst (iv cur)) ∧ Dg (2 ^ S.w) cur ∧ cur.length = rr.length ∧ 0 ≤ c ∧ c ≤ 1 ∧ start + place ≤ rr.length ∧
      putF (2 ^ S.w) sg start ms m cur place c = putR (2 ^ S.w) sg rr start ms ∧ rr.length < start + place + m), ⟨rr.length + 1, 0, rr, 0, none, rfl, Kp.new ht0, by rw [upd_ne (ne_of_none hR ht0)]; exact hR, dR, rfl, by decide, by decide, by omega, rfl, by omega⟩, ?_⟩
  rintro m0 σ H2 ⟨place, cur, c, u, rfl, kp, hcur, dcur, lcur, c0, c1, hsp0, hput, hm⟩
  obtain ⟨m, rfl⟩ : ∃ m, m0 = m + 1 := ⟨m0 - 1, by omega⟩
  have M2 : MachAt (CM K) H2 p d e S := M.lstK hR nR kp
  have hX2 : Sq H2 x (iv ms) := hX.at fun o z => kp x o z (by simpa using nXr)
  refine ⟨_, rfl, _, rfl, x, _, rfl, hX2, _, _, rfl, rfl, _, rfl, ?_⟩
  by_cases hpl : place < ms.length
  · rw [show decide (((place : Nat) : Int) < (((iv ms).length : Nat) : Int)) = true from decide_eq_true (by rw [iv_len]; omega)]
    refine iteT ?_
    refine iteT ?_
    have hmd : ms.getD place 0 = ms[place] := by
      rw [List.getD_eq_getElem?_getD, List.getElem?_eq_getElem hpl]
      rfl
    have hpf : (putF (2 ^ S.w) sg start ms (m + 1) cur place c) = putF (2 ^ S.w) sg start ms m (cur.set (start + place) (digOf sg start ms cur place c % 2 ^ S.w)) (place + 1) (absI (digOf sg start ms cur place c / 2 ^ S.w)) := by
      rw [putF, if_pos (.inl hpl)]
    rw [hpf] at hput
    have hik : start + place < cur.length := by omega
    have hget : cur[start + place]? = some cur[start + place] := List.getElem?_eq_getElem hik
    have eg : cur.getD (start + place) 0 = cur[start + place] := by
      rw [List.getD_eq_getElem?_getD, hget]
      rfl
    have esp : ((start : Nat) : Int) + ((place : Nat) : Int) = ((start + place : Nat) : Int) := by omega
    have rD := getD_dg (show (0 : Int) < 2 ^ S.w by omega) dcur (start + place)
    have mD := getD_dg (show (0 : Int) < 2 ^ S.w by omega) dM place
    have dk := digit_ok M.b2 hsg rD.1 rD.2 mD.1 mD.2 c0 c1
    rw [eg, hmd] at dk
    have edg : digOf sg start ms cur place c = cur[start + place] + sg * (ms[place] + c) := by
      unfold digOf
      rw [eg, hmd]
    rw [edg] at hput
    refine ⟨fun σ' H' => ∃ m', m' < m + 1 ∧ (∃ place cur c u, σ' = [some (.ref p), some (.ref r), some (.int (start : Nat)), some (.ref x), some (.int sg), some (.int (place : Nat)), some (.int c), u] ∧ Kp [r] H H' ∧ H' r = some (.lst (iv cur)) ∧ Dg (2 ^ S.w) cur ∧ cur.length = rr.length ∧ 0 ≤ c ∧ c ≤ 1 ∧ start + place ≤ rr.length ∧
          putF (2 ^ S.w) sg start ms m' cur place c = putR (2 ^ S.w) sg rr start ms ∧ rr.length < start + place + m'), fun σ' H' h => h, ?_⟩
    refine ⟨_, rfl, _, rfl, _, rfl, _, _, rfl, rfl, r, _, _, .int cur[start + place], rfl, rfl, SqL.of hcur, by rw [esp]; exact atI_nat (iv_get hget), ?_⟩
    refine ⟨_, rfl, _, rfl, _, rfl, x, _, rfl, hX2, _, _, rfl, rfl, _, rfl, ?_⟩
    rw [show decide (((place : Nat) : Int) < (((iv ms).length : Nat) : Int)) = true from decide_eq_true (by rw [iv_len]; omega)]
    refine iteT ?_
    refine ⟨_, rfl, _, rfl, x, _, _, _, rfl, rfl, hX2, atI_nat (iv_get (List.getElem?_eq_getElem hpl)), ?_⟩
    refine ⟨_, rfl, _, _, rfl, rfl, _, _, rfl, rfl, .inl (by rcases hsg with z | z <;> rw [z] <;> decide), _, _, rfl, rfl, ?_⟩
    refine ⟨_, rfl, _, rfl, ?_⟩
    refine fld_base T M2 ?_
    refine ⟨_, _, rfl, rfl, ipow_pos (by decide) _, ?_⟩
    refine ⟨_, rfl, _, rfl, _, rfl, _, _, rfl, rfl, r, _, _, start + place, rfl, rfl, hcur, by rw [esp, iv_len]; exact ixN_n hik, ?_⟩
    refine ⟨_, rfl, _, rfl, ?_⟩
    refine fld_width T (M2.lst hcur nR) ?_
    refine ⟨_, S.w, rfl, rfl, ?_⟩
    refine ⟨_, rfl, ?_⟩
    refine ⟨_, rfl, _, _, rfl, rfl, ?_⟩
    have x0 : 0 ≤ (cur[start + place] + sg * (ms[place] + c)) % 2 ^ S.w := Int.emod_nonneg _ (by omega)
    have x1 : (cur[start + place] + sg * (ms[place] + c)) % 2 ^ S.w < 2 ^ S.w := Int.emod_lt_of_pos _ (by omega)
    refine ⟨m, by omega, place + 1, cur.set (start + place) ((cur[start + place] + sg * (ms[place] + c)) % 2 ^ S.w), absI ((cur[start + place] + sg * (ms[place] + c)) / 2 ^ S.w), some (.int (cur[start + place] + sg * (ms[place] + c))), rfl, kp.trans (Kp.put (by simp)), ?_, dcur.set _ x0 x1, by rw [List.length_set]; exact lcur, dk.1, dk.2.1, by omega, hput, by omega⟩
    rw [upd_same, ← iv_set] <;> rfl
  · rw [show decide (((place : Nat) : Int) < (((iv ms).length : Nat) : Int)) = false from decide_eq_false (by rw [iv_len]; omega)]
    refine iteF ?_
    have hmd : ms.getD place 0 = 0 := by
      rw [List.getD_eq_getElem?_getD, List.getElem?_eq_none_iff.mpr (by omega)]
      rfl
    refine ⟨_, rfl, rfl, _, rfl, ?_⟩
    by_cases hc0 : c = 0
    · rw [show (!decide (V.int c = V.int 0)) = false by rw [hc0]; rfl]
      refine iteF ?_
      refine iteF ?_
      have hpf : (putF (2 ^ S.w) sg start ms (m + 1) cur place c) = (cur, place) := by
        rw [putF, if_neg (by omega)]
      rw [hpf] at hput
      refine ⟨_, rfl, ?_⟩
      refine M2.self (m := "count") (by decide +kernel) ?_
      refine ⟨_, rfl, p, d, e, S, "sum", _, rfl, M2, by decide +kernel, fun H3 k3 M3 => ?_⟩
      refine ⟨_, rfl, q c H3 ?_ ?_ ?_⟩
      · exact (kp.mono (by simp)).trans (k3.mono (by simp))
      · rw [← hput]
        exact M3
      · rw [← hput]
        exact M2.kLst k3 hcur nR
    · rw [show (!decide (V.int c = V.int 0)) = true by rw [decide_eq_false (fun z => hc0 (V.int.inj z))]; rfl]
      refine iteT ?_
      refine ⟨_, rfl, _, rfl, _, _, rfl, rfl, _, rfl, r, _, rfl, Sq.lst hcur, _, _, rfl, rfl, _, rfl, ?_⟩
      by_cases hsp : start + place < cur.length
      · rw [show decide (((start : Nat) : Int) + ((place : Nat) : Int) < (((iv cur).length : Nat) : Int)) = true from decide_eq_true (by rw [iv_len]; omega)]
        refine iteT ?_
        have hpf : (putF (2 ^ S.w) sg start ms (m + 1) cur place c) = putF (2 ^ S.w) sg start ms m (cur.set (start + place) (digOf sg start ms cur place c % 2 ^ S.w)) (place + 1) (absI (digOf sg start ms cur place c / 2 ^ S.w)) := by
          rw [putF, if_pos (.inr ⟨hc0, hsp⟩)]
        rw [hpf] at hput
        have hik : start + place < cur.length := by omega
        have hget : cur[start + place]? = some cur[start + place] := List.getElem?_eq_getElem hik
        have eg : cur.getD (start + place) 0 = cur[start + place] := by
          rw [List.getD_eq_getElem?_getD, hget]
          rfl
        have esp : ((start : Nat) : Int) + ((place : Nat) : Int) = ((start + place : Nat) : Int) := by omega
        have rD := getD_dg (show (0 : Int) < 2 ^ S.w by omega) dcur (start + place)
        have mD := getD_dg (show (0 : Int) < 2 ^ S.w by omega) dM place
        have dk := digit_ok M.b2 hsg rD.1 rD.2 mD.1 mD.2 c0 c1
        rw [eg, hmd] at dk
        have edg : digOf sg start ms cur place c = cur[start + place] + sg * (0 + c) := by
          unfold digOf
          rw [eg, hmd]
        rw [edg] at hput
        refine ⟨fun σ' H' => ∃ m', m' < m + 1 ∧ (∃ place cur c u, σ' = [some (.ref p), some (.ref r), some (.int (start : Nat)), some (.ref x), some (.int sg), some (.int (place : Nat)), some (.int c), u] ∧ Kp [r] H H' ∧ H' r = some (.lst (iv cur)) ∧ Dg (2 ^ S.w) cur ∧ cur.length = rr.length ∧ 0 ≤ c ∧ c ≤ 1 ∧ start + place ≤ rr.length ∧
              putF (2 ^ S.w) sg start ms m' cur place c = putR (2 ^ S.w) sg rr start ms ∧ rr.length < start + place + m'), fun σ' H' h => h, ?_⟩
        refine ⟨_, rfl, _, rfl, _, rfl, _, _, rfl, rfl, r, _, _, .int cur[start + place], rfl, rfl, SqL.of hcur, by rw [esp]; exact atI_nat (iv_get hget), ?_⟩
        refine ⟨_, rfl, _, rfl, _, rfl, x, _, rfl, hX2, _, _, rfl, rfl, _, rfl, ?_⟩
        rw [show decide (((place : Nat) : Int) < (((iv ms).length : Nat) : Int)) = false from decide_eq_false (by rw [iv_len]; omega)]
        refine iteF ?_
        refine ⟨_, rfl, _, _, rfl, rfl, _, _, rfl, rfl, .inl (by rcases hsg with z | z <;> rw [z] <;> decide), _, _, rfl, rfl, ?_⟩
        refine ⟨_, rfl, _, rfl, ?_⟩
        refine fld_base T M2 ?_
        refine ⟨_, _, rfl, rfl, ipow_pos (by decide) _, ?_⟩
        refine ⟨_, rfl, _, rfl, _, rfl, _, _, rfl, rfl, r, _, _, start + place, rfl, rfl, hcur, by rw [esp, iv_len]; exact ixN_n hik, ?_⟩
        refine ⟨_, rfl, _, rfl, ?_⟩
        refine fld_width T (M2.lst hcur nR) ?_
        refine ⟨_, S.w, rfl, rfl, ?_⟩
        refine ⟨_, rfl, ?_⟩
        refine ⟨_, rfl, _, _, rfl, rfl, ?_⟩
        have x0 : 0 ≤ (cur[start + place] + sg * (0 + c)) % 2 ^ S.w := Int.emod_nonneg _ (by omega)
        have x1 : (cur[start + place] + sg * (0 + c)) % 2 ^ S.w < 2 ^ S.w := Int.emod_lt_of_pos _ (by omega)
        refine ⟨m, by omega, place + 1, cur.set (start + place) ((cur[start + place] + sg * (0 + c)) % 2 ^ S.w), absI ((cur[start + place] + sg * (0 + c)) / 2 ^ S.w), some (.int (cur[start + place] + sg * (0 + c))), rfl, kp.trans (Kp.put (by simp)), ?_, dcur.set _ x0 x1, by rw [List.length_set]; exact lcur, dk.1, dk.2.1, by omega, hput, by omega⟩
        rw [upd_same, ← iv_set] <;> rfl
      · rw [show decide (((start : Nat) : Int) + ((place : Nat) : Int) < (((iv cur).length : Nat) : Int)) = false from decide_eq_false (by rw [iv_len]; omega)]
        refine iteF ?_
        have hpf : (putF (2 ^ S.w) sg start ms (m + 1) cur place c) = (cur, place) := by
          rw [putF, if_neg (by omega)]
        rw [hpf] at hput
        refine ⟨_, rfl, ?_⟩
        refine M2.self (m := "count") (by decide +kernel) ?_
        refine ⟨_, rfl, p, d, e, S, "sum", _, rfl, M2, by decide +kernel, fun H3 k3 M3 => ?_⟩
        refine ⟨_, rfl, q c H3 ?_ ?_ ?_⟩
        · exact (kp.mono (by simp)).trans (k3.mono (by simp))
        · rw [← hput]
          exact M3
        · rw [← hput]
          exact M2.kLst k3 hcur nR
end
end T87
namespace T87
open PySem PySem.Spec PyProof.Rows L2
/-! ### the effects of a product -/
def slTurn (B : Int) (rp : List Int → List Int → List Op) (a b : List Int) (i : Nat) : List Op :=
  rp a ((b.drop (i * a.length)).take a.length) ++ intoE "add into" B 1 (padd B (a.length + b.length) (val B a * val B (b.take (i * a.length)))) (i * a.length) (digs B (val B a * val B ((b.drop (i * a.length)).take a.length)))
def slE (B : Int) (rp : List Int → List Int → List Op) (a b : List Int) : List Op :=
  [.en "lopsided" (a.length : Nat) (b.length : Nat)] ++ (List.range ((b.length + a.length - 1) / a.length)).flatMap (slTurn B rp a b)
def ptE (B : Int) (rp : List Int → List Int → List Op) (a b : List Int) : List Op :=
  let n := a.length + b.length
  let p := b.length / 2
  let hi := fun r : List Int => digs B (val B (r.drop p))
  let lo := fun r : List Int => digs B (val B (r.take p))
  let tv := val B (a.drop p) * val B (b.drop p)
  let bv := val B (a.take p) * val B (b.take p)
  let r0 := bv + B ^ (2 * p) * tv
  let r1 := (r0 + -1 * B ^ p * bv) % B ^ n
  let r2 := (r1 + -1 * B ^ p * tv) % B ^ n
  let va := val B (a.drop p) + val B (a.take p)
  let vb := val B (b.drop p) + val B (b.take p)
  [.en "karatsuba" (a.length : Nat) (b.length : Nat)] ++ rp (hi a) (hi b) ++ rp (lo a) (lo b) ++ intoE "take from" B (-1) (padd B n r0) p (digs B bv) ++ intoE "take from" B (-1) (padd B n r1) p (digs B tv) ++
    addE (hi a) (lo a) ++ addE (hi b) (lo b) ++ rp (digs B va) (digs B vb) ++ intoE "add into" B 1 (padd B n r2) p (digs B (va * vb))
def rpB (B : Int) (c : Nat) (rp : List Int → List Int → List Op) (a b : List Int) : List Op :=
  if a.length = 0 then [] else if a.length ≤ c then rowsE a b else if 2 * a.length ≤ b.length then slE B rp a b else ptE B rp a b
def rpE (B : Int) (c : Nat) : Nat → List Int → List Int → List Op
  | 0, _, _ => []
  | g + 1, a, b => if b.length < a.length then rpB B c (rpE B c g) b a else rpB B c (rpE B c g) a b
theorem rgc_up {n c : Nat} (h1 : 1 ≤ c) (hc : c ≤ 1000) (hn : n ≤ 1000) : RgC 0 (n : Nat) (c : Nat) ((n + c - 1) / c) := by
  have h := rangeSize_pos (len := (n : Int)) (c := (c : Int)) (by omega) (by omega)
  have e : ((n : Int) + (c : Int) - 1) / (c : Int) = (((n + c - 1) / c : Nat) : Int) := by
    rw [Int.natCast_ediv]
    congr 1
    omega
  rw [e] at h
  have q : (n + c - 1) / c ≤ n + c - 1 := Nat.div_le_self ..
  refine ⟨by omega, by omega, ?_, h⟩
  generalize hk : (n + c - 1) / c = k at h q
  have m : ((k : Nat) : Int) * (c : Int) ≤ (n : Int) + c - 1 := by
    have h2 := Nat.div_mul_le_self (n + c - 1) c
    rw [hk] at h2
    have h3 : (((k * c : Nat)) : Int) ≤ ((n + c - 1 : Nat) : Int) := by omega
    rw [Int.natCast_mul] at h3
    omega
  have m0 : (0 : Int) ≤ ((k : Nat) : Int) * (c : Int) := Int.mul_nonneg (by omega) (by omega)
  unfold Builtin.Range.small
  rw [h]
  simp only [Builtin.Range.rangeFitsLong, Bool.and_eq_true, Bool.or_eq_true, decide_eq_true_eq, beq_iff_eq]
  refine ⟨by omega, .inr ?_⟩
  rw [if_pos (by omega)]
  simp only [Bool.and_eq_true, decide_eq_true_eq]
  omega
/-! ### promises -/
def spRP (K : PySem.W.Frag) (g : Nat) : Sp := fun vs H Q _ => ∃ p d e S la a lb b, vs = [.ref p, .ref la, .ref lb] ∧ MachAt (CM K) H p d e S ∧ Sq H la (iv a) ∧ la ≠ e ∧ Sq H lb (iv b) ∧ lb ≠ e ∧ Dg (2 ^ S.w) a ∧ Dg (2 ^ S.w) b ∧ a.length ≤ 300 ∧ b.length ≤ 300 ∧ Fuel (2 ^ S.w) g a b ∧
  ∀ l H', H l = none → Kp [d, e] H H' → MachAt (CM K) H' p d e (S.ops (rpE (2 ^ S.w) S.c g a b)) → H' l = some (.lst (iv (digs (2 ^ S.w) (val (2 ^ S.w) a * val (2 ^ S.w) b)))) → Q (.ref l) H'
def spSl (K : PySem.W.Frag) (g : Nat) : Sp := fun vs H Q _ => ∃ p d e S la a lb b, vs = [.ref p, .ref la, .ref lb] ∧ MachAt (CM K) H p d e S ∧ Sq H la (iv a) ∧ la ≠ e ∧ Sq H lb (iv b) ∧ lb ≠ e ∧ Dg (2 ^ S.w) a ∧ Dg (2 ^ S.w) b ∧ a.length ≤ 300 ∧ b.length ≤ 300 ∧ Fuel (2 ^ S.w) (g + 1) a b ∧ 3 ≤ a.length ∧ 2 * a.length ≤ b.length ∧
  ∀ l H', H l = none → Kp [d, e] H H' → MachAt (CM K) H' p d e (S.ops (slE (2 ^ S.w) (rpE (2 ^ S.w) S.c g) a b)) → H' l = some (.lst (iv (digs (2 ^ S.w) (val (2 ^ S.w) a * val (2 ^ S.w) b)))) → Q (.ref l) H'
def spPt (K : PySem.W.Frag) (g : Nat) : Sp := fun vs H Q _ => ∃ p d e S la a lb b, vs = [.ref p, .ref la, .ref lb] ∧ MachAt (CM K) H p d e S ∧ Sq H la (iv a) ∧ la ≠ e ∧ Sq H lb (iv b) ∧ lb ≠ e ∧ Dg (2 ^ S.w) a ∧ Dg (2 ^ S.w) b ∧ a.length ≤ 300 ∧ b.length ≤ 300 ∧ Fuel (2 ^ S.w) (g + 1) a b ∧ 3 ≤ a.length ∧ a.length ≤ b.length ∧ b.length < 2 * a.length ∧
  ∀ l H', H l = none → Kp [d, e] H H' → MachAt (CM K) H' p d e (S.ops (ptE (2 ^ S.w) (rpE (2 ^ S.w) S.c g) a b)) → H' l = some (.lst (iv (digs (2 ^ S.w) (val (2 ^ S.w) a * val (2 ^ S.w) b)))) → Q (.ref l) H'
def spHalf : Sp := fun vs H Q _ => ∃ l r n B, vs = [.ref l, .int (n : Nat)] ∧ (2 : Int) ≤ B ∧ Sq H l (iv r) ∧ Dg B r ∧
  ∀ t l1 l2 H', H l1 = none → H l2 = none → l1 ≠ l2 → Same H H' → H' t = some (.tup [.ref l1, .ref l2]) → H' l1 = some (.lst (iv (digs B (val B (r.take n))))) → H' l2 = some (.lst (iv (digs B (val B (r.drop n))))) → Q (.ref t) H'
section
variable {P : Program} {w : World} {K : PySem.W.Frag} {mg : Str → Option Value} {base : Heap} (T : Tx K mg)
include T
theorem ok_into : Cl P w K mg base 3 "into" ["machine", "room", "start", "more"] (spInto K "add into" 1) := by
  refine cl_of (N := ["machine", "room", "start", "more"]) T.f_into T.m_into (by decide +kernel) (fun _ _ _ _ _ _ us hl => match us, hl with | [_, _, _, _], _ => rfl) (fun vs H Q E h => ?_) (fun cdv A outer s H vs Q E hr h => ?_)
  · obtain ⟨p, d, e, S, r, rr, x, ms, start, rfl, _⟩ := h
    rfl
  obtain ⟨p, d, e, S, r, rr, x, ms, start, rfl, M, hR, nR, hX, nXr, nXe, dR, dM, hfit, q⟩ := h
  refine ⟨_, (pss_cons (ps_expr (pe_mt (ok_enter T) hr (by decide) (pv 0) (pa_cons pe_str (pa_cons (pe_op op_sub (pe_callB call_lnQ (by rfl) T.b_len PySem.boot_len (pa_cons (pv 1) pa_nil)) (pv 2)) (pa_cons (pe_callB call_lnQ (by rfl) T.b_len PySem.boot_len (pa_cons (pv 3) pa_nil)) pa_nil)))))
  (pss_one
  (ps_ret (pe_cl (ok_put_into T) hr (by decide) (pa_cons (pv 0) (pa_cons (pv 1) (pa_cons (pv 2) (pa_cons (pv 3) (pa_cons pe_int pa_nil))))))))), ?_⟩
  refine ⟨_, rfl, ?_⟩
  refine M.self (m := "enter") (by decide +kernel) ?_
  refine ⟨_, rfl, r, _, rfl, Sq.lst hR, _, rfl, _, _, rfl, rfl, _, rfl, x, _, rfl, hX, ?_⟩
  refine ⟨p, d, e, S, "add into", _, _, rfl, M, fun H1 k1 M1 => ?_⟩
  refine ⟨_, rfl, _, rfl, _, rfl, _, rfl, p, d, e, _, r, rr, x, ms, 1, start, rfl, M1, M.kLst k1 hR nR, nR, M.kSq k1 hX nXe, nXr, nXe, ?_⟩
  rw [MS.op_w]
  refine ⟨dR, dM, hfit, .inl rfl, fun c H2 k2 M2 h2 => q c H2 ((k1.mono (by simp)).trans k2) ?_ h2⟩
  rw [iv_len, iv_len] at M2
  exact M2
theorem ok_out_of : Cl P w K mg base 3 "out_of" ["machine", "room", "start", "more"] (spInto K "take from" (-1)) := by
  refine cl_of (N := ["machine", "room", "start", "more"]) T.f_out_of T.m_out_of (by decide +kernel) (fun _ _ _ _ _ _ us hl => match us, hl with | [_, _, _, _], _ => rfl) (fun vs H Q E h => ?_) (fun cdv A outer s H vs Q E hr h => ?_)
  · obtain ⟨p, d, e, S, r, rr, x, ms, start, rfl, _⟩ := h
    rfl
  obtain ⟨p, d, e, S, r, rr, x, ms, start, rfl, M, hR, nR, hX, nXr, nXe, dR, dM, hfit, q⟩ := h
  refine ⟨_, (pss_cons (ps_expr (pe_mt (ok_enter T) hr (by decide) (pv 0) (pa_cons pe_str (pa_cons (pe_op op_sub (pe_callB call_lnQ (by rfl) T.b_len PySem.boot_len (pa_cons (pv 1) pa_nil)) (pv 2)) (pa_cons (pe_callB call_lnQ (by rfl) T.b_len PySem.boot_len (pa_cons (pv 3) pa_nil)) pa_nil)))))
  (pss_one
  (ps_ret (pe_cl (ok_put_into T) hr (by decide) (pa_cons (pv 0) (pa_cons (pv 1) (pa_cons (pv 2) (pa_cons (pv 3) (pa_cons (pe_un un_neg pe_int) pa_nil))))))))), ?_⟩
  refine ⟨_, rfl, ?_⟩
  refine M.self (m := "enter") (by decide +kernel) ?_
  refine ⟨_, rfl, r, _, rfl, Sq.lst hR, _, rfl, _, _, rfl, rfl, _, rfl, x, _, rfl, hX, ?_⟩
  refine ⟨p, d, e, S, "take from", _, _, rfl, M, fun H1 k1 M1 => ?_⟩
  refine ⟨_, rfl, _, rfl, _, rfl, _, rfl, _, rfl, p, d, e, _, r, rr, x, ms, -1, start, rfl, M1, M.kLst k1 hR nR, nR, M.kSq k1 hX nXe, nXr, nXe, ?_⟩
  rw [MS.op_w]
  refine ⟨dR, dM, hfit, .inr rfl, fun c H2 k2 M2 h2 => q c H2 ((k1.mono (by simp)).trans k2) ?_ h2⟩
  rw [iv_len, iv_len] at M2
  exact M2
theorem ok_parts_of : Cl P w K mg base 2 "parts_of" ["row", "place"] spHalf := by
  refine cl_of (N := ["row", "place"]) T.f_parts_of T.m_parts_of (by decide +kernel) (fun _ _ _ _ _ _ us hl => match us, hl with | [_, _], _ => rfl) (fun vs H Q E h => ?_) (fun cdv A outer s H vs Q E hr h => ?_)
  · obtain ⟨l, r, n, B, rfl, _⟩ := h
    rfl
  obtain ⟨l, r, n, B, rfl, hB, hL, D, q⟩ := h
  refine ⟨_, (pss_one
  (ps_ret (pe_tup (pa_cons (pe_cl (ok_trimmed T) hr (by decide) (pa_cons (pe_slice sl_seq (pv 0) po_none (po_some (pv 1))) pa_nil)) (pa_cons (pe_cl (ok_trimmed T) hr (by decide) (pa_cons (pe_slice sl_seq (pv 0) (po_some (pv 1)) po_none) pa_nil)) pa_nil))))), ?_⟩
  refine ⟨_, rfl, _, rfl, _, rfl, l, _, rfl, hL, fun p1 H1 s1 h1 => ?_⟩
  rw [cut_to, iv_take] at h1
  refine ⟨p1, _, B, rfl, hB, h1, D.take n, fun l1 H2 n1 s2 h2 => ?_⟩
  refine ⟨_, rfl, _, rfl, _, rfl, l, _, rfl, (hL.same s1).same s2, fun p3 H3 s3 h3 => ?_⟩
  rw [cut_from, iv_drop] at h3
  refine ⟨p3, _, B, rfl, hB, h3, D.drop n, fun l2 H4 n2 s4 h4 => ?_⟩
  refine ⟨by show 2 ≤ sizeLine; decide, fun t ht => ?_⟩
  have l1at : H3 l1 = some _ := s3 _ _ h2
  have ne : l1 ≠ l2 := ne_of_none l1at n2
  have sT := same_upd (o := .tup [.ref l1, .ref l2]) ht
  exact q t l1 l2 _ (s1.free n1) (s1.free (s2.free (s3.free n2))) ne (s1.trans (s2.trans (s3.trans (s4.trans sT)))) upd_same (sT _ _ (s4 _ _ l1at)) (sT _ _ h4)
end
end T87
namespace T87
open PySem PySem.Spec PyProof.Rows L2
theorem Kp.ch {p d e : Addr} {C : Addr} {S : MS} {H H1 : Hp} {r : Addr} (k : Kp [d, e] H H1) (M1 : MachAt C H1 p d e S) (h : H1 r = none) : H r = none := k.free h fun z => by
  rcases List.mem_cons.mp z with z | z
  · exact M1.ed.2.1 (by rw [← z]; exact h)
  · exact M1.ed.1 (by rw [← List.mem_singleton.mp z]; exact h)
theorem MachAt.neI {C p d e l : Addr} {H : Hp} {S : MS} {s : List Int} (M : MachAt C H p d e S) (h : Sq H l (iv s)) (hs : 0 < s.length) : l ≠ e := fun z => by
  obtain ⟨ts, h2, _⟩ := M.en
  obtain ⟨o, so, eo⟩ := h
  rw [z, h2] at eo
  have e1 := Option.some.inj eo
  rcases so with so | so
  · rw [so] at e1
    have e2 : ts.map V.ref = iv s := HO.lst.inj e1
    cases s with
    | nil => cases hs
    | cons x s =>
      cases ts with
      | nil => cases e2
      | cons t ts =>
        have e3 := (List.cons.inj e2).1
        cases e3
  · rw [so] at e1
    cases e1
theorem prod_len {B : Int} (hB : 2 ≤ B) {a b : List Int} (da : Dg B a) (db : Dg B b) : (digs B (val B a * val B b)).length ≤ a.length + b.length := by
  have a0 := val_nonneg (show (0 : Int) < B by omega) da
  have b0 := val_nonneg (show (0 : Int) < B by omega) db
  have a1 := val_lt (show (0 : Int) < B by omega) da
  have b1 := val_lt (show (0 : Int) < B by omega) db
  refine digs_len hB (Int.mul_nonneg a0 b0) ?_
  rw [Int.pow_add]
  exact Int.lt_of_le_of_lt (Int.mul_le_mul_of_nonneg_right (Int.le_of_lt a1) b0) (Int.mul_lt_mul_of_pos_left b1 (ipow_pos (by omega) _))
theorem prod_lt {B : Int} (hB : 2 ≤ B) {a b : List Int} (da : Dg B a) (db : Dg B b) : 0 ≤ val B a * val B b ∧ val B a * val B b < B ^ (a.length + b.length) := by
  have a0 := val_nonneg (show (0 : Int) < B by omega) da
  have b0 := val_nonneg (show (0 : Int) < B by omega) db
  have a1 := val_lt (show (0 : Int) < B by omega) da
  have b1 := val_lt (show (0 : Int) < B by omega) db
  refine ⟨Int.mul_nonneg a0 b0, ?_⟩
  rw [Int.pow_add]
  exact Int.lt_of_le_of_lt (Int.mul_le_mul_of_nonneg_right (Int.le_of_lt a1) b0) (Int.mul_lt_mul_of_pos_left b1 (ipow_pos (by omega) _))
/-- an own object among what is written -/
theorem Kp.own2 {H H1 H2 : Hp} {r d e : Addr} (a : Kp [d, e] H H1) (hr : H r = none) (b : Kp [r, d, e] H1 H2) : Kp [d, e] H H2 := a.own hr b
theorem zero_room {n : Nat} {z : Int} (h : z.toNat = n) : (List.replicate z.toNat [V.int 0]).flatten = iv (List.replicate n 0) := by
  rw [h]
  show _ = List.map V.int (List.replicate n 0)
  rw [List.map_replicate]
  simp
section
variable {P : Program} {w : World} {K : PySem.W.Frag} {mg : Str → Option Value} {base : Heap} (T : Tx K mg)
include T
theorem ok_by_slices {g : Nat} (RP : Cl P w K mg base (2 * g + 4) "row_product" ["machine", "a", "b"] (spRP K g)) : Cl P w K mg base (2 * g + 5) "by_slices" ["machine", "a", "b"] (spSl K g) := by
  refine cl_of (N := ["machine", "a", "b", "room", "start"]) T.f_by_slices T.m_by_slices (by decide +kernel) (fun _ _ _ _ _ _ us hl => match us, hl with | [_, _, _], _ => rfl) (fun vs H Q E h => ?_) (fun cdv A outer s H vs Q E hr h => ?_)
  · obtain ⟨p, d, e, S, la, a, lb, b, rfl, _⟩ := h
    rfl
  obtain ⟨p, d, e, S, la, a, lb, b, rfl, M, hA, nA, hB, nB, dA, dB, zA, zB, hF, a3, hab, q⟩ := h
  have nd : (["machine", "a", "b", "room", "start"] : List Str).Nodup := by decide +kernel
  have B2 := M.b2
  have hr1 : Room 3 _ := hr.mono (by omega)
  refine ⟨_, (pss_cons (ps_expr (pe_mt (ok_enter T) hr (by omega) (pv 0) (pa_cons pe_str (pa_cons (pe_callB call_lnQ (by rfl) T.b_len PySem.boot_len (pa_cons (pv 1) pa_nil)) (pa_cons (pe_callB call_lnQ (by rfl) T.b_len PySem.boot_len (pa_cons (pv 2) pa_nil)) pa_nil)))))
  (pss_cons (ps_set (i := 3) nd rfl (Or.inl rfl) (pe_op op_rep (pe_lst (pa_cons pe_int pa_nil)) (pe_op op_add (pe_callB call_lnQ (by rfl) T.b_len PySem.boot_len (pa_cons (pv 1) pa_nil)) (pe_callB call_lnQ (by rfl) T.b_len PySem.boot_len (pa_cons (pv 2) pa_nil)))))
  (pss_cons (ps_for PassesOwn.never rfl (pi_range3 (by rfl) T.b_range (pa_cons pe_int (pa_cons (pe_callB call_lnQ (by rfl) T.b_len PySem.boot_len (pa_cons (pv 2) pa_nil)) (pa_cons (pe_callB call_lnQ (by rfl) T.b_len PySem.boot_len (pa_cons (pv 1) pa_nil)) pa_nil)))) (pg_name (i := 4) nd rfl (Or.inl rfl)) (pss_one
  (ps_expr (pe_cl (ok_into T) hr (by omega) (pa_cons (pv 0) (pa_cons (pv 3) (pa_cons (pv 4) (pa_cons (pe_cl RP hr (by omega) (pa_cons (pv 0) (pa_cons (pv 1) (pa_cons (pe_slice sl_seq (pv 2) (po_some (pv 4)) (po_some (pe_op op_add (pv 4) (pe_callB call_lnQ (by rfl) T.b_len PySem.boot_len (pa_cons (pv 1) pa_nil))))) pa_nil)))) pa_nil))))))))
  (pss_one
  (ps_ret (pe_cl (ok_trimmed T) hr (by omega) (pa_cons (pv 3) pa_nil))))))), ?_⟩
  refine ⟨_, rfl, ?_⟩
  refine M.self (m := "enter") (by decide +kernel) ?_
  refine ⟨_, rfl, la, _, rfl, hA, _, rfl, lb, _, rfl, hB, ?_⟩
  refine ⟨p, d, e, S, "lopsided", _, _, rfl, M, fun H1 k1 M1 => ?_⟩
  rw [iv_len, iv_len] at M1
  have hA1 := M.kSq k1 hA nA
  have hB1 := M.kSq k1 hB nB
  refine ⟨by show 1 ≤ sizeLine; decide, fun l0 hl0 => ?_⟩
  have s0 := same_upd (o := .lst [.int 0]) hl0
  refine ⟨_, rfl, la, _, rfl, hA1.same s0, _, rfl, lb, _, rfl, hB1.same s0, _, _, rfl, rfl, ?_⟩
  rw [iv_len, iv_len]
  have en : (((a.length : Nat) : Int) + ((b.length : Nat) : Int)).toNat = a.length + b.length := by omega
  refine ⟨l0, _, _, rfl, rfl, upd_same, by omega, by omega, ?_, fun r hr0 => ?_⟩
  · rw [en]
    exact Nat.le_trans (by rw [List.length_singleton]; omega) (Nat.le_of_lt s1000)
  rw [zero_room en]
  have k0 : Kp [d, e] H (upd H1 l0 (.lst [.int 0])) := k1.fr hl0
  have M0 := M1.same s0
  have r0 : H r = none := k0.ch M0 hr0
  have M0r := M0.same (same_upd (o := .lst (iv (List.replicate (a.length + b.length) 0))) hr0)
  have nre : r ≠ e := M.neN r0
  have nA' : la ≠ r := fun z => hA.some (by rw [z]; exact r0)
  have nB' : lb ≠ r := fun z => hB.some (by rw [z]; exact r0)
  have v0a := val_nonneg (show (0 : Int) < 2 ^ S.w by omega) dA
  have v1a := val_lt (show (0 : Int) < 2 ^ S.w by omega) dA
  refine ⟨_, rfl, lb, _, rfl, (hB1.same s0).same (same_upd hr0), _, rfl, la, _, rfl, (hA1.same s0).same (same_upd hr0), ?_⟩
  refine ⟨0, _, _, _, rfl, by rw [iv_len, iv_len]; exact rgc_up (by omega) (by omega) (by omega), for_rangeC (fun i σ H2 => ∃ u rr, σ = [some (.ref p), some (.ref la), some (.ref lb), some (.ref r), u] ∧ Kp [d, e] H H2 ∧
    MachAt (CM K) H2 p d e (S.ops ([.en "lopsided" (a.length : Nat) (b.length : Nat)] ++ (List.range i).flatMap (slTurn (2 ^ S.w) (rpE (2 ^ S.w) S.c g) a b))) ∧ H2 r = some (.lst (iv rr)) ∧ Dg (2 ^ S.w) rr ∧ rr.length = a.length + b.length ∧ val (2 ^ S.w) rr = val (2 ^ S.w) a * val (2 ^ S.w) (b.take (i * a.length))) ?_ ?_ ?_⟩
  · refine ⟨none, _, rfl, k0.fr hr0, ?_, upd_same, Dg.zeros (by omega) _, List.length_replicate, ?_⟩
    · rw [List.range_zero, List.flatMap_nil, List.append_nil]
      exact M0r
    · rw [val_zeros, Nat.zero_mul, List.take_zero]
      show (0 : Int) = _ * 0
      rw [Int.mul_zero]
  · rintro i σ H2 hi ⟨u, rr, rfl, k2, M2, hrr, drr, lrr, vrr⟩
    rw [iv_len, show (0 : Int) + (i : Nat) * ((a.length : Nat) : Int) = ((i * a.length : Nat) : Int) by rw [Int.natCast_mul]; omega]
    have hil : i * a.length < b.length := by
      have h2 : i + 1 ≤ (b.length + a.length - 1) / a.length := hi
      have h3 := (Nat.le_div_iff_mul_le (show 0 < a.length by omega)).mp h2
      rw [Nat.add_mul] at h3
      omega
    have hA2 := M.kSq k2 hA nA
    have hB2 := M.kSq k2 hB nB
    -- into(machine, room, start, row_product(machine, a, b[start:start + len(a)]))
    refine ⟨_, rfl, _, rfl, _, rfl, _, rfl, _, rfl, _, rfl, _, rfl, _, rfl, _, rfl, _, rfl, la, _, rfl, hA2, _, _, rfl, rfl, _, rfl, ?_⟩
    refine ⟨lb, _, rfl, hB2, fun ls H3 s3 hs3 => ?_⟩
    rw [iv_len, show ((i * a.length : Nat) : Int) + ((a.length : Nat) : Int) = ((i * a.length + a.length : Nat) : Int) by omega, cut_both, Nat.add_sub_cancel_left, iv_drop, iv_take] at hs3
    have M3 := M2.same s3
    have dS : Dg (2 ^ S.w) ((b.drop (i * a.length)).take a.length) := (dB.drop _).take _
    have lS : ((b.drop (i * a.length)).take a.length).length ≤ a.length := by rw [List.length_take]; omega
    have lS2 : i * a.length + ((b.drop (i * a.length)).take a.length).length ≤ b.length := by rw [List.length_take, List.length_drop]; omega
    have nls : ls ≠ e := M3.neI hs3 (by rw [List.length_take, List.length_drop]; omega)
    refine ⟨p, d, e, _, la, a, ls, _, rfl, M3, hA2.same s3, nA, hs3, nls, ?_⟩
    rw [MS.ops_w, MS.ops_c]
    refine ⟨dA, dS, zA, by omega, fit_slice hF a3 hab _ lS, fun lp H4 n4 k4 M4 h4 => ?_⟩
    have hr4 := M3.kLst k4 (s3 _ _ hrr) nre
    have nlpr : lp ≠ r := fun z => by rw [z, s3 _ _ hrr] at n4; cases n4
    have pl := prod_len B2 dA dS
    refine ⟨p, d, e, _, r, rr, lp, _, i * a.length, rfl, M4, hr4, nre, Sq.lst h4, nlpr, M3.neN n4, ?_⟩
    rw [MS.ops_w, MS.ops_w]
    refine ⟨drr, digs_dg B2 (Int.mul_nonneg v0a (val_nonneg (by omega) dS)), by rw [lrr]; omega, fun c H5 k5 M5 h5 => ?_⟩
    have pr := putR_ok (start := i * a.length) B2 (.inl rfl) drr (digs_dg B2 (Int.mul_nonneg v0a (val_nonneg (show (0 : Int) < 2 ^ S.w by omega) dS))) (by rw [lrr]; omega)
    have etake : b.take ((i + 1) * a.length) = b.take (i * a.length) ++ (b.drop (i * a.length)).take a.length := by
      rw [Nat.add_mul, Nat.one_mul, List.take_add]
    refine ⟨some (.int ((i * a.length : Nat) : Int)), _, rfl, ?_, ?_, h5, pr.1, by rw [pr.2.1]; exact lrr, ?_⟩
    · exact ((k2.trans (Kp.of s3)).trans k4).own2 r0 k5
    · rw [List.range_succ, List.flatMap_append, List.flatMap_cons, List.flatMap_nil, List.append_nil, ← List.append_assoc, MS.ops_app]
      unfold slTurn
      rw [MS.ops_app]
      have epad := padd_eq B2 drr
      rw [lrr, vrr] at epad
      rw [← epad]
      exact M5
    · rw [pr.2.2, lrr, val_digs B2 (Int.mul_nonneg v0a (val_nonneg (by omega) dS)), vrr, etake, val_append, List.length_take, Nat.min_eq_left (Nat.le_of_lt hil)]
      have e6 : val (2 ^ S.w) a * val (2 ^ S.w) (b.take (i * a.length)) + 1 * (2 ^ S.w) ^ (i * a.length) * (val (2 ^ S.w) a * val (2 ^ S.w) ((b.drop (i * a.length)).take a.length)) =
          val (2 ^ S.w) a * (val (2 ^ S.w) (b.take (i * a.length)) + (2 ^ S.w) ^ (i * a.length) * val (2 ^ S.w) ((b.drop (i * a.length)).take a.length)) := by
        generalize val (2 ^ S.w) a = x1
        generalize val (2 ^ S.w) (b.take (i * a.length)) = x2
        generalize ((2 : Int) ^ S.w) ^ (i * a.length) = x3
        generalize val (2 ^ S.w) ((b.drop (i * a.length)).take a.length) = x4
        grind
      have e7 : val (2 ^ S.w) (b.take (i * a.length)) + (2 ^ S.w) ^ (i * a.length) * val (2 ^ S.w) ((b.drop (i * a.length)).take a.length) = val (2 ^ S.w) (b.take ((i + 1) * a.length)) := by
        rw [etake, val_append, List.length_take, Nat.min_eq_left (Nat.le_of_lt hil)]
      rw [e6, e7]
      have p1 := prod_lt B2 dA (dB.take ((i + 1) * a.length))
      refine Int.emod_eq_of_lt p1.1 (Int.lt_of_lt_of_le p1.2 (ipow_le (by omega) ?_))
      rw [List.length_take]
      omega
  · rintro σ H2 ⟨u, rr, rfl, k2, M2, hrr, drr, lrr, vrr⟩
    have hfull : b.take ((b.length + a.length - 1) / a.length * a.length) = b := by
      refine List.take_of_length_le ?_
      have h3 := Nat.lt_mul_of_div_lt (Nat.lt_succ_self ((b.length + a.length - 1) / a.length)) (show 0 < a.length by omega)
      have h4 := Nat.succ_mul ((b.length + a.length - 1) / a.length) a.length
      have h5 := Nat.mul_comm a.length ((b.length + a.length - 1) / a.length).succ
      omega
    rw [hfull] at vrr
    refine ⟨_, rfl, r, rr, 2 ^ S.w, rfl, B2, Sq.lst hrr, drr, fun l H3 n3 s3 h3 => ?_⟩
    rw [vrr] at h3
    refine q l H3 (k2.ch M2 n3) (k2.trans (Kp.of s3)) ?_ h3
    exact M2.same s3
end
end T87
namespace T87
open PySem PySem.Spec PyProof.Rows L2
theorem ifNone {A B : Prop} {a : Addr} (h : B) : if decide (V.ref a = V.non) = true then A else B := by
  rw [decide_eq_false (by intro z; cases z)]
  exact iteF h
theorem MachAt.kL3 {C p d e r l : Addr} {H H' : Hp} {S : MS} {xs : List V} (M : MachAt C H p d e S) (k : Kp [r, d, e] H H') (h : H l = some (.lst xs)) (n1 : l ≠ r) (n2 : l ≠ e) : H' l = some (.lst xs) := by
  refine k l _ h fun z => ?_
  rcases List.mem_cons.mp z with z | z
  · exact n1 z
  rcases List.mem_cons.mp z with z | z
  · exact ne_of h M.cn (by intro q; cases q) z
  · exact n2 (List.mem_singleton.mp z)
/-- the room with both halves laid in -/
def roomOf (bot top : List Int) (n q : Nat) : List Int := (bot ++ List.replicate (n - bot.length) 0).take q ++ top ++ (bot ++ List.replicate (n - bot.length) 0).drop (q + top.length)
theorem roomOf_ok {B : Int} (hB : 2 ≤ B) {bot top : List Int} {n q : Nat} (db : Dg B bot) (dt : Dg B top) (h1 : bot.length ≤ q) (h2 : q + top.length ≤ n) :
    Dg B (roomOf bot top n q) ∧ (roomOf bot top n q).length = n ∧ val B (roomOf bot top n q) = val B bot + B ^ q * val B top := by
  have dz : Dg B (bot ++ List.replicate (n - bot.length) 0) := db.append (Dg.zeros (by omega) _)
  have e1 : (bot ++ List.replicate (n - bot.length) 0).take q = bot ++ List.replicate (q - bot.length) 0 := by
    rw [List.take_append, List.take_of_length_le h1, List.take_replicate, Nat.min_eq_left (by omega)]
  have e2 : (bot ++ List.replicate (n - bot.length) 0).drop (q + top.length) = List.replicate (n - (q + top.length)) 0 := by
    rw [List.drop_append, List.drop_eq_nil_of_le (by omega), List.nil_append, List.drop_replicate]
    congr 1
    omega
  unfold roomOf
  rw [e1, e2]
  refine ⟨((db.append (Dg.zeros (by omega) _)).append dt).append (Dg.zeros (by omega) _), ?_, ?_⟩
  · simp only [List.length_append, List.length_replicate]
    omega
  · have e3 : (bot ++ List.replicate (q - bot.length) (0 : Int)).length = q := by
      rw [List.length_append, List.length_replicate]
      omega
    rw [val_append, val_zeros, Int.mul_zero, Int.add_zero, val_append, e3, val_append, val_zeros, Int.mul_zero, Int.add_zero]
section
variable {P : Program} {w : World} {K : PySem.W.Frag} {mg : Str → Option Value} {base : Heap} (T : Tx K mg)
include T
theorem ok_by_parts {g : Nat} (RP : Cl P w K mg base (2 * g + 4) "row_product" ["machine", "a", "b"] (spRP K g)) : Cl P w K mg base (2 * g + 5) "by_parts" ["machine", "a", "b"] (spPt K g) := by
  refine cl_of (N := ["machine", "a", "b", "size", "place", "low", "high", "other_low", "other_high", "top", "bottom", "room", "one", "middle"]) T.f_by_parts T.m_by_parts (by decide +kernel) (fun _ _ _ _ _ _ us hl => match us, hl with | [_, _, _], _ => rfl) (fun vs H Q E h => ?_) (fun cdv A outer s H vs Q E hr h => ?_)
  · obtain ⟨p, d, e, S, la, a, lb, b, rfl, _⟩ := h
    rfl
  obtain ⟨p, d, e, S, la, a, lb, b, rfl, M, hA, nA, hB, nB, dA, dB, zA, zB, hF, a3, hab, hba, q⟩ := h
  have nd : (["machine", "a", "b", "size", "place", "low", "high", "other_low", "other_high", "top", "bottom", "room", "one", "middle"] : List Str).Nodup := by decide +kernel
  have B2 := M.b2
  have B256 : (256 : Int) ≤ 2 ^ S.w := by
    have := ipow_le (b := 2) (by decide) M.w1
    exact this
  obtain ⟨BB, hBB⟩ : ∃ BB : Int, BB = 2 ^ S.w := ⟨_, rfl⟩
  have fit := fit_parts B256 dA dB hF a3 hab hba
  have loA := lo_len B256 dA (b.length / 2)
  have loB := lo_len B256 dB (b.length / 2)
  have hiA := hi_len B256 dA (b.length / 2)
  have hiB := hi_len B256 dB (b.length / 2)
  have lnA := lo_nn B256 dA (b.length / 2)
  have lnB := lo_nn B256 dB (b.length / 2)
  have hnA := hi_nn B256 dA (b.length / 2)
  have hnB := hi_nn B256 dB (b.length / 2)
  have midl := mid_len B256 dA dB a3 hab hba
  refine ⟨_, (pss_cons (ps_set (i := 3) nd rfl (Or.inl rfl) (pe_ifExp (pt_cmpR op_isN (pv 2) pe_non (nomark _)) (pe_callB call_lnQ (by rfl) T.b_len PySem.boot_len (pa_cons (pv 1) pa_nil)) (pe_callB call_lnQ (by rfl) T.b_len PySem.boot_len (pa_cons (pv 2) pa_nil))))
  (pss_cons (ps_expr (pe_mt (ok_enter T) hr (by omega) (pv 0) (pa_cons pe_str (pa_cons (pe_callB call_lnQ (by rfl) T.b_len PySem.boot_len (pa_cons (pv 1) pa_nil)) (pa_cons (pv 3) pa_nil)))))
  (pss_cons (ps_set (i := 4) nd rfl (Or.inl rfl) (pe_op op_fdivNN (pv 3) pe_int))
  (pss_cons (ps_asg (pe_cl (ok_parts_of T) hr (by omega) (pa_cons (pv 1) (pa_cons (pv 4) pa_nil))) (pg_tup (by rfl) (pgs_cons (pg_name (i := 5) nd rfl (Or.inl rfl)) (pgs_cons (pg_name (i := 6) nd rfl (Or.inl rfl)) pgs_nil))))
  (pss_cons (ps_if (pt_cmpR op_isN (pv 2) pe_non (nomark _)) (pss_one
  ps_never) (pss_cons (ps_asg (pe_cl (ok_parts_of T) hr (by omega) (pa_cons (pv 2) (pa_cons (pv 4) pa_nil))) (pg_tup (by rfl) (pgs_cons (pg_name (i := 7) nd rfl (Or.inl rfl)) (pgs_cons (pg_name (i := 8) nd rfl (Or.inl rfl)) pgs_nil))))
  (pss_one
  (ps_par (i := 9) (j := 10) (by rfl) nd rfl rfl (by decide) rfl rfl (pa_cons (pe_cl RP hr (by omega) (pa_cons (pv 0) (pa_cons (pv 6) (pa_cons (pv 8) pa_nil)))) (pa_cons (pe_cl RP hr (by omega) (pa_cons (pv 0) (pa_cons (pv 5) (pa_cons (pv 7) pa_nil)))) pa_nil)) (by rfl)))))
  (pss_cons (ps_set (i := 11) nd rfl (Or.inl rfl) (pe_op op_rep (pe_lst (pa_cons pe_int pa_nil)) (pe_op op_add (pe_callB call_lnQ (by rfl) T.b_len PySem.boot_len (pa_cons (pv 1) pa_nil)) (pv 3))))
  (pss_cons (ps_asg (pv 10) (pg_slice (pv 11) po_none (po_some (pe_callB call_lnQ (by rfl) T.b_len PySem.boot_len (pa_cons (pv 10) pa_nil)))))
  (pss_cons (ps_asg (pv 9) (pg_slice (pv 11) (po_some (pe_op op_mulN pe_int (pv 4))) (po_some (pe_op op_addN (pe_op op_mulN pe_int (pv 4)) (pe_callB call_lnQ (by rfl) T.b_len PySem.boot_len (pa_cons (pv 9) pa_nil))))))
  (pss_cons (ps_expr (pe_cl (ok_out_of T) hr (by omega) (pa_cons (pv 0) (pa_cons (pv 11) (pa_cons (pv 4) (pa_cons (pv 10) pa_nil))))))
  (pss_cons (ps_expr (pe_cl (ok_out_of T) hr (by omega) (pa_cons (pv 0) (pa_cons (pv 11) (pa_cons (pv 4) (pa_cons (pv 9) pa_nil))))))
  (pss_cons (ps_set (i := 12) nd rfl (Or.inl rfl) (pe_cl (ok_adding T) hr (by omega) (pa_cons (pv 0) (pa_cons (pv 6) (pa_cons (pv 5) pa_nil)))))
  (pss_cons (ps_if (pt_cmpR op_isN (pv 2) pe_non (nomark _)) (pss_one
  ps_never) (pss_one
  (ps_set (i := 13) nd rfl (Or.inl rfl) (pe_cl RP hr (by omega) (pa_cons (pv 0) (pa_cons (pv 12) (pa_cons (pe_cl (ok_adding T) hr (by omega) (pa_cons (pv 0) (pa_cons (pv 8) (pa_cons (pv 7) pa_nil)))) pa_nil)))))))
  (pss_cons (ps_expr (pe_cl (ok_into T) hr (by omega) (pa_cons (pv 0) (pa_cons (pv 11) (pa_cons (pv 4) (pa_cons (pv 13) pa_nil))))))
  (pss_one
  (ps_ret (pe_cl (ok_trimmed T) hr (by omega) (pa_cons (pv 11) pa_nil))))))))))))))))), ?_⟩
  -- size, enter, place
  refine ⟨_, rfl, rfl, _, rfl, ifNone ?_⟩
  refine ⟨_, rfl, lb, _, rfl, hB, ?_⟩
  rw [iv_len]
  refine ⟨_, rfl, ?_⟩
  refine M.self (m := "enter") (by decide +kernel) ?_
  refine ⟨_, rfl, la, _, rfl, hA, _, rfl, ?_⟩
  refine ⟨p, d, e, S, "karatsuba", _, _, rfl, M, fun H1 k1 M1 => ?_⟩
  rw [iv_len] at M1
  replace M1 : MachAt (CM K) H1 p d e (S.ops [.en "karatsuba" (a.length : Nat) (b.length : Nat)]) := M1
  refine ⟨_, rfl, b.length, 2, rfl, rfl, ⟨by decide, by decide⟩, ?_⟩
  obtain ⟨pl, hpl⟩ : ∃ pl, pl = b.length / 2 := ⟨_, rfl⟩
  rw [← hpl] at fit loA loB hiA hiB lnA lnB hnA hnB midl ⊢
  -- low, high = parts_of(a, place); other_low, other_high = parts_of(b, place)
  have hA1 := M.kSq k1 hA nA
  have hB1 := M.kSq k1 hB nB
  refine ⟨_, rfl, _, rfl, la, a, pl, 2 ^ S.w, rfl, B2, hA1, dA, fun t1 l1 l2 H2 n1 n2 ne12 s2 ht1 hl1 hl2 => ?_⟩
  refine ⟨t1, _, rfl, SqT.of ht1, rfl, _, _, rfl, _, _, rfl, rfl, ?_⟩
  refine ⟨_, rfl, rfl, _, rfl, ifNone ?_⟩
  refine ⟨_, rfl, _, rfl, lb, b, pl, 2 ^ S.w, rfl, B2, hB1.same s2, dB, fun t2 m1 m2 H3 n3 n4 ne34 s3 ht2 hm1 hm2 => ?_⟩
  refine ⟨t2, _, rfl, SqT.of ht2, rfl, _, _, rfl, _, _, rfl, rfl, ?_⟩
  have k3 : Kp [d, e] H H3 := (k1.trans (Kp.of s2)).trans (Kp.of s3)
  have M3 := (M1.same s2).same s3
  have el1 : l1 ≠ e := M1.neN n1
  have el2 : l2 ≠ e := M1.neN n2
  have em1 : m1 ≠ e := (M1.same s2).neN n3
  have em2 : m2 ≠ e := (M1.same s2).neN n4
  have hl1' := s3 _ _ hl1
  have hl2' := s3 _ _ hl2
  -- top, bottom
  refine ⟨_, rfl, _, rfl, _, rfl, p, d, e, _, l2, _, m2, _, rfl, M3, Sq.lst hl2', el2, Sq.lst hm2, em2, ?_⟩
  rw [MS.ops_w, MS.ops_c]
  refine ⟨digs_dg B2 hnA, digs_dg B2 hnB, by omega, by omega, fit.1, fun t3 H4 n5 k4 M4 ht3 => ?_⟩
  rw [val_digs B2 hnA, val_digs B2 hnB] at ht3
  rw [← MS.ops_app] at M4
  have et3 : t3 ≠ e := M3.neN n5
  have hl1a := M3.kLst k4 hl1' el1
  have hl2a := M3.kLst k4 hl2' el2
  have hm1a := M3.kLst k4 hm1 em1
  have hm2a := M3.kLst k4 hm2 em2
  refine ⟨_, rfl, _, rfl, _, rfl, p, d, e, _, l1, _, m1, _, rfl, M4, Sq.lst hl1a, el1, Sq.lst hm1a, em1, ?_⟩
  rw [MS.ops_w, MS.ops_c]
  refine ⟨digs_dg B2 lnA, digs_dg B2 lnB, by omega, by omega, fit.2.1, fun t4 H5 n6 k5 M5 ht4 => ?_⟩
  rw [val_digs B2 lnA, val_digs B2 lnB] at ht4
  rw [← MS.ops_app] at M5
  have et4 : t4 ≠ e := M4.neN n6
  have hl1b := M4.kLst k5 hl1a el1
  have hl2b := M4.kLst k5 hl2a el2
  have hm1b := M4.kLst k5 hm1a em1
  have hm2b := M4.kLst k5 hm2a em2
  have ht3b := M4.kLst k5 ht3 et3
  have ne34' : t3 ≠ t4 := ne_of_none ht3 n6
  refine ⟨_, _, rfl, ?_⟩
  -- room
  refine ⟨by show 1 ≤ sizeLine; decide, fun l0 hl0 => ?_⟩
  have s0 := same_upd (o := .lst [.int 0]) hl0
  have k5' : Kp [d, e] H H5 := (k3.trans k4).trans k5
  refine ⟨_, rfl, la, _, rfl, (M.kSq k5' hA nA).same s0, _, rfl, _, _, rfl, rfl, ?_⟩
  rw [iv_len]
  have en : (((a.length : Nat) : Int) + ((b.length : Nat) : Int)).toNat = a.length + b.length := by omega
  refine ⟨l0, _, _, rfl, rfl, upd_same, by omega, by omega, ?_, fun r hr0 => ?_⟩
  · rw [en]
    exact Nat.le_trans (by rw [List.length_singleton]; omega) (Nat.le_of_lt s1000)
  rw [zero_room en]
  have kr : Kp [d, e] H (upd H5 l0 (.lst [.int 0])) := k5'.fr hl0
  have M0 := M5.same s0
  have r0 : H r = none := kr.ch M0 hr0
  have nre : r ≠ e := M.neN r0
  obtain ⟨Hr, hHr⟩ : ∃ Hr, Hr = upd (upd H5 l0 (.lst [.int 0])) r (.lst (iv (List.replicate (a.length + b.length) 0))) := ⟨_, rfl⟩
  have sR : Same H5 Hr := by rw [hHr]; exact s0.trans (same_upd hr0)
  have hrr : Hr r = some (.lst (iv (List.replicate (a.length + b.length) 0))) := by rw [hHr]; exact upd_same
  have r5 : H5 r = none := s0.free hr0
  have MR := M5.same sR
  have kR : Kp [d, e] H Hr := by rw [hHr]; exact kr.fr hr0
  rw [← hHr]
  have n1r : l1 ≠ r := ne_of_none hl1b r5
  have n2r : l2 ≠ r := ne_of_none hl2b r5
  have n3r : m1 ≠ r := ne_of_none hm1b r5
  have n4r : m2 ≠ r := ne_of_none hm2b r5
  have n5r : t3 ≠ r := ne_of_none ht3b r5
  have n6r : t4 ≠ r := ne_of_none ht4 r5
  have botL := prod_len B2 (dA.take pl) (dB.take pl)
  have topL := prod_len B2 (dA.drop pl) (dB.drop pl)
  rw [List.length_take, List.length_take] at botL
  rw [List.length_drop, List.length_drop] at topL
  have bv0 : 0 ≤ val (2 ^ S.w) (a.take pl) * val (2 ^ S.w) (b.take pl) := Int.mul_nonneg lnA lnB
  have tv0 : 0 ≤ val (2 ^ S.w) (a.drop pl) * val (2 ^ S.w) (b.drop pl) := Int.mul_nonneg hnA hnB
  obtain ⟨bot, hbot⟩ : ∃ bot, bot = digs (2 ^ S.w) (val (2 ^ S.w) (a.take pl) * val (2 ^ S.w) (b.take pl)) := ⟨_, rfl⟩
  obtain ⟨top, htop⟩ : ∃ top, top = digs (2 ^ S.w) (val (2 ^ S.w) (a.drop pl) * val (2 ^ S.w) (b.drop pl)) := ⟨_, rfl⟩
  rw [← hbot] at ht4 botL
  rw [← htop] at ht3b topL
  have dBot : Dg (2 ^ S.w) bot := by rw [hbot]; exact digs_dg B2 bv0
  have dTop : Dg (2 ^ S.w) top := by rw [htop]; exact digs_dg B2 tv0
  have vBot : val (2 ^ S.w) bot = val (2 ^ S.w) (a.take pl) * val (2 ^ S.w) (b.take pl) := by rw [hbot]; exact val_digs B2 bv0
  have vTop : val (2 ^ S.w) top = val (2 ^ S.w) (a.drop pl) * val (2 ^ S.w) (b.drop pl) := by rw [htop]; exact val_digs B2 tv0
  -- room[:len(bottom)] = bottom
  refine ⟨_, rfl, _, rfl, _, rfl, t4, _, rfl, Sq.lst (sR _ _ ht4), _, rfl, r, t4, _, _, 0, bot.length, rfl, rfl, hrr, sR _ _ ht4, Ne.symm n6r, ⟨by rw [iv_len, iv_len, List.length_replicate]; exact bounds_to (by omega), Nat.zero_le _⟩, ?_, ?_⟩
  · rw [iv_len, iv_len, List.length_replicate]
    exact Nat.le_trans (by omega) (Nat.le_of_lt s1000)
  have er1 : (iv (List.replicate (a.length + b.length) 0)).take 0 ++ iv bot ++ (iv (List.replicate (a.length + b.length) 0)).drop bot.length = iv (bot ++ List.replicate (a.length + b.length - bot.length) 0) := by
    rw [List.take_zero, List.nil_append, iv_drop, iv_app, List.drop_replicate]
  rw [er1]
  have MR1 := MR.lst (o := .lst (iv (bot ++ List.replicate (a.length + b.length - bot.length) 0))) hrr nre
  have ht3c : (upd Hr r (.lst (iv (bot ++ List.replicate (a.length + b.length - bot.length) 0)))) t3 = some (.lst (iv top)) := by rw [upd_ne n5r]; exact sR _ _ ht3b
  -- room[2 * place:2 * place + len(top)] = top
  refine ⟨_, rfl, _, rfl, _, rfl, 2, pl, rfl, rfl, by decide, _, rfl, _, rfl, 2, pl, rfl, rfl, by decide, _, rfl, t3, _, rfl, Sq.lst ht3c, ?_⟩
  rw [iv_len]
  refine ⟨2 * pl, top.length, rfl, rfl, _, rfl, r, t3, _, _, 2 * pl, 2 * pl + top.length, rfl, rfl, upd_same, ht3c, Ne.symm n5r, ⟨?_, Nat.le_add_right _ _⟩, ?_, ?_⟩
  · rw [iv_len, List.length_append, List.length_replicate]
    exact bounds_run (Nat.le_add_right _ _) (by omega)
  · rw [iv_len, iv_len, List.length_append, List.length_replicate]
    exact Nat.le_trans (by omega) (Nat.le_of_lt s1000)
  have er2 : (iv (bot ++ List.replicate (a.length + b.length - bot.length) 0)).take (2 * pl) ++ iv top ++ (iv (bot ++ List.replicate (a.length + b.length - bot.length) 0)).drop (2 * pl + top.length) = iv (roomOf bot top (a.length + b.length) (2 * pl)) := by
    unfold roomOf
    rw [iv_take, iv_drop, iv_app, iv_app]
  rw [er2]
  have R0 := roomOf_ok (n := a.length + b.length) (q := 2 * pl) B2 dBot dTop (by omega) (by omega)
  obtain ⟨x0, hx0⟩ : ∃ x0, x0 = roomOf bot top (a.length + b.length) (2 * pl) := ⟨_, rfl⟩
  rw [← hx0] at R0 ⊢
  obtain ⟨H6, hH6⟩ : ∃ H6, H6 = upd (upd Hr r (.lst (iv (bot ++ List.replicate (a.length + b.length - bot.length) 0)))) r (.lst (iv x0)) := ⟨_, rfl⟩
  have M6 := MR1.lst (o := .lst (iv x0)) upd_same nre
  rw [← hH6] at M6 ⊢
  have k6 : Kp [r, d, e] Hr H6 := by rw [hH6]; exact (Kp.put (by simp)).trans (Kp.put (by simp))
  have h6 : H6 r = some (.lst (iv x0)) := by rw [hH6]; exact upd_same
  -- out_of twice
  have ep0 : x0 = padd (2 ^ S.w) (a.length + b.length) (val (2 ^ S.w) bot + (2 ^ S.w) ^ (2 * pl) * val (2 ^ S.w) top) := by
    have := padd_eq B2 R0.1
    rw [R0.2.1, R0.2.2] at this
    exact this
  refine ⟨_, rfl, _, rfl, _, rfl, _, rfl, p, d, e, _, r, x0, t4, bot, pl, rfl, M6, h6, nre, Sq.lst (MR.kL3 k6 (sR _ _ ht4) n6r et4), n6r, et4, ?_⟩
  rw [MS.ops_w]
  refine ⟨R0.1, dBot, by rw [R0.2.1]; omega, fun c7 H7 k7 M7 h7 => ?_⟩
  rw [← MS.ops_app] at M7
  have R1 := putR_ok (start := pl) B2 (.inr rfl) R0.1 dBot (by rw [R0.2.1]; omega)
  rw [R0.2.1, R0.2.2] at R1
  obtain ⟨x1, hx1⟩ : ∃ x1, x1 = (putR (2 ^ S.w) (-1) x0 pl bot).1 := ⟨_, rfl⟩
  rw [← hx1] at R1 h7
  have k7' := k6.trans k7
  have ep1 := padd_eq B2 R1.1
  rw [R1.2.1, R1.2.2] at ep1
  refine ⟨_, rfl, _, rfl, _, rfl, _, rfl, p, d, e, _, r, x1, t3, top, pl, rfl, M7, h7, nre, Sq.lst (MR.kL3 k7' (sR _ _ ht3b) n5r et3), n5r, et3, ?_⟩
  rw [MS.ops_w]
  refine ⟨R1.1, dTop, by rw [R1.2.1]; omega, fun c8 H8 k8 M8 h8 => ?_⟩
  rw [← MS.ops_app] at M8
  have R2 := putR_ok (start := pl) B2 (.inr rfl) R1.1 dTop (by rw [R1.2.1]; omega)
  rw [R1.2.1, R1.2.2] at R2
  obtain ⟨x2, hx2⟩ : ∃ x2, x2 = (putR (2 ^ S.w) (-1) x1 pl top).1 := ⟨_, rfl⟩
  rw [← hx2] at R2 h8
  have k8' := k7'.trans k8
  have ep2 := padd_eq B2 R2.1
  rw [R2.2.1, R2.2.2] at ep2
  -- one = adding(machine, high, low)
  have hl1c := MR.kL3 k8' (sR _ _ hl1b) n1r el1
  have hl2c := MR.kL3 k8' (sR _ _ hl2b) n2r el2
  have hm1c := MR.kL3 k8' (sR _ _ hm1b) n3r em1
  have hm2c := MR.kL3 k8' (sR _ _ hm2b) n4r em2
  refine ⟨_, rfl, _, rfl, _, rfl, p, d, e, _, l2, val (2 ^ S.w) (a.drop pl), l1, val (2 ^ S.w) (a.take pl), rfl, M8, ?_⟩
  rw [MS.ops_w]
  refine ⟨Sq.lst hl2c, el2, Sq.lst hl1c, el1, hnA, lnA, by omega, by omega, fun o1 H9 n9 k9 M9 h9 => ?_⟩
  rw [← MS.ops_app] at M9
  have eo1 : o1 ≠ e := M8.neN n9
  have hm1d := M8.kLst k9 hm1c em1
  have hm2d := M8.kLst k9 hm2c em2
  have h8r := M8.kLst k9 h8 nre
  have o1r : o1 ≠ r := fun z => by rw [z, h8] at n9; cases n9
  -- middle
  refine ⟨_, rfl, rfl, _, rfl, ifNone ?_⟩
  refine ⟨_, rfl, _, rfl, _, rfl, _, rfl, _, rfl, p, d, e, _, m2, val (2 ^ S.w) (b.drop pl), m1, val (2 ^ S.w) (b.take pl), rfl, M9, ?_⟩
  rw [MS.ops_w]
  refine ⟨Sq.lst hm2d, em2, Sq.lst hm1d, em1, hnB, lnB, by omega, by omega, fun o2 H10 n10 k10 M10 h10 => ?_⟩
  rw [← MS.ops_app] at M10
  have eo2 : o2 ≠ e := M9.neN n10
  have h9b := M9.kLst k10 h9 eo1
  have h10r := M9.kLst k10 h8r nre
  have o2r : o2 ≠ r := fun z => by rw [z, h8r] at n10; cases n10
  refine ⟨p, d, e, _, o1, _, o2, _, rfl, M10, Sq.lst h9b, eo1, Sq.lst h10, eo2, ?_⟩
  rw [MS.ops_w, MS.ops_c]
  have lenO : ∀ {r : List Int}, Dg (2 ^ S.w) r → r.length - pl ≤ 299 → pl ≤ 299 → (digs (2 ^ S.w) (val (2 ^ S.w) (r.drop pl) + val (2 ^ S.w) (r.take pl))).length ≤ 300 := fun {r} dr lr lp => by
    have i1 := lo_nn B256 dr pl
    have i2 := hi_nn B256 dr pl
    have i3 := lo_lt B256 dr pl
    have i4 := hi_lt B256 dr pl
    have j1 := ipow_le (b := 2 ^ S.w) (by omega) lp
    have j2 := ipow_le (b := 2 ^ S.w) (by omega) lr
    refine digs_len B2 (by omega) ?_
    rw [show (300 : Nat) = 299 + 1 from rfl, Int.pow_succ]
    have j3 : ((2 : Int) ^ S.w) ^ 299 * 2 ≤ (2 ^ S.w) ^ 299 * 2 ^ S.w := Int.mul_le_mul_of_nonneg_left B2 (Int.le_of_lt (ipow_pos (by omega) _))
    generalize ((2 : Int) ^ S.w) ^ 299 = PP at j1 j2 j3 ⊢
    omega
  have va0 : 0 ≤ val (2 ^ S.w) (a.drop pl) + val (2 ^ S.w) (a.take pl) := by omega
  have vb0 : 0 ≤ val (2 ^ S.w) (b.drop pl) + val (2 ^ S.w) (b.take pl) := by omega
  refine ⟨digs_dg B2 va0, digs_dg B2 vb0, lenO dA (by omega) (by omega), lenO dB (by omega) (by omega), fit.2.2, fun t5 H11 n11 k11 M11 h11 => ?_⟩
  rw [val_digs B2 va0, val_digs B2 vb0] at h11
  rw [← MS.ops_app] at M11
  have et5 : t5 ≠ e := M10.neN n11
  have t5r : t5 ≠ r := fun z => by rw [z, h10r] at n11; cases n11
  have h11r := M10.kLst k11 h10r nre
  have mv0 := Int.mul_nonneg va0 vb0
  refine ⟨_, rfl, _, rfl, _, rfl, _, rfl, p, d, e, _, r, x2, t5, _, pl, rfl, M11, h11r, nre, Sq.lst h11, t5r, et5, ?_⟩
  rw [MS.ops_w]
  refine ⟨R2.1, digs_dg B2 mv0, by rw [R2.2.1]; omega, fun c12 H12 k12 M12 h12 => ?_⟩
  rw [← MS.ops_app] at M12
  have R3 := putR_ok (start := pl) B2 (.inl rfl) R2.1 (digs_dg B2 mv0) (by rw [R2.2.1]; omega)
  rw [R2.2.1, R2.2.2, val_digs B2 mv0] at R3
  have vA := val_split (2 ^ S.w) a pl (by omega)
  have vB := val_split (2 ^ S.w) b pl (by omega)
  have pr := prod_lt B2 dA dB
  have ek := kara (B := 2 ^ S.w) (n := 0) (P := (2 ^ S.w) ^ pl) (U := (2 ^ S.w) ^ (2 * pl)) (by rw [Nat.two_mul, Int.pow_add]) vA vB ((2 ^ S.w) ^ (a.length + b.length)) pr.1 pr.2
  rw [vBot, vTop] at R3
  rw [ek] at R3
  refine ⟨_, rfl, r, _, 2 ^ S.w, rfl, B2, Sq.lst h12, R3.1, fun l H13 n13 s13 h13 => ?_⟩
  rw [R3.2.2] at h13
  have kk : Kp [d, e] H H12 := (((kR.own2 r0 k8').trans k9).trans k10).trans k11 |>.own2 r0 k12
  refine q l H13 (kk.ch M12 n13) (kk.trans (Kp.of s13)) ?_ h13
  have MF := M12.same s13
  rw [ep2, ep1, ep0, vBot, vTop, hbot, htop, hpl] at MF
  exact MF
end
end T87
namespace T87
open PySem PySem.Spec PyProof.Rows L2
section
variable {P : Program} {w : World} {K : PySem.W.Frag} {mg : Str → Option Value} {base : Heap} (T : Tx K mg)
include T
theorem ok_row_product1 {g : Nat} (RP : Cl P w K mg base (2 * g + 4) "row_product" ["machine", "a", "b"] (spRP K g)) : Cl P w K mg base (2 * (g + 1) + 4) "row_product" ["machine", "a", "b"] (spRP K (g + 1)) := by
  refine cl_of (N := ["machine", "a", "b"]) (k := 2 * g + 5) T.f_row_product T.m_row_product (by decide +kernel) (fun _ _ _ _ _ _ us hl => match us, hl with | [_, _, _], _ => rfl) (fun vs H Q E h => ?_) (fun cdv A outer s H vs Q E hr h => ?_)
  · obtain ⟨p, d, e, S, la, a, lb, b, rfl, _⟩ := h
    rfl
  obtain ⟨p, d, e, S, la, a0, lb, b0, rfl, M, hA, nA, hB, nB, dA0, dB0, zA, zB, hF, q⟩ := h
  have nd : (["machine", "a", "b"] : List Str).Nodup := by decide +kernel
  refine ⟨_, (pss_cons (ps_if (pt_cmpR op_gt (pe_callB call_lnQ (by rfl) T.b_len PySem.boot_len (pa_cons (pv 1) pa_nil)) (pe_callB call_lnQ (by rfl) T.b_len PySem.boot_len (pa_cons (pv 2) pa_nil)) (nomark _)) (pss_one
  (ps_par (i := 1) (j := 2) (by rfl) nd rfl rfl (by decide) rfl rfl (pa_cons (pv 2) (pa_cons (pv 1) pa_nil)) (by rfl))) pss_nil)
  (pss_cons (ps_if (pt_cmpR op_eq (pe_callB call_lnQ (by rfl) T.b_len PySem.boot_len (pa_cons (pv 1) pa_nil)) pe_int (nomark _)) (pss_one
  (ps_ret (pe_lst pa_nil))) pss_nil)
  (pss_cons (ps_if (pt_cmpR op_le (pe_callB call_lnQ (by rfl) T.b_len PySem.boot_len (pa_cons (pv 1) pa_nil)) (pe_fld (pv 0) rfl) (nomark _)) (pss_one
  (ps_ret (pe_cl (ok_trimmed T) hr (by omega) (pa_cons (pe_cl (ok_rows_of T) hr (by omega) (pa_cons (pv 0) (pa_cons (pv 1) (pa_cons (pv 2) pa_nil)))) pa_nil)))) pss_nil)
  (pss_one
  (ps_ret (pe_ifExp (pt_cmpR op_le (pe_op op_mulN pe_int (pe_callB call_lnQ (by rfl) T.b_len PySem.boot_len (pa_cons (pv 1) pa_nil))) (pe_callB call_lnQ (by rfl) T.b_len PySem.boot_len (pa_cons (pv 2) pa_nil)) (nomark _)) (pe_cl (ok_by_slices T RP) hr (by omega) (pa_cons (pv 0) (pa_cons (pv 1) (pa_cons (pv 2) pa_nil)))) (pe_cl (ok_by_parts T RP) hr (by omega) (pa_cons (pv 0) (pa_cons (pv 1) (pa_cons (pv 2) pa_nil)))))))))), ?_⟩
  refine ⟨_, rfl, la, _, rfl, hA, _, rfl, lb, _, rfl, hB, _, _, rfl, rfl, _, rfl, ?_⟩
  refine ite2 (fun c => ?_) (fun c => ?_)
  · have c' := of_decide_eq_true c
    rw [iv_len, iv_len] at c'
    refine ⟨_, rfl, _, rfl, _, _, rfl, ?_⟩
    have hlt : b0.length < a0.length := by omega
    obtain ⟨a, ha⟩ : ∃ a, a = b0 := ⟨_, rfl⟩
    obtain ⟨b, hb⟩ : ∃ b, b = a0 := ⟨_, rfl⟩
    subst ha hb
    have er : rpE (2 ^ S.w) S.c (g + 1) b a = rpB (2 ^ S.w) S.c (rpE (2 ^ S.w) S.c g) a b := by rw [rpE, if_pos hlt]
    refine ⟨_, rfl, lb, _, rfl, hB, rfl, _, rfl, ?_⟩
    by_cases z0 : a.length = 0
    · rw [show decide (V.int ((iv a).length : Nat) = V.int 0) = true from decide_eq_true (by rw [iv_len, z0]; rfl)]
      refine iteT ?_
      refine ⟨by show 0 ≤ sizeLine; decide, fun l hl => ?_⟩
      refine q l _ hl (Kp.new hl) ?_ ?_
      · rw [er]
        unfold rpB
        rw [if_pos z0, MS.ops_nil]
        exact M.same (same_upd hl)
      · rw [upd_same, (Int.mul_comm (val (2 ^ S.w) b) (val (2 ^ S.w) a)), List.length_eq_zero_iff.mp z0]
        show some (HO.lst (iv [])) = some (HO.lst (iv (digs (2 ^ S.w) (0 * val (2 ^ S.w) b))))
        rw [Int.zero_mul, digs_zero (Int.le_refl 0)]
    rw [show decide (V.int ((iv a).length : Nat) = V.int 0) = false from decide_eq_false (fun z => z0 (by rw [iv_len] at z; have := V.int.inj z; omega))]
    refine iteF ?_
    refine ⟨_, rfl, lb, _, rfl, hB, _, rfl, ?_⟩
    refine fld_limit T M ⟨_, _, rfl, rfl, _, rfl, ?_⟩
    by_cases z1 : a.length ≤ S.c
    · rw [show decide ((((iv a).length : Nat) : Int) ≤ ((S.c : Nat) : Int)) = true from decide_eq_true (by rw [iv_len]; omega)]
      refine iteT ?_
      refine ⟨_, rfl, _, rfl, _, rfl, p, d, e, S, lb, a, la, b, rfl, M, hB, nB, hA, nA, dB0, dA0, by omega, by omega, fun l rr H1 n1 k1 M1 h1 d1 v1 => ?_⟩
      refine ⟨l, rr, 2 ^ S.w, rfl, M.b2, Sq.lst h1, d1, fun l2 H2 n2 s2 h2 => ?_⟩
      rw [v1] at h2
      refine q l2 H2 (k1.ch M1 n2) (k1.trans (Kp.of s2)) ?_ ?_
      · rw [er]
        unfold rpB
        rw [if_neg z0, if_pos z1]
        exact M1.same s2
      · rw [(Int.mul_comm (val (2 ^ S.w) b) (val (2 ^ S.w) a))]
        exact h2
    rw [show decide ((((iv a).length : Nat) : Int) ≤ ((S.c : Nat) : Int)) = false from decide_eq_false (by rw [iv_len]; omega)]
    refine iteF ?_
    have c2 := M.c1
    have tw : (2 : Int) * ((a.length : Nat) : Int) = ((2 * a.length : Nat) : Int) := by omega
    refine ⟨_, rfl, lb, _, rfl, hB, 2, (iv a).length, rfl, rfl, by decide, _, rfl, la, _, rfl, hA, _, _, rfl, rfl, _, rfl, ?_⟩
    by_cases z2 : 2 * a.length ≤ b.length
    · rw [show decide (((2 * (iv a).length : Nat) : Int) ≤ (((iv b).length : Nat) : Int)) = true from decide_eq_true (by rw [iv_len, iv_len]; omega)]
      refine iteT ?_
      refine ⟨_, rfl, _, rfl, _, rfl, p, d, e, S, lb, a, la, b, rfl, M, hB, nB, hA, nA, dB0, dA0, by omega, by omega, hF.swap, by omega, by omega, fun l H1 n1 k1 M1 h1 => ?_⟩
      refine q l H1 n1 k1 ?_ ?_
      · rw [er]
        unfold rpB
        rw [if_neg z0, if_neg z1, if_pos z2]
        exact M1
      · rw [(Int.mul_comm (val (2 ^ S.w) b) (val (2 ^ S.w) a))]
        exact h1
    · rw [show decide (((2 * (iv a).length : Nat) : Int) ≤ (((iv b).length : Nat) : Int)) = false from decide_eq_false (by rw [iv_len, iv_len]; omega)]
      refine iteF ?_
      refine ⟨_, rfl, _, rfl, _, rfl, p, d, e, S, lb, a, la, b, rfl, M, hB, nB, hA, nA, dB0, dA0, by omega, by omega, hF.swap, by omega, by omega, by omega, fun l H1 n1 k1 M1 h1 => ?_⟩
      refine q l H1 n1 k1 ?_ ?_
      · rw [er]
        unfold rpB
        rw [if_neg z0, if_neg z1, if_neg z2]
        exact M1
      · rw [(Int.mul_comm (val (2 ^ S.w) b) (val (2 ^ S.w) a))]
        exact h1
  · have c' := of_decide_eq_false (Bool.eq_false_iff.mpr c)
    rw [iv_len, iv_len] at c'
    obtain ⟨a, ha⟩ : ∃ a, a = a0 := ⟨_, rfl⟩
    obtain ⟨b, hb⟩ : ∃ b, b = b0 := ⟨_, rfl⟩
    subst ha hb
    have er : rpE (2 ^ S.w) S.c (g + 1) a b = rpB (2 ^ S.w) S.c (rpE (2 ^ S.w) S.c g) a b := by rw [rpE, if_neg (by omega)]
    refine ⟨_, rfl, la, _, rfl, hA, rfl, _, rfl, ?_⟩
    by_cases z0 : a.length = 0
    · rw [show decide (V.int ((iv a).length : Nat) = V.int 0) = true from decide_eq_true (by rw [iv_len, z0]; rfl)]
      refine iteT ?_
      refine ⟨by show 0 ≤ sizeLine; decide, fun l hl => ?_⟩
      refine q l _ hl (Kp.new hl) ?_ ?_
      · rw [er]
        unfold rpB
        rw [if_pos z0, MS.ops_nil]
        exact M.same (same_upd hl)
      · rw [upd_same, (show val (2 ^ S.w) a * val (2 ^ S.w) b = val (2 ^ S.w) a * val (2 ^ S.w) b from rfl), List.length_eq_zero_iff.mp z0]
        show some (HO.lst (iv [])) = some (HO.lst (iv (digs (2 ^ S.w) (0 * val (2 ^ S.w) b))))
        rw [Int.zero_mul, digs_zero (Int.le_refl 0)]
    rw [show decide (V.int ((iv a).length : Nat) = V.int 0) = false from decide_eq_false (fun z => z0 (by rw [iv_len] at z; have := V.int.inj z; omega))]
    refine iteF ?_
    refine ⟨_, rfl, la, _, rfl, hA, _, rfl, ?_⟩
    refine fld_limit T M ⟨_, _, rfl, rfl, _, rfl, ?_⟩
    by_cases z1 : a.length ≤ S.c
    · rw [show decide ((((iv a).length : Nat) : Int) ≤ ((S.c : Nat) : Int)) = true from decide_eq_true (by rw [iv_len]; omega)]
      refine iteT ?_
      refine ⟨_, rfl, _, rfl, _, rfl, p, d, e, S, la, a, lb, b, rfl, M, hA, nA, hB, nB, dA0, dB0, by omega, by omega, fun l rr H1 n1 k1 M1 h1 d1 v1 => ?_⟩
      refine ⟨l, rr, 2 ^ S.w, rfl, M.b2, Sq.lst h1, d1, fun l2 H2 n2 s2 h2 => ?_⟩
      rw [v1] at h2
      refine q l2 H2 (k1.ch M1 n2) (k1.trans (Kp.of s2)) ?_ ?_
      · rw [er]
        unfold rpB
        rw [if_neg z0, if_pos z1]
        exact M1.same s2
      · rw [(show val (2 ^ S.w) a * val (2 ^ S.w) b = val (2 ^ S.w) a * val (2 ^ S.w) b from rfl)]
        exact h2
    rw [show decide ((((iv a).length : Nat) : Int) ≤ ((S.c : Nat) : Int)) = false from decide_eq_false (by rw [iv_len]; omega)]
    refine iteF ?_
    have c2 := M.c1
    have tw : (2 : Int) * ((a.length : Nat) : Int) = ((2 * a.length : Nat) : Int) := by omega
    refine ⟨_, rfl, la, _, rfl, hA, 2, (iv a).length, rfl, rfl, by decide, _, rfl, lb, _, rfl, hB, _, _, rfl, rfl, _, rfl, ?_⟩
    by_cases z2 : 2 * a.length ≤ b.length
    · rw [show decide (((2 * (iv a).length : Nat) : Int) ≤ (((iv b).length : Nat) : Int)) = true from decide_eq_true (by rw [iv_len, iv_len]; omega)]
      refine iteT ?_
      refine ⟨_, rfl, _, rfl, _, rfl, p, d, e, S, la, a, lb, b, rfl, M, hA, nA, hB, nB, dA0, dB0, by omega, by omega, hF, by omega, by omega, fun l H1 n1 k1 M1 h1 => ?_⟩
      refine q l H1 n1 k1 ?_ ?_
      · rw [er]
        unfold rpB
        rw [if_neg z0, if_neg z1, if_pos z2]
        exact M1
      · rw [(show val (2 ^ S.w) a * val (2 ^ S.w) b = val (2 ^ S.w) a * val (2 ^ S.w) b from rfl)]
        exact h1
    · rw [show decide (((2 * (iv a).length : Nat) : Int) ≤ (((iv b).length : Nat) : Int)) = false from decide_eq_false (by rw [iv_len, iv_len]; omega)]
      refine iteF ?_
      refine ⟨_, rfl, _, rfl, _, rfl, p, d, e, S, la, a, lb, b, rfl, M, hA, nA, hB, nB, dA0, dB0, by omega, by omega, hF, by omega, by omega, by omega, fun l H1 n1 k1 M1 h1 => ?_⟩
      refine q l H1 n1 k1 ?_ ?_
      · rw [er]
        unfold rpB
        rw [if_neg z0, if_neg z1, if_neg z2]
        exact M1
      · rw [(show val (2 ^ S.w) a * val (2 ^ S.w) b = val (2 ^ S.w) a * val (2 ^ S.w) b from rfl)]
        exact h1
end
end T87
namespace T87
open PySem PySem.Spec PyProof.Rows L2
def MID : Int := 2 ^ 2000
def multOps (B : Int) (c : Nat) (u v : Int) : List Op := if (digs B u).length ≤ 1 ∧ (digs B v).length ≤ 1 then [.ct "short" 1] else rpE B c 11 (digs B u) (digs B v)
def spMult (K : PySem.W.Frag) : Sp := fun vs H Q _ => ∃ p d e S x u y v, vs = [.ref p, .ref x, .ref y] ∧ MachAt (CM K) H p d e S ∧ BigAt (CB K) H x S.w u ∧ BigAt (CB K) H y S.w v ∧ u < MID ∧ v < MID ∧
  ∀ z H', H z = none → Kp [d, e] H H' → MachAt (CM K) H' p d e (S.ops (multOps (2 ^ S.w) S.c u v)) → BigAt (CB K) H' z S.w (u * v) → Q (.ref z) H'
theorem mid_len2 {w : Nat} (h : 8 ≤ w) {v : Int} (v0 : 0 ≤ v) (hv : v < MID) : (digs (2 ^ w) v).length ≤ 250 := by
  refine digs_len (two_pow (by omega)) v0 ?_
  rw [← Int.pow_mul]
  exact Int.lt_of_lt_of_le hv (ipow_le (b := 2) (by decide) (show 2000 ≤ w * 250 by omega))
theorem mid_mul {u v : Int} (u0 : 0 ≤ u) (v0 : 0 ≤ v) (hu : u < MID) (hv : v < MID) : u * v < BIG := by
  have h1 : u * v ≤ u * MID := Int.mul_le_mul_of_nonneg_left (Int.le_of_lt hv) u0
  have h2 : u * MID < MID * MID := Int.mul_lt_mul_of_pos_right hu (ipow_pos (by decide) _)
  have h3 : MID * MID ≤ BIG := by
    unfold MID BIG
    rw [← Int.pow_add]
    exact ipow_le (by decide) (by decide)
  omega
theorem mid_big : MID ≤ BIG := ipow_le (b := 2) (by decide) (show 2000 ≤ 8000 by decide)
theorem one_digit {B v : Int} (hB : 2 ≤ B) (v0 : 0 ≤ v) (h : (digs B v).length ≤ 1) : v < B := by
  have h1 := val_lt (show (0 : Int) < B by omega) (digs_dg hB v0)
  rw [val_digs hB v0] at h1
  have h2 := ipow_le (b := B) (by omega) h
  rw [Int.pow_succ, Int.pow_zero, Int.one_mul] at h2
  omega
section
variable {P : Program} {w : World} {K : PySem.W.Frag} {mg : Str → Option Value} {base : Heap} (T : Tx K mg)
include T
theorem ok_row_product : ∀ g : Nat, Cl P w K mg base (2 * g + 4) "row_product" ["machine", "a", "b"] (spRP K g)
  | 0 => by
    refine cl_of (N := ["machine", "a", "b"]) (k := 3) T.f_row_product T.m_row_product (by decide +kernel) (fun _ _ _ _ _ _ us hl => match us, hl with | [_, _, _], _ => rfl) (fun vs H Q E h => ?_) (fun cdv A outer s H vs Q E hr h => ?_)
    · obtain ⟨p, d, e, S, la, a, lb, b, rfl, _⟩ := h
      rfl
    obtain ⟨p, d, e, S, la, a0, lb, b0, rfl, M, hA, nA, hB, nB, dA0, dB0, zA, zB, hF, q⟩ := h
    exact absurd hF.pos (by decide)
  | g + 1 => ok_row_product1 T (ok_row_product g)
theorem ok_multiplied : Cl P w K mg base 27 "multiplied" ["machine", "x", "y"] (spMult K) := by
  refine cl_of (N := ["machine", "x", "y"]) T.f_multiplied T.m_multiplied (by decide +kernel) (fun _ _ _ _ _ _ us hl => match us, hl with | [_, _, _], _ => rfl) (fun vs H Q E h => ?_) (fun cdv A outer s H vs Q E hr h => ?_)
  · obtain ⟨p, d, e, S, x, u, y, v, rfl, _⟩ := h
    rfl
  obtain ⟨p, d, e, S, x, u, y, v, rfl, M, X1, Y1, hu, hv, q⟩ := h
  have B2 := M.b2
  have w1 : 1 ≤ S.w := by have := M.w1; omega
  have w2 : S.w ≤ 100 := by have := M.w2; omega
  have u0 := X1.nn
  have v0 := Y1.nn
  have hbig := mid_mul u0 v0 hu hv
  have du := digs_dg B2 u0
  have dv := digs_dg B2 v0
  refine ⟨_, (pss_cons (ps_if (PW.pt (pw_and (pt_val (pe_cl (ok_is_compact T) hr (by omega) (pa_cons (pv 1) pa_nil))) (pw_and1 (pt_val (pe_cl (ok_is_compact T) hr (by omega) (pa_cons (pv 2) pa_nil)))))) (pss_cons (ps_expr (pe_mt (ok_count T) hr (by omega) (pv 0) (pa_cons pe_str (pa_cons pe_int pa_nil))))
  (pss_one
  (ps_ret (pe_cl (ok_big_of T) hr (by omega) (pa_cons (pv 0) (pa_cons (pe_op op_mul (pe_cl (ok_value_of T) hr (by omega) (pa_cons (pv 1) pa_nil)) (pe_cl (ok_value_of T) hr (by omega) (pa_cons (pv 2) pa_nil))) pa_nil)))))) pss_nil)
  (pss_one
  (ps_ret (pe_cl (ok_made T) hr (by omega) (pa_cons (pv 0) (pa_cons (pe_op op_mul (pe_fld (pv 1) rfl) (pe_fld (pv 2) rfl)) (pa_cons (pe_cl (ok_row_product T 11) hr (by omega) (pa_cons (pv 0) (pa_cons (pe_fld (pv 1) rfl) (pa_cons (pe_fld (pv 2) rfl) pa_nil)))) pa_nil))))))), ?_⟩
  have tail : ¬ ((digs (2 ^ S.w) u).length ≤ 1 ∧ (digs (2 ^ S.w) v).length ≤ 1) → ∀ tx ty, H tx = some (.tup (iv (digs (2 ^ S.w) u))) → H ty = some (.tup (iv (digs (2 ^ S.w) v))) →
      spRP K 11 [.ref p, .ref tx, .ref ty] H (fun l H1 => spMade K [.ref p, .int (sgn u * sgn v), l] H1 Q E0) E0 := fun hn tx ty htx hty => by
    obtain ⟨ts, h2, _⟩ := M.en
    refine ⟨p, d, e, S, tx, _, ty, _, rfl, M, Sq.tup htx, ne_of htx h2 (by intro z; cases z), Sq.tup hty, ne_of hty h2 (by intro z; cases z), du, dv, ?_, ?_, ?_, fun l H1 n1 k1 M1 h1 => ?_⟩
    · exact Nat.le_trans (mid_len2 M.w1 u0 hu) (by decide)
    · exact Nat.le_trans (mid_len2 M.w1 v0 hv) (by decide)
    · exact .inr (.inr ⟨8, by decide, Nat.le_trans (mid_len2 M.w1 u0 hu) (by decide), Nat.le_trans (mid_len2 M.w1 v0 hv) (by decide)⟩)
    rw [val_digs B2 u0, val_digs B2 v0] at h1
    refine ⟨p, d, e, _, _, l, digs (2 ^ S.w) (u * v), rfl, M1, h1, ?_⟩
    rw [MS.ops_w, val_digs B2 (Int.mul_nonneg u0 v0)]
    refine ⟨digs_dg B2 (Int.mul_nonneg u0 v0), fun hp => ?_, fun z H2 n2 s2 B => ?_⟩
    · unfold sgn
      rw [if_neg (fun e => by rw [e, Int.zero_mul] at hp; omega), if_neg (fun e => by rw [e, Int.mul_zero] at hp; omega)]
      rfl
    refine q z H2 (k1.ch M1 n2) (k1.trans (Kp.of s2)) ?_ B
    unfold multOps
    rw [if_neg hn]
    exact M1.same s2
  refine ⟨_, rfl, x, S.w, u, rfl, X1, _, rfl, ?_⟩
  by_cases hx : (digs (2 ^ S.w) u).length ≤ 1
  · rw [decide_eq_true (show (((digs (2 ^ S.w) u).length : Nat) : Int) ≤ 1 by omega)]
    refine iteT ?_
    refine ⟨_, rfl, y, S.w, v, rfl, Y1, _, rfl, ?_⟩
    by_cases hy : (digs (2 ^ S.w) v).length ≤ 1
    · rw [decide_eq_true (show (((digs (2 ^ S.w) v).length : Nat) : Int) ≤ 1 by omega)]
      refine iteT ?_
      refine ⟨_, rfl, ?_⟩
      refine M.self (m := "count") (by decide +kernel) ?_
      refine ⟨p, d, e, S, "short", 1, rfl, M, by decide +kernel, fun H1 k1 M1 => ?_⟩
      have X2 := X1.keep M k1
      have Y2 := Y1.keep M k1
      have hu30 := one_digit B2 u0 hx
      have w30 : (2 : Int) ^ S.w ≤ 2 ^ 30 := ipow_le (by decide) M.w2
      refine ⟨_, rfl, _, rfl, x, S.w, u, rfl, X2, w1, w2, Int.lt_of_lt_of_le hu mid_big, fun H2 s2 => ?_⟩
      refine ⟨_, rfl, y, S.w, v, rfl, Y2.same s2, w1, w2, Int.lt_of_lt_of_le hv mid_big, fun H3 s3 => ?_⟩
      refine ⟨_, _, rfl, rfl, .inl ⟨by omega, by omega⟩, ?_⟩
      refine ⟨p, d, e, _, u * v, rfl, (M1.same s2).same s3, Int.mul_nonneg u0 v0, hbig, fun z H4 n4 s4 B => ?_⟩
      rw [MS.op_w] at B
      refine q z H4 ((k1.trans (Kp.of (s2.trans s3))).ch ((M1.same s2).same s3) n4) (k1.trans (Kp.of (s2.trans (s3.trans s4)))) ?_ B
      unfold multOps
      rw [if_pos ⟨hx, hy⟩]
      exact ((M1.same s2).same s3).same s4
    · rw [decide_eq_false (show ¬ (((digs (2 ^ S.w) v).length : Nat) : Int) ≤ 1 by omega)]
      refine iteF ?_
      refine ⟨_, rfl, _, rfl, ?_⟩
      refine fld_side T X1 ⟨_, rfl, ?_⟩
      refine fld_side T Y1 ⟨_, _, rfl, rfl, .inl (sgn_bound u), _, rfl, _, rfl, ?_⟩
      refine fld_row T X1 fun tx htx => ⟨_, rfl, ?_⟩
      refine fld_row T Y1 fun ty hty => ?_
      exact tail (by omega) tx ty htx hty
  · rw [decide_eq_false (show ¬ (((digs (2 ^ S.w) u).length : Nat) : Int) ≤ 1 by omega)]
    refine iteF ?_
    refine iteF ?_
    refine ⟨_, rfl, _, rfl, ?_⟩
    refine fld_side T X1 ⟨_, rfl, ?_⟩
    refine fld_side T Y1 ⟨_, _, rfl, rfl, .inl (sgn_bound u), _, rfl, _, rfl, ?_⟩
    refine fld_row T X1 fun tx htx => ⟨_, rfl, ?_⟩
    refine fld_row T Y1 fun ty hty => ?_
    exact tail (by omega) tx ty htx hty
theorem ok_multiply : Cl P w K mg base 28 "multiply" ["machine", "x", "y"] (spMult K) := by
  refine cl_of (N := ["machine", "x", "y"]) T.f_multiply T.m_multiply (by decide +kernel) (fun _ _ _ _ _ _ us hl => match us, hl with | [_, _, _], _ => rfl) (fun vs H Q E h => ?_) (fun cdv A outer s H vs Q E hr h => ?_)
  · obtain ⟨p, d, e, S, x, u, y, v, rfl, _⟩ := h
    rfl
  obtain ⟨p, d, e, S, x, u, y, v, rfl, M, X1, Y1, hu, hv, q⟩ := h
  refine ⟨_, (pss_cons (ps_expr (pe_cl (ok_check_bigs T) hr (by omega) (pa_cons (pv 0) (pa_cons (pv 1) (pa_cons (pv 2) pa_nil)))))
  (pss_one
  (ps_ret (pe_cl (ok_multiplied T) hr (by omega) (pa_cons (pv 0) (pa_cons (pv 1) (pa_cons (pv 2) pa_nil))))))), ?_⟩
  refine ⟨_, rfl, _, rfl, _, rfl, p, d, e, S, x, u, y, v, rfl, M, X1, Y1, ?_⟩
  exact ⟨_, rfl, _, rfl, _, rfl, p, d, e, S, x, u, y, v, rfl, M, X1, Y1, hu, hv, q⟩
end
end T87
namespace T87
open PySem PySem.Spec PyProof.Rows L2
/-! ### the number of rows -/
def worth (n : Int) : Nat → Int
  | 0 => 1
  | k + 1 => worth n k * (n - k)
theorem worth_add (n : Int) (a : Nat) : ∀ b : Nat, worth n (a + b) = worth n a * worth (n - a) b
  | 0 => by
    show worth n a = worth n a * 1
    rw [Int.mul_one]
  | b + 1 => by
    show worth n (a + b) * (n - ((a + b : Nat) : Int)) = worth n a * (worth (n - a) b * (n - a - b))
    rw [worth_add n a b, Int.mul_assoc, show n - ((a + b : Nat) : Int) = n - a - b by omega]
theorem worth_pos {n : Int} : ∀ {k : Nat}, (k : Int) ≤ n → 1 ≤ worth n k
  | 0, _ => Int.le_refl 1
  | k + 1, h => by
    have h1 := worth_pos (n := n) (k := k) (by omega)
    show 1 ≤ worth n k * (n - k)
    have := Int.mul_le_mul_of_nonneg_left (show 1 ≤ n - k by omega) (show 0 ≤ worth n k by omega)
    omega
theorem worth_mono {n : Int} {a b : Nat} (h : ((a + b : Nat) : Int) ≤ n) : worth n a ≤ worth n (a + b) ∧ worth (n - a) b ≤ worth n (a + b) := by
  have h1 := worth_pos (n := n) (k := a) (by omega)
  have h2 := worth_pos (n := n - a) (k := b) (by omega)
  rw [worth_add]
  have h3 := Int.mul_le_mul_of_nonneg_left h2 (show 0 ≤ worth n a by omega)
  have h4 := Int.mul_le_mul_of_nonneg_right h1 (show 0 ≤ worth (n - a) b by omega)
  omega
def rowsOps (B : Int) (c : Nat) : Nat → Int → Nat → List Op
  | 0, n, k => [.en "perm" n k]
  | j + 1, n, k => if worth n k < 2 ^ 64 then [.en "perm" n k] else
      [.en "perm" n k] ++ rowsOps B c j n (k / 2) ++ rowsOps B c j (n - (k / 2 : Nat)) (k - k / 2) ++ multOps B c (worth n (k / 2)) (worth (n - (k / 2 : Nat)) (k - k / 2))
def spSmall : Sp := fun vs H Q _ => ∃ (n : Int) (k : Nat), vs = [.int n, .int (k : Nat)] ∧ (k : Int) ≤ n ∧ k ≤ 1000 ∧ (worth n k < 2 ^ 64 → Q (.int (worth n k)) H) ∧ (¬ worth n k < 2 ^ 64 → Q .non H)
def spRowsM (K : PySem.W.Frag) (j : Nat) : Sp := fun vs H Q _ => ∃ p d e S n k, vs = [.ref p, .int n, .int (k : Nat)] ∧ MachAt (CM K) H p d e S ∧ (k : Int) ≤ n ∧ n < 2 ^ 63 ∧ k ≤ 2 ^ j ∧ k ≤ 1000 ∧ worth n k < MID ∧
  ∀ z H', H z = none → Kp [d, e] H H' → MachAt (CM K) H' p d e (S.ops (rowsOps (2 ^ S.w) S.c j n k)) → BigAt (CB K) H' z S.w (worth n k) → Q (.ref z) H'
def spThings (K : PySem.W.Frag) : Sp := fun vs H Q _ => ∃ p d e S n k, vs = [.ref p, .int n, .int (k : Nat)] ∧ MachAt (CM K) H p d e S ∧ 0 ≤ n ∧ n < 2 ^ 63 ∧ Q .non H
def permV (n : Int) (k : Nat) : Int := if n < k then 0 else worth n k
def permOps (B : Int) (c : Nat) (n : Int) (k : Nat) : List Op := if n < k then [] else rowsOps B c 8 n k
def spPerm (K : PySem.W.Frag) : Sp := fun vs H Q _ => ∃ p d e S n k, vs = [.ref p, .int n, .int (k : Nat)] ∧ MachAt (CM K) H p d e S ∧ 0 ≤ n ∧ n < 2 ^ 63 ∧ ((k : Int) ≤ n → k ≤ 200 ∧ worth n k < MID) ∧
  ∀ z H', H z = none → Kp [d, e] H H' → MachAt (CM K) H' p d e (S.ops (permOps (2 ^ S.w) S.c n k)) → BigAt (CB K) H' z S.w (permV n k) → Q (.ref z) H'
def spSub (K : PySem.W.Frag) : Nat → Sp
  | 0 => fun _ _ _ _ => False
  | j + 1 => spRowsM K j
theorem rowsOps_lt {B : Int} {c : Nat} {n : Int} {k : Nat} (h : worth n k < 2 ^ 64) : ∀ {j : Nat}, rowsOps B c j n k = [.en "perm" n (k : Nat)]
  | 0 => rfl
  | j + 1 => by rw [rowsOps, if_pos h]
theorem ifSm {A B : Prop} {x : Int} (h : A) : if (!decide (V.int x = V.non)) = true then A else B := by
  rw [decide_eq_false (show ¬ V.int x = V.non by intro z; cases z)]
  exact iteT h
theorem ifNn {A B : Prop} (h : B) : if (!decide (V.non = V.non)) = true then A else B := by
  rw [decide_eq_true (show V.non = V.non from rfl)]
  exact iteF h
theorem w64 : (2 : Int) ^ 64 ≤ BIG := ipow_le (b := 2) (by decide) (show 64 ≤ 8000 by decide)
section
variable {P : Program} {w : World} {K : PySem.W.Frag} {mg : Str → Option Value} {base : Heap} (T : Tx K mg)
include T
theorem ok_small_row : Cl P w K mg base 1 "small_row" ["n", "k"] spSmall := by
  refine cl_of (N := ["n", "k", "found", "turn"]) T.f_small_row T.m_small_row (by decide +kernel) (fun _ _ _ _ _ _ us hl => match us, hl with | [_, _], _ => rfl) (fun vs H Q E h => ?_) (fun cdv A outer s H vs Q E hr h => ?_)
  · obtain ⟨n, k, rfl, _⟩ := h
    rfl
  obtain ⟨n, k, rfl, hk, hk2, q1, q2⟩ := h
  have nd : (["n", "k", "found", "turn"] : List Str).Nodup := by decide +kernel
  obtain ⟨hu_WORD_BITSv, hu_WORD_BITS, ru_WORD_BITS⟩ := T.i_WORD_BITS
  refine ⟨_, (pss_cons (ps_set (i := 2) nd rfl (Or.inl rfl) pe_int)
  (pss_cons (ps_for PassesOwn.never rfl (pi_range1 (by rfl) T.b_range (pa_cons (pv 1) pa_nil)) (pg_name (i := 3) nd rfl (Or.inl rfl)) (pss_cons (ps_set (i := 2) nd rfl (Or.inl rfl) (pe_op op_mul (pv 2) (pe_op op_sub (pv 0) (pv 3))))
  (pss_one
  (ps_if (pt_cmpR op_gt (pe_op op_shrN (pv 2) (pe_glob rfl hu_WORD_BITS ru_WORD_BITS)) pe_int (nomark _)) (pss_one
  (ps_ret pe_non)) pss_nil))))
  (pss_one
  (ps_ret (pv 2))))), ?_⟩
  refine ⟨_, rfl, (k : Nat), rfl, by omega, by omega, for_range (n := k) (fun i σ H2 => ∃ u, H2 = H ∧ i ≤ k ∧ worth n i < 2 ^ 64 ∧ σ = [some (.int n), some (.int (k : Nat)), some (.int (worth n i)), u]) ?_ ?_ ?_⟩
  · exact ⟨none, rfl, Nat.zero_le _, by show (1 : Int) < 2 ^ 64; decide, rfl⟩
  · rintro i σ H2 hi ⟨u, rfl, _, hw, rfl⟩
    have hp := worth_pos (n := n) (k := i) (by omega)
    rw [Int.zero_add]
    refine ⟨_, rfl, _, rfl, _, rfl, _, _, rfl, rfl, _, _, rfl, rfl, .inl ⟨by omega, hw⟩, ?_⟩
    refine ⟨_, rfl, worth n (i + 1), 64, rfl, rfl, _, _, rfl, rfl, _, rfl, ?_⟩
    have hp1 := worth_pos (n := n) (k := i + 1) (by omega)
    by_cases hb : worth n (i + 1) < 2 ^ 64
    · rw [decide_eq_false (show ¬ (0 : Int) < worth n (i + 1) / 2 ^ 64 by rw [Int.ediv_eq_zero_of_lt (by omega) hb]; decide)]
      refine iteF ?_
      exact ⟨_, rfl, hi, hb, rfl⟩
    · rw [decide_eq_true (show (0 : Int) < worth n (i + 1) / 2 ^ 64 by
        have := Int.le_ediv_of_mul_le (show (0 : Int) < 2 ^ 64 by decide) (show 1 * 2 ^ 64 ≤ worth n (i + 1) by omega)
        omega)]
      refine iteT ?_
      have hm := (worth_mono (n := n) (a := i + 1) (b := k - (i + 1)) (by omega)).1
      rw [show i + 1 + (k - (i + 1)) = k by omega] at hm
      exact q2 (by omega)
  · rintro σ H2 ⟨u, rfl, _, hw, rfl⟩
    exact ⟨_, rfl, q1 hw⟩
theorem ok_rows_step {j : Nat} (RM : Cl P w K mg base (27 + j) "rows_made" ["machine", "n", "k"] (spSub K j)) : Cl P w K mg base (28 + j) "rows_made" ["machine", "n", "k"] (spRowsM K j) := by
  refine cl_of (N := ["machine", "n", "k", "small", "half", "first"]) (k := 27 + j) T.f_rows_made T.m_rows_made (by decide +kernel) (fun _ _ _ _ _ _ us hl => match us, hl with | [_, _, _], _ => rfl) (fun vs H Q E h => ?_) (fun cdv A outer s H vs Q E hr h => ?_) |>.mono (by omega)
  · obtain ⟨p, d, e, S, n, k, rfl, _⟩ := h
    rfl
  obtain ⟨p, d, e, S, n, k, rfl, M, hk, hn, hj, hk2, hw, q⟩ := h
  have nd : (["machine", "n", "k", "small", "half", "first"] : List Str).Nodup := by decide +kernel
  have wp := worth_pos hk
  refine ⟨_, (pss_cons (ps_expr (pe_mt (ok_enter T) hr (by omega) (pv 0) (pa_cons pe_str (pa_cons (pv 1) (pa_cons (pv 2) pa_nil)))))
  (pss_cons (ps_set (i := 3) nd rfl (Or.inl rfl) (pe_cl (ok_small_row T) hr (by omega) (pa_cons (pv 1) (pa_cons (pv 2) pa_nil))))
  (pss_cons (ps_if (pt_cmpR op_notN (pv 3) pe_non (nomark _)) (pss_one
  (ps_ret (pe_cl (ok_big_of T) hr (by omega) (pa_cons (pv 0) (pa_cons (pv 3) pa_nil))))) pss_nil)
  (pss_cons (ps_set (i := 4) nd rfl (Or.inl rfl) (pe_op op_fdivNN (pv 2) pe_int))
  (pss_cons (ps_set (i := 5) nd rfl (Or.inl rfl) (pe_cl RM hr (by omega) (pa_cons (pv 0) (pa_cons (pv 1) (pa_cons (pv 4) pa_nil)))))
  (pss_one
  (ps_ret (pe_cl (ok_multiplied T) hr (by omega) (pa_cons (pv 0) (pa_cons (pv 5) (pa_cons (pe_cl RM hr (by omega) (pa_cons (pv 0) (pa_cons (pe_op op_sub (pv 1) (pv 4)) (pa_cons (pe_op op_subN (pv 2) (pv 4)) pa_nil)))) pa_nil))))))))))), ?_⟩
  refine ⟨_, rfl, ?_⟩
  refine M.self (m := "enter") (by decide +kernel) ?_
  refine ⟨_, rfl, _, rfl, p, d, e, S, "perm", n, (k : Nat), rfl, M, fun H1 k1 M1 => ?_⟩
  refine ⟨_, rfl, _, rfl, n, k, rfl, hk, hk2, fun hlt => ?_, fun hge => ?_⟩
  · refine ⟨_, rfl, rfl, _, rfl, ifSm ?_⟩
    refine ⟨_, rfl, _, rfl, p, d, e, _, _, rfl, M1, by omega, Int.lt_of_lt_of_le hlt w64, fun z H2 n2 s2 B => ?_⟩
    rw [MS.op_w] at B
    refine q z H2 (k1.ch M1 n2) (k1.trans (Kp.of s2)) ?_ B
    rw [rowsOps_lt hlt]
    exact M1.same s2
  · refine ⟨_, rfl, rfl, _, rfl, ifNn ?_⟩
    obtain ⟨i, rfl⟩ : ∃ i, j = i + 1 := by
      cases j with
      | succ i => exact ⟨i, rfl⟩
      | zero =>
        refine absurd ?_ hge
        rw [Nat.pow_zero] at hj
        rcases (show k = 0 ∨ k = 1 by omega) with rfl | rfl
        · show (1 : Int) < 2 ^ 64
          decide
        · show 1 * (n - ((0 : Nat) : Int)) < 2 ^ 64
          omega
    rw [Nat.pow_succ] at hj
    replace M1 : MachAt (CM K) H1 p d e (S.ops [.en "perm" n (k : Nat)]) := M1
    have hkh : k / 2 + (k - k / 2) = k := by omega
    have wm := worth_mono (n := n) (a := k / 2) (b := k - k / 2) (by rw [hkh]; exact hk)
    rw [hkh] at wm
    have hp1 := worth_pos (n := n) (k := k / 2) (by omega)
    have hp2 := worth_pos (n := n - (k / 2 : Nat)) (k := k - k / 2) (by omega)
    refine ⟨_, rfl, k, 2, rfl, rfl, ⟨by decide, by decide⟩, ?_⟩
    refine ⟨_, rfl, _, rfl, _, rfl, p, d, e, _, n, k / 2, rfl, M1, by omega, hn, by omega, by omega, by omega, fun z1 H2 n2 k2 M2 B2 => ?_⟩
    rw [MS.ops_w, MS.ops_c, ← MS.ops_app] at M2
    rw [MS.ops_w] at B2
    refine ⟨_, rfl, _, rfl, _, rfl, _, rfl, _, rfl, _, _, rfl, rfl, _, rfl, _, rfl, k, k / 2, rfl, rfl, by omega, ?_⟩
    refine ⟨p, d, e, _, n - (k / 2 : Nat), k - k / 2, rfl, M2, by omega, by omega, by omega, by omega, by omega, fun z2 H3 n3 k3 M3 B3 => ?_⟩
    rw [MS.ops_w, MS.ops_c, ← MS.ops_app] at M3
    rw [MS.ops_w] at B3
    refine ⟨p, d, e, _, z1, worth n (k / 2), z2, worth (n - (k / 2 : Nat)) (k - k / 2), rfl, M3, ?_⟩
    rw [MS.ops_w, MS.ops_c]
    refine ⟨B2.keep M2 k3, B3, by omega, by omega, fun z H4 n4 k4 M4 B4 => ?_⟩
    rw [← MS.ops_app] at M4
    have kk := ((k1.trans k2).trans k3)
    refine q z H4 (kk.ch M3 n4) (kk.trans k4) ?_ ?_
    · rw [rowsOps, if_neg hge]
      exact M4
    · have ew := worth_add n (k / 2) (k - k / 2)
      rw [hkh] at ew
      rw [ew]
      exact B4
theorem ok_rows_made : ∀ j : Nat, Cl P w K mg base (28 + j) "rows_made" ["machine", "n", "k"] (spRowsM K j)
  | 0 => by
    refine ok_rows_step T (cl_of (N := ["machine", "n", "k", "small", "half", "first"]) (k := 26) T.f_rows_made T.m_rows_made (by decide +kernel) (fun _ _ _ _ _ _ us hl => match us, hl with | [_, _, _], _ => rfl) (fun vs H Q E h => ?_) (fun cdv A outer s H vs Q E hr h => ?_))
    · exact h.elim
    · exact h.elim
  | j + 1 => ok_rows_step T ((ok_rows_made j).mono (by omega))
theorem ok_check_things : Cl P w K mg base 4 "check_things" ["machine", "n", "k"] (spThings K) := by
  refine cl_of (N := ["machine", "n", "k"]) T.f_check_things T.m_check_things (by decide +kernel) (fun _ _ _ _ _ _ us hl => match us, hl with | [_, _, _], _ => rfl) (fun vs H Q E h => ?_) (fun cdv A outer s H vs Q E hr h => ?_)
  · obtain ⟨p, d, e, S, n, k, rfl, _⟩ := h
    rfl
  obtain ⟨p, d, e, S, n, k, rfl, M, h0, h1, q⟩ := h
  obtain ⟨_, hu_MOST_THINGS, ru_MOST_THINGS⟩ := T.i_MOST_THINGS
  refine ⟨_, (pss_cons (ps_expr (pe_cl (ok_check_machine T) hr (by omega) (pa_cons (pv 0) pa_nil)))
  (pss_cons (ps_expr (pe_cl (ok_check_between T) hr (by omega) (pa_cons pe_str (pa_cons (pv 1) (pa_cons pe_int (pa_cons (pe_glob rfl hu_MOST_THINGS ru_MOST_THINGS) pa_nil))))))
  (pss_cons (ps_expr (pe_cl (ok_check_integer T) hr (by omega) (pa_cons pe_str (pa_cons (pv 2) pa_nil))))
  (pss_one
  (ps_if (pt_cmpR op_lt (pv 2) pe_int (nomark _)) (pss_one
  ps_never) pss_nil))))), ?_⟩
  refine ⟨_, rfl, p, d, e, S, rfl, M, ?_⟩
  refine ⟨_, rfl, _, n, 0, 9223372036854775807, rfl, h0, by omega, ?_⟩
  refine ⟨_, rfl, _, (k : Nat), rfl, ?_⟩
  refine ⟨_, rfl, _, _, rfl, rfl, _, rfl, ?_⟩
  rw [decide_eq_false (show ¬ ((k : Nat) : Int) < 0 by omega)]
  exact iteF q
theorem perm_ok {fd : FuncData} (F : FunD K "perm" "perm" (defArgs s_perm) (defBody s_perm) (defScope s_perm) [] [] (He.ga K "perm") fd) : FnOk P w K mg base CX0 37 (He.ga K "perm") fd ["machine", "n", "k"] (spPerm K) := by
  refine F.ok (N := ["machine", "n", "k"]) (C8.fnScope_by (by decide +kernel)) (fun vs H Q E h => ?_) (fun cdv A outer s H vs Q E hr h => ?_)
  · obtain ⟨p, d, e, S, n, k, rfl, _⟩ := h
    rfl
  obtain ⟨p, d, e, S, n, k, rfl, M, h0, h1, hk, q⟩ := h
  obtain ⟨_, hu_MOST_CHOSEN, ru_MOST_CHOSEN⟩ := T.i_MOST_CHOSEN
  refine ⟨_, PSs.nox ((pss_cons (ps_expr (pe_cl (ok_check_things T) hr (by omega) (pa_cons (pv 0) (pa_cons (pv 1) (pa_cons (pv 2) pa_nil)))))
  (pss_cons (ps_if (pt_cmpR op_gt (pv 2) (pv 1) (nomark _)) (pss_one
  (ps_ret (pe_cl (ok_big_of T) hr (by omega) (pa_cons (pv 0) (pa_cons pe_int pa_nil))))) pss_nil)
  (pss_cons (ps_if (pt_cmpR op_gt (pv 2) (pe_glob rfl hu_MOST_CHOSEN ru_MOST_CHOSEN) (nomark _)) (pss_one
  ps_never) pss_nil)
  (pss_one
  (ps_ret (pe_cl (ok_rows_made T 8) hr (by omega) (pa_cons (pv 0) (pa_cons (pv 1) (pa_cons (pv 2) pa_nil)))))))))), ?_⟩
  refine ⟨_, rfl, _, rfl, _, rfl, p, d, e, S, n, k, rfl, M, h0, h1, ?_⟩
  refine ⟨_, rfl, _, rfl, _, _, rfl, rfl, _, rfl, ?_⟩
  by_cases c : n < (k : Nat)
  · rw [decide_eq_true c]
    refine iteT ?_
    refine ⟨_, rfl, p, d, e, S, 0, rfl, M, Int.le_refl 0, ipow_pos (by decide) _, fun z H2 n2 s2 B => ?_⟩
    refine q z H2 n2 (Kp.of s2) ?_ ?_
    · unfold permOps
      rw [if_pos c]
      exact M.same s2
    · unfold permV
      rw [if_pos c]
      exact B
  · obtain ⟨hk1, hk2⟩ := hk (by omega)
    rw [decide_eq_false c]
    refine iteF ?_
    refine ⟨_, rfl, _, _, rfl, rfl, _, rfl, ?_⟩
    rw [decide_eq_false (show ¬ (400 : Int) < ((k : Nat) : Int) by omega)]
    refine iteF ?_
    refine ⟨_, rfl, _, rfl, _, rfl, p, d, e, S, n, k, rfl, M, by omega, h1, Nat.le_trans hk1 (by decide), by omega, hk2, fun z H2 n2 k2 M2 B => ?_⟩
    refine q z H2 n2 k2 ?_ ?_
    · unfold permOps
      rw [if_neg c]
      exact M2
    · unfold permV
      rw [if_neg c]
      exact B
theorem ok_perm : Cl P w K mg base 37 "perm" ["machine", "n", "k"] (spPerm K) := by
  obtain ⟨fd, F⟩ := T.f_perm
  exact ⟨⟨fd, perm_ok T F, F.bindsN fun _ _ _ _ _ _ us hl => match us, hl with | [_, _, _], _ => rfl⟩, T.m_perm, F.kp⟩
end
end T87
namespace T87
open PySem PySem.Spec PyProof.Rows L2
/-! ### what is entered, what is counted: the two machines side by side -/
def entsOf : List Op → List (Str × Int × Int)
  | [] => []
  | .en x m n :: l => (x, m, n) :: entsOf l
  | .ct _ _ :: l => entsOf l
theorem entsOf_app : ∀ a b : List Op, entsOf (a ++ b) = entsOf a ++ entsOf b
  | [], _ => rfl
  | .en x m n :: a, b => by
    show (x, m, n) :: entsOf (a ++ b) = (x, m, n) :: (entsOf a ++ entsOf b)
    rw [entsOf_app a b]
  | .ct _ _ :: a, b => entsOf_app a b
theorem ops_ent : ∀ (l : List Op) (S : MS), S.ent.length ≤ 1000 → (S.ops l).ent = S.ent ++ (entsOf l).take (1000 - S.ent.length)
  | [], S, _ => by
    show S.ent = S.ent ++ List.take _ []
    rw [List.take_nil, List.append_nil]
  | .en x m n :: l, S, h => by
    show ((S.op (.en x m n)).ops l).ent = S.ent ++ ((x, m, n) :: entsOf l).take (1000 - S.ent.length)
    have e : S.op (.en x m n) = if S.ent.length < 1000 then { S with ent := S.ent ++ [(x, m, n)] } else S := rfl
    by_cases c : S.ent.length < 1000
    · rw [if_pos c] at e
      rw [e, ops_ent l _ (by show (S.ent ++ [(x, m, n)]).length ≤ 1000; rw [List.length_append, List.length_singleton]; omega)]
      show (S.ent ++ [(x, m, n)]) ++ (entsOf l).take (1000 - (S.ent ++ [(x, m, n)]).length) = _
      rw [List.length_append, List.length_singleton, show 1000 - S.ent.length = (1000 - (S.ent.length + 1)) + 1 by omega, List.take_succ_cons, List.append_assoc]
      rfl
    · rw [if_neg c] at e
      rw [e, ops_ent l S h, show 1000 - S.ent.length = 0 by omega]
      rfl
  | .ct x k :: l, S, h => ops_ent l (S.op (.ct x k)) h
def csum : List Op → Str → Int
  | [], _ => 0
  | .en _ _ _ :: l, x => csum l x
  | .ct y k :: l, x => (if x = y then k else 0) + csum l x
theorem csum_app (x : Str) : ∀ a b : List Op, csum (a ++ b) x = csum a x + csum b x
  | [], b => by
    show csum b x = 0 + csum b x
    rw [Int.zero_add]
  | .en _ _ _ :: a, b => csum_app x a b
  | .ct y k :: a, b => by
    show (if x = y then k else 0) + csum (a ++ b) x = (if x = y then k else 0) + csum a x + csum b x
    rw [csum_app x a b, Int.add_assoc]
theorem ops_cnt (x : Str) : ∀ (l : List Op) (S : MS), (S.ops l).cnt x = S.cnt x + csum l x
  | [], S => by
    show S.cnt x = S.cnt x + 0
    rw [Int.add_zero]
  | .en y m n :: l, S => by
    show ((S.op (.en y m n)).ops l).cnt x = S.cnt x + csum l x
    rw [ops_cnt x l]
    have e : S.op (.en y m n) = if S.ent.length < 1000 then { S with ent := S.ent ++ [(y, m, n)] } else S := rfl
    by_cases c : S.ent.length < 1000
    · rw [if_pos c] at e
      rw [e]
    · rw [if_neg c] at e
      rw [e]
  | .ct y k :: l, S => by
    show ((S.op (.ct y k)).ops l).cnt x = S.cnt x + ((if x = y then k else 0) + csum l x)
    rw [ops_cnt x l]
    show (if x = y then S.cnt x + k else S.cnt x) + csum l x = _
    by_cases c : x = y
    · rw [if_pos c, if_pos c, Int.add_assoc]
    · rw [if_neg c, if_neg c, Int.zero_add]
def dueOps (B : Int) (c : Nat) : Nat → Int → Nat → List Op
  | 0, _, _ => []
  | j + 1, n, k => if worth n k < 2 ^ 64 then [] else dueOps B c j n (k / 2) ++ dueOps B c j (n - (k / 2 : Nat)) (k - k / 2) ++ multOps B c (worth n (k / 2)) (worth (n - (k / 2 : Nat)) (k - k / 2))
theorem csum_due (B : Int) (c : Nat) (x : Str) : ∀ (j : Nat) (n : Int) (k : Nat), csum (rowsOps B c j n k) x = csum (dueOps B c j n k) x
  | 0, _, _ => rfl
  | j + 1, n, k => by
    rw [rowsOps, dueOps]
    by_cases h : worth n k < 2 ^ 64
    · rw [if_pos h, if_pos h]
      rfl
    · rw [if_neg h, if_neg h, csum_app, csum_app, csum_app, csum_app, csum_app, csum_due B c x j, csum_due B c x j]
      show 0 + _ + _ + _ = _
      rw [Int.zero_add]
def Rel (W : List (Str × Int × Int)) (n2 : Nat) (E : List (Str × Int × Int)) : Prop := W.take 1000 = E.take 1000 ∧ n2 ≤ W.length
theorem take_same {α : Type} {A B C D : List α} {N : Nat} (h : A.take N = B.take N) (g : A.length < N → C.take (N - A.length) = D.take (N - A.length)) : (A ++ C).take N = (B ++ D).take N := by
  have hl := congrArg List.length h
  rw [List.length_take, List.length_take] at hl
  by_cases c : N ≤ A.length
  · rw [List.take_append_of_le_length c, List.take_append_of_le_length (by omega), h]
  · rw [List.take_of_length_le (by omega), List.take_of_length_le (by omega)] at h
    subst h
    rw [List.take_append, List.take_append, g (by omega)]
theorem rel_push {W E : List (Str × Int × Int)} {n2 : Nat} (h : Rel W n2 E) (x : Str × Int × Int) : Rel (W ++ [x]) n2 (E ++ [x]) :=
  ⟨take_same h.1 fun _ => rfl, by rw [List.length_append]; have := h.2; omega⟩
theorem rel_ran {W E L : List (Str × Int × Int)} {n2 : Nat} (h : Rel W n2 E) (hn : n2 ≤ 1000) : Rel (W ++ L.take (1000 - n2)) (n2 + (L.take (1000 - n2)).length) (E ++ L) := by
  refine ⟨take_same h.1 fun c => ?_, by rw [List.length_append]; have := h.2; omega⟩
  rw [List.take_take, Nat.min_eq_left (by have := h.2; omega)]
/-! ### the words of what is entered -/
def okE (l : List Op) : Prop := ∀ x ∈ entsOf l, PyData.strOk x.1 = true
theorem okE.app {a b : List Op} (h : okE a) (g : okE b) : okE (a ++ b) := fun x hx => by
  rw [entsOf_app] at hx
  exact (List.mem_append.mp hx).elim (h x) (g x)
theorem okE.nil : okE [] := fun x hx => by cases hx
theorem okE.one {x : Str} {m n : Int} (h : PyData.strOk x = true) : okE [.en x m n] := fun y hy => by
  rw [List.mem_singleton.mp hy]
  exact h
theorem okE.two {x y : Str} {m n k : Int} (h : PyData.strOk x = true) : okE [.en x m n, .ct y k] := fun z hz => by
  rw [List.mem_singleton.mp hz]
  exact h
theorem okE.flat {f : Nat → List Op} (h : ∀ i, okE (f i)) : ∀ l : List Nat, okE (l.flatMap f)
  | [] => okE.nil
  | i :: l => by
    rw [List.flatMap_cons]
    exact (h i).app (okE.flat h l)
theorem ok_rpE (B : Int) (c : Nat) : ∀ (g : Nat) (a b : List Int), okE (rpE B c g a b)
  | 0, _, _ => okE.nil
  | g + 1, a, b => by
    have ih := ok_rpE B c g
    have body : ∀ a b, okE (rpB B c (rpE B c g) a b) := fun a b => by
      unfold rpB
      split
      · exact okE.nil
      split
      · exact okE.two (by decide +kernel)
      split
      · refine okE.app (okE.one (by decide +kernel)) (okE.flat (fun i => ?_) _)
        exact (ih _ _).app (okE.two (by decide +kernel))
      · refine ((((((((okE.one (by decide +kernel)).app (ih _ _)).app (ih _ _)).app ?_).app ?_).app ?_).app ?_).app (ih _ _)).app ?_
        all_goals exact okE.two (by decide +kernel)
    rw [rpE]
    split
    · exact body b a
    · exact body a b
theorem ok_mult (B : Int) (c : Nat) (u v : Int) : okE (multOps B c u v) := by
  unfold multOps
  split
  · intro x hx
    cases hx
  · exact ok_rpE B c 11 _ _
end T87
namespace T87
open PySem PySem.Spec PyProof.Rows L2
/-! ### odd numbers' products, ones, what is shifted -/
def oddP (lo : Int) : Nat → Int
  | 0 => 1
  | c + 1 => oddP lo c * (lo + 2 * c)
theorem oddP_add (lo : Int) (a : Nat) : ∀ b : Nat, oddP lo (a + b) = oddP lo a * oddP (lo + 2 * a) b
  | 0 => by
    show oddP lo a = oddP lo a * 1
    rw [Int.mul_one]
  | b + 1 => by
    show oddP lo (a + b) * (lo + 2 * ((a + b : Nat) : Int)) = oddP lo a * (oddP (lo + 2 * a) b * (lo + 2 * a + 2 * b))
    rw [oddP_add lo a b, Int.mul_assoc, show lo + 2 * ((a + b : Nat) : Int) = lo + 2 * a + 2 * b by omega]
theorem oddP_bd {lo : Int} (h0 : 1 ≤ lo) : ∀ {c : Nat}, lo + 2 * c ≤ 64 → 1 ≤ oddP lo c ∧ oddP lo c ≤ 64 ^ c
  | 0, _ => ⟨Int.le_refl 1, Int.le_refl 1⟩
  | c + 1, h => by
    obtain ⟨h1, h2⟩ := oddP_bd h0 (c := c) (by omega)
    show 1 ≤ oddP lo c * (lo + 2 * c) ∧ oddP lo c * (lo + 2 * c) ≤ 64 ^ (c + 1)
    have h3 := Int.mul_le_mul_of_nonneg_left (show 1 ≤ lo + 2 * c by omega) (show 0 ≤ oddP lo c by omega)
    have h4 := Int.mul_le_mul h2 (show lo + 2 * c ≤ 64 by omega) (by omega) (ipow_pos (by decide) c |> Int.le_of_lt)
    rw [Int.pow_succ]
    omega
theorem odd_mid {lo : Int} {c : Nat} (h0 : 1 ≤ lo) (h : lo + 2 * c ≤ 64) (hc : c ≤ 16) : oddP lo c < MID := by
  have h1 := (oddP_bd h0 h).2
  have h2 := ipow_le (b := 64) (by decide) hc
  have h3 : (64 : Int) ^ 16 < MID := by
    show (64 : Int) ^ 16 < 2 ^ 2000
    decide +kernel
  omega
theorem rgc_step {lo c : Nat} {s : Int} (hs : s = 2) (h : lo + 2 * c ≤ 64) : RgC (lo : Nat) ((lo + 2 * c : Nat) : Int) s c := by
  have e : Builtin.Range.rangeSize (lo : Nat) ((lo + 2 * c : Nat) : Int) s = (c : Nat) := by
    unfold Builtin.Range.rangeSize
    rw [hs, if_pos (by decide)]
    split <;> omega
  refine ⟨by omega, by omega, ?_, e⟩
  unfold Builtin.Range.small
  rw [e]
  simp only [Builtin.Range.rangeFitsLong, Bool.and_eq_true, Bool.or_eq_true, decide_eq_true_eq, beq_iff_eq]
  refine ⟨by omega, .inr ?_⟩
  rw [if_pos (by omega)]
  simp only [Bool.and_eq_true, decide_eq_true_eq]
  omega
theorem rgc_two {lo c : Nat} (h : lo + 2 * c ≤ 64) : RgC (lo : Nat) ((lo + 2 * c : Nat) : Int) 2 c := rgc_step rfl h
theorem op_orV {X : Cx} : OpR X (binaryOp .BitOr) (fun x y H Q => ∃ i j r, x = .int i ∧ y = .int j ∧ Builtin.bitOr i j = r ∧ Q (.int r) H) := by
  intro pins s σ H x y v u Q I rx ry h
  obtain ⟨i, j, r, e1, e2, rfl, q⟩ := h
  exact op_or pins s σ H x y v u Q I rx ry ⟨i, j, e1, e2, q⟩
theorem op_andV {X : Cx} : OpR X (binaryOp .BitAnd) (fun x y H Q => ∃ i j r, x = .int i ∧ y = .int j ∧ Builtin.bitAnd i j = r ∧ Q (.int r) H) := by
  intro pins s σ H x y v u Q I rx ry h
  obtain ⟨i, j, r, e1, e2, rfl, q⟩ := h
  exact op_and pins s σ H x y v u Q I rx ry ⟨i, j, e1, e2, q⟩
theorem mid_or : ∀ l < 64, l % 2 = 1 → ∀ c < 17, Builtin.bitOr ((l + c : Nat) : Int) 1 = ((l + 2 * ((c + 1) / 2) : Nat) : Int) := by decide +kernel
def onesN (n : Nat) : Nat := ((List.range 7).filter fun i => n.testBit i).length
theorem ones_turn : ∀ n : Nat, n < 64 → 0 < n → Builtin.bitAnd (n : Int) ((n : Int) - 1) = ((n &&& (n - 1) : Nat) : Int) ∧ (n &&& (n - 1)) < n ∧ onesN n = onesN (n &&& (n - 1)) + 1 := by decide +kernel
def spOdd (K : PySem.W.Frag) (b : Nat) : Sp := fun vs H Q _ => ∃ p d e S lo c, vs = [.ref p, .int (lo : Nat), .int ((lo + 2 * c : Nat) : Int)] ∧ MachAt (CM K) H p d e S ∧ 3 ≤ lo ∧ lo % 2 = 1 ∧ lo + 2 * c ≤ 63 ∧ c ≤ b ∧
  ∀ z H' S', H z = none → Kp [d, e] H H' → MachAt (CM K) H' p d e S' → S'.w = S.w → BigAt (CB K) H' z S.w (oddP lo c) → Q (.ref z) H'
def spNone : Sp := fun _ _ _ _ => False
def spOnes : Sp := fun vs H Q _ => ∃ n : Nat, vs = [.int (n : Nat)] ∧ n < 64 ∧ Q (.int (onesN n : Nat)) H
section
variable {P : Program} {w : World} {K : PySem.W.Frag} {mg : Str → Option Value} {base : Heap} (T : Tx K mg)
include T
theorem ok_odd_step {j b : Nat} {sp : Sp} (OP : Cl P w K mg base j "odd_product" ["machine", "low", "high"] sp) (hj : 27 ≤ j) (hb : b ≤ 16) (hsp : 8 < b → sp = spOdd K 8) : Cl P w K mg base (j + 1) "odd_product" ["machine", "low", "high"] (spOdd K b) := by
  refine cl_of (N := ["machine", "low", "high", "count", "found", "number", "middle", "first"]) T.f_odd_product T.m_odd_product (by decide +kernel) (fun _ _ _ _ _ _ us hl => match us, hl with | [_, _, _], _ => rfl) (fun vs H Q E h => ?_) (fun cdv A outer s H vs Q E hr h => ?_)
  · obtain ⟨p, d, e, S, lo, c, rfl, _⟩ := h
    rfl
  obtain ⟨p, d, e, S, lo, c, rfl, M, h3, hodd, h63, hc, q⟩ := h
  have nd : (["machine", "low", "high", "count", "found", "number", "middle", "first"] : List Str).Nodup := by decide +kernel
  obtain ⟨_, hu_WORD_BITS, ru_WORD_BITS⟩ := T.i_WORD_BITS
  refine ⟨_, (pss_cons (ps_expr (pe_mt (ok_enter T) hr (by omega) (pv 0) (pa_cons pe_str (pa_cons (pv 1) (pa_cons (pv 2) pa_nil)))))
  (pss_cons (ps_set (i := 3) nd rfl (Or.inl rfl) (pe_op op_fdivNN (pe_op op_subN (pv 2) (pv 1)) pe_int))
  (pss_cons (ps_if (PW.pt (pw_and (pt_cmpR op_le (pv 3) (pe_glob rfl hu_WORD_BITS ru_WORD_BITS) (nomark _)) (pw_and1 (pt_cmpR op_le (pe_op op_mulN (pv 3) (pe_bits (pe_op op_subN (pv 2) pe_int))) (pe_glob rfl hu_WORD_BITS ru_WORD_BITS) (nomark _))))) (pss_cons (ps_set (i := 4) nd rfl (Or.inl rfl) pe_int)
  (pss_cons (ps_for PassesOwn.never rfl (pi_range3 (by rfl) T.b_range (pa_cons (pv 1) (pa_cons (pv 2) (pa_cons pe_int pa_nil)))) (pg_name (i := 5) nd rfl (Or.inl rfl)) (pss_one
  (ps_set (i := 4) nd rfl (Or.inl rfl) (pe_op op_mulW (pv 4) (pv 5)))))
  (pss_one
  (ps_ret (pe_cl (ok_big_of T) hr (by omega) (pa_cons (pv 0) (pa_cons (pv 4) pa_nil))))))) pss_nil)
  (pss_cons (ps_set (i := 6) nd rfl (Or.inl rfl) (pe_op op_orV (pe_op op_addN (pv 1) (pv 3)) pe_int))
  (pss_cons (ps_set (i := 7) nd rfl (Or.inl rfl) (pe_cl OP hr (by omega) (pa_cons (pv 0) (pa_cons (pv 1) (pa_cons (pv 6) pa_nil)))))
  (pss_one
  (ps_ret (pe_cl (ok_multiplied T) hr (by omega) (pa_cons (pv 0) (pa_cons (pv 7) (pa_cons (pe_cl OP hr (by omega) (pa_cons (pv 0) (pa_cons (pv 6) (pa_cons (pv 2) pa_nil)))) pa_nil))))))))))), ?_⟩
  refine ⟨_, rfl, ?_⟩
  refine M.self (m := "enter") (by decide +kernel) ?_
  refine ⟨_, rfl, _, rfl, p, d, e, S, "odd part", _, _, rfl, M, fun H1 k1 M1 => ?_⟩
  refine ⟨_, rfl, _, rfl, lo + 2 * c, lo, rfl, rfl, by omega, lo + 2 * c - lo, 2, rfl, rfl, ⟨by decide, by decide⟩, ?_⟩
  rw [show (lo + 2 * c - lo) / 2 = c by omega]
  refine ⟨_, rfl, _, _, rfl, rfl, _, rfl, ?_⟩
  rw [decide_eq_true (show ((c : Nat) : Int) ≤ 64 by omega)]
  refine iteT ?_
  refine ⟨_, rfl, _, rfl, lo + 2 * c, 2, rfl, rfl, by omega, _, rfl, c, _, rfl, rfl, by omega, _, _, rfl, rfl, _, rfl, ?_⟩
  have ib : Builtin.Int.intBits ((lo + 2 * c - 2 : Nat) : Int) ≤ 6 := PyProof.Rows.intBits_le (by
    show (lo + 2 * c - 2 : Nat) < 2 ^ 6
    omega)
  by_cases hs : c * Builtin.Int.intBits ((lo + 2 * c - 2 : Nat) : Int) ≤ 64
  · rw [decide_eq_true (show ((c * Builtin.Int.intBits ((lo + 2 * c - 2 : Nat) : Int) : Nat) : Int) ≤ 64 by omega)]
    refine iteT ?_
    refine ⟨_, rfl, _, rfl, (lo : Nat), ((lo + 2 * c : Nat) : Int), 2, c, rfl, rgc_two (by omega), for_rangeC (fun i σ H2 => ∃ u6 u7 u8, H2 = H1 ∧ i ≤ c ∧ σ = [some (.ref p), some (.int (lo : Nat)), some (.int ((lo + 2 * c : Nat) : Int)), some (.int (c : Nat)), some (.int (oddP lo i)), u6, u7, u8]) ?_ ?_ ?_⟩
    · exact ⟨none, none, none, rfl, Nat.zero_le _, rfl⟩
    · rintro i σ H2 hi ⟨u6, u7, u8, rfl, _, rfl⟩
      have hb1 := oddP_bd (lo := lo) (by omega) (c := i) (by omega)
      have hb2 := odd_mid (lo := lo) (c := i) (by omega) (by omega) (by omega)
      rw [show ((lo : Nat) : Int) + (i : Nat) * 2 = lo + 2 * i by omega]
      refine ⟨_, rfl, _, rfl, _, _, rfl, rfl, wide_mul (a := 2000) (b := 7) (nat_abs_lt (by omega) hb2) (by omega) (by decide) (by decide) (by decide), ?_⟩
      exact ⟨some (.int (lo + 2 * i)), u7, u8, rfl, hi, rfl⟩
    · rintro σ H2 ⟨u6, u7, u8, rfl, _, rfl⟩
      have hb1 := oddP_bd (lo := lo) (by omega) (c := c) (by omega)
      have hb2 := odd_mid (lo := lo) (c := c) (by omega) (by omega) (by omega)
      refine ⟨_, rfl, _, rfl, p, d, e, _, _, rfl, M1, by omega, Int.lt_of_lt_of_le hb2 mid_big, fun z H3 n3 s3 B => ?_⟩
      rw [MS.op_w] at B
      exact q z H3 _ (k1.ch M1 n3) (k1.trans (Kp.of s3)) (M1.same s3) (MS.op_w _ _) B
  · rw [decide_eq_false (show ¬ ((c * Builtin.Int.intBits ((lo + 2 * c - 2 : Nat) : Int) : Nat) : Int) ≤ 64 by omega)]
    refine iteF ?_
    have c8 : 8 < c := by
      rcases Nat.lt_or_ge 8 c with z | z
      · exact z
      · have := Nat.mul_le_mul z ib
        omega
    obtain rfl := hsp (by omega)
    have em := mid_or lo (by omega) hodd c (by omega)
    refine ⟨_, rfl, _, rfl, lo, c, rfl, rfl, _, _, _, rfl, rfl, em, ?_⟩
    refine ⟨_, rfl, _, rfl, _, rfl, p, d, e, _, lo, (c + 1) / 2, rfl, M1, h3, hodd, by omega, by omega, fun z1 H2 S2 n2 k2 M2 w2 B2 => ?_⟩
    refine ⟨_, rfl, _, rfl, _, rfl, _, rfl, _, rfl, p, d, e, _, lo + 2 * ((c + 1) / 2), c - (c + 1) / 2, ?_, M2, by omega, by omega, by omega, by omega, fun z2 H3 S3 n3 k3 M3 w3 B3 => ?_⟩
    · rw [show lo + 2 * ((c + 1) / 2) + 2 * (c - (c + 1) / 2) = lo + 2 * c by omega]
    rw [MS.op_w] at w2 B2
    rw [w2] at w3 B3
    have o1 := oddP_bd (lo := lo) (by omega) (c := (c + 1) / 2) (by omega)
    have o2 := odd_mid (lo := lo) (c := (c + 1) / 2) (by omega) (by omega) (by omega)
    have o3 := odd_mid (lo := ((lo + 2 * ((c + 1) / 2) : Nat) : Int)) (c := c - (c + 1) / 2) (by omega) (by omega) (by omega)
    refine ⟨p, d, e, S3, z1, oddP lo ((c + 1) / 2), z2, oddP ((lo + 2 * ((c + 1) / 2) : Nat) : Int) (c - (c + 1) / 2), rfl, M3, ?_⟩
    rw [w3]
    refine ⟨B2.keep M2 k3, B3, o2, o3, fun z H4 n4 k4 M4 B4 => ?_⟩
    have kk := (k1.trans k2).trans k3
    refine q z H4 _ (kk.ch M3 n4) (kk.trans k4) M4 (by rw [MS.ops_w]; exact w3) ?_
    have ea := oddP_add lo ((c + 1) / 2) (c - (c + 1) / 2)
    rw [show (c + 1) / 2 + (c - (c + 1) / 2) = c by omega, show (lo : Int) + 2 * (((c + 1) / 2 : Nat) : Int) = ((lo + 2 * ((c + 1) / 2) : Nat) : Int) by omega] at ea
    rw [ea]
    exact B4
theorem ok_odd_product : Cl P w K mg base 29 "odd_product" ["machine", "low", "high"] (spOdd K 16) := by
  refine ok_odd_step T (b := 16) (j := 28) (sp := spOdd K 8) (ok_odd_step T (b := 8) (j := 27) (sp := spNone) (cl_of (N := ["machine", "low", "high", "count", "found", "number", "middle", "first"]) (k := 26) T.f_odd_product T.m_odd_product (by decide +kernel) (fun _ _ _ _ _ _ us hl => match us, hl with | [_, _, _], _ => rfl) (fun vs H Q E h => ?_) (fun cdv A outer s H vs Q E hr h => ?_)) (by decide) (by decide) (fun z => absurd z (by decide))) (by decide) (by decide) fun _ => rfl
  · exact h.elim
  · exact h.elim
theorem ok_ones_in : Cl P w K mg base 1 "ones_in" ["n"] spOnes := by
  refine cl_of (N := ["n", "found"]) T.f_ones_in T.m_ones_in (by decide +kernel) (fun _ _ _ _ _ _ us hl => match us, hl with | [_], _ => rfl) (fun vs H Q E h => ?_) (fun cdv A outer s H vs Q E hr h => ?_)
  · obtain ⟨n, rfl, _⟩ := h
    rfl
  obtain ⟨n, rfl, hn, q⟩ := h
  have nd : (["n", "found"] : List Str).Nodup := by decide +kernel
  refine ⟨_, (pss_cons (ps_set (i := 1) nd rfl (Or.inl rfl) pe_int)
  (pss_cons (ps_while PassesOwn.never (pt_cmpR op_gt (pv 0) pe_int (nomark _)) (pss_one
  (ps_par (i := 0) (j := 1) (by rfl) nd rfl rfl (by decide) rfl rfl (pa_cons (pe_op op_andV (pv 0) (pe_op op_sub (pv 0) pe_int)) (pa_cons (pe_op op_add (pv 1) pe_int) pa_nil)) (by rfl))))
  (pss_one
  (ps_ret (pv 1))))), ?_⟩
  refine ⟨fun m σ H2 => ∃ f : Nat, H2 = H ∧ m < 64 ∧ σ = [some (.int (m : Nat)), some (.int (f : Nat))] ∧ onesN m + f = onesN n, ⟨n, 0, rfl, hn, rfl, rfl⟩, ?_⟩
  rintro m σ H2 ⟨f, rfl, hm, rfl, hf⟩
  refine ⟨_, rfl, _, _, rfl, rfl, _, rfl, ?_⟩
  by_cases c : 0 < m
  · rw [decide_eq_true (show (0 : Int) < ((m : Nat) : Int) by omega)]
    refine iteT ?_
    obtain ⟨t1, t2, t3⟩ := ones_turn m hm c
    refine ⟨fun σ' H' => ∃ m', m' < m ∧ ∃ f : Nat, H' = H2 ∧ m' < 64 ∧ σ' = [some (.int (m' : Nat)), some (.int (f : Nat))] ∧ onesN m' + f = onesN n, fun σ' H' h => h, ?_⟩
    refine ⟨_, rfl, _, rfl, _, _, rfl, rfl, _, _, _, rfl, rfl, t1, _, rfl, _, _, rfl, rfl, _, _, rfl, ?_⟩
    exact ⟨m &&& (m - 1), t2, f + 1, rfl, by omega, rfl, by omega⟩
  · rw [decide_eq_false (show ¬ (0 : Int) < ((m : Nat) : Int) by omega)]
    refine iteF ?_
    obtain rfl : m = 0 := by omega
    have e0 : onesN 0 = 0 := by decide
    refine ⟨_, rfl, ?_⟩
    rw [show f = onesN n by omega]
    exact q
end
end T87
namespace T87
open PySem PySem.Spec PyProof.Rows L2
theorem and_comm2 (x y : Int) : Builtin.bitAnd x y = Builtin.bitAnd y x := by
  unfold Builtin.bitAnd
  cases h1 : decide (0 ≤ x) <;> cases h2 : decide (0 ≤ y) <;> simp only [Nat.and_comm, Nat.or_comm]
theorem or_comm2 (x y : Int) : Builtin.bitOr x y = Builtin.bitOr y x := by
  unfold Builtin.bitOr
  rw [and_comm2]
theorem op_orR {X : Cx} : OpR X (binaryOp .BitOr) (fun x y H Q => ∃ (a r : Int) (k : Nat), x = .int r ∧ y = .int (a * 2 ^ k) ∧ (0 ≤ a ∧ 0 ≤ r ∧ r < 2 ^ k) ∧ Q (.int (a * 2 ^ k + r)) H) := by
  intro pins s σ H x y v u Q I rx ry h
  obtain ⟨a, r, k, e1, e2, ⟨h1, h2, h3⟩, q⟩ := h
  refine op_or pins s σ H x y v u Q I rx ry ⟨r, a * 2 ^ k, e1, e2, ?_⟩
  show Q (.int (Builtin.bitOr r (a * 2 ^ k))) H
  rw [or_comm2, or_low h1 h2 h3]
  exact q
theorem call_divmodN {X : Cx} : CallR X (.builtin "divmod") (fun xs H Q => ∃ n m : Nat, xs = [.int (n : Nat), .int (m : Nat)] ∧ (0 < m ∧ m < 1000) ∧ ∀ p, H p = none → Q (.ref p) (upd H p (.tup [.int ((n / m : Nat) : Int), .int ((n % m : Nat) : Int)]))) := by
  intro pins s σ H xs us Q I r h
  obtain ⟨n, m, e, ⟨h1, h2⟩, q⟩ := h
  refine call_divmod pins s σ H xs us Q I r ⟨n, m, e, ⟨by omega, by omega⟩, fun p hp => ?_⟩
  rw [← Int.natCast_ediv, ← Int.natCast_emod]
  exact q p hp
theorem fld_sideE {K : PySem.W.Frag} {mg : Str → Option Value} {H : Hp} {x : Addr} {w : Nat} {v s : Int} {Q : V → Prop} (T : Tx K mg) (B : BigAt (CB K) H x w v) (hs : sgn v = s) (h : Q (.int s)) : ∃ a C dx fs v, V.ref x = .ref a ∧ H a = some (.ins C dx fs) ∧ Cls K C ∧ NoAttr K C "side" ∧ fs.lookup ("side" : Str) = some v ∧ Q v := by
  subst hs
  exact fld_side T B h
def spShift (K : PySem.W.Frag) : Sp := fun vs H Q _ => ∃ p d e S x u n, vs = [.ref p, .ref x, .int (n : Nat)] ∧ MachAt (CM K) H p d e S ∧ BigAt (CB K) H x S.w u ∧ 0 < u ∧ u < MID ∧ n ≤ 100 ∧
  ∀ z H' S', H z = none → Kp [d, e] H H' → MachAt (CM K) H' p d e S' → S'.w = S.w → BigAt (CB K) H' z S.w (u * 2 ^ n) → Q (.ref z) H'
section
variable {P : Program} {w : World} {K : PySem.W.Frag} {mg : Str → Option Value} {base : Heap} (T : Tx K mg)
include T
theorem ok_shifted_left : Cl P w K mg base 5 "shifted_left" ["machine", "x", "count"] (spShift K) := by
  refine cl_of (N := ["machine", "x", "count", "words", "low", "found", "rest", "digit"]) T.f_shifted_left T.m_shifted_left (by decide +kernel) (fun _ _ _ _ _ _ us hl => match us, hl with | [_, _, _], _ => rfl) (fun vs H Q E h => ?_) (fun cdv A outer s H vs Q E hr h => ?_)
  · obtain ⟨p, d, e, S, x, u, n, rfl, _⟩ := h
    rfl
  obtain ⟨p, d, e, S, x, u, n, rfl, M, X1, u0, u1, hn, q⟩ := h
  have nd : (["machine", "x", "count", "words", "low", "found", "rest", "digit"] : List Str).Nodup := by decide +kernel
  have B2 := M.b2
  have w1 : 8 ≤ S.w := M.w1
  have w2 : S.w ≤ 30 := M.w2
  have hsg : sgn u = 1 := by
    unfold sgn
    rw [if_neg (by omega)]
  refine ⟨_, (pss_cons (ps_asg (pe_callB call_divmodN (by rfl) T.b_divmod (by decide +kernel) (pa_cons (pv 2) (pa_cons (pe_fld (pv 0) rfl) pa_nil))) (pg_tup (by rfl) (pgs_cons (pg_name (i := 3) nd rfl (Or.inl rfl)) (pgs_cons (pg_name (i := 4) nd rfl (Or.inl rfl)) pgs_nil))))
  (pss_cons (ps_if (pt_cmpR op_eq (pe_fld (pv 1) rfl) pe_int (nomark _)) (pss_one
  (ps_ret (pv 1))) pss_nil)
  (pss_cons (ps_if (PW.pt (pw_and (pt_cmpR op_eq (pv 3) pe_int (nomark _)) (pw_and1 (pt_val (pe_cl (ok_is_compact T) hr (by omega) (pa_cons (pv 1) pa_nil)))))) (pss_cons (ps_expr (pe_mt (ok_count T) hr (by omega) (pv 0) (pa_cons pe_str (pa_cons pe_int pa_nil))))
  (pss_one
  (ps_ret (pe_cl (ok_big_of T) hr (by omega) (pa_cons (pv 0) (pa_cons (pe_op op_shlN (pe_cl (ok_value_of T) hr (by omega) (pa_cons (pv 1) pa_nil)) (pv 4)) pa_nil)))))) pss_nil)
  (pss_cons (ps_expr (pe_mt (ok_enter T) hr (by omega) (pv 0) (pa_cons pe_str (pa_cons (pe_callB call_lnQ (by rfl) T.b_len PySem.boot_len (pa_cons (pe_fld (pv 1) rfl) pa_nil)) (pa_cons (pv 2) pa_nil)))))
  (pss_cons (ps_par (i := 5) (j := 6) (by rfl) nd rfl rfl (by decide) rfl rfl (pa_cons (pe_op op_rep (pe_lst (pa_cons pe_int pa_nil)) (pv 3)) (pa_cons pe_int pa_nil)) (by rfl))
  (pss_cons (ps_for PassesOwn.never rfl (pi_tup (pe_fld (pv 1) rfl)) (pg_name (i := 7) nd rfl (Or.inl rfl)) (pss_cons (ps_set (i := 6) nd rfl (Or.inl rfl) (pe_op op_orR (pv 6) (pe_op op_shlN (pv 7) (pv 4))))
  (pss_cons (ps_expr (pe_bm PySem.F.plainAttrs_list PySem.F.slot_list_append PySem.F.type_list_append mt_append (pv 5) (pa_cons (pe_op op_mod (pv 6) (pe_fld (pv 0) rfl)) pa_nil)))
  (pss_one
  (ps_set (i := 6) nd rfl (Or.inl rfl) (pe_op op_shrN (pv 6) (pe_fld (pv 0) rfl)))))))
  (pss_cons (ps_expr (pe_mt (ok_count T) hr (by omega) (pv 0) (pa_cons pe_str (pa_cons (pe_callB call_lnQ (by rfl) T.b_len PySem.boot_len (pa_cons (pe_fld (pv 1) rfl) pa_nil)) pa_nil))))
  (pss_one
  (ps_ret (pe_cl (ok_made T) hr (by omega) (pa_cons (pv 0) (pa_cons (pe_fld (pv 1) rfl) (pa_cons (pe_op op_cat (pv 5) (pe_lst (pa_cons (pv 6) pa_nil))) pa_nil))))))))))))), ?_⟩
  refine ⟨_, rfl, _, rfl, ?_⟩
  refine fld_width T M ⟨n, S.w, rfl, ⟨by omega, by omega⟩, fun t0 ht0 => ?_⟩
  have s0 := same_upd (o := .tup [.int ((n / S.w : Nat) : Int), .int ((n % S.w : Nat) : Int)]) ht0
  refine ⟨t0, _, rfl, SqT.of upd_same, rfl, _, _, rfl, _, _, rfl, rfl, ?_⟩
  obtain ⟨wd, hwd⟩ : ∃ wd, wd = n / S.w := ⟨_, rfl⟩
  obtain ⟨lo, hlo⟩ : ∃ lo, lo = n % S.w := ⟨_, rfl⟩
  have hnw : n = S.w * wd + lo := by rw [hwd, hlo]; exact (Nat.div_add_mod n S.w).symm
  have hlw : lo < S.w := by rw [hlo]; exact Nat.mod_lt _ (by omega)
  have hwd2 : wd ≤ 100 := by rw [hwd]; exact Nat.le_trans (Nat.div_le_self ..) hn
  obtain ⟨H1, hH1⟩ : ∃ H1, H1 = upd H t0 (.tup [.int ((n / S.w : Nat) : Int), .int ((n % S.w : Nat) : Int)]) := ⟨_, rfl⟩
  rw [← hH1] at s0 ⊢
  rw [← hwd, ← hlo]
  have M1 := M.same s0
  have X2 := X1.same s0
  have k1 : Kp [d, e] H H1 := Kp.of s0
  refine ⟨_, rfl, ?_⟩
  refine fld_sideE T X2 hsg ⟨rfl, _, rfl, ?_⟩
  refine iteF ?_
  have hpow : (2 : Int) ^ n = (2 ^ S.w) ^ wd * 2 ^ lo := by rw [hnw, Int.pow_add, Int.pow_mul]
  have lo30 : (2 : Int) ^ lo ≤ 2 ^ 30 := ipow_le (by decide) (by omega)
  have lo0 : (0 : Int) < 2 ^ lo := ipow_pos (by decide) _
  have loB : (2 : Int) ^ lo * 2 ≤ 2 ^ S.w := by
    have := ipow_le (b := 2) (by decide) (show lo + 1 ≤ S.w by omega)
    rw [Int.pow_succ] at this
    exact this
  by_cases hA : wd = 0 ∧ (digs (2 ^ S.w) u).length ≤ 1
  · obtain ⟨z0, hcomp⟩ := hA
    refine ⟨_, rfl, rfl, _, rfl, ?_⟩
    rw [show decide (V.int (wd : Nat) = V.int 0) = true from decide_eq_true (by rw [z0]; rfl)]
    refine iteT ?_
    refine ⟨_, rfl, x, S.w, u, rfl, X2, _, rfl, ?_⟩
    rw [decide_eq_true (show (((digs (2 ^ S.w) u).length : Nat) : Int) ≤ 1 by omega)]
    refine iteT ?_
    refine ⟨_, rfl, ?_⟩
    refine M1.self (m := "count") (by decide +kernel) ?_
    refine ⟨p, d, e, S, "short", 1, rfl, M1, by decide +kernel, fun H2 k2 M2 => ?_⟩
    have X3 := X2.keep M1 k2
    refine ⟨_, rfl, _, rfl, x, S.w, u, rfl, X3, by omega, by omega, Int.lt_of_lt_of_le u1 mid_big, fun H3 s3 => ?_⟩
    refine ⟨_, rfl, u, lo, rfl, rfl, shl_ok (n := 2000) (nat_abs_lt (by omega) u1) (by omega), ?_⟩
    refine ⟨p, d, e, _, u * 2 ^ lo, rfl, M2.same s3, Int.mul_nonneg (by omega) (by omega), mid_mul (by omega) (by omega) u1 (Int.lt_of_le_of_lt lo30 (by show (2 : Int) ^ 30 < 2 ^ 2000; decide +kernel)), fun z H4 n4 s4 B => ?_⟩
    rw [MS.op_w] at B
    have kk := (k1.trans k2).trans (Kp.of s3)
    refine q z H4 _ (kk.ch (M2.same s3) n4) (kk.trans (Kp.of s4)) ((M2.same s3).same s4) (MS.op_w _ _) ?_
    rw [show n = lo by rw [hnw, z0]; omega]
    exact B
  · have l250 := mid_len2 w1 (by omega) u1
    by_cases z0 : wd = 0
    · refine ⟨_, rfl, rfl, _, rfl, ?_⟩
      rw [show decide (V.int (wd : Nat) = V.int 0) = true from decide_eq_true (by rw [z0]; rfl)]
      refine iteT ?_
      refine ⟨_, rfl, x, S.w, u, rfl, X2, _, rfl, ?_⟩
      rw [decide_eq_false (show ¬ (((digs (2 ^ S.w) u).length : Nat) : Int) ≤ 1 by omega)]
      refine iteF ?_
      refine ⟨_, rfl, ?_⟩
      refine M1.self (m := "enter") (by decide +kernel) ?_
      refine ⟨_, rfl, ?_⟩
      refine fld_row T X2 fun tx htx => ⟨tx, _, rfl, Sq.tup htx, _, rfl, ?_⟩
      refine ⟨p, d, e, S, "left", _, _, rfl, M1, fun H2 k2 M2 => ?_⟩
      have X3 := X2.keep M1 k2
      have htx2 := M1.kTup k2 htx
      have dR := digs_dg B2 (show 0 ≤ u by omega)
      have vR := val_digs B2 (show 0 ≤ u by omega)
      obtain ⟨R, hR⟩ : ∃ R, R = digs (2 ^ S.w) u := ⟨_, rfl⟩
      rw [← hR] at dR vR htx2 l250
      refine ⟨by show 1 ≤ sizeLine; decide, fun l0 hl0 => ?_⟩
      have s3 := same_upd (o := .lst [.int 0]) hl0
      refine ⟨_, rfl, l0, _, _, rfl, rfl, upd_same, by omega, by omega, ?_, fun r hr0 => ?_⟩
      · rw [Int.toNat_natCast, List.length_singleton]
        exact Nat.le_trans (by omega) (Nat.le_of_lt s1000)
      rw [zero_room (n := wd) (Int.toNat_natCast _)]
      refine ⟨_, _, rfl, ?_⟩
      obtain ⟨Hs, hHs⟩ : ∃ Hs, Hs = upd (upd H2 l0 (.lst [.int 0])) r (.lst (iv (List.replicate wd 0))) := ⟨_, rfl⟩
      have k3 : Kp [d, e] H (upd H2 l0 (.lst [.int 0])) := (k1.trans k2).fr hl0
      have M3 := M2.same s3
      have r0 : H r = none := k3.ch M3 hr0
      have nre : r ≠ e := M.neN r0
      have Ms := M3.same (same_upd (o := .lst (iv (List.replicate wd 0))) hr0)
      have hrs : Hs r = some (.lst (iv (List.replicate wd 0))) := by rw [hHs]; exact upd_same
      have ks : Kp [d, e] H Hs := by rw [hHs]; exact k3.fr hr0
      have sS : Same H2 Hs := by rw [hHs]; exact s3.trans (same_upd hr0)
      rw [← hHs] at Ms ⊢
      have Xs := X3.same sS
      refine ⟨_, rfl, ?_⟩
      obtain ⟨dxx, fsx, tx2, hx1, Fx, hx2⟩ := Xs.ob
      rw [← hR] at hx2
      refine ⟨x, _, dxx, fsx, _, rfl, hx1, T.c_Big, T.n_Big_row, Fx.rw_, ?_⟩
      have ntr : tx2 ≠ r := ne_of hx2 hrs (by intro z; cases z)
      refine ⟨tx2, rfl, ⟨_, SqT.of hx2⟩, for_tup (K := K) (a := tx2) (xs := iv R) (fun i σ H3 => ∃ f rest v7, σ = [some (.ref p), some (.ref x), some (.int (n : Nat)), some (.int (wd : Nat)), some (.int (lo : Nat)), some (.ref r), some (.int rest), v7] ∧ Kp [r] Hs H3 ∧ H3 r = some (.lst (iv f)) ∧ Dg (2 ^ S.w) f ∧ f.length = wd + i ∧ i ≤ R.length ∧ 0 ≤ rest ∧ rest < 2 ^ lo ∧
        val (2 ^ S.w) f + (2 ^ S.w) ^ (wd + i) * rest = (2 ^ S.w) ^ wd * 2 ^ lo * val (2 ^ S.w) (R.take i)) ?_ ?_ ?_ ?_⟩
      · refine ⟨_, 0, none, rfl, Kp.refl _ _, hrs, Dg.zeros (by omega) _, by rw [List.length_replicate]; rfl, Nat.zero_le _, Int.le_refl 0, lo0, ?_⟩
        rw [val_zeros, List.take_zero, Int.mul_zero]
        show (0 : Int) + 0 = _ * (0 : Int)
        rw [Int.mul_zero]
        rfl
      · rintro i σ H3 _ ⟨f, rest, v7, rfl, kp, _⟩
        exact SqT.of (kp tx2 _ hx2 (by simpa using ntr))
      · rintro i y σ H3 hy ⟨f, rest, v7, rfl, kp, hf, df, lf, hi, re0, re1, vf⟩
        obtain ⟨dg, hdg, rfl⟩ := iv_of hy
        have hi2 : i < R.length := (List.getElem?_eq_some_iff.mp hdg).1
        have ddg := dR.get hdg
        have M4 : MachAt (CM K) H3 p d e _ := Ms.lstK hrs nre kp
        refine ⟨_, rfl, _, rfl, _, rfl, dg, lo, rfl, rfl, shl_ok (n := 30) (nat_abs_lt ddg.1 (Int.lt_of_lt_of_le ddg.2 (ipow_le (by decide) w2))) (by omega), dg, rest, lo, rfl, rfl, ⟨ddg.1, re0, re1⟩, ?_⟩
        have tot : dg * 2 ^ lo + rest < 2 ^ S.w * 2 ^ lo := by
          have := Int.mul_le_mul_of_nonneg_right (show dg ≤ 2 ^ S.w - 1 by omega) (show (0 : Int) ≤ 2 ^ lo by omega)
          rw [Int.sub_mul, Int.one_mul] at this
          omega
        have tot0 : 0 ≤ dg * 2 ^ lo + rest := by
          have := Int.mul_nonneg ddg.1 (show (0 : Int) ≤ 2 ^ lo by omega)
          omega
        refine ⟨_, rfl, ?_⟩
        refine ⟨.inl ⟨rfl, _, SqL.of hf⟩, _, rfl, _, rfl, ?_⟩
        refine fld_baseE T M4 (MS.op_w _ _) ?_
        refine ⟨_, _, rfl, rfl, ipow_pos (by decide) _, ?_⟩
        refine ⟨r, _, _, rfl, rfl, hf, ?_, ?_⟩
        · rw [iv_len, lf]
          exact Nat.lt_of_le_of_lt (show wd + i ≤ 1000 by omega) s1000
        refine ⟨_, rfl, _, rfl, ?_⟩
        refine fld_widthE T (M4.lst hf nre) (MS.op_w _ _) ?_
        refine ⟨_, S.w, rfl, rfl, ?_⟩
        refine ⟨f ++ [(dg * 2 ^ lo + rest) % 2 ^ S.w], (dg * 2 ^ lo + rest) / 2 ^ S.w, some (.int dg), rfl, kp.trans (Kp.put (by simp)), ?_, df.append (Dg.cons (Int.emod_nonneg _ (by omega)) (Int.emod_lt_of_pos _ (by omega)) Dg.nil), by rw [List.length_append, lf]; rfl, hi2, Int.ediv_nonneg tot0 (by omega), Int.ediv_lt_of_lt_mul (by omega) (by rw [Int.mul_comm (2 ^ lo) (2 ^ S.w)]; exact tot), ?_⟩
        · rw [upd_same, ← iv_app] <;> rfl
        · rw [val_append, lf, val_take_succ _ hdg, show wd + (i + 1) = wd + i + 1 from rfl, Int.pow_succ]
          show val (2 ^ S.w) f + (2 ^ S.w) ^ (wd + i) * ((dg * 2 ^ lo + rest) % 2 ^ S.w + 2 ^ S.w * 0) + _ = _
          have t4 : (dg * 2 ^ lo + rest) % 2 ^ S.w + 2 ^ S.w * ((dg * 2 ^ lo + rest) / 2 ^ S.w) = dg * 2 ^ lo + rest := Int.emod_add_mul_ediv ..
          rw [Int.pow_add] at vf ⊢
          generalize (dg * 2 ^ lo + rest) % 2 ^ S.w = XX at t4 ⊢
          generalize (dg * 2 ^ lo + rest) / 2 ^ S.w = YY at t4 ⊢
          generalize val (2 ^ S.w) f = V1 at vf ⊢
          generalize val (2 ^ S.w) (R.take i) = V3 at vf ⊢
          generalize ((2 : Int) ^ S.w) ^ i = P1 at vf ⊢
          generalize ((2 : Int) ^ S.w) ^ wd = P2 at vf ⊢
          generalize (2 : Int) ^ S.w = BB at t4 ⊢
          generalize (2 : Int) ^ lo = LL at t4 vf ⊢
          grind
      · rintro σ H3 ⟨f, rest, v7, rfl, kp, hf, df, lf, hi, re0, re1, vf⟩
        rw [iv_len] at lf vf
        rw [List.take_length, vR] at vf
        have M4 : MachAt (CM K) H3 p d e _ := Ms.lstK hrs nre kp
        have hx1' := kp x _ hx1 (by simpa using ne_of hx1 hrs (by intro z; cases z))
        have hx2' := kp tx2 _ hx2 (by simpa using ntr)
        have X4 : BigAt (CB K) H3 x S.w u := ⟨⟨dxx, fsx, tx2, hx1', Fx, by rw [← hR]; exact hx2'⟩, by omega⟩
        refine ⟨_, rfl, ?_⟩
        refine M4.self (m := "count") (by decide +kernel) ?_
        refine ⟨_, rfl, ?_⟩
        refine fld_row T X4 fun tx3 htx3 => ⟨tx3, _, rfl, Sq.tup htx3, ?_⟩
        refine ⟨p, d, e, _, "shifted", _, rfl, M4, by decide +kernel, fun H4 k4 M5 => ?_⟩
        have hf4 := M4.kLst k4 hf nre
        have X5 := X4.keep M4 k4
        refine ⟨_, rfl, _, rfl, ?_⟩
        refine fld_sideE T X5 hsg ?_
        refine ⟨_, rfl, _, rfl, by show 1 ≤ sizeLine; decide, fun g hg => ?_⟩
        refine ⟨r, g, _, _, rfl, rfl, by rw [upd_ne (ne_of_none hf4 hg)]; exact hf4, upd_same, ?_, fun l hl => ?_⟩
        · rw [iv_len, lf]
          exact Nat.le_trans (by rw [List.length_singleton]; omega) (Nat.le_of_lt s1000)
        have dF : Dg (2 ^ S.w) (f ++ [rest]) := df.append (Dg.cons re0 (by omega) Dg.nil)
        have vF : val (2 ^ S.w) (f ++ [rest]) = u * 2 ^ n := by
          rw [val_append, lf, hpow]
          show val (2 ^ S.w) f + (2 ^ S.w) ^ (wd + R.length) * (rest + 2 ^ S.w * 0) = _
          rw [Int.mul_zero, Int.add_zero, vf, Int.mul_comm]
        have kk := ((ks.own r0 (kp.mono (by simp))).trans k4)
        have M6 := (M5.same (same_upd (o := .lst [.int rest]) hg)).same (same_upd (o := .lst (iv f ++ [.int rest])) hl)
        refine ⟨p, d, e, _, 1, l, f ++ [rest], rfl, M6, by rw [upd_same, ← iv_app]; rfl, ?_⟩
        rw [MS.op_w, MS.op_w, vF]
        refine ⟨dF, fun _ => rfl, fun z H5 n5 s5 B => ?_⟩
        exact q z H5 _ (((kk.fr hg).fr hl).ch M6 n5) (((kk.fr hg).fr hl).trans (Kp.of s5)) (M6.same s5) (by rw [MS.op_w, MS.op_w]) B
    · refine ⟨_, rfl, rfl, _, rfl, ?_⟩
      rw [show decide (V.int (wd : Nat) = V.int 0) = false from decide_eq_false (fun z => z0 (by have := V.int.inj z; omega))]
      refine iteF ?_
      refine iteF ?_
      refine ⟨_, rfl, ?_⟩
      refine M1.self (m := "enter") (by decide +kernel) ?_
      refine ⟨_, rfl, ?_⟩
      refine fld_row T X2 fun tx htx => ⟨tx, _, rfl, Sq.tup htx, _, rfl, ?_⟩
      refine ⟨p, d, e, S, "left", _, _, rfl, M1, fun H2 k2 M2 => ?_⟩
      have X3 := X2.keep M1 k2
      have htx2 := M1.kTup k2 htx
      have dR := digs_dg B2 (show 0 ≤ u by omega)
      have vR := val_digs B2 (show 0 ≤ u by omega)
      obtain ⟨R, hR⟩ : ∃ R, R = digs (2 ^ S.w) u := ⟨_, rfl⟩
      rw [← hR] at dR vR htx2 l250
      refine ⟨by show 1 ≤ sizeLine; decide, fun l0 hl0 => ?_⟩
      have s3 := same_upd (o := .lst [.int 0]) hl0
      refine ⟨_, rfl, l0, _, _, rfl, rfl, upd_same, by omega, by omega, ?_, fun r hr0 => ?_⟩
      · rw [Int.toNat_natCast, List.length_singleton]
        exact Nat.le_trans (by omega) (Nat.le_of_lt s1000)
      rw [zero_room (n := wd) (Int.toNat_natCast _)]
      refine ⟨_, _, rfl, ?_⟩
      obtain ⟨Hs, hHs⟩ : ∃ Hs, Hs = upd (upd H2 l0 (.lst [.int 0])) r (.lst (iv (List.replicate wd 0))) := ⟨_, rfl⟩
      have k3 : Kp [d, e] H (upd H2 l0 (.lst [.int 0])) := (k1.trans k2).fr hl0
      have M3 := M2.same s3
      have r0 : H r = none := k3.ch M3 hr0
      have nre : r ≠ e := M.neN r0
      have Ms := M3.same (same_upd (o := .lst (iv (List.replicate wd 0))) hr0)
      have hrs : Hs r = some (.lst (iv (List.replicate wd 0))) := by rw [hHs]; exact upd_same
      have ks : Kp [d, e] H Hs := by rw [hHs]; exact k3.fr hr0
      have sS : Same H2 Hs := by rw [hHs]; exact s3.trans (same_upd hr0)
      rw [← hHs] at Ms ⊢
      have Xs := X3.same sS
      refine ⟨_, rfl, ?_⟩
      obtain ⟨dxx, fsx, tx2, hx1, Fx, hx2⟩ := Xs.ob
      rw [← hR] at hx2
      refine ⟨x, _, dxx, fsx, _, rfl, hx1, T.c_Big, T.n_Big_row, Fx.rw_, ?_⟩
      have ntr : tx2 ≠ r := ne_of hx2 hrs (by intro z; cases z)
      refine ⟨tx2, rfl, ⟨_, SqT.of hx2⟩, for_tup (K := K) (a := tx2) (xs := iv R) (fun i σ H3 => ∃ f rest v7, σ = [some (.ref p), some (.ref x), some (.int (n : Nat)), some (.int (wd : Nat)), some (.int (lo : Nat)), some (.ref r), some (.int rest), v7] ∧ Kp [r] Hs H3 ∧ H3 r = some (.lst (iv f)) ∧ Dg (2 ^ S.w) f ∧ f.length = wd + i ∧ i ≤ R.length ∧ 0 ≤ rest ∧ rest < 2 ^ lo ∧
        val (2 ^ S.w) f + (2 ^ S.w) ^ (wd + i) * rest = (2 ^ S.w) ^ wd * 2 ^ lo * val (2 ^ S.w) (R.take i)) ?_ ?_ ?_ ?_⟩
      · refine ⟨_, 0, none, rfl, Kp.refl _ _, hrs, Dg.zeros (by omega) _, by rw [List.length_replicate]; rfl, Nat.zero_le _, Int.le_refl 0, lo0, ?_⟩
        rw [val_zeros, List.take_zero, Int.mul_zero]
        show (0 : Int) + 0 = _ * (0 : Int)
        rw [Int.mul_zero]
        rfl
      · rintro i σ H3 _ ⟨f, rest, v7, rfl, kp, _⟩
        exact SqT.of (kp tx2 _ hx2 (by simpa using ntr))
      · rintro i y σ H3 hy ⟨f, rest, v7, rfl, kp, hf, df, lf, hi, re0, re1, vf⟩
        obtain ⟨dg, hdg, rfl⟩ := iv_of hy
        have hi2 : i < R.length := (List.getElem?_eq_some_iff.mp hdg).1
        have ddg := dR.get hdg
        have M4 : MachAt (CM K) H3 p d e _ := Ms.lstK hrs nre kp
        refine ⟨_, rfl, _, rfl, _, rfl, dg, lo, rfl, rfl, shl_ok (n := 30) (nat_abs_lt ddg.1 (Int.lt_of_lt_of_le ddg.2 (ipow_le (by decide) w2))) (by omega), dg, rest, lo, rfl, rfl, ⟨ddg.1, re0, re1⟩, ?_⟩
        have tot : dg * 2 ^ lo + rest < 2 ^ S.w * 2 ^ lo := by
          have := Int.mul_le_mul_of_nonneg_right (show dg ≤ 2 ^ S.w - 1 by omega) (show (0 : Int) ≤ 2 ^ lo by omega)
          rw [Int.sub_mul, Int.one_mul] at this
          omega
        have tot0 : 0 ≤ dg * 2 ^ lo + rest := by
          have := Int.mul_nonneg ddg.1 (show (0 : Int) ≤ 2 ^ lo by omega)
          omega
        refine ⟨_, rfl, ?_⟩
        refine ⟨.inl ⟨rfl, _, SqL.of hf⟩, _, rfl, _, rfl, ?_⟩
        refine fld_baseE T M4 (MS.op_w _ _) ?_
        refine ⟨_, _, rfl, rfl, ipow_pos (by decide) _, ?_⟩
        refine ⟨r, _, _, rfl, rfl, hf, ?_, ?_⟩
        · rw [iv_len, lf]
          exact Nat.lt_of_le_of_lt (show wd + i ≤ 1000 by omega) s1000
        refine ⟨_, rfl, _, rfl, ?_⟩
        refine fld_widthE T (M4.lst hf nre) (MS.op_w _ _) ?_
        refine ⟨_, S.w, rfl, rfl, ?_⟩
        refine ⟨f ++ [(dg * 2 ^ lo + rest) % 2 ^ S.w], (dg * 2 ^ lo + rest) / 2 ^ S.w, some (.int dg), rfl, kp.trans (Kp.put (by simp)), ?_, df.append (Dg.cons (Int.emod_nonneg _ (by omega)) (Int.emod_lt_of_pos _ (by omega)) Dg.nil), by rw [List.length_append, lf]; rfl, hi2, Int.ediv_nonneg tot0 (by omega), Int.ediv_lt_of_lt_mul (by omega) (by rw [Int.mul_comm (2 ^ lo) (2 ^ S.w)]; exact tot), ?_⟩
        · rw [upd_same, ← iv_app] <;> rfl
        · rw [val_append, lf, val_take_succ _ hdg, show wd + (i + 1) = wd + i + 1 from rfl, Int.pow_succ]
          show val (2 ^ S.w) f + (2 ^ S.w) ^ (wd + i) * ((dg * 2 ^ lo + rest) % 2 ^ S.w + 2 ^ S.w * 0) + _ = _
          have t4 : (dg * 2 ^ lo + rest) % 2 ^ S.w + 2 ^ S.w * ((dg * 2 ^ lo + rest) / 2 ^ S.w) = dg * 2 ^ lo + rest := Int.emod_add_mul_ediv ..
          rw [Int.pow_add] at vf ⊢
          generalize (dg * 2 ^ lo + rest) % 2 ^ S.w = XX at t4 ⊢
          generalize (dg * 2 ^ lo + rest) / 2 ^ S.w = YY at t4 ⊢
          generalize val (2 ^ S.w) f = V1 at vf ⊢
          generalize val (2 ^ S.w) (R.take i) = V3 at vf ⊢
          generalize ((2 : Int) ^ S.w) ^ i = P1 at vf ⊢
          generalize ((2 : Int) ^ S.w) ^ wd = P2 at vf ⊢
          generalize (2 : Int) ^ S.w = BB at t4 ⊢
          generalize (2 : Int) ^ lo = LL at t4 vf ⊢
          grind
      · rintro σ H3 ⟨f, rest, v7, rfl, kp, hf, df, lf, hi, re0, re1, vf⟩
        rw [iv_len] at lf vf
        rw [List.take_length, vR] at vf
        have M4 : MachAt (CM K) H3 p d e _ := Ms.lstK hrs nre kp
        have hx1' := kp x _ hx1 (by simpa using ne_of hx1 hrs (by intro z; cases z))
        have hx2' := kp tx2 _ hx2 (by simpa using ntr)
        have X4 : BigAt (CB K) H3 x S.w u := ⟨⟨dxx, fsx, tx2, hx1', Fx, by rw [← hR]; exact hx2'⟩, by omega⟩
        refine ⟨_, rfl, ?_⟩
        refine M4.self (m := "count") (by decide +kernel) ?_
        refine ⟨_, rfl, ?_⟩
        refine fld_row T X4 fun tx3 htx3 => ⟨tx3, _, rfl, Sq.tup htx3, ?_⟩
        refine ⟨p, d, e, _, "shifted", _, rfl, M4, by decide +kernel, fun H4 k4 M5 => ?_⟩
        have hf4 := M4.kLst k4 hf nre
        have X5 := X4.keep M4 k4
        refine ⟨_, rfl, _, rfl, ?_⟩
        refine fld_sideE T X5 hsg ?_
        refine ⟨_, rfl, _, rfl, by show 1 ≤ sizeLine; decide, fun g hg => ?_⟩
        refine ⟨r, g, _, _, rfl, rfl, by rw [upd_ne (ne_of_none hf4 hg)]; exact hf4, upd_same, ?_, fun l hl => ?_⟩
        · rw [iv_len, lf]
          exact Nat.le_trans (by rw [List.length_singleton]; omega) (Nat.le_of_lt s1000)
        have dF : Dg (2 ^ S.w) (f ++ [rest]) := df.append (Dg.cons re0 (by omega) Dg.nil)
        have vF : val (2 ^ S.w) (f ++ [rest]) = u * 2 ^ n := by
          rw [val_append, lf, hpow]
          show val (2 ^ S.w) f + (2 ^ S.w) ^ (wd + R.length) * (rest + 2 ^ S.w * 0) = _
          rw [Int.mul_zero, Int.add_zero, vf, Int.mul_comm]
        have kk := ((ks.own r0 (kp.mono (by simp))).trans k4)
        have M6 := (M5.same (same_upd (o := .lst [.int rest]) hg)).same (same_upd (o := .lst (iv f ++ [.int rest])) hl)
        refine ⟨p, d, e, _, 1, l, f ++ [rest], rfl, M6, by rw [upd_same, ← iv_app]; rfl, ?_⟩
        rw [MS.op_w, MS.op_w, vF]
        refine ⟨dF, fun _ => rfl, fun z H5 n5 s5 B => ?_⟩
        exact q z H5 _ (((kk.fr hg).fr hl).ch M6 n5) (((kk.fr hg).fr hl).trans (Kp.of s5)) (M6.same s5) (by rw [MS.op_w, MS.op_w]) B
end
end T87
namespace T87
open PySem PySem.Spec PyProof.Rows L2
/-! ### factorial, told by a mirror, and looked through for all n up to 60 -/
def blN (n : Nat) : Nat := Builtin.Int.intBits (n : Int)
structure Fs where
  inn : Int
  out : Int
  low : Nat
def hiN (x : Nat) : Nat := x + 1 + x % 2
def facS (n : Nat) : Nat → Fs
  | 0 => ⟨1, 1, 3⟩
  | i + 1 =>
    let s := facS n i
    let x := n / 2 ^ (blN n - 2 - i)
    if 2 < x then
      let h := x + 1 + (x % 2)
      let v := s.inn * oddP s.low ((h - s.low) / 2)
      ⟨v, s.out * v, h⟩
    else s
def facOK (n i : Nat) : Bool :=
  let s := facS n i
  let x := n / 2 ^ (blN n - 2 - i)
  let h := x + 1 + (x % 2)
  let v := s.inn * oddP s.low ((h - s.low) / 2)
  decide (Builtin.bitOr ((x : Int) + 1) 1 = ((h : Nat) : Int)) && (!decide (2 < x) ||
    (decide (3 ≤ s.low) && decide (s.low % 2 = 1) && decide (h = s.low + 2 * ((h - s.low) / 2)) && decide (h ≤ 63) && decide ((h - s.low) / 2 ≤ 16) && decide (0 ≤ s.inn) && decide (s.inn < 2 ^ 400) && decide (oddP s.low ((h - s.low) / 2) < 2 ^ 400) && decide (0 ≤ s.out) && decide (s.out < 2 ^ 400) && decide (v < 2 ^ 400)))
theorem fac_ok : ∀ n : Nat, n < 61 → 21 ≤ n → ∀ i < 5, i < blN n - 1 → facOK n i = true := by decide +kernel
theorem fac_bits : ∀ n : Nat, n < 61 → 21 ≤ n → 2 ≤ blN n ∧ blN n ≤ 6 ∧ onesN n ≤ n := by decide +kernel
theorem fac_val : ∀ n : Nat, n < 61 → 21 ≤ n → (facS n (blN n - 1)).out * 2 ^ (n - onesN n) = worth n n ∧ 0 < (facS n (blN n - 1)).out ∧ (facS n (blN n - 1)).out < 2 ^ 400 := by decide +kernel
theorem fac_small : ∀ n : Nat, n < 21 → worth n n < 2 ^ 64 := by decide +kernel
def spFact (K : PySem.W.Frag) : Sp := fun vs H Q _ => ∃ p d e S n, vs = [.ref p, .int (n : Nat)] ∧ MachAt (CM K) H p d e S ∧ n ≤ 60 ∧
  ∀ z H' S', H z = none → Kp [d, e] H H' → MachAt (CM K) H' p d e S' → BigAt (CB K) H' z S.w (worth n n) → Q (.ref z) H'
theorem p400 : (2 : Int) ^ 400 ≤ MID := ipow_le (b := 2) (by decide) (show 400 ≤ 2000 by decide)
section
variable {P : Program} {w : World} {K : PySem.W.Frag} {mg : Str → Option Value} {base : Heap} (T : Tx K mg)
include T
theorem ok_factorial : Cl P w K mg base 30 "factorial" ["machine", "n"] (spFact K) := by
  refine cl_of (N := ["machine", "n", "inner", "outer", "low", "place", "high"]) T.f_factorial T.m_factorial (by decide +kernel) (fun _ _ _ _ _ _ us hl => match us, hl with | [_, _], _ => rfl) (fun vs H Q E h => ?_) (fun cdv A outer s H vs Q E hr h => ?_)
  · obtain ⟨p, d, e, S, n, rfl, _⟩ := h
    rfl
  obtain ⟨p, d, e, S, n, rfl, M, hn, q⟩ := h
  have nd : (["machine", "n", "inner", "outer", "low", "place", "high"] : List Str).Nodup := by decide +kernel
  obtain ⟨_, hu_MOST_FACTORIAL, ru_MOST_FACTORIAL⟩ := T.i_MOST_FACTORIAL
  obtain ⟨_, hu_LEAST_TREE, ru_LEAST_TREE⟩ := T.i_LEAST_TREE
  refine ⟨_, (pss_cons (ps_expr (pe_cl (ok_check_machine T) hr (by omega) (pa_cons (pv 0) pa_nil)))
  (pss_cons (ps_expr (pe_cl (ok_check_integer T) hr (by omega) (pa_cons pe_str (pa_cons (pv 1) pa_nil))))
  (pss_cons (ps_if (pt_cmpR op_lt (pv 1) pe_int (nomark _)) (pss_one
  ps_never) pss_nil)
  (pss_cons (ps_if (pt_cmpR op_gt (pv 1) (pe_glob rfl hu_MOST_FACTORIAL ru_MOST_FACTORIAL) (nomark _)) (pss_one
  ps_never) pss_nil)
  (pss_cons (ps_if (pt_cmpR op_lt (pv 1) (pe_glob rfl hu_LEAST_TREE ru_LEAST_TREE) (nomark _)) (pss_one
  (ps_ret (pe_cl (ok_big_of T) hr (by omega) (pa_cons (pv 0) (pa_cons (pe_cl (ok_small_row T) hr (by omega) (pa_cons (pv 1) (pa_cons (pv 1) pa_nil))) pa_nil))))) pss_nil)
  (pss_cons (ps_par3 (i := 2) (j := 3) (l := 4) (by rfl) nd rfl rfl rfl (by decide) (by decide) (by decide) rfl rfl rfl (pa_cons (pe_cl (ok_big_of T) hr (by omega) (pa_cons (pv 0) (pa_cons pe_int pa_nil))) (pa_cons (pe_cl (ok_big_of T) hr (by omega) (pa_cons (pv 0) (pa_cons pe_int pa_nil))) (pa_cons pe_int pa_nil))) (by rfl))
  (pss_cons (ps_for PassesOwn.never rfl (pi_range3 (by rfl) T.b_range (pa_cons (pe_op op_sub (pe_bits (pv 1)) pe_int) (pa_cons (pe_un un_neg pe_int) (pa_cons (pe_un un_neg pe_int) pa_nil)))) (pg_name (i := 5) nd rfl (Or.inl rfl)) (pss_one
  (ps_if (pt_cmpR op_gt (pe_op op_shrN (pv 1) (pv 5)) pe_int (nomark _)) (pss_cons (ps_set (i := 6) nd rfl (Or.inl rfl) (pe_op op_orV (pe_op op_add (pe_op op_shrN (pv 1) (pv 5)) pe_int) pe_int))
  (pss_cons (ps_set (i := 2) nd rfl (Or.inl rfl) (pe_cl (ok_multiplied T) hr (by omega) (pa_cons (pv 0) (pa_cons (pv 2) (pa_cons (pe_cl (ok_odd_product T) hr (by omega) (pa_cons (pv 0) (pa_cons (pv 4) (pa_cons (pv 6) pa_nil)))) pa_nil)))))
  (pss_one
  (ps_par (i := 3) (j := 4) (by rfl) nd rfl rfl (by decide) rfl rfl (pa_cons (pe_cl (ok_multiplied T) hr (by omega) (pa_cons (pv 0) (pa_cons (pv 3) (pa_cons (pv 2) pa_nil)))) (pa_cons (pv 6) pa_nil)) (by rfl))))) pss_nil)))
  (pss_one
  (ps_ret (pe_cl (ok_shifted_left T) hr (by omega) (pa_cons (pv 0) (pa_cons (pv 3) (pa_cons (pe_op op_sub (pv 1) (pe_cl (ok_ones_in T) hr (by omega) (pa_cons (pv 1) pa_nil))) pa_nil))))))))))))), ?_⟩
  refine ⟨_, rfl, p, d, e, S, rfl, M, ?_⟩
  refine ⟨_, rfl, _, (n : Nat), rfl, ?_⟩
  refine ⟨_, rfl, _, _, rfl, rfl, _, rfl, ?_⟩
  rw [decide_eq_false (show ¬ ((n : Nat) : Int) < 0 by omega)]
  refine iteF ?_
  refine ⟨_, rfl, _, _, rfl, rfl, _, rfl, ?_⟩
  rw [decide_eq_false (show ¬ (1100 : Int) < ((n : Nat) : Int) by omega)]
  refine iteF ?_
  refine ⟨_, rfl, _, _, rfl, rfl, _, rfl, ?_⟩
  by_cases c : n < 21
  · rw [decide_eq_true (show ((n : Nat) : Int) < 21 by omega)]
    refine iteT ?_
    have hs := fac_small n c
    have hp := worth_pos (n := n) (k := n) (Int.le_refl _)
    refine ⟨_, rfl, _, rfl, _, rfl, (n : Nat), n, rfl, Int.le_refl _, by omega, fun _ => ?_, fun z => absurd hs z⟩
    exact ⟨p, d, e, S, _, rfl, M, by omega, Int.lt_of_lt_of_le hs w64, fun z H2 n2 s2 B => q z H2 S n2 (Kp.of s2) (M.same s2) B⟩
  · rw [decide_eq_false (show ¬ ((n : Nat) : Int) < 21 by omega)]
    refine iteF ?_
    obtain ⟨hb2, hb6, hones⟩ := fac_bits n (by omega) (by omega)
    obtain ⟨v1, v2, v3⟩ := fac_val n (by omega) (by omega)
    have hone : (1 : Int) < BIG := Int.lt_of_lt_of_le (show (1 : Int) < 2 ^ 64 by decide) w64
    refine ⟨_, rfl, p, d, e, S, 1, rfl, M, by decide, hone, fun z1 H1 n1 s1 B1 => ?_⟩
    refine ⟨_, rfl, p, d, e, S, 1, rfl, M.same s1, by decide, hone, fun z2 H2 n2 s2 B2 => ?_⟩
    refine ⟨_, _, _, rfl, ?_⟩
    have rg : RgC ((blN n : Int) - 2) (-1) (-1) (blN n - 1) := by
      have := RgC.neg (i := (blN n : Int) - 2) (j := -1) (by omega) (by omega) (by omega) (by omega)
      rw [show (((blN n : Int) - 2) - -1).toNat = blN n - 1 by omega] at this
      exact this
    refine ⟨_, rfl, (n : Nat), rfl, _, _, rfl, rfl, _, rfl, _, rfl, _, _, _, blN n - 1, rfl, rg, for_rangeC (fun i σ H3 => ∃ S3 zi zo u5 u6, σ = [some (.ref p), some (.int (n : Nat)), some (.ref zi), some (.ref zo), some (.int ((facS n i).low : Nat)), u5, u6] ∧ Kp [d, e] H H3 ∧ MachAt (CM K) H3 p d e S3 ∧ S3.w = S.w ∧ BigAt (CB K) H3 zi S.w (facS n i).inn ∧ BigAt (CB K) H3 zo S.w (facS n i).out) ?_ ?_ ?_⟩
    · exact ⟨S, z1, z2, none, none, rfl, Kp.of (s1.trans s2), (M.same s1).same s2, rfl, B1.same s2, B2⟩
    · rintro i σ H3 hi ⟨S3, zi, zo, u5, u6, rfl, k3, M3, w3, Bi, Bo⟩
      rw [show (((Builtin.Int.intBits (n : Int) : Nat) : Int) - 2) + (i : Nat) * (-1) = ((blN n - 2 - i : Nat) : Int) by
        have : blN n = Builtin.Int.intBits (n : Int) := rfl
        omega]
      have ok := fac_ok n (by omega) (by omega) i (by omega) hi
      have ex : (n : Int) / 2 ^ (blN n - 2 - i) = ((n / 2 ^ (blN n - 2 - i) : Nat) : Int) := by
        rw [Int.natCast_ediv, Int.natCast_pow] <;> rfl
      unfold facOK at ok
      simp only [Bool.and_eq_true, Bool.or_eq_true, Bool.not_eq_true', decide_eq_true_eq, decide_eq_false_iff_not] at ok
      obtain ⟨ok1, ok2⟩ := ok
      have est : facS n (i + 1) = (if 2 < n / 2 ^ (blN n - 2 - i) then ⟨(facS n i).inn * oddP (facS n i).low ((n / 2 ^ (blN n - 2 - i) + 1 + (n / 2 ^ (blN n - 2 - i)) % 2 - (facS n i).low) / 2), (facS n i).out * ((facS n i).inn * oddP (facS n i).low ((n / 2 ^ (blN n - 2 - i) + 1 + (n / 2 ^ (blN n - 2 - i)) % 2 - (facS n i).low) / 2)), n / 2 ^ (blN n - 2 - i) + 1 + (n / 2 ^ (blN n - 2 - i)) % 2⟩ else facS n i) := rfl
      refine ⟨_, rfl, _, rfl, (n : Nat), blN n - 2 - i, rfl, rfl, _, _, rfl, rfl, _, rfl, ?_⟩
      rw [ex]
      rw [← ex] at ok1
      obtain ⟨x, hx⟩ : ∃ x, x = n / 2 ^ (blN n - 2 - i) := ⟨_, rfl⟩
      rw [← hx] at ok1 ok2 est ⊢
      by_cases c2 : 2 < x
      · rw [decide_eq_true (show (2 : Int) < ((x : Nat) : Int) by omega)]
        refine iteT ?_
        rcases ok2 with ok2 | ok2
        · exact absurd c2 ok2
        obtain ⟨⟨⟨⟨⟨⟨⟨⟨⟨⟨o1, o2⟩, o3⟩, o4⟩, o5⟩, o6⟩, o7⟩, o8⟩, o9⟩, o10⟩, o11⟩ := ok2
        rw [if_pos c2] at est
        obtain ⟨cc, hcc⟩ : ∃ cc, cc = (x + 1 + x % 2 - (facS n i).low) / 2 := ⟨_, rfl⟩
        rw [← hcc] at o3 o5 o8 o11 est
        rw [o3] at ok1
        refine ⟨_, rfl, _, rfl, (n : Nat), blN n - 2 - i, rfl, rfl, _, _, rfl, rfl, _, _, _, rfl, rfl, ok1, ?_⟩
        refine ⟨_, rfl, _, rfl, _, rfl, _, rfl, _, rfl, p, d, e, S3, (facS n i).low, cc, rfl, M3, o1, o2, by omega, o5, fun z4 H4 S4 n4 k4 M4 w4 B4 => ?_⟩
        rw [w3] at w4 B4
        have od := oddP_bd (lo := ((facS n i).low : Nat)) (by omega) (c := cc) (by omega)
        have ib : (facS n i).inn < MID := Int.lt_of_lt_of_le o7 p400
        have ob : oddP (facS n i).low cc < MID := Int.lt_of_lt_of_le o8 p400
        refine ⟨p, d, e, S4, zi, (facS n i).inn, z4, oddP (facS n i).low cc, rfl, M4, ?_⟩
        rw [w4]
        refine ⟨Bi.keep M3 k4, B4, ib, ob, fun z5 H5 n5 k5 M5 B5 => ?_⟩
        refine ⟨_, rfl, _, rfl, _, rfl, p, d, e, _, zo, (facS n i).out, z5, (facS n i).inn * oddP (facS n i).low cc, rfl, M5, ?_⟩
        rw [MS.ops_w, w4]
        refine ⟨(Bo.keep M3 k4).keep M4 k5, B5, Int.lt_of_lt_of_le o10 p400, Int.lt_of_lt_of_le o11 p400, fun z6 H6 n6 k6 M6 B6 => ?_⟩
        refine ⟨_, rfl, _, _, rfl, ?_⟩
        rw [est]
        refine ⟨_, z5, z6, some (.int ((blN n - 2 - i : Nat) : Int)), some (.int (((facS n i).low + 2 * cc : Nat) : Int)), ?_, ((k3.trans k4).trans k5).trans k6, M6, by rw [MS.ops_w, MS.ops_w]; exact w4, B5.keep M5 k6, B6⟩
        rw [o3]
        rfl
      · rw [decide_eq_false (show ¬ (2 : Int) < ((x : Nat) : Int) by omega)]
        refine iteF ?_
        rw [if_neg c2] at est
        rw [est]
        exact ⟨S3, zi, zo, some (.int ((blN n - 2 - i : Nat) : Int)), u6, rfl, k3, M3, w3, Bi, Bo⟩
    · rintro σ H3 ⟨S3, zi, zo, u5, u6, rfl, k3, M3, w3, Bi, Bo⟩
      refine ⟨_, rfl, _, rfl, _, rfl, _, rfl, n, rfl, by omega, _, _, rfl, rfl, ?_⟩
      refine ⟨p, d, e, S3, zo, (facS n (blN n - 1)).out, n - onesN n, ?_, M3, ?_⟩
      · show [V.ref p, V.ref zo, V.int (((n : Nat) : Int) - ((onesN n : Nat) : Int))] = _
        rw [show ((n : Nat) : Int) - ((onesN n : Nat) : Int) = ((n - onesN n : Nat) : Int) by omega]
      rw [w3]
      refine ⟨Bo, v2, Int.lt_of_lt_of_le v3 p400, by omega, fun z H4 S4 n4 k4 M4 w4 B4 => ?_⟩
      rw [v1] at B4
      exact q z H4 S4 (k3.ch M3 n4) (k3.trans k4) M4 B4
end
end T87
namespace T87
open PySem PySem.Spec PyProof.Rows L2
/-! ### the law's own helpers: draws -/
def spMixed : Sp := fun vs H Q _ => ∃ (c : Int) (t : Nat), vs = [.int c, .int (t : Nat)] ∧ t ≤ 1000000 ∧ ∀ r : Int, 0 ≤ r → Q (.int r) H
def spSource : Sp := fun vs H Q _ => ∃ c : Int, vs = [.int c] ∧ ∀ l (s0 : Int), H l = none → Q (.ref l) (upd H l (.lst [.int s0, .int c, .int 0]))
def SrcAt (H : Hp) (l : Addr) (T : Nat) : Prop := ∃ (s0 c : Int) (t : Nat), H l = some (.lst [.int s0, .int c, .int (t : Nat)]) ∧ t ≤ T
def spDraw : Sp := fun vs H Q _ => ∃ l b T, vs = [.ref l, .int b] ∧ SrcAt H l T ∧ T ≤ 100000 ∧ 0 < b ∧ b < 2 ^ 62 ∧ ∀ r H', 0 ≤ r → r < b → Kp [l] H H' → SrcAt H' l (T + 1) → Q (.int r) H'
def spOne : Sp := fun vs H Q _ => ∃ l m T xs, vs = [.ref l, .ref m] ∧ SrcAt H l T ∧ T ≤ 100000 ∧ H m = some (.lst xs) ∧ m ≠ l ∧ 0 < xs.length ∧ xs.length ≤ 1000 ∧ ∀ (i : Nat) v H', xs[i]? = some v → Kp [l] H H' → SrcAt H' l (T + 1) → Q v H'
def spLDigs : Sp := fun vs H Q _ => ∃ (n : Int) (w : Nat), vs = [.int n, .int (w : Nat)] ∧ 0 ≤ n ∧ n < BIG ∧ 8 ≤ w ∧ w ≤ 30 ∧ ∀ l H', H l = none → Same H H' → H' l = some (.lst (iv (digs (2 ^ w) n))) → Q (.ref l) H'
def spIs (K : PySem.W.Frag) : Sp := fun vs H Q _ => ∃ x v w, vs = [.ref x, .int v, .int (w : Nat)] ∧ BigAt (CB K) H x w v ∧ v < BIG ∧ 8 ≤ w ∧ w ≤ 30 ∧ ∀ H', Same H H' → Q (.bl true) H'
def spWorth : Sp := fun vs H Q _ => ∃ (n : Int) (k : Nat), vs = [.int n, .int (k : Nat)] ∧ (k : Int) ≤ n ∧ n < 2 ^ 63 ∧ k ≤ 1000 ∧ worth n k < MID ∧ Q (.int (worth n k)) H
theorem b2i_bd (k : Bool) : -(2 ^ 64) < b2i k ∧ b2i k < 2 ^ 64 := by cases k <;> decide
section
variable {P : Program} {w : World} {K : PySem.W.Frag} {mg : Str → Option Value} {base : Heap} (T : Tx K mg)
include T
theorem ok_law_mixed : Cl P w K mg base 1 "_law_mixed" ["_law_cell", "_law_turn"] spMixed := by
  refine cl_of (N := ["_law_cell", "_law_turn", "_law_figure"]) T.f_law_mixed T.m_law_mixed (by decide +kernel) (fun _ _ _ _ _ _ us hl => match us, hl with | [_, _], _ => rfl) (fun vs H Q E h => ?_) (fun cdv A outer s H vs Q E hr h => ?_)
  · obtain ⟨c, t, rfl, _⟩ := h
    rfl
  obtain ⟨c, t, rfl, ht, q⟩ := h
  have nd : (["_law_cell", "_law_turn", "_law_figure"] : List Str).Nodup := by decide +kernel
  refine ⟨_, (pss_cons (ps_set (i := 2) nd rfl (Or.inl rfl) (pe_op op_mod (pe_callTy call_int1 (by rfl) T.b_int (by decide +kernel) (pa_cons (pe_op op_mul (pe_op op_add (pe_op op_mod (pe_callTy call_int1 (by rfl) T.b_int (by decide +kernel) (pa_cons (pv 0) pa_nil)) pe_int) pe_int) (pe_op op_add (pe_op op_mul (pv 1) pe_int) pe_int)) pa_nil)) pe_int))
  (pss_cons (ps_set (i := 2) nd rfl (Or.inl rfl) (pe_op op_mod (pe_callTy call_int1 (by rfl) T.b_int (by decide +kernel) (pa_cons (pe_op op_mul (pe_op op_add (pv 2) (pe_op op_mul (pe_op op_mod (pe_callTy call_int1 (by rfl) T.b_int (by decide +kernel) (pa_cons (pe_op op_fdivW (pv 0) pe_int) pa_nil)) pe_int) (pe_op op_add (pv 1) pe_int))) pe_int) pa_nil)) pe_int))
  (pss_cons (ps_set (i := 2) nd rfl (Or.inl rfl) (pe_op op_mod (pe_callTy call_int1 (by rfl) T.b_int (by decide +kernel) (pa_cons (pe_op op_mul (pv 2) (pe_op op_add (pe_op op_add (pe_op op_fdiv (pv 2) pe_int) pe_int) (pv 1))) pa_nil)) pe_int))
  (pss_one
  (ps_ret (pe_op op_mod (pe_callTy call_int1 (by rfl) T.b_int (by decide +kernel) (pa_cons (pe_op op_mul (pv 2) (pe_op op_add (pe_op op_fdiv (pv 2) pe_int) pe_int)) pa_nil)) pe_int)))))), ?_⟩
  have m1 : (0 : Int) ≤ c % 2147483629 := Int.emod_nonneg _ (by decide)
  have m2 : c % 2147483629 < 2147483629 := Int.emod_lt_of_pos _ (by decide)
  have d1 : (0 : Int) ≤ c / 2147483629 % 1000003 := Int.emod_nonneg _ (by decide)
  have d2 : c / 2147483629 % 1000003 < 1000003 := Int.emod_lt_of_pos _ (by decide)
  refine ⟨_, rfl, .inl ⟨_, rfl, _, _, rfl, rfl, by show (0 : Int) < 2147483629; decide, _, _, rfl, rfl, _, rfl, _, _, rfl, rfl, .inl ⟨by omega, by omega⟩, _, _, rfl, rfl, ?_⟩⟩
  refine ⟨_, _, rfl, rfl, .inl ⟨by omega, by omega⟩, .inl ⟨_, rfl, _, _, rfl, rfl, by show (0 : Int) < 2147483647; decide, ?_⟩⟩
  obtain ⟨f1, hf1⟩ : ∃ f1, f1 = (c % 2147483629 + 1) * ((t : Int) * 7919 + 104729) % 2147483647 := ⟨_, rfl⟩
  have f1a : 0 ≤ f1 := by rw [hf1]; exact Int.emod_nonneg _ (by decide)
  have f1b : f1 < 2147483647 := by rw [hf1]; exact Int.emod_lt_of_pos _ (by decide)
  refine ⟨V.int f1, by rw [hf1]; rfl, _, rfl, _, _, rfl, rfl, wide_div (b := 32) (by decide) (by decide) (by decide) (by decide), .inl ⟨_, rfl, _, _, rfl, rfl, by show (0 : Int) < 1000003; decide, ?_⟩⟩
  obtain ⟨g1, hg1⟩ : ∃ g1, g1 = c / 2147483629 % 1000003 := ⟨_, rfl⟩
  refine ⟨_, rfl, _, _, rfl, rfl, g1, _, by rw [hg1], rfl, .inl ⟨by omega, by omega⟩, _, _, rfl, rfl, ?_⟩
  have g2 : 0 ≤ g1 * ((t : Int) + 31) := Int.mul_nonneg (by omega) (by omega)
  have g3 : g1 * ((t : Int) + 31) ≤ 1000003 * 1000031 := Int.mul_le_mul (by omega) (by omega) (by omega) (by decide)
  refine ⟨_, _, rfl, rfl, .inl ⟨by omega, by omega⟩, .inl ⟨_, rfl, _, _, rfl, rfl, by show (0 : Int) < 2147483629; decide, ?_⟩⟩
  obtain ⟨f2, hf2⟩ : ∃ f2, f2 = (f1 + g1 * ((t : Int) + 31)) * 48271 % 2147483629 := ⟨_, rfl⟩
  have f2a : 0 ≤ f2 := by rw [hf2]; exact Int.emod_nonneg _ (by decide)
  have f2b : f2 < 2147483629 := by rw [hf2]; exact Int.emod_lt_of_pos _ (by decide)
  refine ⟨V.int f2, by rw [hf2]; rfl, V.int f2, by rw [hf2]; rfl, _, _, rfl, rfl, ⟨by decide, by decide⟩, _, _, rfl, rfl, _, rfl, _, _, rfl, rfl, ?_⟩
  refine ⟨_, _, rfl, rfl, .inl ⟨by omega, by omega⟩, .inl ⟨_, rfl, _, _, rfl, rfl, by show (0 : Int) < 2147483587; decide, ?_⟩⟩
  obtain ⟨f3, hf3⟩ : ∃ f3, f3 = f2 * (f2 / 1013 + 69621 + (t : Int)) % 2147483587 := ⟨_, rfl⟩
  have f3a : 0 ≤ f3 := by rw [hf3]; exact Int.emod_nonneg _ (by decide)
  have f3b : f3 < 2147483587 := by rw [hf3]; exact Int.emod_lt_of_pos _ (by decide)
  refine ⟨V.int f3, by rw [hf3]; rfl, V.int f3, by rw [hf3]; rfl, _, _, rfl, rfl, ⟨by decide, by decide⟩, _, _, rfl, rfl, ?_⟩
  refine ⟨_, _, rfl, rfl, .inl ⟨by omega, by omega⟩, .inl ⟨_, rfl, _, _, rfl, rfl, by show (0 : Int) < 2147483563; decide, ?_⟩⟩
  exact q _ (Int.emod_nonneg _ (by decide))
theorem ok_law_source : Cl P w K mg base 1 "_law_source" ["_law_cell"] spSource := by
  refine cl_of (N := ["_law_cell"]) T.f_law_source T.m_law_source (by decide +kernel) (fun _ _ _ _ _ _ us hl => match us, hl with | [_], _ => rfl) (fun vs H Q E h => ?_) (fun cdv A outer s H vs Q E hr h => ?_)
  · obtain ⟨c, rfl, _⟩ := h
    rfl
  obtain ⟨c, rfl, q⟩ := h
  refine ⟨_, (pss_one
  (ps_ret (pe_lst (pa_cons (pe_op op_mul (pv 0) (pe_callTy call_int1 (by rfl) T.b_int (by decide +kernel) (pa_cons (pe_cmpR op_ge (pv 0) (pe_op op_pow pe_int pe_int) (nomark _)) pa_nil))) (pa_cons (pv 0) (pa_cons pe_int pa_nil)))))), ?_⟩
  refine ⟨_, rfl, _, rfl, _, _, rfl, rfl, ⟨by decide, by decide, by decide⟩, _, _, rfl, rfl, .inr ⟨_, rfl, ?_⟩⟩
  refine ⟨_, _, rfl, rfl, .inr ?_, _, rfl, by show 3 ≤ sizeLine; decide, fun l hl => q l _ hl⟩
  split <;> decide
theorem ok_law_draw : Cl P w K mg base 2 "_law_draw" ["_law_source_here", "_law_bound"] spDraw := by
  refine cl_of (N := ["_law_source_here", "_law_bound", "_law_drawn"]) T.f_law_draw T.m_law_draw (by decide +kernel) (fun _ _ _ _ _ _ us hl => match us, hl with | [_, _], _ => rfl) (fun vs H Q E h => ?_) (fun cdv A outer s H vs Q E hr h => ?_)
  · obtain ⟨l, b, t, rfl, _⟩ := h
    rfl
  obtain ⟨l, b, TT, rfl, ⟨s0, c, t, hl, ht⟩, hT, b0, b1, q⟩ := h
  have nd : (["_law_source_here", "_law_bound", "_law_drawn"] : List Str).Nodup := by decide +kernel
  refine ⟨_, (pss_cons (ps_if (pt_cmpR op_gt (pe_ix ix_sq (pv 0) pe_int (fun _ _ => rfl)) pe_int (nomark _)) (pss_cons (ps_set (i := 2) nd rfl (Or.inl rfl) (pe_op op_mod (pe_callTy call_int1 (by rfl) T.b_int (by decide +kernel) (pa_cons (pe_ix ix_sq (pv 0) pe_int (fun _ _ => rfl)) pa_nil)) (pv 1)))
  (pss_cons (ps_asg (pe_op op_fdivW (pe_ix ix_sq (pv 0) pe_int (fun _ _ => rfl)) (pv 1)) (pg_sub (pv 0) pe_int set_list))
  (pss_one
  (ps_ret (pv 2))))) pss_nil)
  (pss_cons (ps_asg (pe_op op_add (pe_ix ix_sq (pv 0) pe_int (fun _ _ => rfl)) pe_int) (pg_sub (pv 0) pe_int set_list))
  (pss_one
  (ps_ret (pe_op op_mod (pe_callTy call_int1 (by rfl) T.b_int (by decide +kernel) (pa_cons (pe_cl (ok_law_mixed T) hr (by omega) (pa_cons (pe_ix ix_sq (pv 0) pe_int (fun _ _ => rfl)) (pa_cons (pe_ix ix_sq (pv 0) pe_int (fun _ _ => rfl)) pa_nil))) pa_nil)) (pv 1)))))), ?_⟩
  have bb : b.natAbs < 2 ^ 62 := nat_abs_lt (by omega) b1
  refine ⟨_, rfl, l, _, 0, _, rfl, rfl, Sq.lst hl, atI_nat (j := 0) rfl, _, _, rfl, rfl, _, rfl, ?_⟩
  refine ite2 (fun cc => ?_) (fun cc => ?_)
  · refine ⟨_, rfl, l, _, 0, _, rfl, rfl, Sq.lst hl, atI_nat (j := 0) rfl, .inl ⟨_, rfl, _, rfl, _, _, rfl, rfl, b0, ?_⟩⟩
    refine ⟨_, rfl, l, _, 0, _, rfl, rfl, Sq.lst hl, atI_nat (j := 0) rfl, _, rfl, _, _, rfl, rfl, wide_div b0 bb (by decide) (by decide), ?_⟩
    refine ⟨_, rfl, l, _, 0, 0, rfl, rfl, hl, rfl, ?_⟩
    refine ⟨_, rfl, q _ _ (Int.emod_nonneg _ (by omega)) (Int.emod_lt_of_pos _ b0) (Kp.put (by simp)) ⟨s0 / b, c, t, ?_, by omega⟩⟩
    rw [upd_same] <;> rfl
  · refine ⟨_, rfl, l, _, 2, _, rfl, rfl, Sq.lst hl, atI_nat (j := 2) rfl, _, _, rfl, rfl, ?_⟩
    refine ⟨_, rfl, l, _, 2, 2, rfl, rfl, hl, rfl, ?_⟩
    have hl2 : (upd H l (.lst [.int s0, .int c, .int ((t + 1 : Nat) : Int)])) l = some (.lst [.int s0, .int c, .int ((t + 1 : Nat) : Int)]) := upd_same
    refine ⟨_, rfl, l, _, 1, _, rfl, rfl, Sq.lst hl2, atI_nat (j := 1) rfl, _, rfl, l, _, 2, _, rfl, rfl, Sq.lst hl2, atI_nat (j := 2) rfl, ?_⟩
    refine ⟨c, t + 1, rfl, by omega, fun r r0 => ?_⟩
    refine .inl ⟨_, rfl, _, rfl, _, _, rfl, rfl, b0, ?_⟩
    exact q _ _ (Int.emod_nonneg _ (by omega)) (Int.emod_lt_of_pos _ b0) (Kp.put (by simp)) ⟨s0, c, t + 1, upd_same, by omega⟩
theorem ok_law_one : Cl P w K mg base 3 "_law_one" ["_law_source_here", "_law_some"] spOne := by
  refine cl_of (N := ["_law_source_here", "_law_some"]) T.f_law_one T.m_law_one (by decide +kernel) (fun _ _ _ _ _ _ us hl => match us, hl with | [_, _], _ => rfl) (fun vs H Q E h => ?_) (fun cdv A outer s H vs Q E hr h => ?_)
  · obtain ⟨l, m, t, xs, rfl, _⟩ := h
    rfl
  obtain ⟨l, m, TT, xs, rfl, hS, hT, hm, ne, x0, x1, q⟩ := h
  refine ⟨_, (pss_one
  (ps_ret (pe_ix ix_sq (pv 1) (pe_cl (ok_law_draw T) hr (by omega) (pa_cons (pv 0) (pa_cons (pe_callB call_lnQ (by rfl) T.b_len PySem.boot_len (pa_cons (pv 1) pa_nil)) pa_nil))) (fun _ _ => rfl)))), ?_⟩
  refine ⟨_, rfl, _, rfl, _, rfl, m, _, rfl, Sq.lst hm, ?_⟩
  refine ⟨l, (xs.length : Nat), TT, rfl, hS, hT, by omega, by omega, fun r H' r0 r1 k hS' => ?_⟩
  have hm' := k m _ hm (by simpa using ne)
  have hrl : r.toNat < xs.length := by omega
  refine ⟨m, xs, r, xs[r.toNat], rfl, rfl, Sq.lst hm', ?_, q r.toNat _ H' (List.getElem?_eq_getElem hrl) k hS'⟩
  have := atI_nat (List.getElem?_eq_getElem hrl)
  rw [Int.toNat_of_nonneg r0] at this
  exact this
end
end T87
namespace T87
open PySem PySem.Spec PyProof.Rows L2
theorem pe_mrK {X : Cx} {K : PySem.W.Frag} {k j : Nat} {x : Str} {ps : List Str} {sp : Sp} {p pos : Pos} {e : PySem.Expr} {es : List PySem.Expr} {t : TA} (hK : X.K = K) (c : Mr X.prog X.w K X.mg X.base k x ps sp) (hr : Room j X.A) (hk : k + 1 ≤ j) (ha : PA X (e :: es) t) (hg : Gl X x := by rfl)
    (hdb : (x == ("__debug__" : Str)) = false := by decide) (he : starEach (e :: es) X.env = (false, eval e X.env) :: starEach es X.env := by rfl) (hpl : (backTo pos (starEach es X.env)).any (·.1) = false := by rfl) :
    PE X (.Call (.Name x p) (e :: es) [] pos) (tMake (He.ga K x) sp [] E0 t) := by
  subst hK
  exact pe_mr c hr hk ha hg hdb he hpl
def spEngines (K : PySem.W.Frag) : Sp := fun vs H Q _ => ∃ l TT, vs = [.ref l] ∧ SrcAt H l TT ∧ TT ≤ 50000 ∧
  ∀ D p1 d1 e1 p2 d2 e2 w c H', 8 ≤ w → w ≤ 30 → H D = none → H e1 = none → H e2 = none → H d1 = none → H d2 = none → d1 ≠ d2 → e1 ≠ e2 → e1 ≠ D → e2 ≠ D → Kp [l] H H' → SrcAt H' l (TT + 5) → H' D = some (.lst [.ref p1, .ref p2]) →
    MachAt (CM K) H' p1 d1 e1 ⟨w, c, fun _ => 0, []⟩ → MachAt (CM K) H' p2 d2 e2 ⟨w, c, fun _ => 0, []⟩ → Q (.ref D) H'
theorem SrcAt.same {H H' : Hp} {l : Addr} {TT : Nat} (h : SrcAt H l TT) (s : Same H H') : SrcAt H' l TT := let ⟨a, b, c, e, f⟩ := h; ⟨a, b, c, s _ _ e, f⟩
theorem SrcAt.mono {H : Hp} {l : Addr} {T1 T2 : Nat} (h : SrcAt H l T1) (s : T1 ≤ T2) : SrcAt H l T2 := let ⟨a, b, c, e, f⟩ := h; ⟨a, b, c, e, Nat.le_trans f s⟩
section
variable {P : Program} {w : World} {K : PySem.W.Frag} {mg : Str → Option Value} {base : Heap} (T : Tx K mg)
include T
theorem ok_law_engines : Cl P w K mg base 5 "_law_engines" ["_law_source_here"] (spEngines K) := by
  refine cl_of (N := ["_law_source_here", "_law_width", "_law_edge", "_law_kk"]) T.f_law_engines T.m_law_engines (by decide +kernel) (fun _ _ _ _ _ _ us hl => match us, hl with | [_], _ => rfl) (fun vs H Q E h => ?_) (fun cdv A outer s H vs Q E hr h => ?_)
  · obtain ⟨l, t, rfl, _⟩ := h
    rfl
  obtain ⟨l, TT, rfl, hS, hT, q⟩ := h
  have nd : (["_law_source_here", "_law_width", "_law_edge", "_law_kk"] : List Str).Nodup := by decide +kernel
  refine ⟨_, (pss_cons (ps_set (i := 1) nd rfl (Or.inr rfl) (pe_cl (ok_law_one T) hr (by omega) (pa_cons (pv 0) (pa_cons (pe_lst (pa_cons pe_int (pa_cons pe_int (pa_cons pe_int (pa_cons pe_int (pa_cons pe_int (pa_cons pe_int (pa_cons pe_int (pa_cons (pe_op op_add pe_int (pe_cl (ok_law_draw T) hr (by omega) (pa_cons (pv 0) (pa_cons pe_int pa_nil)))) (pa_cons (pe_op op_add pe_int (pe_cl (ok_law_draw T) hr (by omega) (pa_cons (pv 0) (pa_cons pe_int pa_nil)))) pa_nil)))))))))) pa_nil))))
  (pss_cons (ps_set (i := 2) nd rfl (Or.inr rfl) (pe_cl (ok_law_one T) hr (by omega) (pa_cons (pv 0) (pa_cons (pe_lst (pa_cons pe_int (pa_cons pe_int (pa_cons pe_int (pa_cons pe_int (pa_cons (pe_op op_add pe_int (pe_cl (ok_law_draw T) hr (by omega) (pa_cons (pv 0) (pa_cons pe_int pa_nil)))) pa_nil)))))) pa_nil))))
  (pss_one
  (ps_ret (pe_lc (own := [("_law_kk", 3)]) (g := gName 3) (tt := tYes) (by rfl) nd (pi_range1 (by rfl) T.b_range (pa_cons pe_int pa_nil)) (blkOk_by (own := [("_law_kk", 3)]) (N := ["_law_source_here", "_law_width", "_law_edge", "_law_kk"]) (sc := defScope s_law_engines) (by decide +kernel)) (fun _ _ _ _ _ => (pg_name (i := 3) nd rfl (Or.inl rfl))) (fun _ _ _ _ _ => pts_nil) (fun _ _ _ _ _ => (pe_mrK (K := K) rfl (ok_Minit T) hr (by omega) (pa_cons (pv 1) (pa_cons (pv 2) pa_nil))))))))), ?_⟩
  refine ⟨_, rfl, _, rfl, l, 23, TT, rfl, hS, by omega, by decide, by decide, fun r1 H1 a1 b1 k1 S1 => ?_⟩
  refine ⟨_, _, rfl, rfl, _, rfl, l, 23, TT + 1, rfl, S1, by omega, by decide, by decide, fun r2 H2 a2 b2 k2 S2 => ?_⟩
  refine ⟨_, _, rfl, rfl, by show 9 ≤ sizeLine; decide, fun m hm => ?_⟩
  obtain ⟨s0, s1, s2, es2, _⟩ := id S2
  refine ⟨l, m, TT + 2, _, rfl, S2.same (same_upd hm), by omega, upd_same, Ne.symm (ne_of_none es2 hm), by show 0 < 9; decide, by show 9 ≤ 1000; decide, fun i v H3 hv k3 S3 => ?_⟩
  obtain ⟨wi, rfl, w8, w30⟩ : ∃ wi : Nat, v = V.int wi ∧ 8 ≤ wi ∧ wi ≤ 30 := by
    have hm := List.mem_of_getElem? hv
    simp only [List.mem_cons, List.not_mem_nil, or_false] at hm
    rcases hm with rfl | rfl | rfl | rfl | rfl | rfl | rfl | rfl | rfl
    · exact ⟨8, rfl, by decide, by decide⟩
    · exact ⟨8, rfl, by decide, by decide⟩
    · exact ⟨8, rfl, by decide, by decide⟩
    · exact ⟨9, rfl, by decide, by decide⟩
    · exact ⟨13, rfl, by decide, by decide⟩
    · exact ⟨15, rfl, by decide, by decide⟩
    · exact ⟨30, rfl, by decide, by decide⟩
    · exact ⟨(8 + r1).toNat, by rw [Int.toNat_of_nonneg (by omega)], by omega, by omega⟩
    · exact ⟨(8 + r2).toNat, by rw [Int.toNat_of_nonneg (by omega)], by omega, by omega⟩
  have kA : Kp [l] H H3 := ((k1.trans k2).trans (Kp.new hm)).trans k3
  refine ⟨_, rfl, _, rfl, l, 9, TT + 3, rfl, S3, by omega, by decide, by decide, fun r3 H4 a3 b3 k4 S4 => ?_⟩
  refine ⟨_, _, rfl, rfl, by show 5 ≤ sizeLine; decide, fun m2 hm2 => ?_⟩
  obtain ⟨t0, t1, t2, es4, _⟩ := id S4
  refine ⟨l, m2, TT + 4, _, rfl, S4.same (same_upd hm2), by omega, upd_same, Ne.symm (ne_of_none es4 hm2), by show 0 < 5; decide, by show 5 ≤ 1000; decide, fun i2 v2 H5 hv2 k5 S5 => ?_⟩
  obtain ⟨ci, rfl, c2, c10⟩ : ∃ ci : Nat, v2 = V.int ci ∧ 2 ≤ ci ∧ ci ≤ 10 := by
    have hm := List.mem_of_getElem? hv2
    simp only [List.mem_cons, List.not_mem_nil, or_false] at hm
    rcases hm with rfl | rfl | rfl | rfl | rfl
    · exact ⟨2, rfl, by decide, by decide⟩
    · exact ⟨3, rfl, by decide, by decide⟩
    · exact ⟨4, rfl, by decide, by decide⟩
    · exact ⟨7, rfl, by decide, by decide⟩
    · exact ⟨(2 + r3).toNat, by rw [Int.toNat_of_nonneg (by omega)], by omega, by omega⟩
  have kB : Kp [l] H H5 := ((kA.trans k4).trans (Kp.new hm2)).trans k5
  refine ⟨2, rfl, by decide, by decide, fun D hD => ?_⟩
  have nDl : D ≠ l := fun z => by
    obtain ⟨t0, t1, t2, es5, _⟩ := S5
    rw [z, es5] at hD
    cases hD
  refine lc_range (lo := 0) (n := 2) (fun i H6 => Same H5 H6 ∧ ∃ ms : List (Addr × Addr × Addr), ms.length = i ∧ H6 D = some (.lst (ms.map fun m => V.ref m.1)) ∧
    (∀ m ∈ ms, H5 m.2.1 = none ∧ H5 m.2.2 = none ∧ m.2.2 ≠ D ∧ MachAt (CM K) H6 m.1 m.2.1 m.2.2 ⟨wi, ci, fun _ => 0, []⟩) ∧ ms.Pairwise (fun a b => a.2.1 ≠ b.2.1 ∧ a.2.2 ≠ b.2.2)) ?_ ?_ ?_
  · refine ⟨same_upd hD, [], rfl, upd_same, ⟨?_, .nil⟩⟩
    intro m h
    cases h
  · rintro i H6 hi ⟨s6, ms, lm, hDm, hms, pw⟩
    refine ⟨rfl, ?_⟩
    refine ⟨_, rfl, _, rfl, fun x dx hx hdx ne => ?_⟩
    refine ⟨x, dx, wi, ci, rfl, upd_same, w8, w30, c2, by omega, fun d e H7 nd ne7 k7 M7 => ⟨rfl, ?_⟩⟩
    have s67 : Same H6 H7 := fun b o hb => k7 b o (by rw [upd_ne (ne_of_none hb hx), upd_ne (ne_of_none hb hdx)]; exact hb) (by simpa using ne_of_none hb hx)
    have fr : ∀ {b : Addr}, (upd (upd H6 dx (.own x)) x (.ins (CM K) dx [])) b = none → H6 b = none := fun {b} hb => by
      cases e6 : H6 b with
      | none => rfl
      | some o =>
        rw [upd_ne (ne_of_none e6 hx), upd_ne (ne_of_none e6 hdx), e6] at hb
        cases hb
    have d6 := fr nd
    have e6 := fr ne7
    have hD7 := s67 _ _ hDm
    have eD : e ≠ D := fun z => by rw [z, hDm] at e6; cases e6
    refine ⟨_, hD7, by rw [List.length_map, lm]; exact Nat.lt_of_lt_of_le hi (by decide), ?_, ms ++ [(x, d, e)], by rw [List.length_append, lm]; rfl, by rw [upd_same, List.map_append] <;> rfl, ?_, ?_⟩
    · intro b o hb
      rw [upd_ne fun z => by rw [z, hD] at hb; cases hb]
      exact s67 _ _ (s6 _ _ hb)
    · intro m hmm
      rcases List.mem_append.mp hmm with z | z
      · obtain ⟨h1, h2, h3, h4⟩ := hms m z
        exact ⟨h1, h2, h3, (h4.same s67).lst hD7 (Ne.symm h3)⟩
      · obtain rfl := List.mem_singleton.mp z
        exact ⟨s6.free d6, s6.free e6, eD, M7.lst hD7 (Ne.symm eD)⟩
    · rw [List.pairwise_append]
      refine ⟨pw, by simp, fun a ha b hb => ?_⟩
      obtain rfl := List.mem_singleton.mp hb
      obtain ⟨h1, h2, h3, h4⟩ := hms a ha
      exact ⟨fun z => h4.ed.2.1 (by rw [z]; exact d6), fun z => h4.ed.1 (by rw [z]; exact e6)⟩
  · rintro H6 ⟨s6, ms, lm, hDm, hms, pw⟩
    match ms, lm with
    | [m1, m3], _ =>
      obtain ⟨g1, g2, g3, g4⟩ := hms m1 (by simp)
      obtain ⟨f1, f2, f3, f4⟩ := hms m3 (by simp)
      have pw2 := (List.pairwise_cons.mp pw).1 m3 (by simp)
      have fr : ∀ {b : Addr}, H5 b = none → H b = none := fun {b} hb => kB.free hb fun z => by
        obtain ⟨t0, t1, t2, es5, _⟩ := S5
        rw [List.mem_singleton.mp z, es5] at hb
        cases hb
      exact q D m1.1 m1.2.1 m1.2.2 m3.1 m3.2.1 m3.2.2 wi ci H6 w8 w30 (fr hD) (fr g2) (fr f2) (fr g1) (fr f1) pw2.1 pw2.2 g3 f3 (kB.trans (Kp.of s6)) (S5.same s6) hDm g4 f4
end
end T87
namespace T87
open PySem PySem.Spec PyProof.Rows L2
def wkvs (m wl cd : Addr) : List (Key × V) := [(Sum.inr "engine", .ref m), (Sum.inr "walk", .ref wl), (Sum.inr "counts", .ref cd)]
def spWorld : Sp := fun vs H Q _ => ∃ m, vs = [.ref m] ∧ ∀ wd wl cd H', H wd = none → H wl = none → H cd = none → Same H H' → H' wd = some (.dK (wkvs m wl cd)) → H' wl = some (.lst []) → H' cd = some (.dK []) → Q (.ref wd) H'
theorem sgn_nn {v : Int} (h : 0 ≤ v) : (if decide (0 < v) = true then (1 : Int) else 0) - (if decide (v < 0) = true then (1 : Int) else 0) = sgn v := by
  unfold sgn
  rw [decide_eq_false (show ¬ v < 0 by omega), if_neg (show ¬ false = true by decide)]
  by_cases z : v = 0
  · rw [if_pos z, decide_eq_false (show ¬ 0 < v by omega), if_neg (show ¬ false = true by decide)]
    rfl
  · rw [if_neg z, decide_eq_true (show 0 < v by omega), if_pos rfl]
    rfl
section
variable {P : Program} {w : World} {K : PySem.W.Frag} {mg : Str → Option Value} {base : Heap} (T : Tx K mg)
include T
theorem ok_law_digits : Cl P w K mg base 1 "_law_digits" ["_law_nn", "_law_width"] spLDigs := by
  refine cl_of (N := ["_law_nn", "_law_width", "_law_found"]) T.f_law_digits T.m_law_digits (by decide +kernel) (fun _ _ _ _ _ _ us hl => match us, hl with | [_, _], _ => rfl) (fun vs H Q E h => ?_) (fun cdv A outer s H vs Q E hr h => ?_)
  · obtain ⟨n, w, rfl, _⟩ := h
    rfl
  obtain ⟨n, w, rfl, n0, n1, w8, w30, q⟩ := h
  have nd : (["_law_nn", "_law_width", "_law_found"] : List Str).Nodup := by decide +kernel
  have B2 : (2 : Int) ≤ 2 ^ w := two_pow (by omega)
  refine ⟨_, (pss_cons (ps_par (i := 2) (j := 0) (by rfl) nd rfl rfl (by decide) rfl rfl (pa_cons (pe_lst pa_nil) (pa_cons (pe_callB call_abs (by rfl) T.b_abs (by decide +kernel) (pa_cons (pv 0) pa_nil)) pa_nil)) (by rfl))
  (pss_cons (ps_while PassesOwn.never (pt_cmpR op_gt (pv 0) pe_int (nomark _)) (pss_cons (ps_expr (pe_bm PySem.F.plainAttrs_list PySem.F.slot_list_append PySem.F.type_list_append mt_append (pv 2) (pa_cons (pe_op op_mod (pe_callTy call_int1 (by rfl) T.b_int (by decide +kernel) (pa_cons (pv 0) pa_nil)) (pe_op op_oneShl pe_int (pv 1))) pa_nil)))
  (pss_one
  (ps_set (i := 0) nd rfl (Or.inl rfl) (pe_op op_shrN (pv 0) (pv 1))))))
  (pss_one
  (ps_ret (pv 2))))), ?_⟩
  refine ⟨by show 0 ≤ sizeLine; decide, fun l hl => ?_⟩
  refine ⟨_, rfl, n, rfl, ?_⟩
  rw [if_neg (show ¬ n < 0 by omega)]
  refine ⟨_, _, rfl, ?_⟩
  have total : (digs (2 ^ w) n).length ≤ 1000 := digs_len B2 n0 (pow_len w8 n1)
  refine ⟨fun m σ H2 => ∃ pre, Same H H2 ∧ H2 l = some (.lst (iv pre)) ∧ σ = [some (.int (m : Nat)), some (.int (w : Nat)), some (.ref l)] ∧ digs (2 ^ w) n = pre ++ digs (2 ^ w) (m : Nat), ⟨n.toNat, [], same_upd hl, upd_same, by rw [Int.toNat_of_nonneg n0] <;> rfl, by rw [Int.toNat_of_nonneg n0] <;> rfl⟩, ?_⟩
  rintro m σ H2 ⟨pre, s2, hl2, rfl, hpre⟩
  refine ⟨_, rfl, _, _, rfl, rfl, _, rfl, ?_⟩
  refine ite2 (fun c => ?_) (fun c => ?_)
  · have c' : (0 : Int) < (m : Int) := of_decide_eq_true c
    rw [digs_pos B2 c'] at hpre
    refine ⟨fun σ' H' => ∃ m', m' < m ∧ ∃ pre, Same H H' ∧ H' l = some (.lst (iv pre)) ∧ σ' = [some (.int (m' : Nat)), some (.int (w : Nat)), some (.ref l)] ∧ digs (2 ^ w) n = pre ++ digs (2 ^ w) (m' : Nat), fun σ' H' h => h, ?_⟩
    refine ⟨_, rfl, ?_⟩
    refine ⟨.inl ⟨rfl, _, SqL.of hl2⟩, _, rfl, .inl ⟨_, rfl, _, rfl, w, rfl, rfl, by omega, _, _, rfl, rfl, ipow_pos (by decide) _, ?_⟩⟩
    refine ⟨l, _, _, rfl, rfl, hl2, ?_, ?_⟩
    · have := congrArg List.length hpre
      rw [List.length_append, List.length_cons] at this
      rw [iv_len]
      exact Nat.lt_of_le_of_lt (by omega) s1000
    refine ⟨_, rfl, _, rfl, (m : Int), w, rfl, rfl, ?_⟩
    have eq : (m : Int) / 2 ^ w = ((((m : Int) / 2 ^ w).toNat : Nat) : Int) := (Int.toNat_of_nonneg (Int.ediv_nonneg (by omega) (Int.le_of_lt (ipow_pos (by decide) _)))).symm
    have lt : (m : Int) / 2 ^ w < m := Int.ediv_lt_of_lt_mul (by omega) (by
      have := Int.mul_le_mul_of_nonneg_left B2 (show (0 : Int) ≤ m by omega); omega)
    refine ⟨((m : Int) / 2 ^ w).toNat, by omega, pre ++ [(m : Int) % 2 ^ w], ?_, ?_, ?_, ?_⟩
    · intro b o hb
      rw [upd_ne fun z => by rw [z, hl] at hb; cases hb]
      exact s2 b o hb
    · rw [upd_same, ← iv_app] <;> rfl
    · rw [← eq] <;> rfl
    · rw [← eq, hpre, List.append_assoc] <;> rfl
  · have c' : ¬ (0 : Int) < (m : Int) := of_decide_eq_false (Bool.eq_false_iff.mpr c)
    rw [digs_zero (show (m : Int) ≤ 0 by omega), List.append_nil] at hpre
    refine ⟨_, rfl, ?_⟩
    exact q l H2 hl s2 (by rw [hpre]; exact hl2)
theorem ok_law_is : Cl P w K mg base 3 "_law_is" ["_law_held", "_law_nn", "_law_width"] (spIs K) := by
  refine cl_of (N := ["_law_held", "_law_nn", "_law_width"]) T.f_law_is T.m_law_is (by decide +kernel) (fun _ _ _ _ _ _ us hl => match us, hl with | [_, _, _], _ => rfl) (fun vs H Q E h => ?_) (fun cdv A outer s H vs Q E hr h => ?_)
  · obtain ⟨x, v, w, rfl, _⟩ := h
    rfl
  obtain ⟨x, v, w, rfl, B, hv, w8, w30, q⟩ := h
  have B2 : (2 : Int) ≤ 2 ^ w := two_pow (by omega)
  refine ⟨_, (pss_cons (ps_if (pt_cmpR (op_neD hr.units) (pe_tup (pa_cons (pe_mt0 (ok_sign T) hr (by omega) (pv 0)) (pa_cons (pe_mt0 (ok_bits T) hr (by omega) (pv 0)) pa_nil))) (pe_tup (pa_cons (pe_op op_sub (pe_callTy call_int1 (by rfl) T.b_int (by decide +kernel) (pa_cons (pe_cmpR op_gt (pv 1) pe_int (nomark _)) pa_nil)) (pe_callTy call_int1 (by rfl) T.b_int (by decide +kernel) (pa_cons (pe_cmpR op_lt (pv 1) pe_int (nomark _)) pa_nil))) (pa_cons (pv 2) pa_nil))) (nomark _)) (pss_one
  (ps_ret pe_bl)) pss_nil)
  (pss_one
  (ps_ret (pe_and (pe_cmpR (op_eqD hr.units) (pe_mt0 (ok_digits T) hr (by omega) (pv 0)) (pe_cl (ok_law_digits T) hr (by omega) (pa_cons (pv 1) (pa_cons (pv 2) pa_nil))) (nomark _)) (pe_one (pe_cmpR op_eq (pe_cl (ok_plain T) hr (by omega) (pa_cons (pv 0) pa_nil)) (pv 1) (nomark _))))))), ?_⟩
  refine ⟨_, rfl, ?_⟩
  refine B.self (m := "sign") (by decide +kernel) ?_
  refine ⟨x, w, v, rfl, B, _, rfl, ?_⟩
  refine B.self (m := "bits") (by decide +kernel) ?_
  refine ⟨x, w, v, rfl, B, by show 2 ≤ sizeLine; decide, fun t1 ht1 => ?_⟩
  have s1 := same_upd (o := .tup [.int (sgn v), .int (w : Nat)]) ht1
  refine ⟨_, rfl, _, _, rfl, rfl, .inr ⟨_, rfl, _, rfl, _, _, rfl, rfl, .inr ⟨_, rfl, _, _, rfl, rfl, ?_⟩⟩⟩
  refine ⟨_, rfl, by show 2 ≤ sizeLine; decide, fun t2 ht2 => ?_⟩
  have f1 : Fit 8 (.tuple [.int (sgn v), .int (w : Nat)]) := fit_tup fun d hd => by
    rcases List.mem_cons.mp hd with rfl | hd
    · exact fit_int _ _
    obtain rfl := List.mem_singleton.mp hd
    exact fit_int _ _
  have s2 := same_upd (o := .tup [.int ((if decide (0 < v) = true then (1 : Int) else 0) - (if decide (v < 0) = true then (1 : Int) else 0)), .int (w : Nat)]) ht2
  have e2 : (upd (upd H t1 (.tup [.int (sgn v), .int (w : Nat)])) t2 (.tup [.int ((if decide (0 < v) = true then (1 : Int) else 0) - (if decide (v < 0) = true then (1 : Int) else 0)), .int (w : Nat)])) t2 = some (.tup [.int (sgn v), .int (w : Nat)]) := by
    rw [upd_same, sgn_nn B.nn]
  refine ⟨.tuple [.int (sgn v), .int (w : Nat)], .tuple [.int (sgn v), .int (w : Nat)], .tup (SqT.of (s2 _ _ upd_same)) (.cons (.int _) (.cons (.int _) .nil)), .tup (SqT.of e2) (.cons (.int _) (.cons (.int _) .nil)), f1.shaped, f1.shaped, _, rfl, ?_⟩
  rw [f1.refl]
  refine iteF ?_
  have Bx := (B.same s1).same s2
  refine ⟨_, rfl, ?_⟩
  refine Bx.self (m := "digits") (by decide +kernel) ?_
  refine ⟨x, w, v, rfl, Bx, fun l3 hl3 => ?_⟩
  have s3 := same_upd (o := .lst (iv (digs (2 ^ w) v))) hl3
  refine ⟨_, rfl, _, rfl, v, w, rfl, B.nn, hv, w8, w30, fun l4 H4 n4 s4 h4 => ?_⟩
  have f2 : Fit 8 (.list ((digs (2 ^ w) v).map PyData.int)) := fit_lst (fit_ints _ _)
  refine ⟨_, _, .lst (SqL.of (s4 _ _ upd_same)) (dp_ints _), .lst (SqL.of h4) (dp_ints _), f2.shaped, f2.shaped, ?_⟩
  rw [f2.refl]
  refine ⟨true, rfl, ?_⟩
  refine iteT ?_
  refine ⟨_, rfl, x, w, v, rfl, (Bx.same s3).same s4, by omega, by omega, hv, fun H5 s5 => ?_⟩
  refine ⟨_, rfl, rfl, ?_⟩
  show Q (.bl (decide (V.int v = V.int v))) H5
  rw [decide_eq_true rfl]
  exact q H5 (s1.trans (s2.trans (s3.trans (s4.trans s5))))
theorem ok_law_world : Cl P w K mg base 1 "_law_world" ["_law_engine"] spWorld := by
  refine cl_of (N := ["_law_engine"]) T.f_law_world T.m_law_world (by decide +kernel) (fun _ _ _ _ _ _ us hl => match us, hl with | [_], _ => rfl) (fun vs H Q E h => ?_) (fun cdv A outer s H vs Q E hr h => ?_)
  · obtain ⟨m, rfl, _⟩ := h
    rfl
  obtain ⟨m, rfl, q⟩ := h
  refine ⟨_, pss_one (ps_ret (pe_disp (pps_cons pe_str (pv 0) (pps_cons pe_str (pe_lst pa_nil) (pps_cons pe_str pe_dnewK pps_nil))) (by rfl) (by rfl) (fun z => by cases z) (by decide))), ?_⟩
  intro wd hwd
  refine ⟨_, rfl, by show 0 ≤ sizeLine; decide, fun wl hwl => ?_⟩
  intro cd hcd
  have s0 := same_upd (o := .dK []) hwd
  have s1 := same_upd (o := .lst []) hwl
  have s2 := same_upd (o := .dK []) hcd
  refine ⟨s2 _ _ (s1 _ _ upd_same), wkvs m wl cd, rfl, by show 3 ≤ 15; decide, ?_⟩
  have hl : H wl = none := s0.free hwl
  have hc : H cd = none := s0.free (s1.free hcd)
  have e1 : mergeK [] (wkvs m wl cd) = wkvs m wl cd := rfl
  rw [e1]
  have nwl : wl ≠ wd := fun z => by rw [z, upd_same] at hwl; cases hwl
  have ncd : cd ≠ wd := fun z => by rw [z, s1 _ _ upd_same] at hcd; cases hcd
  refine q wd wl cd _ hwd hl hc ?_ upd_same ?_ ?_
  · exact Same.wr (s0.trans (s1.trans s2)) hwd
  · rw [upd_ne nwl]
    exact s2 _ _ upd_same
  · rw [upd_ne ncd, upd_same]
theorem ok_law_worth : Cl P w K mg base 1 "_law_worth" ["_law_nn", "_law_kk"] spWorth := by
  refine cl_of (N := ["_law_nn", "_law_kk", "_law_found", "_law_turn"]) T.f_law_worth T.m_law_worth (by decide +kernel) (fun _ _ _ _ _ _ us hl => match us, hl with | [_, _], _ => rfl) (fun vs H Q E h => ?_) (fun cdv A outer s H vs Q E hr h => ?_)
  · obtain ⟨n, k, rfl, _⟩ := h
    rfl
  obtain ⟨n, k, rfl, hk, hn, hk2, hw, q⟩ := h
  have nd : (["_law_nn", "_law_kk", "_law_found", "_law_turn"] : List Str).Nodup := by decide +kernel
  refine ⟨_, (pss_cons (ps_set (i := 2) nd rfl (Or.inl rfl) pe_int)
  (pss_cons (ps_for PassesOwn.never rfl (pi_range1 (by rfl) T.b_range (pa_cons (pv 1) pa_nil)) (pg_name (i := 3) nd rfl (Or.inl rfl)) (pss_one
  (ps_set (i := 2) nd rfl (Or.inl rfl) (pe_op op_mulW (pv 2) (pe_op op_sub (pv 0) (pv 3))))))
  (pss_one
  (ps_ret (pv 2))))), ?_⟩
  refine ⟨_, rfl, (k : Nat), rfl, by omega, by omega, for_range (n := k) (fun i σ H2 => ∃ u, H2 = H ∧ i ≤ k ∧ σ = [some (.int n), some (.int (k : Nat)), some (.int (worth n i)), u]) ?_ ?_ ?_⟩
  · exact ⟨none, rfl, Nat.zero_le _, rfl⟩
  · rintro i σ H2 hi ⟨u, rfl, _, rfl⟩
    have hp := worth_pos (n := n) (k := i) (by omega)
    have hm := (worth_mono (n := n) (a := i) (b := k - i) (by omega)).1
    rw [show i + (k - i) = k by omega] at hm
    rw [Int.zero_add]
    refine ⟨_, rfl, _, rfl, _, rfl, _, _, rfl, rfl, _, _, rfl, rfl, wide_mul (a := 2000) (b := 64) (nat_abs_lt (by omega) (Int.lt_of_le_of_lt hm hw)) (nat_abs_lt (by omega) (by omega)) (by decide) (by decide) (by decide), ?_⟩
    exact ⟨some (.int (i : Nat)), rfl, hi, rfl⟩
  · rintro σ H2 ⟨u, rfl, _, rfl⟩
    exact ⟨_, rfl, q⟩
end
end T87
namespace T87
open PySem PySem.Spec PyProof.Rows L2
structure WorldAt (H : Hp) (wd m wl cd : Addr) (W : List (Str × Int × Int)) : Prop where
  wd : H wd = some (.dK (wkvs m wl cd))
  cd : H cd = some (.dK [])
  wl : ∃ ts : List Addr, H wl = some (.lst (ts.map V.ref)) ∧ EntAt H ts W
theorem WorldAt.same {H H' : Hp} {wd m wl cd : Addr} {W : List (Str × Int × Int)} (h : WorldAt H wd m wl cd W) (s : Same H H') : WorldAt H' wd m wl cd W := by
  obtain ⟨h1, h2, ts, h3, h4⟩ := h
  exact ⟨s _ _ h1, s _ _ h2, ts, s _ _ h3, h4.mono fun t xs => s t _⟩
theorem get_eng {H : Hp} {wd m wl cd : Addr} {W : List (Str × Int × Int)} (h : WorldAt H wd m wl cd W) : DGet H wd (V.str "engine") (some (.ref m)) := DGet.k (k := Sum.inr "engine") h.wd
theorem get_walk {H : Hp} {wd m wl cd : Addr} {W : List (Str × Int × Int)} (h : WorldAt H wd m wl cd W) : DGet H wd (V.str "walk") (some (.ref wl)) := DGet.k (k := Sum.inr "walk") h.wd
theorem get_cnt {H : Hp} {wd m wl cd : Addr} {W : List (Str × Int × Int)} (h : WorldAt H wd m wl cd W) : DGet H wd (V.str "counts") (some (.ref cd)) := DGet.k (k := Sum.inr "counts") h.wd
def okEnt (W : List (Str × Int × Int)) : Prop := ∀ x ∈ W, PyData.strOk x.1 = true
def spAsWorld (K : PySem.W.Frag) : Sp := fun vs H Q _ => ∃ p1 d1 e1 S1 p2 d2 e2 S2 wd wl cd W, vs = [.ref p1, .ref wd] ∧ MachAt (CM K) H p1 d1 e1 S1 ∧ MachAt (CM K) H p2 d2 e2 S2 ∧ WorldAt H wd p2 wl cd W ∧
  (∀ x ∈ wordsL, S1.cnt x = S2.cnt x) ∧ S1.ent = W.take 1000 ∧ okEnt W ∧ ∀ H', Same H H' → Q (.bl true) H'
theorem paired_get {α β : Type} {R : α → β → Prop} : ∀ {as : List α} {bs : List β} {i : Nat} {a : α}, Paired R as bs → as[i]? = some a → ∃ b, bs[i]? = some b ∧ R a b
  | _, _, 0, _, .cons x _, h => ⟨_, rfl, by
    have := Option.some.inj h
    rw [← this]
    exact x⟩
  | _, _, i + 1, a, .cons _ r, h => paired_get (i := i) (a := a) r h
theorem dp_tal {K : PySem.W.Frag} {H : Hp} {f : Str → Int} : ∀ {ts : List Addr} {l : List Str}, Paired (fun t x => H t = some (.tup [.str x, .int (f x)])) ts l → DpAll K H (ts.map V.ref) (l.map fun x => PyData.tuple [.str x, .int (f x)])
  | _, _, .nil => .nil
  | _, _, .cons a r => .cons (.tup (SqT.of a) (.cons (.str _) (.cons (.int _) .nil))) (dp_tal r)
theorem dp_ent {K : PySem.W.Frag} {H : Hp} : ∀ {ts : List Addr} {l : List (Str × Int × Int)}, EntAt H ts l → DpAll K H (ts.map V.ref) (l.map fun x => PyData.tuple [.str x.1, .int x.2.1, .int x.2.2])
  | _, _, .nil => .nil
  | _, _, .cons a r => .cons (.tup (SqT.of a) (.cons (.str _) (.cons (.int _) (.cons (.int _) .nil)))) (dp_ent r)
theorem words_ok : ∀ x ∈ wordsL, PyData.strOk x = true := by decide +kernel
section
variable {P : Program} {w : World} {K : PySem.W.Frag} {mg : Str → Option Value} {base : Heap} (T : Tx K mg)
include T
theorem ok_law_as_world : Cl P w K mg base 2 "_law_as_world" ["_law_engine", "_law_world_here"] (spAsWorld K) := by
  refine cl_of (N := ["_law_engine", "_law_world_here", "_law_tally_so", "_law_word", "_law_number"]) T.f_law_as_world T.m_law_as_world (by decide +kernel) (fun _ _ _ _ _ _ us hl => match us, hl with | [_, _], _ => rfl) (fun vs H Q E h => ?_) (fun cdv A outer s H vs Q E hr h => ?_)
  · obtain ⟨p1, d1, e1, S1, p2, d2, e2, S2, wd, wl, cd, W, rfl, _⟩ := h
    rfl
  obtain ⟨p1, d1, e1, S1, p2, d2, e2, S2, wd, wl, cd, W, rfl, M1, M2, WA, hcnt, hent, hok, q⟩ := h
  have nd : (["_law_engine", "_law_world_here", "_law_tally_so", "_law_word", "_law_number"] : List Str).Nodup := by decide +kernel
  have hu := hu_of hr
  refine ⟨_, (pss_cons (ps_setLc (i := 2) (own := [("_law_word", 3), ("_law_number", 4)]) (g := gTup K 2 (gCons (gName 3) (gCons (gName 4) gNil))) (tt := tYes) (by rfl) nd rfl rfl (sw_true rfl rfl rfl (by decide +kernel)) (pi_list (pe_mt0 (ok_tally T) hr (by omega) (pe_dget (by exact hu) (pv 1) pe_str (fun _ _ => rfl)))) (blkOk_by (own := [("_law_word", 3), ("_law_number", 4)]) (N := ["_law_engine", "_law_world_here", "_law_tally_so", "_law_word", "_law_number"]) (sc := defScope s_law_as_world) (by decide +kernel)) (fun _ _ _ _ _ => (pg_tup (by rfl) (pgs_cons (pg_name (i := 3) nd rfl (Or.inl rfl)) (pgs_cons (pg_name (i := 4) nd rfl (Or.inl rfl)) pgs_nil)))) (fun _ _ _ _ _ => pts_nil) (fun _ _ _ _ _ => (pe_tup (pa_cons (pv 3) (pa_cons (pe_op op_add (pv 4) (pe_dget2 (by exact hu) (pe_dget (by exact hu) (pv 1) pe_str (fun _ _ => rfl)) (pv 3) pe_int ⟨by rfl, by rfl, by rfl, by rfl⟩)) pa_nil)))))
  (pss_one
  (ps_ret (pe_and (pe_cmpR (op_eqD hr.units) (pe_mt0 (ok_tally T) hr (by omega) (pv 0)) (pv 2) (nomark _)) (pe_one (pe_cmpR (op_eqD hr.units) (pe_mt0 (ok_walk T) hr (by omega) (pv 0)) (pe_slice sl_list (pe_dget (by exact hu) (pv 1) pe_str (fun _ _ => rfl)) po_none (po_some pe_int)) (nomark _))))))), ?_⟩
  refine ⟨_, rfl, wd, _, rfl, get_eng WA, ?_⟩
  refine M2.self (m := "tally") (by decide +kernel) ?_
  refine ⟨p2, d2, e2, S2, rfl, M2, fun D1 ts1 H1 n1 s1 h1 P1 => ?_⟩
  refine ⟨D1, rfl, ⟨_, SqL.of h1⟩, fun D2 hD2 => ?_⟩
  have WA1 := WA.same s1
  refine lc_list (K := K) (a := D1) (xs := ts1.map V.ref) (fun i H2 => ∃ us : List Addr, Same H1 H2 ∧ H2 D2 = some (.lst (us.map V.ref)) ∧ Paired (fun t x => H2 t = some (.tup [.str x, .int (S2.cnt x)])) us (wordsL.take i)) ?_ ?_ ?_ ?_
  · exact ⟨[], same_upd hD2, upd_same, .nil⟩
  · rintro i H2 _ ⟨us, s2, _⟩
    exact SqL.of (s2 _ _ h1)
  · rintro i x H2 hx ⟨us, s2, hl, hus⟩
    obtain ⟨t, ht, rfl⟩ : ∃ t, ts1[i]? = some t ∧ x = V.ref t := by
      rw [List.getElem?_map] at hx
      cases e : ts1[i]? with
      | none => rw [e] at hx; cases hx
      | some t => rw [e] at hx; exact ⟨t, rfl, (Option.some.inj hx).symm⟩
    obtain ⟨z, hz, hzt⟩ := paired_get P1 ht
    refine ⟨t, _, rfl, SqT.of (s2 _ _ hzt), rfl, _, _, rfl, _, _, rfl, rfl, rfl, ?_⟩
    have WA2 := WA1.same s2
    refine ⟨_, rfl, _, rfl, _, rfl, wd, _, rfl, get_cnt WA2, cd, rfl, .inl ⟨[], .inl WA2.cd⟩, _, rfl, none, DGet.k (k := Sum.inr z) WA2.cd, _, _, rfl, rfl, ?_⟩
    refine ⟨by show 2 ≤ sizeLine; decide, fun t2 ht2 => ?_⟩
    have hl' : (upd H2 t2 (.tup [.str z, .int (S2.cnt z + 0)])) D2 = some (.lst (us.map V.ref)) := by rw [upd_ne (ne_of_none hl ht2)]; exact hl
    have lt : us.length ≤ 10 := by
      rw [Paired.length hus, List.length_take]
      exact Nat.min_le_right _ _
    refine ⟨_, hl', by rw [List.length_map]; exact Nat.lt_of_le_of_lt lt (by decide), us ++ [t2], ?_, ?_, ?_⟩
    · intro b o hb
      have n1 : b ≠ D2 := fun z => by rw [z, hD2] at hb; cases hb
      rw [upd_ne n1, upd_ne (ne_of_none (s2 b o hb) ht2)]
      exact s2 b o hb
    · rw [upd_same, List.map_append] <;> rfl
    · rw [take_next hz]
      refine Paired.snoc (Paired.mapP hus fun a b e => ?_) ?_
      · rw [upd_ne (ne_of e hl (by intro q; cases q)), upd_ne (ne_of_none e ht2)]
        exact e
      · rw [upd_ne (Ne.symm (ne_of_none hl ht2)), upd_same]
        show some (HO.tup [V.str z, V.int (S2.cnt z + 0)]) = _
        rw [Int.add_zero]
  rintro H2 ⟨us, s2, hl, hus⟩
  rw [show wordsL.take (ts1.map V.ref).length = wordsL by rw [List.length_map, Paired.length P1]; rfl] at hus
  have M1b := (M1.same s1).same s2
  refine ⟨_, rfl, ?_⟩
  refine M1b.self (m := "tally") (by decide +kernel) ?_
  refine ⟨p1, d1, e1, S1, rfl, M1b, fun D3 ts3 H3 n3 s3 h3 P3 => ?_⟩
  have hus3 := Paired.mapP hus (G := fun t x => H3 t = some (.tup [.str x, .int (S2.cnt x)])) fun a b e => s3 _ _ e
  have f1 : Fit 8 (.list (wordsL.map fun x => PyData.tuple [.str x, .int (S1.cnt x)])) := fit_lst fun dd hd => by
    obtain ⟨x, hx, rfl⟩ := List.mem_map.mp hd
    refine (fit_tup (k := 0) fun d2 hd2 => ?_).mono (by decide)
    rcases List.mem_cons.mp hd2 with rfl | hd2
    · exact fit_str _ (words_ok x hx)
    obtain rfl := List.mem_singleton.mp hd2
    exact fit_int _ _
  have same2 : (wordsL.map fun x => PyData.tuple [.str x, .int (S2.cnt x)]) = wordsL.map fun x => PyData.tuple [.str x, .int (S1.cnt x)] := List.map_congr_left fun x hx => by rw [hcnt x hx]
  have dp2 := dp_tal (K := K) (f := S2.cnt) hus3
  rw [same2] at dp2
  refine ⟨_, rfl, _, _, .lst (SqL.of h3) (dp_tal P3), .lst (SqL.of (s3 _ _ hl)) dp2, f1.shaped, f1.shaped, ?_⟩
  rw [f1.refl]
  refine ⟨true, rfl, ?_⟩
  refine iteT ?_
  have M1c := M1b.same s3
  refine ⟨_, rfl, ?_⟩
  refine M1c.self (m := "walk") (by decide +kernel) ?_
  refine ⟨p1, d1, e1, S1, rfl, M1c, fun ts4 l4 E4 hl4 => ?_⟩
  have s4 := same_upd (o := .lst (ts4.map V.ref)) hl4
  have WA4 := ((WA1.same s2).same s3).same s4
  obtain ⟨ts5, h5, E5⟩ := WA4.wl
  refine ⟨_, rfl, wd, _, rfl, get_walk WA4, _, rfl, wl, _, rfl, SqL.of h5, fun p6 hp6 => ?_⟩
  rw [show (1000 : Int) = ((1000 : Nat) : Int) from rfl, cut_to, ← List.map_take]
  have s6 := same_upd (o := .lst ((ts5.take 1000).map V.ref)) hp6
  obtain ⟨H6, hH6⟩ : ∃ H6, H6 = upd (upd H3 l4 (.lst (ts4.map V.ref))) p6 (.lst ((ts5.take 1000).map V.ref)) := ⟨_, rfl⟩
  have h6 : H6 p6 = some (.lst ((ts5.take 1000).map V.ref)) := by rw [hH6]; exact upd_same
  rw [← hH6] at s6 ⊢
  have E6 : EntAt H6 (ts5.take 1000) (W.take 1000) := (E5.mono fun t xs => s6 t _).take 1000
  have E4' : EntAt H6 ts4 S1.ent := E4.mono fun t xs e => s6 _ _ (s4 _ _ e)
  have f2 : Fit 8 (.list (S1.ent.map fun x => PyData.tuple [.str x.1, .int x.2.1, .int x.2.2])) := fit_lst fun dd hd => by
    obtain ⟨x, hx, rfl⟩ := List.mem_map.mp hd
    rw [hent] at hx
    refine (fit_tup (k := 0) fun d2 hd2 => ?_).mono (by decide)
    rcases List.mem_cons.mp hd2 with rfl | hd2
    · exact fit_str _ (hok x (List.mem_of_mem_take hx))
    rcases List.mem_cons.mp hd2 with rfl | hd2
    · exact fit_int _ _
    obtain rfl := List.mem_singleton.mp hd2
    exact fit_int _ _
  have d6 := dp_ent (K := K) E6
  rw [← hent] at d6
  have d4 := dp_ent (K := K) E4'
  refine ⟨_, _, .lst (SqL.of (s6 _ _ upd_same)) d4, .lst (SqL.of h6) d6, f2.shaped, f2.shaped, ?_⟩
  rw [f2.refl]
  exact q H6 (s1.trans (s2.trans (s3.trans (s4.trans s6))))
end
end T87
namespace T87
open PySem PySem.Spec PyProof.Rows L2
open LamX NdefX
/-- a dict of other length than the tally's -/
theorem MachAt.kDic {C p d e : Addr} {H H' : Hp} {S : MS} (M : MachAt C H p d e S) (k : Kp [d, e] H H') {a : Addr} {kvs : List (Key × V)} (h : H a = some (.dK kvs)) (hl : kvs.length ≠ 10) : H' a = some (.dK kvs) := by
  obtain ⟨ts, h2, _⟩ := M.en
  refine k a _ h fun z => ?_
  rcases List.mem_cons.mp z with z | z
  · rw [z, M.cn] at h
    exact hl (by rw [← HO.dK.inj (Option.some.inj h), kvs_len])
  · exact ne_of h h2 (by intro q; cases q) (List.mem_singleton.mp z)
theorem WorldAt.kp {C p d e : Addr} {H H' : Hp} {S : MS} {wd m wl cd : Addr} {W : List (Str × Int × Int)} (WA : WorldAt H wd m wl cd W) (M : MachAt C H p d e S) (k : Kp [d, e] H H') (hwe : wl ≠ e) : WorldAt H' wd m wl cd W := by
  obtain ⟨h1, h2, ts, h3, h4⟩ := WA
  exact ⟨M.kDic k h1 (by show 3 ≠ 10; decide), M.kDic k h2 (by show 0 ≠ 10; decide), ts, M.kLst k h3 hwe, h4.mono fun t xs => M.kTup k⟩
section
variable {P : Program} {w : World} {K : PySem.W.Frag} {mg : Str → Option Value} {base : Heap} (T : Tx K mg)
include T
theorem ok_ran_body {q : Str} {params : Arguments} {bodyE : PySem.Expr} {scope : Scope} {cl : List (Str × Addr)} {pm ctv : Value} {c' f0 : Addr} (x y : Addr)
    (S : NScope ["_law_engine", "_law_first", "_law_second"] ["_law_engine"] ["_law_first", "_law_second"] scope)
    (hbind : ∀ u : Value, bindArgs (PySem.W.kla_fn "<lambda>" q params bodyE scope cl pm (.ref c') ctv) ⟨[u], []⟩ = pure [(("_law_engine" : Str), u)])
    (hbody : ∀ (A : Around) (outer : List Env) (s : Shared) (H : Hp) (v : V) (Q : VK), Room 28 (A.deeper (envF (lamNF q params scope cl c') f0 s.heap.objs.size)) → spMult K [v, .ref x, .ref y] H Q E0 →
      ∃ tb, PE (ncx CX0 P w K mg base ["_law_engine", "_law_first", "_law_second"] (lamNF q params scope cl c') f0 A outer s H E0).nox bodyE tb ∧ tb (startF ["_law_engine", "_law_first", "_law_second"] [v] [some (.ref x), some (.ref y)]) H Q)
    {A : Around} {outer : List Env} {s : Shared} {H : Hp} {cdv : Value} (hr : Room 29 (A.deeper (envOfC "_law_ran" (defScope s_law_ran) s.heap.objs.size (He.ga K "_law_ran") cdv)))
    (hf : s.heap.get? f0 = some (PySem.W.kla_obj "<lambda>" q params bodyE scope cl pm c' ctv)) (hfn : H f0 = none) (hff : f0 ∉ frs outer) (C : CellsAt cl ["_law_first", "_law_second"] [some (.ref x), some (.ref y)] s.heap H)
    (hcf : ∀ y c, cl.lookup y = some c → c ∉ frs outer) (hc : H c' = some (CodeO c' q)) {p d e wd wl cd : Addr} {SS : MS} {W : List (Str × Int × Int)} {u v : Int} {Q : VK} (M : MachAt (CM K) H p d e SS) (WA : WorldAt H wd p wl cd W) (hwe : wl ≠ e)
    (X1 : BigAt (CB K) H x SS.w u) (Y1 : BigAt (CB K) H y SS.w v) (hu1 : u < MID) (hv1 : v < MID) (hW : W.length ≤ 2000)
    (h : ∀ z H', H z = none → Kp [wl, d, e] H H' → MachAt (CM K) H' p d e (SS.ops (multOps (2 ^ SS.w) SS.c u v)) → WorldAt H' wd p wl cd (W ++ (entsOf (multOps (2 ^ SS.w) SS.c u v)).take (1000 - SS.ent.length)) → BigAt (CB K) H' z SS.w (u * v) → Q (.ref z) H') :
    ∃ t, PSs (cxOf CX0 P w K mg base ["_law_world_here", "_law_ask", "_law_before", "_law_found"] "_law_ran" (defScope s_law_ran) (He.ga K "_law_ran") cdv A outer s H E0).nox (defBody s_law_ran) t ∧
      t { nx := fun _ H' => Q .non H', rt := Q } (start ["_law_world_here", "_law_ask", "_law_before", "_law_found"] [.ref wd, .ref f0]) H := by
  have nd : (["_law_world_here", "_law_ask", "_law_before", "_law_found"] : List Str).Nodup := by decide +kernel
  have hu := hu_of hr
  refine ⟨_, (pss_cons (ps_set (i := 2) nd rfl (Or.inl rfl) (pe_callB call_lnQ (by rfl) T.b_len PySem.boot_len (pa_cons (pe_mt0 (ok_walk T) hr (by omega) (pe_dget (by exact hu) (pv 0) pe_str (fun _ _ => rfl))) pa_nil)))
  (pss_cons (ps_set (i := 3) nd rfl (Or.inl rfl) (pe_act1 (i := 1) S hbind hbody hr rfl hf hfn hff C hcf (pe_dget (by exact hu) (pv 0) pe_str (fun _ _ => rfl)) rfl (Or.inl rfl)))
  (pss_cons (ps_expr (pe_bm PySem.F.plainAttrs_list PySem.F.slot_list_extend PySem.F.type_list_extend mt_extend (pe_dget (by exact hu) (pv 0) pe_str (fun _ _ => rfl)) (pa_cons (pe_slice sl_list (pe_mt0 (ok_walk T) hr (by omega) (pe_dget (by exact hu) (pv 0) pe_str (fun _ _ => rfl))) (po_some (pv 2)) po_none) pa_nil)))
  (pss_one
  (ps_ret (pv 3)))))), ?_⟩
  refine ⟨_, rfl, wd, _, rfl, get_eng WA, ?_⟩
  refine M.self (m := "walk") (by decide +kernel) ?_
  refine ⟨p, d, e, SS, rfl, M, fun ts1 l1 E1 hl1 => ?_⟩
  have s1 := same_upd (o := .lst (ts1.map V.ref)) hl1
  refine ⟨l1, _, rfl, Sq.lst upd_same, ?_⟩
  rw [List.length_map, E1.len]
  have M1 := M.same s1
  have WA1 := WA.same s1
  refine ⟨rfl, _, rfl, wd, _, rfl, get_eng WA1, s1 _ _ hc, ?_⟩
  refine ⟨p, d, e, SS, x, u, y, v, rfl, M1, X1.same s1, Y1.same s1, hu1, hv1, fun z H2 n2 k2 M2 B2 => ?_⟩
  have WA2 := WA1.kp M1 k2 hwe
  -- world['walk'].extend(world['engine'].walk()[before:])
  obtain ⟨ts2, h2, E2⟩ := WA2.wl
  refine ⟨_, rfl, wd, _, rfl, get_walk WA2, ?_⟩
  refine ⟨.inl ⟨rfl, _, SqL.of h2⟩, _, rfl, wd, _, rfl, get_eng WA2, ?_⟩
  refine M2.self (m := "walk") (by decide +kernel) ?_
  refine ⟨p, d, e, _, rfl, M2, fun ts3 l3 E3 hl3 => ?_⟩
  have s3 := same_upd (o := .lst (ts3.map V.ref)) hl3
  refine ⟨_, rfl, _, rfl, l3, _, rfl, SqL.of upd_same, fun p4 hp4 => ?_⟩
  rw [cut_from, ← List.map_drop]
  have s4 := same_upd (o := .lst ((ts3.drop SS.ent.length).map V.ref)) hp4
  have hent := ops_ent (multOps (2 ^ SS.w) SS.c u v) SS M.vl
  have E4 : EntAt H2 (ts3.drop SS.ent.length) ((entsOf (multOps (2 ^ SS.w) SS.c u v)).take (1000 - SS.ent.length)) := by
    have := E3.drop SS.ent.length
    rw [hent, List.drop_append, List.drop_eq_nil_of_le (Nat.le_refl _), List.nil_append, Nat.sub_self, List.drop_zero] at this
    exact this
  have hwl4 := s4 _ _ (s3 _ _ h2)
  have M4 := (M2.same s3).same s4
  have WA4 := (WA2.same s3).same s4
  have kk : Kp [d, e] H _ := (((Kp.of s1).trans k2).trans (Kp.of s3)).trans (Kp.of s4)
  refine ⟨wl, p4, _, _, rfl, rfl, hwl4, upd_same, ?_, ?_⟩
  · rw [List.length_map, List.length_map, E2.len, E4.len, List.length_take]
    exact Nat.le_trans (show W.length + min (1000 - SS.ent.length) (entsOf (multOps (2 ^ SS.w) SS.c u v)).length ≤ 5000 by omega) (by decide)
  rw [← List.map_append]
  have nwp : wl ≠ p := fun z => by
    obtain ⟨dx, fs, hp, _⟩ := M4.ob
    exact ne_of hwl4 hp (by intro q; cases q) z
  refine ⟨_, rfl, h z _ (s1.free n2) ((kk.mono (by simp)).trans (Kp.put (by simp))) (M4.lst hwl4 hwe) ?_ ?_⟩
  · refine ⟨?_, ?_, ts2 ++ ts3.drop SS.ent.length, upd_same, ?_⟩
    · rw [upd_ne (ne_of WA4.wd hwl4 (by intro q; cases q))]
      exact WA4.wd
    · rw [upd_ne (ne_of WA4.cd hwl4 (by intro q; cases q))]
      exact WA4.cd
    · exact (E2.append E4).mono fun t xs e => by
        have e4 := s4 _ _ (s3 _ _ e)
        rw [upd_ne (ne_of e4 hwl4 (by intro q; cases q))]
        exact e4
  · exact ((B2.same s3).same s4).lst hwl4
end
end T87
namespace T87
open PySem PySem.Spec PyProof.Rows L2
open LamX NdefX
abbrev cA (K : PySem.W.Frag) : Addr := (He.cT K ("_law_due", none)).1
abbrev pA (K : PySem.W.Frag) : Addr := (He.cT K ("_law_due", none)).2
abbrev lamQ : Str := "_law_due.<locals>.<lambda>"
abbrev tabT (K : PySem.W.Frag) : List (Addr × Str) := [(pA K, lamQ)]
/-- tables of code objects may be written -/
def KpN (xs : List Addr) (H H' : Hp) : Prop := ∀ b o, H b = some o → (∀ ps, o ≠ .tbl ps) → b ∉ xs → H' b = some o
theorem KpN.of {xs : List Addr} {H H' : Hp} (k : Kp xs H H') : KpN xs H H' := fun b o h _ n => k b o h n
theorem KpN.ext {xs : List Addr} {H H' : Hp} (k : ExtN H H') : KpN xs H H' := fun b o h n _ => k b o h n
theorem KpN.trans {xs : List Addr} {H H1 H2 : Hp} (a : KpN xs H H1) (b : KpN xs H1 H2) : KpN xs H H2 := fun c o h n m => b c o (a c o h n m) n m
theorem KpN.mono {xs ys : List Addr} {H H' : Hp} (k : KpN xs H H') (h : ∀ b ∈ xs, b ∈ ys) : KpN ys H H' := fun b o e n m => k b o e n fun z => m (h b z)
def ttRan (K : PySem.W.Frag) : List (Option V) → Addr → Addr → V → Hp → VK → Prop := fun ws f0 c' v0 H Q => ∃ wd p d e wl cd S W x u y v, v0 = .ref wd ∧ ws = [some (.ref x), some (.ref y)] ∧ H c' = some (CodeO c' lamQ) ∧ MachAt (CM K) H p d e S ∧ WorldAt H wd p wl cd W ∧ wl ≠ e ∧
  BigAt (CB K) H x S.w u ∧ BigAt (CB K) H y S.w v ∧ u < MID ∧ v < MID ∧ W.length ≤ 2000 ∧
  ∀ z H', H z = none → Kp [wl, d, e] H H' → MachAt (CM K) H' p d e (S.ops (multOps (2 ^ S.w) S.c u v)) → WorldAt H' wd p wl cd (W ++ (entsOf (multOps (2 ^ S.w) S.c u v)).take (1000 - S.ent.length)) → BigAt (CB K) H' z S.w (u * v) → Q (.ref z) H'
abbrev pe3 (n : Int) (k : Nat) : Str × Int × Int := ("perm", n, (k : Int))
theorem permW_ok : PyData.strOk ("perm" : Str) = true := by decide +kernel
def dueC (j : Nat) : Nat := 2 ^ (j + 1) - 1
def spDue (K : PySem.W.Frag) (j : Nat) : Sp := fun vs H Q _ => ∃ wd p d e wl cd S W n k, vs = [.ref wd, .int n, .int (k : Nat)] ∧ MachAt (CM K) H p d e S ∧ WorldAt H wd p wl cd W ∧ wl ≠ e ∧ Tabs (tabT K) H ∧ (k : Int) ≤ n ∧ n < 2 ^ 63 ∧ k ≤ 2 ^ j ∧ k ≤ 1000 ∧ worth n k < MID ∧
  okEnt W ∧ W.length + dueC j ≤ 600 + S.ent.length ∧
  ∀ z H' W', KpN [wl, d, e] H H' → MachAt (CM K) H' p d e (S.ops (dueOps (2 ^ S.w) S.c j n k)) → WorldAt H' wd p wl cd W' → Tabs (tabT K) H' → okEnt W' → W'.length + S.ent.length ≤ W.length + dueC j + (S.ops (dueOps (2 ^ S.w) S.c j n k)).ent.length →
    (∀ E, Rel W S.ent.length E → Rel W' (S.ops (dueOps (2 ^ S.w) S.c j n k)).ent.length (E ++ entsOf (rowsOps (2 ^ S.w) S.c j n k))) → BigAt (CB K) H' z S.w (worth n k) → Q (.ref z) H'
def spDueS (K : PySem.W.Frag) : Nat → Sp
  | 0 => fun _ _ _ _ => False
  | j + 1 => spDue K j
theorem tab_kp {K : PySem.W.Frag} {H H' : Hp} {xs : List Addr} (t : Tabs (tabT K) H) (k : Kp xs H H') (hx : ∀ b ∈ xs, ∀ ps c q, H b ≠ some (.tbl ps) ∧ H b ≠ some (CodeO c q)) : Tabs (tabT K) H' := by
  intro p hp
  obtain ⟨ps, h1, h2, h3⟩ := t p hp
  refine ⟨ps, k _ _ h1 fun z => (hx _ z ps 0 lamQ).1 h1, h2, fun pos cv hc => ?_⟩
  obtain ⟨c, e, h4⟩ := h3 pos cv hc
  exact ⟨c, e, k _ _ h4 fun z => (hx _ z ps c p.2).2 h4⟩
theorem plain_ne {H : Hp} {b : Addr} {o : HO} (h : H b = some o) (ho : ∀ ps, o ≠ .tbl ps) (h2 : ∀ c q, o ≠ CodeO c q) : ∀ ps c q, H b ≠ some (.tbl ps) ∧ H b ≠ some (CodeO c q) := fun ps c q => ⟨fun z => ho ps (by rw [h] at z; exact Option.some.inj z), fun z => h2 c q (by rw [h] at z; exact Option.some.inj z)⟩
theorem lst_ne {H : Hp} {b : Addr} {xs : List V} (h : H b = some (.lst xs)) : ∀ ps c q, H b ≠ some (.tbl ps) ∧ H b ≠ some (CodeO c q) := plain_ne h (fun _ z => by cases z) (fun _ _ z => by cases z)
theorem dic_ne {H : Hp} {b : Addr} {xs : List (Key × V)} (h : H b = some (.dK xs)) : ∀ ps c q, H b ≠ some (.tbl ps) ∧ H b ≠ some (CodeO c q) := plain_ne h (fun _ z => by cases z) (fun _ _ z => by cases z)
theorem tab_m {K : PySem.W.Frag} {C p d e : Addr} {S : MS} {H H' : Hp} (t : Tabs (tabT K) H) (M : MachAt C H p d e S) (k : Kp [d, e] H H') : Tabs (tabT K) H' := by
  obtain ⟨ts, h2, _⟩ := M.en
  refine tab_kp t k fun b hb => ?_
  rcases List.mem_cons.mp hb with rfl | hb
  · exact dic_ne M.cn
  · rw [List.mem_singleton.mp hb]
    exact lst_ne h2
theorem tab_mw {K : PySem.W.Frag} {C p d e wl : Addr} {S : MS} {H H' : Hp} {xs : List V} (t : Tabs (tabT K) H) (M : MachAt C H p d e S) (hw : H wl = some (.lst xs)) (k : Kp [wl, d, e] H H') : Tabs (tabT K) H' := by
  obtain ⟨ts, h2, _⟩ := M.en
  refine tab_kp t k fun b hb => ?_
  rcases List.mem_cons.mp hb with rfl | hb
  · exact lst_ne hw
  rcases List.mem_cons.mp hb with rfl | hb
  · exact dic_ne M.cn
  · rw [List.mem_singleton.mp hb]
    exact lst_ne h2
theorem big_kp {C D p d e wl x : Addr} {S : MS} {H H' : Hp} {w : Nat} {v : Int} {xs : List V} (B : BigAt C H x w v) (M : MachAt D H p d e S) (hw : H wl = some (.lst xs)) (k : KpN [wl, d, e] H H') : BigAt C H' x w v := by
  obtain ⟨ts, h2, _⟩ := M.en
  have ok : ∀ {b : Addr} {o : HO}, H b = some o → (∀ ps, o ≠ .tbl ps) → (∀ xs, o ≠ .lst xs) → (∀ kvs, o ≠ .dK kvs) → H' b = some o := fun {b o} h n1 n2 n3 => by
    refine k b o h n1 fun z => ?_
    rcases List.mem_cons.mp z with rfl | z
    · rw [hw] at h
      exact n2 xs (Option.some.inj h).symm
    rcases List.mem_cons.mp z with rfl | z
    · rw [M.cn] at h
      exact n3 _ (Option.some.inj h).symm
    · rw [List.mem_singleton.mp z, h2] at h
      exact n2 _ (Option.some.inj h).symm
  exact B.mono (fun _ _ _ _ h => ok h (fun _ z => by cases z) (fun _ z => by cases z) (fun _ z => by cases z)) (fun _ _ h => ok h (fun _ z => by cases z) (fun _ z => by cases z) (fun _ z => by cases z))
theorem MachAt.ext {C p d e : Addr} {H H' : Hp} {S : MS} (M : MachAt C H p d e S) (k : ExtN H H') : MachAt C H' p d e S := by
  obtain ⟨dx, fs, h1, F⟩ := M.ob
  obtain ⟨ts, h2, E⟩ := M.en
  exact ⟨⟨dx, fs, k _ _ h1 (fun _ z => by cases z), F⟩, k _ _ M.cn (fun _ z => by cases z), ⟨ts, k _ _ h2 (fun _ z => by cases z), E.mono fun t xs h => k _ _ h (fun _ z => by cases z)⟩, M.w1, M.w2, M.c1, M.c2, M.vl⟩
theorem WorldAt.ext {H H' : Hp} {wd m wl cd : Addr} {W : List (Str × Int × Int)} (h : WorldAt H wd m wl cd W) (k : ExtN H H') : WorldAt H' wd m wl cd W := by
  obtain ⟨h1, h2, ts, h3, h4⟩ := h
  exact ⟨k _ _ h1 (fun _ z => by cases z), k _ _ h2 (fun _ z => by cases z), ts, k _ _ h3 (fun _ z => by cases z), h4.mono fun t xs h => k _ _ h (fun _ z => by cases z)⟩
theorem BigAt.ext {C x : Addr} {H H' : Hp} {w : Nat} {v : Int} (B : BigAt C H x w v) (k : ExtN H H') : BigAt C H' x w v := B.mono (fun _ _ _ _ h => k _ _ h (fun _ z => by cases z)) (fun _ _ h => k _ _ h (fun _ z => by cases z))
theorem dueOps_lt {B : Int} {c : Nat} {n : Int} {k : Nat} (h : worth n k < 2 ^ 64) : ∀ {j : Nat}, dueOps B c j n k = []
  | 0 => rfl
  | j + 1 => by rw [dueOps, if_pos h]
theorem C8_ns {N ps fr : List Str} {sc : Scope} (h : nscB N ps fr sc = true) : NScope N ps fr sc := nscope_by h
theorem cl_due {P : Program} {w : World} {K : PySem.W.Frag} {mg : Str → Option Value} {base : Heap} {k : Nat} {sp : Sp} {N : List Str} (T : Tx K mg) (S : C8.scC N ["_law_world_here", "_law_nn", "_law_kk"] (defScope s_law_due) = true)
    (len : ∀ vs H Q E, sp vs H Q E → vs.length = 3)
    (hbody : ∀ (A : Around) (outer : List Env) (s : Shared) (H : Hp) (vs : List V) (Q : VK) (E : XK), Room k (A.deeper (envOfC "_law_due" (defScope s_law_due) s.heap.objs.size (He.ga K "_law_due") (.ref (cA K)))) → sp vs H Q E →
      ∃ t, PSs (cxOf CX0 P w K mg base N "_law_due" (defScope s_law_due) (He.ga K "_law_due") (.ref (cA K)) A outer s H E).nox (defBody s_law_due) t ∧ t { nx := fun _ H' => Q .non H', rt := Q } (start N vs) H) :
    Cl P w K mg base (k + 1) "_law_due" ["_law_world_here", "_law_nn", "_law_kk"] sp := by
  obtain ⟨fd, F⟩ := T.f_law_due
  have hb := F.bindsN (ps := ["_law_world_here", "_law_nn", "_law_kk"]) fun _ _ _ _ _ _ us hl => match us, hl with | [_, _, _], _ => rfl
  have hk := F.kp
  obtain ⟨oc, od, dV, kV, doc, pm, an, cdv, ct, osl, efd, lk, hcd, _, _⟩ := F.ex
  obtain ⟨c, rfl⟩ := He.codeIn_ref hcd
  have ec : cA K = c := He.codeOf_eq (p := ("_law_due", none)) lk (by rw [efd])
  subst efd
  rw [← ec] at lk hcd hb
  refine ⟨⟨_, fn_of lk hcd (C8.fnScope_by S) len fun A outer s H vs Q E hr h => ?_, hb⟩, T.m_law_due, hk⟩
  obtain ⟨t, ht, hq⟩ := hbody A outer s H vs Q E hr h
  exact ⟨t, ht.nox, hq⟩
section
variable {P : Program} {w : World} {K : PySem.W.Frag} {mg : Str → Option Value} {base : Heap} (T : Tx K mg) (TB : TabB base mg (cA K) (pA K))
include T TB
theorem ok_due_step {j : Nat} (DU : Cl P w K mg base (30 + j) "_law_due" ["_law_world_here", "_law_nn", "_law_kk"] (spDueS K j)) : Cl P w K mg base (31 + j) "_law_due" ["_law_world_here", "_law_nn", "_law_kk"] (spDue K j) := by
  refine Cl.mono (j := 30 + j + 1) ?_ (by omega)
  refine cl_due (N := ["_law_world_here", "_law_nn", "_law_kk", "_law_worth_here", "_law_first", "_law_second"]) (k := 30 + j) T (by decide +kernel) (fun vs H Q E h => ?_) (fun A outer s H vs Q E hr h => ?_)
  · obtain ⟨wd, p, d, e, wl, cd, S, W, n, k, rfl, _⟩ := h
    rfl
  obtain ⟨wd, p, d, e, wl, cd, S, W, n, k, rfl, M, WA, hwe, tT, hk, hn, hj, hk2, hw, hok, hlen, q⟩ := h
  have nd : (["_law_world_here", "_law_nn", "_law_kk", "_law_worth_here", "_law_first", "_law_second"] : List Str).Nodup := by decide +kernel
  have hu := hu_of hr
  obtain ⟨fdR, FR⟩ := T.f_law_ran
  have hbR := FR.bindsN (ps := ["_law_world_here", "_law_ask"]) fun _ _ _ _ _ _ us hl => match us, hl with | [_, _], _ => rfl
  have hkR := FR.kp
  obtain ⟨ocR, odR, dVR, kVR, docR, pmR, anR, cdvR, ctR, oslR, efdR, lkR, hcdR, _, _⟩ := FR.ex
  subst efdR
  refine ⟨_, (pss_cons (ps_expr (pe_bm PySem.F.plainAttrs_list PySem.F.slot_list_append PySem.F.type_list_append mt_append (pe_dget (by exact hu) (pv 0) pe_str (fun _ _ => rfl)) (pa_cons (pe_tup (pa_cons pe_str (pa_cons (pv 1) (pa_cons (pv 2) pa_nil)))) pa_nil)))
  (pss_cons (ps_set (i := 3) nd rfl (Or.inl rfl) (pe_cl (ok_law_worth T) hr (by omega) (pa_cons (pv 1) (pa_cons (pv 2) pa_nil))))
  (pss_cons (ps_if (pt_cmpR op_lt (pv 3) (pe_op op_oneShl pe_int pe_int) (nomark _)) (pss_one
  (ps_ret (pe_cl (ok_big T) hr (by omega) (pa_cons (pe_dget (by exact hu) (pv 0) pe_str (fun _ _ => rfl)) (pa_cons (pv 3) pa_nil))))) pss_nil)
  (pss_cons (ps_set (i := 4) nd rfl (Or.inr rfl) (pe_cl DU hr (by omega) (pa_cons (pv 0) (pa_cons (pv 1) (pa_cons (pe_op op_fdivNN (pv 2) pe_int) pa_nil)))))
  (pss_cons (ps_set (i := 5) nd rfl (Or.inr rfl) (pe_cl DU hr (by omega) (pa_cons (pv 0) (pa_cons (pe_op op_sub (pv 1) (pe_op op_fdivNN (pv 2) pe_int)) (pa_cons (pe_op op_subN (pv 2) (pe_op op_fdivNN (pv 2) pe_int)) pa_nil)))))
  (pss_one
  (ps_ret (pe_lam2 (T := tabT K) (k := 28) (Ng := ["_law_world_here", "_law_ask", "_law_before", "_law_found"]) (N := ["_law_engine", "_law_first", "_law_second"]) (fr := ["_law_first", "_law_second"]) (js := [4, 5]) (TT := ttRan K) (spL := fun _ _ _ _ => True) (ap := "x") rfl T.m_law_ran hkR lkR hcdR hbR (C8.fnScope_by (by decide +kernel)) ?hG TB rfl (List.mem_singleton.mpr rfl) (fun p hp _ => by rw [List.mem_singleton.mp hp]; rfl) (hr.mono (by omega)) ?hfree ?hfr rfl rfl (pv 0) (fun _ => rfl))))))))), ?_⟩
  case hG =>
    rintro f0 c' cl pml ctv ws s2 H2 v0 Q2 hf hfn hff C hcf hr2 ⟨wd2, p2, d2, e2, wl2, cd2, S2, W2, x, u, y, v, rfl, rfl, hc, M2, WA2, hwe2, X2, Y2, hu2, hv2, hW2, h2⟩
    refine ok_ran_body T x y (C8_ns (by decide +kernel)) (fun _ => rfl) (fun A3 outer3 s3 H3 v3 Q3 hr3 h3 => ?_) hr2 hf hfn hff C hcf hc M2 WA2 hwe2 X2 Y2 hu2 hv2 hW2 h2
    refine ⟨_, (pe_cl (ok_multiply T) hr3 (by omega) (pa_cons (pv 0) (pa_cons (pv 1) (pa_cons (pv 2) pa_nil)))), ?_⟩
    exact ⟨_, rfl, _, rfl, _, rfl, h3⟩
  case hfree =>
    show ∀ y ∈ (_ : List (Str × NameKind)), y.2 = NameKind.free → (defScope s_law_due).names.lookup y.1 = some .cell ∨ (defScope s_law_due).names.lookup y.1 = some .free
    decide +kernel
  case hfr => decide +kernel
  have wp := worth_pos hk
  refine ⟨_, rfl, wd, _, rfl, get_walk WA, ?_⟩
  obtain ⟨ts, h2, E2⟩ := WA.wl
  have d600 : dueC j ≤ 2000 := by have := M.vl; omega
  refine ⟨.inl ⟨rfl, _, SqL.of h2⟩, _, rfl, _, rfl, by show 3 ≤ sizeLine; decide, fun t ht => ?_⟩
  have s1 := same_upd (o := .tup [.str "perm", .int n, .int (k : Nat)]) ht
  refine ⟨wl, _, _, rfl, rfl, s1 _ _ h2, ?_, ?_⟩
  · rw [List.length_map, E2.len]
    exact Nat.lt_of_le_of_lt (show W.length ≤ 3000 by have := M.vl; omega) (by decide)
  rw [show ts.map V.ref ++ [V.ref t] = (ts ++ [t]).map V.ref by rw [List.map_append] <;> rfl]
  obtain ⟨H1, hH1⟩ : ∃ H1, H1 = upd (upd H t (.tup [.str "perm", .int n, .int (k : Nat)])) wl (.lst ((ts ++ [t]).map V.ref)) := ⟨_, rfl⟩
  have hw1 : H1 wl = some (.lst ((ts ++ [t]).map V.ref)) := by rw [hH1]; exact upd_same
  have M1 : MachAt (CM K) H1 p d e S := by rw [hH1]; exact (M.same s1).lst (s1 _ _ h2) hwe
  have k1 : Kp [wl] H H1 := by rw [hH1]; exact (Kp.of s1).trans (Kp.put (by simp))
  have WA1 : WorldAt H1 wd p wl cd (W ++ [pe3 n k]) := by
    have WB := WA.same s1
    refine ⟨?_, ?_, ts ++ [t], hw1, ?_⟩
    · rw [hH1, upd_ne (ne_of WB.wd (s1 _ _ h2) (by intro z; cases z))]
      exact WB.wd
    · rw [hH1, upd_ne (ne_of WB.cd (s1 _ _ h2) (by intro z; cases z))]
      exact WB.cd
    · have E3 : EntAt (upd H t (.tup [.str "perm", .int n, .int (k : Nat)])) (ts ++ [t]) (W ++ [pe3 n k]) := (E2.mono fun b xs h => s1 _ _ h).snoc upd_same
      exact E3.mono fun b xs h => by
        rw [hH1, upd_ne (ne_of h (s1 _ _ h2) (by intro z; cases z))]
        exact h
  have tT1 : Tabs (tabT K) H1 := tab_kp tT k1 fun b hb => by
    rw [List.mem_singleton.mp hb]
    exact lst_ne h2
  have ok1 : okEnt (W ++ [pe3 n k]) := fun x hx => (List.mem_append.mp hx).elim (hok x) fun z => by
    rw [List.mem_singleton.mp z]
    exact permW_ok
  rw [← hH1]
  have len1 : (W ++ [pe3 n k]).length = W.length + 1 := by rw [List.length_append, List.length_singleton]
  have fr1 : ∀ {b : Addr}, H1 b = none → H b = none := fun {b} hb => k1.free hb fun z => by
    rw [List.mem_singleton.mp z, hw1] at hb
    cases hb
  refine ⟨_, rfl, _, rfl, n, k, rfl, hk, hn, hk2, hw, ?_⟩
  refine ⟨_, rfl, 64, rfl, rfl, by decide, _, _, rfl, rfl, _, rfl, ?_⟩
  by_cases hlt : worth n k < 2 ^ 64
  · rw [decide_eq_true hlt]
    refine iteT ?_
    refine ⟨_, rfl, wd, _, rfl, get_eng WA1, _, rfl, p, d, e, S, _, rfl, M1, by omega, Int.lt_of_lt_of_le hlt w64, fun z H2 n2 s2 B => ?_⟩
    have dc : 1 ≤ dueC j := by
      unfold dueC
      have := Nat.one_le_two_pow (n := j)
      rw [Nat.pow_succ]
      omega
    refine q z H2 (W ++ [pe3 n k]) ((KpN.of (k1.mono (by simp))).trans (KpN.of (Kp.of s2))) ?_ (WA1.same s2) (tT1.ext s2) ok1 ?_ (fun E hE => ?_) B
    · rw [dueOps_lt hlt]
      exact M1.same s2
    · rw [dueOps_lt hlt, len1]
      show W.length + 1 + S.ent.length ≤ W.length + dueC j + S.ent.length
      omega
    · rw [dueOps_lt hlt, rowsOps_lt hlt]
      exact rel_push hE _
  · rw [decide_eq_false hlt]
    refine iteF ?_
    obtain ⟨i, rfl⟩ : ∃ i, j = i + 1 := by
      cases j with
      | succ i => exact ⟨i, rfl⟩
      | zero =>
        refine absurd ?_ hlt
        rw [Nat.pow_zero] at hj
        rcases (show k = 0 ∨ k = 1 by omega) with rfl | rfl
        · show (1 : Int) < 2 ^ 64
          decide
        · show 1 * (n - ((0 : Nat) : Int)) < 2 ^ 64
          omega
    rw [Nat.pow_succ] at hj
    have dcs : dueC (i + 1) = 1 + dueC i + dueC i := by
      unfold dueC
      have := Nat.one_le_two_pow (n := i + 1)
      rw [Nat.pow_succ 2 (i + 1)]
      omega
    have hkh : k / 2 + (k - k / 2) = k := by omega
    have wm := worth_mono (n := n) (a := k / 2) (b := k - k / 2) (by rw [hkh]; exact hk)
    rw [hkh] at wm
    have hp1 := worth_pos (n := n) (k := k / 2) (by omega)
    have hp2 := worth_pos (n := n - (k / 2 : Nat)) (k := k - k / 2) (by omega)
    refine ⟨_, rfl, _, rfl, _, rfl, k, 2, rfl, rfl, ⟨by decide, by decide⟩, wd, p, d, e, wl, cd, S, _, n, k / 2, rfl, M1, WA1, hwe, tT1, by omega, hn, by omega, by omega, by omega, ok1, by rw [len1]; omega, fun z1 H2 W2 k2 M2 WA2 tT2 ok2 len2 rel2 B2 => ?_⟩
    have k12 : KpN [wl, d, e] H H2 := (KpN.of (k1.mono (by simp))).trans k2
    refine ⟨_, rfl, _, rfl, _, rfl, k, 2, rfl, rfl, ⟨by decide, by decide⟩, _, _, rfl, rfl, _, rfl, _, rfl, k, 2, rfl, rfl, ⟨by decide, by decide⟩, k, k / 2, rfl, rfl, by omega, wd, p, d, e, wl, cd, _, W2, n - (k / 2 : Nat), k - k / 2, rfl, M2, WA2, hwe, tT2, by omega, by omega, by omega, by omega, by omega, ok2, by rw [len1] at len2; omega, ?_⟩
    rw [MS.ops_w, MS.ops_c, ← MS.ops_app]
    intro z2 H3 W3 k3 M3 WA3 tT3 ok3 len3 rel3 B3
    obtain ⟨tsw, hw2, _⟩ := WA2.wl
    have B2' := big_kp B2 M2 hw2 k3
    refine ⟨_, rfl, tT3, fun f0 c' H4 eN tT4 hc' => ?_⟩
    refine ⟨wd, p, d, e, wl, cd, _, W3, z1, worth n (k / 2), z2, worth (n - (k / 2 : Nat)) (k - k / 2), rfl, rfl, hc', M3.ext eN, WA3.ext eN, hwe, ?_⟩
    rw [MS.ops_w, MS.ops_c]
    have hv := M.vl
    have hv3 := M3.vl
    have hv2 := M2.vl
    rw [len1] at len2
    refine ⟨B2'.ext eN, B3.ext eN, by omega, by omega, by omega, fun z H5 n5 k5 M5 WA5 B5 => ?_⟩
    rw [← MS.ops_app] at M5
    have ed : dueOps (2 ^ S.w) S.c (i + 1) n k = dueOps (2 ^ S.w) S.c i n (k / 2) ++ dueOps (2 ^ S.w) S.c i (n - (k / 2 : Nat)) (k - k / 2) ++ multOps (2 ^ S.w) S.c (worth n (k / 2)) (worth (n - (k / 2 : Nat)) (k - k / 2)) := by
      rw [dueOps, if_neg hlt]
    have er : rowsOps (2 ^ S.w) S.c (i + 1) n k = [.en "perm" n (k : Nat)] ++ rowsOps (2 ^ S.w) S.c i n (k / 2) ++ rowsOps (2 ^ S.w) S.c i (n - (k / 2 : Nat)) (k - k / 2) ++ multOps (2 ^ S.w) S.c (worth n (k / 2)) (worth (n - (k / 2 : Nat)) (k - k / 2)) := by
      rw [rowsOps, if_neg hlt]
    have k4 : KpN [wl, d, e] H H4 := (k12.trans k3).trans (KpN.ext eN)
    have he5 := ops_ent (multOps (2 ^ S.w) S.c (worth n (k / 2)) (worth (n - (k / 2 : Nat)) (k - k / 2))) _ M3.vl
    rw [← MS.ops_app] at he5
    refine q z H5 _ (k4.trans (KpN.of k5)) ?_ WA5 ?_ ?_ ?_ ?_ ?_
    · rw [ed]
      exact M5
    · obtain ⟨ts4, hw4, _⟩ := (WA3.ext eN).wl
      exact tab_mw tT4 (M3.ext eN) hw4 k5
    · intro x hx
      rcases List.mem_append.mp hx with hx | hx
      · exact ok3 x hx
      · exact ok_mult _ _ _ _ x (List.mem_of_mem_take hx)
    · rw [ed, he5, List.length_append, List.length_append]
      omega
    · intro E hE
      rw [ed, er, he5, List.length_append]
      have r1 := rel2 _ (rel_push hE (pe3 n k))
      have r2 := rel3 _ r1
      have r3 := rel_ran (L := entsOf (multOps (2 ^ S.w) S.c (worth n (k / 2)) (worth (n - (k / 2 : Nat)) (k - k / 2)))) r2 hv3
      rw [entsOf_app, entsOf_app, entsOf_app]
      rw [List.append_assoc, List.append_assoc, List.append_assoc] at r3
      rw [List.append_assoc, List.append_assoc]
      exact r3
    · have ew := worth_add n (k / 2) (k - k / 2)
      rw [hkh] at ew
      rw [ew]
      exact B5
end
end T87
namespace T87
open PySem PySem.Spec PyProof.Rows L2
open LamX NdefX
theorem ne_big {X : Cx} {j : Nat} (c : Mt X.prog X.w X.K X.mg X.base 1 (CB X.K) "__eq__" ["self", "other"] (spEq (REq (CB X.K)))) (T : Tx X.K X.mg) (hr : Room j X.A) (hj : 2 ≤ j) : OpR X (compareOp .NotEq) (rNeI (CB X.K) (REq (CB X.K))) := by
  obtain ⟨f, fd, hc, hm, F, hb⟩ := c.ex
  exact op_neI F hb pass0 (hr.mono hj) T.neG hm.at_ hm.fn T.insG.hm
theorem MachAt.kpN {C p d e : Addr} {H H' : Hp} {S : MS} {xs : List Addr} (M : MachAt C H p d e S) (k : KpN xs H H') (np : p ∉ xs) (ndd : d ∉ xs) (ne : e ∉ xs) (ht : ∀ b ∈ xs, ∀ ys, H b ≠ some (.tup ys)) : MachAt C H' p d e S := by
  obtain ⟨dx, fs, h1, F⟩ := M.ob
  obtain ⟨ts, h2, E⟩ := M.en
  exact ⟨⟨dx, fs, k _ _ h1 (fun _ z => by cases z) np, F⟩, k _ _ M.cn (fun _ z => by cases z) ndd, ⟨ts, k _ _ h2 (fun _ z => by cases z) ne, E.mono fun t ys h => k _ _ h (fun _ z => by cases z) fun z => ht _ z _ h⟩, M.w1, M.w2, M.c1, M.c2, M.vl⟩
def S0 (w c : Nat) : MS := ⟨w, c, fun _ => 0, []⟩
def spRight (K : PySem.W.Frag) : Sp := fun vs H Q _ => ∃ D p1 d1 e1 p2 d2 e2 w c n k, vs = [.ref D, .int n, .int (k : Nat)] ∧ H D = some (.lst [.ref p1, .ref p2]) ∧ MachAt (CM K) H p1 d1 e1 (S0 w c) ∧ MachAt (CM K) H p2 d2 e2 (S0 w c) ∧ d1 ≠ d2 ∧ e1 ≠ e2 ∧ Tabs (tabT K) H ∧
  0 ≤ n ∧ n < 2 ^ 63 ∧ ((k : Int) ≤ n → k ≤ 200 ∧ worth n k < MID) ∧
  ∀ H', KpN [d1, e1, d2, e2] H H' → MachAt (CM K) H' p1 d1 e1 (S0 w c) → MachAt (CM K) H' p2 d2 e2 (S0 w c) → Tabs (tabT K) H' → Q (.bl true) H'
/-- the second machine is written, the first stays -/
theorem mach_other {C p1 d1 e1 p2 d2 e2 : Addr} {H H' : Hp} {A B : MS} (M1 : MachAt C H p1 d1 e1 A) (M2 : MachAt C H p2 d2 e2 B) (n1 : d1 ≠ d2) (n2 : e1 ≠ e2) (k : Kp [d2, e2] H H') : MachAt C H' p1 d1 e1 A := by
  obtain ⟨dx, fs, h1, F⟩ := M1.ob
  obtain ⟨ts, h2, E⟩ := M1.en
  obtain ⟨ts2, h3, _⟩ := M2.en
  have np : p1 ∉ [d2, e2] := by
    simp only [List.mem_cons, List.not_mem_nil, or_false, not_or]
    exact ⟨ne_of h1 M2.cn (by intro z; cases z), ne_of h1 h3 (by intro z; cases z)⟩
  have nd1 : d1 ∉ [d2, e2] := by
    simp only [List.mem_cons, List.not_mem_nil, or_false, not_or]
    exact ⟨n1, ne_of M1.cn h3 (by intro z; cases z)⟩
  have ne1 : e1 ∉ [d2, e2] := by
    simp only [List.mem_cons, List.not_mem_nil, or_false, not_or]
    exact ⟨ne_of h2 M2.cn (by intro z; cases z), n2⟩
  exact M1.kpN (KpN.of k) np nd1 ne1 fun b hb ys hy => by
    rcases List.mem_cons.mp hb with rfl | hb
    · rw [M2.cn] at hy; cases hy
    · rw [List.mem_singleton.mp hb, h3] at hy; cases hy
section
variable {P : Program} {w : World} {K : PySem.W.Frag} {mg : Str → Option Value} {base : Heap} (T : Tx K mg) (TB : TabB base mg (cA K) (pA K))
include T TB
theorem ok_law_due : ∀ j : Nat, Cl P w K mg base (31 + j) "_law_due" ["_law_world_here", "_law_nn", "_law_kk"] (spDue K j)
  | 0 => by
    refine ok_due_step T TB (cl_due (N := ["_law_world_here", "_law_nn", "_law_kk", "_law_worth_here", "_law_first", "_law_second"]) (k := 29) T (by decide +kernel) (fun vs H Q E h => ?_) (fun A outer s H vs Q E hr h => ?_))
    · exact h.elim
    · exact h.elim
  | j + 1 => ok_due_step T TB ((ok_law_due j).mono (by omega))
theorem ok_law_right : Cl P w K mg base 40 "_law_right" ["_law_engines_here", "_law_nn", "_law_kk"] (spRight K) := by
  refine cl_of (N := ["_law_engines_here", "_law_nn", "_law_kk", "_law_engine", "_law_second", "_law_world_here", "_law_held"]) T.f_law_right T.m_law_right (by decide +kernel) (fun _ _ _ _ _ _ us hl => match us, hl with | [_, _, _], _ => rfl) (fun vs H Q E h => ?_) (fun cdv A outer s H vs Q E hr h => ?_)
  · obtain ⟨D, p1, d1, e1, p2, d2, e2, w, c, n, k, rfl, _⟩ := h
    rfl
  obtain ⟨D, p1, d1, e1, p2, d2, e2, w, c, n, k, rfl, hD, M1, M2, nd12, ne12, tT, n0, n1, hk, q⟩ := h
  have nd : (["_law_engines_here", "_law_nn", "_law_kk", "_law_engine", "_law_second", "_law_world_here", "_law_held"] : List Str).Nodup := by decide +kernel
  refine ⟨_, (pss_cons (ps_asg (pv 0) (pg_unl (by rfl) (pgs_cons (pg_name (i := 3) nd rfl (Or.inl rfl)) (pgs_cons (pg_name (i := 4) nd rfl (Or.inl rfl)) pgs_nil))))
  (pss_cons (ps_set (i := 5) nd rfl (Or.inl rfl) (pe_cl (ok_law_world T) hr (by omega) (pa_cons (pv 4) pa_nil)))
  (pss_cons (ps_set (i := 6) nd rfl (Or.inl rfl) (pe_cl (ok_perm T) hr (by omega) (pa_cons (pv 3) (pa_cons (pv 1) (pa_cons (pv 2) pa_nil)))))
  (pss_cons (ps_if (pt_not (pt_val (pe_cl (ok_law_is T) hr (by omega) (pa_cons (pv 6) (pa_cons (pe_ifExp (pt_cmpR op_le (pv 2) (pv 1) (nomark _)) (pe_cl (ok_law_worth T) hr (by omega) (pa_cons (pv 1) (pa_cons (pv 2) pa_nil))) pe_int) (pa_cons (pe_ix ix_sq (pe_mt0 (ok_parts T) hr (by omega) (pv 3)) pe_int (fun _ _ => rfl)) pa_nil)))))) (pss_one
  (ps_ret pe_bl)) pss_nil)
  (pss_cons (ps_if (PW.pt (pw_or (PW.pt (pw_and (pt_cmpR op_le (pv 2) (pv 1) (nomark _)) (pw_and1 (pt_cmpR (ne_big (ok_Beq T) T hr (by omega)) (pe_cl (ok_law_due T TB 8) hr (by omega) (pa_cons (pv 5) (pa_cons (pv 1) (pa_cons (pv 2) pa_nil)))) (pv 6) (nomark _))))) (pw_or1 (pt_not (pt_val (pe_cl (ok_law_as_world T) hr (by omega) (pa_cons (pv 3) (pa_cons (pv 5) pa_nil)))))))) (pss_one
  (ps_ret pe_bl)) pss_nil)
  (pss_cons (ps_expr (pe_mt0 (ok_reset T) hr (by omega) (pv 3)))
  (pss_cons (ps_expr (pe_mt0 (ok_reset T) hr (by omega) (pv 4)))
  (pss_one
  (ps_ret pe_bl))))))))), ?_⟩
  refine ⟨_, rfl, D, _, rfl, SqL.of hD, rfl, _, _, rfl, _, _, rfl, rfl, ?_⟩
  refine ⟨_, rfl, p2, rfl, fun wd wl cd H1 nwd nwl ncd s1 hwd hwl hcd => ?_⟩
  have M1a := M1.same s1
  have M2a := M2.same s1
  have WA : WorldAt H1 wd p2 wl cd [] := ⟨hwd, hcd, [], hwl, .nil⟩
  have tTa := tT.ext s1
  have w1 : wl ≠ e1 := M1.neN nwl
  have w2 : wl ≠ e2 := M2.neN nwl
  -- held
  refine ⟨_, rfl, _, rfl, _, rfl, p1, d1, e1, _, n, k, rfl, M1a, n0, n1, hk, fun hd H2 nhd k2 M1b Bh => ?_⟩
  have M2b := mach_other M2a M1a (Ne.symm nd12) (Ne.symm ne12) k2
  have WB := WA.kp M1a k2 w1
  have tTb := tab_m tTa M1a k2
  have kb : KpN [d1, e1, d2, e2] H H2 := (KpN.of (Kp.of s1)).trans (KpN.of (k2.mono (by simp)))
  refine ⟨_, rfl, _, rfl, _, rfl, _, _, rfl, rfl, _, rfl, ?_⟩
  have he1 := ops_ent (permOps (2 ^ w) c n k) (S0 w c) (by show 0 ≤ 1000; decide)
  by_cases cnk : (k : Int) ≤ n
  · obtain ⟨hk1, hk2⟩ := hk cnk
    have ev : permV n k = worth n k := if_neg (by omega)
    have Bh' : BigAt (CB K) H2 hd w (worth n k) := by
      have := Bh
      rw [ev] at this
      exact this
    have hbig : worth n k < BIG := Int.lt_of_lt_of_le hk2 mid_big
    have epo : permOps (2 ^ w) c n k = rowsOps (2 ^ w) c 8 n k := if_neg (by omega)
    rw [decide_eq_true cnk]
    refine iteT ?_
    refine ⟨_, rfl, _, rfl, n, k, rfl, cnk, n1, by omega, hk2, ?_⟩
    refine ⟨_, rfl, ?_⟩
    refine M1b.self (m := "parts") (by decide +kernel) ?_
    refine ⟨p1, d1, e1, _, rfl, M1b, fun t3 ht3 => ?_⟩
    refine ⟨t3, _, 0, _, rfl, rfl, Sq.tup upd_same, atI_nat (j := 0) rfl, ?_⟩
    rw [MS.ops_w]
    have s3 := same_upd (o := .tup [.int (((S0 w c).ops (permOps (2 ^ (S0 w c).w) (S0 w c).c n k)).w : Nat), .int (((S0 w c).ops (permOps (2 ^ (S0 w c).w) (S0 w c).c n k)).c : Nat)]) ht3
    refine ⟨hd, worth n k, w, rfl, Bh'.same (same_upd ht3), hbig, M1.w1, M1.w2, fun H4 s4 => ?_⟩
    refine ⟨true, rfl, iteF ?_⟩
    have s24 : Same H2 H4 := (same_upd ht3).trans s4
    have M1c := M1b.same s24
    have M2c := M2b.same s24
    have WC := WB.same s24
    have tTc := tTb.ext s24
    have Bc := Bh'.same s24
    refine ⟨_, rfl, _, rfl, _, _, rfl, rfl, _, rfl, ?_⟩
    rw [decide_eq_true cnk]
    refine iteT ?_
    refine ⟨_, rfl, _, rfl, _, rfl, wd, p2, d2, e2, wl, cd, S0 w c, [], n, k, rfl, M2c, WC, w2, tTc, cnk, n1, Nat.le_trans hk1 (by decide), by omega, hk2, (fun x hx => by cases hx), by show 0 + (2 ^ (8 + 1) - 1) ≤ 600 + 0; decide, fun z H5 W' k5 M2d WD tTd okW lenW relW Bz => ?_⟩
    have M1d : MachAt (CM K) H5 p1 d1 e1 ((S0 w c).ops (permOps (2 ^ w) c n k)) := by
      obtain ⟨ts, hwl2, _⟩ := WC.wl
      obtain ⟨tse, he2, _⟩ := M2c.en
      obtain ⟨tsf, hf2, _⟩ := M1c.en
      obtain ⟨dx, fs, hp1, _⟩ := M1c.ob
      refine M1c.kpN k5 ?_ ?_ ?_ ?_
      · simp only [List.mem_cons, List.not_mem_nil, or_false, not_or]
        exact ⟨ne_of hp1 hwl2 (by intro z; cases z), ne_of hp1 M2c.cn (by intro z; cases z), ne_of hp1 he2 (by intro z; cases z)⟩
      · simp only [List.mem_cons, List.not_mem_nil, or_false, not_or]
        exact ⟨ne_of M1c.cn hwl2 (by intro z; cases z), nd12, ne_of M1c.cn he2 (by intro z; cases z)⟩
      · simp only [List.mem_cons, List.not_mem_nil, or_false, not_or]
        exact ⟨Ne.symm w1, ne_of hf2 M2c.cn (by intro z; cases z), ne12⟩
      · intro b hb ys hy
        rcases List.mem_cons.mp hb with rfl | hb
        · rw [hwl2] at hy; cases hy
        rcases List.mem_cons.mp hb with rfl | hb
        · rw [M2c.cn] at hy; cases hy
        · rw [List.mem_singleton.mp hb, he2] at hy; cases hy
    obtain ⟨tsw, hwl2, _⟩ := WC.wl
    have Bd := big_kp Bc M2c hwl2 k5
    obtain ⟨dx1, fs1, tx1, hz1, _⟩ := Bz.ob
    obtain ⟨dx2, fs2, tx2, hz2, _⟩ := Bd.ob
    refine ⟨_, rfl, ⟨z, hd, _, _, _, _, rfl, rfl, hz1, hz2, w, worth n k, Bz, Bd⟩, fun H6 x6 => ?_⟩
    refine ⟨false, rfl, iteF ?_⟩
    have s6 : Same H5 H6 := x6
    have relE := relW [] ⟨rfl, Nat.le_refl _⟩
    refine ⟨_, rfl, _, rfl, p1, d1, e1, _, p2, d2, e2, _, wd, wl, cd, W', rfl, M1d.same s6, M2d.same s6, WD.same s6, fun x hx => ?_, ?_, okW, fun H7 s7 => ?_⟩
    · rw [ops_cnt, ops_cnt]
      show _ + csum (permOps (2 ^ w) c n k) x = _ + csum (dueOps (2 ^ w) c 8 n k) x
      rw [epo, csum_due]
    · show ((S0 w c).ops (permOps (2 ^ w) c n k)).ent = W'.take 1000
      rw [he1, relE.1, epo]
      rfl
    refine ⟨true, rfl, ?_⟩
    refine iteF ?_
    have M1t := (M1d.same s6).same s7
    have M2t := (M2d.same s6).same s7
    have tTt := (tTd.ext s6).ext s7
    have k05 : KpN [d1, e1, d2, e2] H H5 := fun b o hb n1 n2 => k5 b o ((kb.trans (KpN.of (Kp.of s24))) b o hb n1 n2) n1 fun z => by
      rcases List.mem_cons.mp z with rfl | z
      · rw [nwl] at hb; cases hb
      · exact n2 (by simp only [List.mem_cons, List.not_mem_nil, or_false] at z ⊢; rcases z with z | z <;> simp [z])
    have kt : KpN [d1, e1, d2, e2] H H7 := (k05.trans (KpN.of (Kp.of s6))).trans (KpN.of (Kp.of s7))
    refine ⟨_, rfl, ?_⟩
    refine M1t.self (m := "reset") (by decide +kernel) ?_
    refine ⟨p1, d1, e1, _, rfl, M1t, fun H8 k8 M8 => ?_⟩
    have M2u := mach_other M2t M1t (Ne.symm nd12) (Ne.symm ne12) k8
    refine ⟨_, rfl, ?_⟩
    refine M2u.self (m := "reset") (by decide +kernel) ?_
    refine ⟨p2, d2, e2, _, rfl, M2u, fun H9 k9 M9 => ?_⟩
    have M8b := mach_other M8 M2u nd12 ne12 k9
    refine q H9 ((kt.trans (KpN.of (k8.mono (by simp)))).trans (KpN.of (k9.mono (by simp)))) ?_ ?_ (tab_m (tab_m tTt M1t k8) M2u k9)
    · rw [MS.ops_w, MS.ops_c] at M8b
      exact M8b
    · rw [MS.ops_w, MS.ops_c] at M9
      exact M9
  · have ev : permV n k = 0 := if_pos (by omega)
    have Bh' : BigAt (CB K) H2 hd w 0 := by
      have := Bh
      rw [ev] at this
      exact this
    have hbig : (0 : Int) < BIG := ipow_pos (by decide) _
    have epo : permOps (2 ^ w) c n k = [] := if_pos (by omega)
    rw [decide_eq_false cnk]
    refine iteF ?_
    refine ⟨_, rfl, ?_⟩
    refine M1b.self (m := "parts") (by decide +kernel) ?_
    refine ⟨p1, d1, e1, _, rfl, M1b, fun t3 ht3 => ?_⟩
    refine ⟨t3, _, 0, _, rfl, rfl, Sq.tup upd_same, atI_nat (j := 0) rfl, ?_⟩
    rw [MS.ops_w]
    have s3 := same_upd (o := .tup [.int (((S0 w c).ops (permOps (2 ^ (S0 w c).w) (S0 w c).c n k)).w : Nat), .int (((S0 w c).ops (permOps (2 ^ (S0 w c).w) (S0 w c).c n k)).c : Nat)]) ht3
    refine ⟨hd, 0, w, rfl, Bh'.same (same_upd ht3), hbig, M1.w1, M1.w2, fun H4 s4 => ?_⟩
    refine ⟨true, rfl, iteF ?_⟩
    have s24 : Same H2 H4 := (same_upd ht3).trans s4
    have M1c := M1b.same s24
    have M2c := M2b.same s24
    have WC := WB.same s24
    have tTc := tTb.ext s24
    have Bc := Bh'.same s24
    refine ⟨_, rfl, _, rfl, _, _, rfl, rfl, _, rfl, ?_⟩
    rw [decide_eq_false cnk]
    refine iteF ?_
    refine iteF ?_
    refine ⟨_, rfl, _, rfl, p1, d1, e1, _, p2, d2, e2, _, wd, wl, cd, [], rfl, M1c, M2c, WC, fun x hx => ?_, ?_, (fun x hx => by cases hx), fun H7 s7 => ?_⟩
    · show ((S0 w c).ops (permOps (2 ^ w) c n k)).cnt x = (S0 w c).cnt x
      rw [epo]
      rfl
    · show ((S0 w c).ops (permOps (2 ^ w) c n k)).ent = _
      rw [epo]
      rfl
    refine ⟨true, rfl, ?_⟩
    refine iteF ?_
    have M1t := M1c.same s7
    have M2t := M2c.same s7
    have tTt := tTc.ext s7
    have kt : KpN [d1, e1, d2, e2] H H7 := (kb.trans (KpN.of (Kp.of s24))).trans (KpN.of (Kp.of s7))
    refine ⟨_, rfl, ?_⟩
    refine M1t.self (m := "reset") (by decide +kernel) ?_
    refine ⟨p1, d1, e1, _, rfl, M1t, fun H8 k8 M8 => ?_⟩
    have M2u := mach_other M2t M1t (Ne.symm nd12) (Ne.symm ne12) k8
    refine ⟨_, rfl, ?_⟩
    refine M2u.self (m := "reset") (by decide +kernel) ?_
    refine ⟨p2, d2, e2, _, rfl, M2u, fun H9 k9 M9 => ?_⟩
    have M8b := mach_other M8 M2u nd12 ne12 k9
    refine q H9 ((kt.trans (KpN.of (k8.mono (by simp)))).trans (KpN.of (k9.mono (by simp)))) ?_ ?_ (tab_m (tab_m tTt M1t k8) M2u k9)
    · rw [MS.ops_w, MS.ops_c] at M8b
      exact M8b
    ·   exact M9
end
end T87
namespace T87
open PySem PySem.Spec PyProof.Rows L2
open LamX NdefX
/-! ### the pairs that the law asks of -/
def GoodI (m kv : Int) : Prop := 0 ≤ m ∧ m < 2 ^ 63 ∧ 0 ≤ kv ∧ (kv ≤ m → kv ≤ 200 ∧ ∃ b : Nat, m < 2 ^ b ∧ b * kv.toNat ≤ 1900)
theorem worth_bd {n : Int} {b : Nat} (h : n < 2 ^ b) : ∀ {k : Nat}, (k : Int) ≤ n → worth n k ≤ 2 ^ (b * k)
  | 0, _ => by
    show (1 : Int) ≤ 2 ^ (b * 0)
    rw [Nat.mul_zero]
    decide
  | k + 1, hk => by
    have h1 := worth_bd (n := n) h (k := k) (by omega)
    have h2 := worth_pos (n := n) (k := k) (by omega)
    show worth n k * (n - k) ≤ 2 ^ (b * (k + 1))
    rw [Nat.mul_succ, Int.pow_add]
    exact Int.mul_le_mul h1 (by omega) (by omega) (Int.le_of_lt (ipow_pos (by decide) _))
theorem GoodI.use {m kv : Int} (g : GoodI m kv) : ((kv.toNat : Nat) : Int) ≤ m → kv.toNat ≤ 200 ∧ worth m kv.toNat < MID := fun h => by
  obtain ⟨h0, h1, h2, h3⟩ := g
  obtain ⟨h4, b, h5, h6⟩ := h3 (by omega)
  refine ⟨by omega, Int.lt_of_le_of_lt (worth_bd h5 h) ?_⟩
  have h7 := ipow_le (b := 2) (by decide) h6
  have h8 : (2 : Int) ^ 1900 < MID := by
    show (2 : Int) ^ 1900 < 2 ^ 2000
    decide +kernel
  omega
theorem good_b {m kv : Int} (b : Nat) (h0 : 0 ≤ m) (h1 : m < 2 ^ 63) (h2 : 0 ≤ kv) (h3 : kv ≤ 200) (h4 : m < 2 ^ b) (h5 : b * kv.toNat ≤ 1900) : GoodI m kv := ⟨h0, h1, h2, fun _ => ⟨h3, b, h4, h5⟩⟩
def PairAt (H : Hp) (v : V) : Prop := ∃ t m kv, v = .ref t ∧ H t = some (.tup [.int m, .int kv]) ∧ GoodI m kv
def PairsAt (H : Hp) (l : List V) : Prop := ∀ v ∈ l, PairAt H v
theorem PairAt.kp {H H' : Hp} {v : V} {F : List Addr} (h : PairAt H v) (k : KpN F H H') (hF : ∀ b ∈ F, ∀ xs, H b ≠ some (.tup xs)) : PairAt H' v := by
  obtain ⟨t, m, kv, e, h1, g⟩ := h
  exact ⟨t, m, kv, e, k _ _ h1 (fun _ z => by cases z) (fun z => hF _ z _ h1), g⟩
theorem PairAt.same {H H' : Hp} {v : V} (h : PairAt H v) (s : Same H H') : PairAt H' v := by
  obtain ⟨t, m, kv, e, h1, g⟩ := h
  exact ⟨t, m, kv, e, s _ _ h1, g⟩
/-- the state while the pairs are laid -/
structure St (K : PySem.W.Frag) (l : Addr) (F : List Addr) (H0 H : Hp) (TT : Nat) (acc : List V) : Prop where
  k : KpN F H0 H
  p : PairsAt H acc
  t : Tabs (tabT K) H
  s : SrcAt H l TT
section
variable {K : PySem.W.Frag} {l : Addr} {F : List Addr} {H0 H H' : Hp} {TT : Nat} {acc : List V}
theorem St.same (S : St K l F H0 H TT acc) (s : Same H H') : St K l F H0 H' TT acc := ⟨S.k.trans (KpN.of (Kp.of s)), fun v hv => (S.p v hv).same s, S.t.ext s, S.s.same s⟩
theorem St.new (S : St K l F H0 H TT acc) {x : Addr} {o : HO} (h : H x = none) : St K l F H0 (upd H x o) TT acc := S.same (same_upd h)
theorem St.tup (S : St K l F H0 H TT acc) {x : Addr} {m kv : Int} (h : H x = none) (g : GoodI m kv) : St K l F H0 (upd H x (.tup [.int m, .int kv])) TT (.ref x :: acc) := by
  have S2 := S.new (o := .tup [.int m, .int kv]) h
  refine ⟨S2.k, fun v hv => ?_, S2.t, S2.s⟩
  rcases List.mem_cons.mp hv with rfl | hv
  · exact ⟨x, m, kv, rfl, upd_same, g⟩
  · exact S2.p v hv
theorem St.draw (S : St K l F H0 H TT acc) (hl : l ∈ F) (k : Kp [l] H H') (s : SrcAt H' l (TT + 1)) : St K l F H0 H' (TT + 1) acc := by
  obtain ⟨a, b, c, e, _⟩ := S.s
  refine ⟨S.k.trans (KpN.of (k.mono (by simpa using hl))), fun v hv => (S.p v hv).kp (KpN.of k) fun b hb xs hx => ?_, tab_kp S.t k fun b hb => ?_, s⟩
  · rw [List.mem_singleton.mp hb, e] at hx
    cases hx
  · rw [List.mem_singleton.mp hb]
    exact lst_ne e
theorem St.list (S : St K l F H0 H TT acc) {m : Addr} {xs ys : List V} (hm : m ∈ F) (h : H m = some (.lst xs)) (ne : l ≠ m) : St K l F H0 (upd H m (.lst ys)) TT acc := by
  have k : Kp [m] H (upd H m (.lst ys)) := Kp.put (by simp)
  obtain ⟨a, b, c, e, f⟩ := S.s
  refine ⟨S.k.trans (KpN.of (k.mono (by simpa using hm))), fun v hv => (S.p v hv).kp (KpN.of k) fun b hb xs hx => ?_, tab_kp S.t k fun b hb => ?_, a, b, c, ?_, f⟩
  · rw [List.mem_singleton.mp hb, h] at hx
    cases hx
  · rw [List.mem_singleton.mp hb]
    exact lst_ne h
  · rw [upd_ne ne]
    exact e
theorem St.more (S : St K l F H0 H TT acc) {G : List Addr} (h : ∀ b ∈ F, b ∈ G) : St K l G H0 H TT acc := ⟨S.k.mono h, S.p, S.t, S.s⟩
theorem St.drop (S : St K l F H0 H TT acc) : St K l F H0 H TT [] := ⟨S.k, (fun v hv => by cases hv), S.t, S.s⟩
end
theorem keep_tup {H : Hp} {x b : Addr} {m kv : Int} {o : HO} (h : H x = none) (g : GoodI m kv) (e : H b = some o) : (upd H x (.tup [.int m, .int kv])) b = some o := same_upd h _ _ e
theorem keep_new {H : Hp} {x b : Addr} {o u : HO} (h : H x = none) (e : H b = some o) : (upd H x u) b = some o := same_upd h _ _ e
theorem mk_lst {H : Hp} {x : Addr} {xs : List V} (_ : H x = none) : (upd H x (.lst xs)) x = some (.lst xs) := upd_same
theorem mk_upd {H : Hp} {x : Addr} {o : HO} {L : List V} (_ : H x = some o) : (upd H x (.lst L)) x = some (.lst L) := upd_same
theorem St.add {K : PySem.W.Frag} {l : Addr} {F : List Addr} {H0 H : Hp} {TT : Nat} {acc : List V} {v : V} (S : St K l F H0 H TT acc) (h : PairAt H v) : St K l F H0 H TT (v :: acc) := ⟨S.k, fun u hu => by
  rcases List.mem_cons.mp hu with rfl | hu
  · exact h
  · exact S.p u hu, S.t, S.s⟩
/-- k=, n=, machine= -/
def kwG {α : Type} : List α → List α → List α := fun us ws => us ++ (match ws with
  | [a, b, c] => [c, b, a]
  | [a, b] => [b, a]
  | ws => ws)
theorem kwG_len {α : Type} : ∀ us ws : List α, (kwG us ws).length = us.length + ws.length
  | us, [] => by simp [kwG]
  | us, [_] => by simp [kwG]
  | us, [_, _] => by simp [kwG]
  | us, [_, _, _] => by simp [kwG]
  | us, _ :: _ :: _ :: _ :: _ => by simp [kwG]
theorem kb_perm {K : PySem.W.Frag} {mg : Str → Option Value} (T : Tx K mg) {P : Program} {w : World} {base : Heap} : ∃ fd, FnOk P w K mg base CX0 37 (He.ga K "perm") fd ["machine", "n", "k"] (spPerm K) ∧ KBinds K fd ["machine", "n", "k"] ["k", "n", "machine"] kwG kwG := by
  obtain ⟨fd, F⟩ := T.f_perm
  refine ⟨fd, perm_ok T F, ?_⟩
  obtain ⟨oc, od, dV, kV, doc, pm, an, cdv, ct, osl, rfl, lk, hcd, hD, hK⟩ := F.ex
  rcases hD with ⟨_, rfl⟩ | ⟨e, _⟩
  · refine ⟨fun s us ws _ hl => ?_, fun {vs us zs ws} r rz => ?_⟩
    · rw [kwG_len] at hl
      replace hl : us.length + ws.length = 3 := hl
      rcases us with _ | ⟨a, us⟩
      · match ws, (show ws.length = 3 by simpa using hl) with
        | [_, _, _], _ => exact .of_eq rfl
      rcases us with _ | ⟨b, us⟩
      · match ws, (show ws.length = 2 by simp only [List.length_cons, List.length_nil] at hl; omega) with
        | [_, _], _ => exact .of_eq rfl
      rcases us with _ | ⟨c, us⟩
      · match ws, (show ws.length = 1 by simp only [List.length_cons, List.length_nil] at hl; omega) with
        | [_], _ => exact .of_eq rfl
      · match us, ws, (show us.length = 0 by simp only [List.length_cons] at hl; omega), (show ws.length = 0 by simp only [List.length_cons] at hl; omega) with
        | [], [], _, _ => exact .of_eq rfl
    · cases rz with
      | nil => exact Vals.append r .nil
      | cons a t => cases t with
        | nil => exact Vals.append r (.cons a .nil)
        | cons b t => cases t with
          | nil => exact Vals.append r (.cons b (.cons a .nil))
          | cons c t => cases t with
            | nil => exact Vals.append r (.cons c (.cons b (.cons a .nil)))
            | cons d t => exact Vals.append r (.cons a (.cons b (.cons c (.cons d t))))
  · exact absurd rfl e
end T87
namespace T87
open PySem PySem.Spec PyProof.Rows L2
open LamX NdefX
theorem eq_big {X : Cx} {j : Nat} (c : Mt X.prog X.w X.K X.mg X.base 1 (CB X.K) "__eq__" ["self", "other"] (spEq (REq (CB X.K)))) (hr : Room j X.A) (hj : 1 ≤ j) : OpR X (compareOp .Eq) (rEqG (DIns (CB X.K) (REq (CB X.K)))) := by
  obtain ⟨f, fd, hc, hm, F, hb⟩ := c.ex
  exact op_eqG (rcG_ins F hm.at_ hm.fn hb pass0) (hr.mono hj)
def spLaw (K : PySem.W.Frag) : Sp := fun vs H Q _ => ∃ (a : Addr) (ns : List Int), vs = [.ref a] ∧ SqL K H a (ns.map V.int) ∧ ns.length ≤ 63 ∧ Tabs (tabT K) H ∧ ∀ H', Q (.bl true) H'
abbrev lawN : List Str := ["_law_script", "_law_cell", "_law_source_here", "_law_engines_here", "_law_nn", "_law_far", "_law_some", "_law_m", "_law_kk", "_law_engine", "_law_tiny"]
section
variable {P : Program} {w : World} {K : PySem.W.Frag} {mg : Str → Option Value} {base : Heap} (T : Tx K mg) (TB : TabB base mg (cA K) (pA K))
include T TB
theorem ok_law {fd : FuncData} (F : FunD K "law" "law" (defArgs s_law) (defBody s_law) (defScope s_law) [] [] (He.ga K "law") fd) : FnOk P w K mg base CX0 41 (He.ga K "law") fd ["_law_script"] (spLaw K) := by
  refine F.ok (N := lawN) (C8.fnScope_by (by decide +kernel)) (fun vs H Q E h => ?_) (fun cdv A outer s H vs Q E hr h => ?_)
  · obtain ⟨a, ns, rfl, _⟩ := h
    rfl
  obtain ⟨a, ns, rfl, hS, hns, tT, q⟩ := h
  have nd : lawN.Nodup := by decide +kernel
  obtain ⟨fdP, FP, KP⟩ := kb_perm T (P := P) (w := w) (base := base)
  have kpP := (ok_perm T (P := P) (w := w) (base := base)).kp
  refine ⟨_, PSs.nox ((pss_cons (ps_for PassesOwn.never rfl (pi_list (pe_slice sl_list (pe_op op_catS (pv 0) (pe_lst (pa_cons pe_int pa_nil))) po_none (po_some pe_int))) (pg_name (i := 1) nd rfl (Or.inl rfl)) (pss_cons (ps_set (i := 2) nd rfl (Or.inl rfl) (pe_cl (ok_law_source T) hr (by omega) (pa_cons (pv 1) pa_nil)))
  (pss_cons (ps_set (i := 3) nd rfl (Or.inl rfl) (pe_cl (ok_law_engines T) hr (by omega) (pa_cons (pv 2) pa_nil)))
  (pss_cons (ps_set (i := 4) nd rfl (Or.inl rfl) (pe_cl (ok_law_one T) hr (by omega) (pa_cons (pv 2) (pa_cons (pe_lst (pa_cons (pe_cl (ok_law_draw T) hr (by omega) (pa_cons (pv 2) (pa_cons pe_int pa_nil))) (pa_cons (pe_op op_add pe_int (pe_cl (ok_law_draw T) hr (by omega) (pa_cons (pv 2) (pa_cons pe_int pa_nil)))) pa_nil))) pa_nil))))
  (pss_cons (ps_set (i := 5) nd rfl (Or.inl rfl) (pe_op op_sub (pe_op op_sub (pe_op op_oneShl pe_int pe_int) pe_int) (pe_cl (ok_law_draw T) hr (by omega) (pa_cons (pv 2) (pa_cons (pe_op op_pow pe_int pe_int) pa_nil)))))
  (pss_cons (ps_set (i := 6) nd rfl (Or.inl rfl) (pe_lst (pa_cons (pe_tup (pa_cons (pv 4) (pa_cons (pe_callB (call_min2 rfl) (by rfl) T.b_min (by decide +kernel) (pa_cons (pv 4) (pa_cons (pe_cl (ok_law_draw T) hr (by omega) (pa_cons (pv 2) (pa_cons pe_int pa_nil))) pa_nil))) pa_nil))) (pa_cons (pe_tup (pa_cons (pv 4) (pa_cons (pe_op op_add (pe_op op_add (pv 4) pe_int) (pe_cl (ok_law_draw T) hr (by omega) (pa_cons (pv 2) (pa_cons pe_int pa_nil)))) pa_nil))) (pa_cons (pe_tup (pa_cons (pv 5) (pa_cons (pe_cl (ok_law_draw T) hr (by omega) (pa_cons (pv 2) (pa_cons pe_int pa_nil))) pa_nil))) pa_nil)))))
  (pss_cons (ps_set (i := 6) nd rfl (Or.inl rfl) (pe_op op_cat (pv 6) (pe_lst (pa_cons (pe_tup (pa_cons (pv 4) (pa_cons pe_int pa_nil))) (pa_cons (pe_tup (pa_cons (pv 4) (pa_cons (pe_callB (call_min2 rfl) (by rfl) T.b_min (by decide +kernel) (pa_cons (pv 4) (pa_cons pe_int pa_nil))) pa_nil))) (pa_cons (pe_tup (pa_cons pe_int (pa_cons pe_int pa_nil))) (pa_cons (pe_tup (pa_cons (pe_callB (call_min2 rfl) (by rfl) T.b_min (by decide +kernel) (pa_cons (pv 4) (pa_cons pe_int pa_nil))) (pa_cons (pe_callB (call_min2 rfl) (by rfl) T.b_min (by decide +kernel) (pa_cons (pv 4) (pa_cons pe_int pa_nil))) pa_nil))) (pa_cons (pe_tup (pa_cons pe_int (pa_cons pe_int pa_nil))) (pa_cons (pe_tup (pa_cons pe_int (pa_cons pe_int pa_nil))) (pa_cons (pe_tup (pa_cons (pe_op op_oneShl pe_int pe_int) (pa_cons pe_int pa_nil))) pa_nil))))))))))
  (pss_cons (ps_expr (pe_bm PySem.F.plainAttrs_list PySem.F.slot_list_append PySem.F.type_list_append mt_append (pv 6) (pa_cons (pe_tup (pa_cons (pe_op op_sub (pe_op op_oneShl pe_int pe_int) pe_int) (pa_cons pe_int pa_nil))) pa_nil)))
  (pss_cons (ps_expr (pe_bm PySem.F.plainAttrs_list PySem.F.slot_list_append PySem.F.type_list_append mt_append (pv 6) (pa_cons (pe_cl (ok_law_one T) hr (by omega) (pa_cons (pv 2) (pa_cons (pe_lst (pa_cons (pe_tup (pa_cons pe_int (pa_cons pe_int pa_nil))) (pa_cons (pe_tup (pa_cons pe_int (pa_cons pe_int pa_nil))) (pa_cons (pe_tup (pa_cons (pe_op op_add (pe_op op_oneShl pe_int pe_int) pe_int) (pa_cons pe_int pa_nil))) (pa_cons (pe_tup (pa_cons pe_int (pa_cons pe_int pa_nil))) (pa_cons (pe_tup (pa_cons pe_int (pa_cons pe_int pa_nil))) (pa_cons (pe_tup (pa_cons pe_int (pa_cons pe_int pa_nil))) pa_nil))))))) pa_nil))) pa_nil)))
  (pss_cons (ps_expr (pe_bm PySem.F.plainAttrs_list PySem.F.slot_list_append PySem.F.type_list_append mt_append (pv 6) (pa_cons (pe_cl (ok_law_one T) hr (by omega) (pa_cons (pv 2) (pa_cons (pe_lst (pa_cons (pe_tup (pa_cons pe_int (pa_cons pe_int pa_nil))) (pa_cons (pe_tup (pa_cons pe_int (pa_cons pe_int pa_nil))) (pa_cons (pe_tup (pa_cons pe_int (pa_cons pe_int pa_nil))) (pa_cons (pe_tup (pa_cons pe_int (pa_cons pe_int pa_nil))) (pa_cons (pe_tup (pa_cons pe_int (pa_cons pe_int pa_nil))) pa_nil)))))) pa_nil))) pa_nil)))
  (pss_cons (ps_for PassesOwn.never rfl (pi_list (pv 6)) (pg_tup (by rfl) (pgs_cons (pg_name (i := 7) nd rfl (Or.inl rfl)) (pgs_cons (pg_name (i := 8) nd rfl (Or.inl rfl)) pgs_nil))) (pss_one
  (ps_if (pt_not (pt_val (pe_cl (ok_law_right T TB) hr (by omega) (pa_cons (pv 3) (pa_cons (pv 7) (pa_cons (pv 8) pa_nil)))))) (pss_one
  (ps_ret pe_bl)) pss_nil)))
  (pss_cons (ps_set (i := 9) nd rfl (Or.inl rfl) (pe_ix ix_sq (pv 3) pe_int (fun _ _ => rfl)))
  (pss_one
  (ps_if (pt_cmpR (ne_big (ok_Beq T) T hr (by omega)) (pe_cl (ok_perm T) hr (by omega) (pa_cons (pv 9) (pa_cons (pe_callB (call_min2 rfl) (by rfl) T.b_min (by decide +kernel) (pa_cons (pv 4) (pa_cons pe_int pa_nil))) (pa_cons (pe_callB (call_min2 rfl) (by rfl) T.b_min (by decide +kernel) (pa_cons (pv 4) (pa_cons pe_int pa_nil))) pa_nil)))) (pe_cl (ok_factorial T) hr (by omega) (pa_cons (pv 9) (pa_cons (pe_callB (call_min2 rfl) (by rfl) T.b_min (by decide +kernel) (pa_cons (pv 4) (pa_cons pe_int pa_nil))) pa_nil))) (nomark _)) (pss_one
  (ps_ret pe_bl)) pss_nil))))))))))))))
  (pss_cons (ps_set (i := 10) nd rfl (Or.inl rfl) (pe_mr (ok_Minit T) hr (by omega) (pa_cons pe_int (pa_cons pe_int pa_nil))))
  (pss_one
  (ps_ret (pe_and (pe_cmpR (eq_big (ok_Beq T) hr (by omega)) (pe_callK0 FP (hr.mono (by omega)) rfl T.m_perm kpP KP pass0 (pk_cons pe_int (pk_cons pe_int (pk_cons (pv 10) pk_nil)))) (pe_cl (ok_big T) hr (by omega) (pa_cons (pv 10) (pa_cons pe_int pa_nil))) (nomark _)) (pe_one (pe_cmpR (op_eqD hr.units) (pe_mt0 (ok_walk T) hr (by omega) (pv 10)) (pe_lst (pa_cons (pe_tup (pa_cons pe_str (pa_cons pe_int (pa_cons pe_int pa_nil)))) pa_nil)) (nomark _))))))))), ?_⟩
  refine ⟨_, rfl, by show 1 ≤ sizeLine; decide, fun l1 hl1 => ?_⟩
  have s1 := same_upd (o := .lst [.int 0]) hl1
  refine ⟨a, l1, _, _, rfl, rfl, s1.seq hS, upd_same, ?_, fun l2 hl2 => ?_⟩
  · rw [List.length_map, List.length_singleton]
    exact Nat.le_trans (show ns.length + 1 ≤ 1000 by omega) (Nat.le_of_lt s1000)
  have ea : ns.map V.int ++ [V.int 0] = iv (ns ++ [0]) := by
    show ns.map V.int ++ [V.int 0] = (ns ++ [0]).map V.int
    rw [List.map_append] <;> rfl
  rw [ea]
  have s2 := same_upd (o := .lst (iv (ns ++ [0]))) hl2
  refine ⟨_, rfl, l2, _, rfl, SqL.of upd_same, fun l3 hl3 => ?_⟩
  rw [show (4 : Int) = ((4 : Nat) : Int) from rfl, cut_to, iv_take]
  have s3 := same_upd (o := .lst (iv ((ns ++ [0]).take 4))) hl3
  obtain ⟨Hs, hHs⟩ : ∃ Hs, Hs = upd (upd (upd H l1 (.lst [.int 0])) l2 (.lst (iv (ns ++ [0])))) l3 (.lst (iv ((ns ++ [0]).take 4))) := ⟨_, rfl⟩
  have h3 : Hs l3 = some (.lst (iv ((ns ++ [0]).take 4))) := by rw [hHs]; exact upd_same
  have tS : Tabs (tabT K) Hs := by rw [hHs]; exact ((tT.ext s1).ext s2).ext s3
  rw [← hHs]
  refine ⟨l3, rfl, ⟨_, SqL.of h3⟩, for_list (K := K) (a := l3) (xs := iv ((ns ++ [0]).take 4)) (fun i σ H2 => ∃ u1 u2 u3 u4 u5 u6 u7 u8 u9 u10, σ = [some (.ref a), u1, u2, u3, u4, u5, u6, u7, u8, u9, u10] ∧ KpN [] Hs H2 ∧ Tabs (tabT K) H2) ?_ ?_ ?_ ?_⟩
  · exact ⟨none, none, none, none, none, none, none, none, none, none, rfl, fun b o h _ _ => h, tS⟩
  · rintro i σ H2 _ ⟨_, _, _, _, _, _, _, _, _, _, rfl, k2, _⟩
    exact SqL.of (k2 _ _ h3 (fun _ z => by cases z) (by simp))
  · rintro i x σ H2 hx ⟨u1, u2, u3, u4, u5, u6, u7, u8, u9, u10, rfl, k2, t2⟩
    obtain ⟨cell, _, rfl⟩ := iv_of hx
    refine ⟨_, rfl, cell, rfl, fun l s0 hl => ?_⟩
    have sa := same_upd (o := .lst [.int s0, .int cell, .int 0]) hl
    refine ⟨_, rfl, l, 0, rfl, ⟨s0, cell, 0, upd_same, Nat.le_refl _⟩, by decide, fun D p1 d1 e1 p2 d2 e2 w c He w8 w30 nD ne1 ne2 nd1 nd2 nd12 ne12 neD1 neD2 ke Se hD M1 M2 => ?_⟩
    have M1s : MachAt (CM K) He p1 d1 e1 (S0 w c) := M1
    have M2s : MachAt (CM K) He p2 d2 e2 (S0 w c) := M2
    have te : Tabs (tabT K) He := tab_kp (t2.ext sa) ke fun b hb => by
      rw [List.mem_singleton.mp hb]
      exact lst_ne upd_same
    have lF : l ∈ [l] := by simp
    have T0 : St K l [l] He He 5 [] := ⟨fun b o h _ _ => h, (fun v hv => by cases hv), te, Se⟩
    refine ⟨_, rfl, _, rfl, l, 100, 5, rfl, T0.s, by decide, by decide, by decide, fun r1 HT1 ar1 br1 kT1 sT1 => ?_⟩
    have T1 := T0.draw lF kT1 sT1
    refine ⟨_, rfl, l, 500, 6, rfl, T1.s, by decide, by decide, by decide, fun r2 HT2 ar2 br2 kT2 sT2 => ?_⟩
    have T2 := T1.draw lF kT2 sT2
    refine ⟨_, _, rfl, rfl, by show 2 ≤ sizeLine; decide, fun m1 hm1 => ?_⟩
    have T3 := T2.new (o := .lst [.int r1, .int (100 + r2)]) hm1
    have ml1 : m1 ≠ l := fun z => by
      obtain ⟨_, _, _, e, _⟩ := T2.s
      rw [z, e] at hm1
      cases hm1
    refine ⟨l, m1, 7, _, rfl, T3.s, by decide, upd_same, ml1, by show 0 < 2; decide, by show 2 ≤ 1000; decide, fun i1 v1 HT4 hv1 kT4 sT4 => ?_⟩
    have T4 := T3.draw lF kT4 sT4
    obtain ⟨nn, rfl, nn6⟩ : ∃ nn : Nat, v1 = V.int (nn : Nat) ∧ nn ≤ 599 := by
      have hm := List.mem_of_getElem? hv1
      simp only [List.mem_cons, List.not_mem_nil, or_false] at hm
      rcases hm with rfl | rfl
      · exact ⟨r1.toNat, by rw [Int.toNat_of_nonneg ar1], by omega⟩
      · exact ⟨(100 + r2).toNat, by rw [Int.toNat_of_nonneg (by omega)], by omega⟩
    refine ⟨63, rfl, rfl, by decide, _, _, rfl, rfl, _, rfl, _, _, rfl, rfl, ⟨by decide, by decide, by decide⟩, ?_⟩
    refine ⟨l, _, 8, rfl, T4.s, by decide, by decide, by decide, fun rf HT5 arf brf kT5 sT5 => ?_⟩
    have T5 := T4.draw lF kT5 sT5
    replace brf : rf < 1000000000 := Int.lt_of_lt_of_le brf (by decide)
    refine ⟨_, _, rfl, rfl, ?_⟩
    refine ⟨_, rfl, _, rfl, _, rfl, l, 50, 9, rfl, T5.s, by decide, by decide, by decide, fun r3 HT6 ar3 br3 kT6 sT6 => ?_⟩
    have T6 := T5.draw lF kT6 sT6
    refine ⟨_, _, rfl, ?_⟩
    obtain ⟨kv3, hk3⟩ : ∃ kv3 : Int, kv3 = (if r3 < (nn : Int) then r3 else (nn : Int)) := ⟨_, rfl⟩
    have g3 : GoodI (nn : Int) (if r3 < (nn : Int) then r3 else (nn : Int)) := by
      rw [← hk3]
      have q3 : 0 ≤ kv3 ∧ kv3 ≤ 49 := by rw [hk3]; split <;> omega
      exact good_b 10 (by omega) (by omega) q3.1 (by omega) (by omega) (by omega)
    refine ⟨by show 2 ≤ sizeLine; decide, fun t1 ht1 => ?_⟩
    have T7 := T6.tup ht1 g3
    refine ⟨_, rfl, _, rfl, _, _, rfl, rfl, _, rfl, l, 9, 10, rfl, T7.s, by decide, by decide, by decide, fun r4 HT8 ar4 br4 kT8 sT8 => ?_⟩
    have T8 := T7.draw lF kT8 sT8
    refine ⟨_, _, rfl, rfl, ?_⟩
    have g4 : GoodI (nn : Int) ((nn : Int) + 1 + r4) := ⟨by omega, by omega, by omega, fun z => by omega⟩
    refine ⟨by show 2 ≤ sizeLine; decide, fun t2 ht2 => ?_⟩
    have T9 := T8.tup ht2 g4
    refine ⟨_, rfl, _, rfl, l, 12, 11, rfl, T9.s, by decide, by decide, by decide, fun r5 HT10 ar5 br5 kT10 sT10 => ?_⟩
    have T10 := T9.draw lF kT10 sT10
    have g5 : GoodI (2 ^ 63 - 1 - rf) r5 := good_b 63 (by omega) (by omega) ar5 (by omega) (by omega) (by omega)
    refine ⟨by show 2 ≤ sizeLine; decide, fun t3 ht3 => ?_⟩
    have T11 := T10.tup ht3 g5
    refine ⟨by show 3 ≤ sizeLine; decide, fun sm1 hsm1 => ?_⟩
    have T12 := T11.new (o := .lst [.ref t1, .ref t2, .ref t3]) hsm1
    have q1 := mk_lst (xs := [.ref t1, .ref t2, .ref t3]) hsm1
    refine ⟨_, rfl, ?_⟩
    have gz : GoodI (nn : Int) 0 := good_b 10 (by omega) (by omega) (by omega) (by omega) (by omega) (by decide)
    refine ⟨_, rfl, by show 2 ≤ sizeLine; decide, fun t4 ht4 => ?_⟩
    have T13 := T12.tup ht4 gz
    replace q1 := keep_tup ht4 gz q1
    have gm1 : GoodI (nn : Int) (if (1 : Int) < (nn : Int) then 1 else (nn : Int)) := by
      have q3 : 0 ≤ (if (1 : Int) < (nn : Int) then 1 else (nn : Int)) ∧ (if (1 : Int) < (nn : Int) then 1 else (nn : Int)) ≤ 1 := by split <;> omega
      generalize (if (1 : Int) < (nn : Int) then 1 else (nn : Int)) = kv at q3
      exact good_b 10 (by omega) (by omega) q3.1 (by omega) (by omega) (by omega)
    refine ⟨_, rfl, _, rfl, _, _, rfl, by show 2 ≤ sizeLine; decide, fun t5 ht5 => ?_⟩
    have T14 := T13.tup ht5 gm1
    replace q1 := keep_tup ht5 gm1 q1
    have g00 : GoodI 0 0 := good_b 1 (by decide) (by decide) (by decide) (by decide) (by decide) (by decide)
    refine ⟨by show 2 ≤ sizeLine; decide, fun t6 ht6 => ?_⟩
    have T15 := T14.tup ht6 g00
    replace q1 := keep_tup ht6 g00 q1
    have gm60 : GoodI (if (60 : Int) < (nn : Int) then 60 else (nn : Int)) (if (60 : Int) < (nn : Int) then 60 else (nn : Int)) := by
      have q3 : 0 ≤ (if (60 : Int) < (nn : Int) then 60 else (nn : Int)) ∧ (if (60 : Int) < (nn : Int) then 60 else (nn : Int)) ≤ 60 := by split <;> omega
      generalize (if (60 : Int) < (nn : Int) then 60 else (nn : Int)) = kv at q3
      exact good_b 6 (by omega) (by omega) q3.1 (by omega) (by omega) (by omega)
    refine ⟨_, rfl, _, _, rfl, _, rfl, _, _, rfl, by show 2 ≤ sizeLine; decide, fun t7 ht7 => ?_⟩
    have T16 := T15.tup ht7 gm60
    replace q1 := keep_tup ht7 gm60 q1
    have gt8 : GoodI (20) 20 := good_b 5 (by decide) (by decide) (by decide) (by decide) (by decide) (by decide)
    refine ⟨by show 2 ≤ sizeLine; decide, fun t8 ht8 => ?_⟩
    have T17 := T16.tup ht8 gt8
    replace q1 := keep_tup ht8 gt8 q1
    have gt9 : GoodI (21) 20 := good_b 5 (by decide) (by decide) (by decide) (by decide) (by decide) (by decide)
    refine ⟨by show 2 ≤ sizeLine; decide, fun t9 ht9 => ?_⟩
    have T18 := T17.tup ht9 gt9
    replace q1 := keep_tup ht9 gt9 q1
    have gt10 : GoodI (2 ^ 32) 2 := good_b 33 (by decide) (by decide) (by decide) (by decide) (by decide) (by decide)
    refine ⟨32, rfl, rfl, by decide, by show 2 ≤ sizeLine; decide, fun t10 ht10 => ?_⟩
    have T19 := T18.tup ht10 gt10
    replace q1 := keep_tup ht10 gt10 q1
    refine ⟨by show 7 ≤ sizeLine; decide, fun sm2 hsm2 => ?_⟩
    have q2 := mk_lst (xs := [.ref t4, .ref t5, .ref t6, .ref t7, .ref t8, .ref t9, .ref t10]) hsm2
    replace q1 := keep_new (u := .lst [.ref t4, .ref t5, .ref t6, .ref t7, .ref t8, .ref t9, .ref t10]) hsm2 q1
    have T20 := T19.new (o := .lst [.ref t4, .ref t5, .ref t6, .ref t7, .ref t8, .ref t9, .ref t10]) hsm2
    refine ⟨sm1, sm2, _, _, rfl, rfl, q1, q2, by show 3 + 7 ≤ sizeLine; decide, fun sm hsm => ?_⟩
    have smN : ∀ b o, He b = some o → (∀ ps, o ≠ .tbl ps) → b ≠ l → b ≠ sm := fun b o hb hn hbl z => by
      have hq := T20.k b o hb hn (by simpa using hbl)
      rw [z, hsm] at hq
      cases hq
    have es := mk_lst (xs := [.ref t1, .ref t2, .ref t3] ++ [.ref t4, .ref t5, .ref t6, .ref t7, .ref t8, .ref t9, .ref t10]) hsm
    have T21 := T20.new (o := .lst ([.ref t1, .ref t2, .ref t3] ++ [.ref t4, .ref t5, .ref t6, .ref t7, .ref t8, .ref t9, .ref t10])) hsm
    have T22 := T21.more (G := [l, sm]) (by simp)
    have lF : l ∈ [l, sm] := by simp
    have mF : sm ∈ [l, sm] := by simp
    have nls : l ≠ sm := fun z => by
      obtain ⟨_, _, _, e, _⟩ := T20.s
      rw [← z, e] at hsm
      cases hsm
    refine ⟨_, rfl, ?_⟩
    refine ⟨.inl ⟨rfl, _, SqL.of es⟩, ?_⟩
    have g11 : GoodI (2 ^ 63 - 1) 3 := good_b 63 (by decide) (by decide) (by decide) (by decide) (by decide) (by decide)
    refine ⟨63, rfl, rfl, by decide, _, _, rfl, rfl, by show 2 ≤ sizeLine; decide, fun t11 ht11 => ?_⟩
    have T23 := T22.tup ht11 g11
    replace es := keep_tup ht11 g11 es
    refine ⟨sm, _, _, rfl, rfl, es, by show 10 < sizeLine; decide, ?_⟩
    have T24 := T23.list (ys := [.ref t1, .ref t2, .ref t3] ++ [.ref t4, .ref t5, .ref t6, .ref t7, .ref t8, .ref t9, .ref t10] ++ [.ref t11]) mF es nls
    replace es := mk_upd (L := [.ref t1, .ref t2, .ref t3] ++ [.ref t4, .ref t5, .ref t6, .ref t7, .ref t8, .ref t9, .ref t10] ++ [.ref t11]) es
    refine ⟨_, rfl, ?_⟩
    refine ⟨.inl ⟨rfl, _, SqL.of es⟩, _, rfl, ?_⟩
    have gc1 : GoodI (2642246) 3 := good_b 22 (by decide) (by decide) (by decide) (by decide) (by decide) (by decide)
    refine ⟨by show 2 ≤ sizeLine; decide, fun c1 hc1 => ?_⟩
    have T25 := T24.tup hc1 gc1
    replace es := keep_tup hc1 gc1 es
    have gc2 : GoodI (2642247) 3 := good_b 22 (by decide) (by decide) (by decide) (by decide) (by decide) (by decide)
    refine ⟨by show 2 ≤ sizeLine; decide, fun c2 hc2 => ?_⟩
    have T26 := T25.tup hc2 gc2
    replace es := keep_tup hc2 gc2 es
    have gc3 : GoodI (2 ^ 32 + 1) 2 := good_b 33 (by decide) (by decide) (by decide) (by decide) (by decide) (by decide)
    refine ⟨32, rfl, rfl, by decide, _, _, rfl, rfl, by show 2 ≤ sizeLine; decide, fun c3 hc3 => ?_⟩
    have T27 := T26.tup hc3 gc3
    replace es := keep_tup hc3 gc3 es
    have gc4 : GoodI (24) 16 := good_b 5 (by decide) (by decide) (by decide) (by decide) (by decide) (by decide)
    refine ⟨by show 2 ≤ sizeLine; decide, fun c4 hc4 => ?_⟩
    have T28 := T27.tup hc4 gc4
    replace es := keep_tup hc4 gc4 es
    have gc5 : GoodI (25) 16 := good_b 5 (by decide) (by decide) (by decide) (by decide) (by decide) (by decide)
    refine ⟨by show 2 ≤ sizeLine; decide, fun c5 hc5 => ?_⟩
    have T29 := T28.tup hc5 gc5
    replace es := keep_tup hc5 gc5 es
    have gc6 : GoodI (61) 11 := good_b 6 (by decide) (by decide) (by decide) (by decide) (by decide) (by decide)
    refine ⟨by show 2 ≤ sizeLine; decide, fun c6 hc6 => ?_⟩
    have T30 := T29.tup hc6 gc6
    replace es := keep_tup hc6 gc6 es
    refine ⟨by show 6 ≤ sizeLine; decide, fun mv12 hmv12 => ?_⟩
    have emv12 := mk_lst (xs := [.ref c1, .ref c2, .ref c3, .ref c4, .ref c5, .ref c6]) hmv12
    replace es := keep_new (u := .lst [.ref c1, .ref c2, .ref c3, .ref c4, .ref c5, .ref c6]) hmv12 es
    have T31 := T30.new (o := .lst [.ref c1, .ref c2, .ref c3, .ref c4, .ref c5, .ref c6]) hmv12
    have mlv12 : mv12 ≠ l := fun z => by
      obtain ⟨_, _, _, e, _⟩ := T30.s
      rw [z, e] at hmv12
      cases hmv12
    refine ⟨l, mv12, 12, _, rfl, T31.s, by decide, emv12, mlv12, by show 0 < 6; decide, by show 6 ≤ 1000; decide, fun iv12 v12 HT32 hvv12 kT32 sT32 => ?_⟩
    have T32 := T31.draw lF kT32 sT32
    replace es := kT32 _ _ es (by simpa using Ne.symm nls)
    have pv12 : PairAt HT32 v12 := T32.p v12 (by
      have hm := List.mem_of_getElem? hvv12
      simp only [List.mem_cons, List.not_mem_nil, or_false] at hm
      rcases hm with rfl | rfl | rfl | rfl | rfl | rfl <;> simp)
    have T33 := T32.add pv12
    refine ⟨sm, _, _, rfl, rfl, es, by show 11 < sizeLine; decide, ?_⟩
    have T34 := T33.list (ys := [.ref t1, .ref t2, .ref t3] ++ [.ref t4, .ref t5, .ref t6, .ref t7, .ref t8, .ref t9, .ref t10] ++ [.ref t11] ++ [v12]) mF es nls
    replace es := mk_upd (L := [.ref t1, .ref t2, .ref t3] ++ [.ref t4, .ref t5, .ref t6, .ref t7, .ref t8, .ref t9, .ref t10] ++ [.ref t11] ++ [v12]) es
    refine ⟨_, rfl, ?_⟩
    refine ⟨.inl ⟨rfl, _, SqL.of es⟩, _, rfl, ?_⟩
    have gq7 : GoodI (200) 61 := good_b 8 (by decide) (by decide) (by decide) (by decide) (by decide) (by decide)
    refine ⟨by show 2 ≤ sizeLine; decide, fun q7 hq7 => ?_⟩
    have T35 := T34.tup hq7 gq7
    replace es := keep_tup hq7 gq7 es
    have gq8 : GoodI (600) 101 := good_b 10 (by decide) (by decide) (by decide) (by decide) (by decide) (by decide)
    refine ⟨by show 2 ≤ sizeLine; decide, fun q8 hq8 => ?_⟩
    have T36 := T35.tup hq8 gq8
    replace es := keep_tup hq8 gq8 es
    have gq9 : GoodI (400) 200 := good_b 9 (by decide) (by decide) (by decide) (by decide) (by decide) (by decide)
    refine ⟨by show 2 ≤ sizeLine; decide, fun q9 hq9 => ?_⟩
    have T37 := T36.tup hq9 gq9
    replace es := keep_tup hq9 gq9 es
    have gq10 : GoodI (130) 130 := good_b 8 (by decide) (by decide) (by decide) (by decide) (by decide) (by decide)
    refine ⟨by show 2 ≤ sizeLine; decide, fun q10 hq10 => ?_⟩
    have T38 := T37.tup hq10 gq10
    replace es := keep_tup hq10 gq10 es
    have gq11 : GoodI (1000) 75 := good_b 10 (by decide) (by decide) (by decide) (by decide) (by decide) (by decide)
    refine ⟨by show 2 ≤ sizeLine; decide, fun q11 hq11 => ?_⟩
    have T39 := T38.tup hq11 gq11
    replace es := keep_tup hq11 gq11 es
    refine ⟨by show 5 ≤ sizeLine; decide, fun mv13 hmv13 => ?_⟩
    have emv13 := mk_lst (xs := [.ref q7, .ref q8, .ref q9, .ref q10, .ref q11]) hmv13
    replace es := keep_new (u := .lst [.ref q7, .ref q8, .ref q9, .ref q10, .ref q11]) hmv13 es
    have T40 := T39.new (o := .lst [.ref q7, .ref q8, .ref q9, .ref q10, .ref q11]) hmv13
    have mlv13 : mv13 ≠ l := fun z => by
      obtain ⟨_, _, _, e, _⟩ := T39.s
      rw [z, e] at hmv13
      cases hmv13
    refine ⟨l, mv13, 13, _, rfl, T40.s, by decide, emv13, mlv13, by show 0 < 5; decide, by show 5 ≤ 1000; decide, fun iv13 v13 HT41 hvv13 kT41 sT41 => ?_⟩
    have T41 := T40.draw lF kT41 sT41
    replace es := kT41 _ _ es (by simpa using Ne.symm nls)
    have pv13 : PairAt HT41 v13 := T41.p v13 (by
      have hm := List.mem_of_getElem? hvv13
      simp only [List.mem_cons, List.not_mem_nil, or_false] at hm
      rcases hm with rfl | rfl | rfl | rfl | rfl <;> simp)
    have T42 := T41.add pv13
    refine ⟨sm, _, _, rfl, rfl, es, by show 12 < sizeLine; decide, ?_⟩
    have T43 := T42.list (ys := [.ref t1, .ref t2, .ref t3] ++ [.ref t4, .ref t5, .ref t6, .ref t7, .ref t8, .ref t9, .ref t10] ++ [.ref t11] ++ [v12] ++ [v13]) mF es nls
    replace es := mk_upd (L := [.ref t1, .ref t2, .ref t3] ++ [.ref t4, .ref t5, .ref t6, .ref t7, .ref t8, .ref t9, .ref t10] ++ [.ref t11] ++ [v12] ++ [v13]) es
    have pall : ∀ v ∈ [.ref t1, .ref t2, .ref t3] ++ [.ref t4, .ref t5, .ref t6, .ref t7, .ref t8, .ref t9, .ref t10] ++ [.ref t11] ++ [v12] ++ [v13], PairAt _ v := fun v hv => T43.p v (by
      simp only [List.mem_append, List.mem_cons, List.not_mem_nil, or_false] at hv
      rcases hv with ((((rfl | rfl | rfl) | rfl | rfl | rfl | rfl | rfl | rfl | rfl) | rfl) | rfl) | rfl <;> simp)
    obtain ⟨dx1, fs1, hp1, _⟩ := M1s.ob
    obtain ⟨ts1, he1, _⟩ := M1s.en
    obtain ⟨dx2, fs2, hp2, _⟩ := M2s.ob
    obtain ⟨ts2, he2, _⟩ := M2s.en
    have la : (upd H2 l (.lst [.int s0, .int cell, .int 0])) l = some (.lst [.int s0, .int cell, .int 0]) := upd_same
    have nl : ∀ {b : Addr}, (upd H2 l (.lst [.int s0, .int cell, .int 0])) b = none → b ≠ l := fun hb => Ne.symm (ne_of_none la hb)
    have inLS : ∀ {b : Addr}, b ≠ l → b ≠ sm → b ∉ [l, sm] := fun h1 h2 => by simp [h1, h2]
    obtain ⟨_, _, _, le, _⟩ := Se
    have pl1 : p1 ≠ l := ne_of hp1 le (by intro z; cases z)
    have pl2 : p2 ≠ l := ne_of hp2 le (by intro z; cases z)
    have tupF : ∀ b ∈ [l, sm], ∀ ys, He b ≠ some (.tup ys) := fun b hb ys hy => by
      rcases List.mem_cons.mp hb with rfl | hb
      · rw [le] at hy; cases hy
      · exact smN b _ hy (fun _ z => by cases z) (fun z => by rw [z, le] at hy; cases hy) (List.mem_singleton.mp hb)
    have M1c := M1s.kpN T43.k (inLS pl1 (smN _ _ hp1 (fun _ z => by cases z) pl1)) (inLS (nl nd1) (smN _ _ M1s.cn (fun _ z => by cases z) (nl nd1))) (inLS (nl ne1) (smN _ _ he1 (fun _ z => by cases z) (nl ne1))) tupF
    have M2c := M2s.kpN T43.k (inLS pl2 (smN _ _ hp2 (fun _ z => by cases z) pl2)) (inLS (nl nd2) (smN _ _ M2s.cn (fun _ z => by cases z) (nl nd2))) (inLS (nl ne2) (smN _ _ he2 (fun _ z => by cases z) (nl ne2))) tupF
    have hDc := T43.k _ _ hD (fun _ z => by cases z) (inLS (nl nD) (smN _ _ hD (fun _ z => by cases z) (nl nD)))
    have tc := T43.t
    have se1 : e1 ≠ sm := smN _ _ he1 (fun _ z => by cases z) (nl ne1)
    have se2 : e2 ≠ sm := smN _ _ he2 (fun _ z => by cases z) (nl ne2)
    have in4 : ∀ {b : Addr}, b ≠ d1 → b ≠ e1 → b ≠ d2 → b ≠ e2 → b ∉ [d1, e1, d2, e2] := fun h1 h2 h3 h4 => by simp [h1, h2, h3, h4]
    have smI : sm ∉ [d1, e1, d2, e2] := in4 (ne_of es M1c.cn (by intro z; cases z)) (Ne.symm se1) (ne_of es M2c.cn (by intro z; cases z)) (Ne.symm se2)
    have DI : D ∉ [d1, e1, d2, e2] := in4 (ne_of hDc M1c.cn (by intro z; cases z)) (Ne.symm neD1) (ne_of hDc M2c.cn (by intro z; cases z)) (Ne.symm neD2)
    obtain ⟨tc1, hce1, _⟩ := M1c.en
    obtain ⟨tc2, hce2, _⟩ := M2c.en
    -- for m, kk in some
    refine ⟨_, rfl, sm, rfl, ⟨_, SqL.of es⟩, for_list (K := K) (a := sm) (xs := [.ref t1, .ref t2, .ref t3] ++ [.ref t4, .ref t5, .ref t6, .ref t7, .ref t8, .ref t9, .ref t10] ++ [.ref t11] ++ [v12] ++ [v13]) (fun j σ H3 => ∃ x1 x2 x5 x7 x8 x9 x10, σ = [some (.ref a), x1, x2, some (.ref D), some (.int (nn : Nat)), x5, some (.ref sm), x7, x8, x9, x10] ∧ KpN [d1, e1, d2, e2] (upd HT41 sm (.lst ([.ref t1, .ref t2, .ref t3] ++ [.ref t4, .ref t5, .ref t6, .ref t7, .ref t8, .ref t9, .ref t10] ++ [.ref t11] ++ [v12] ++ [v13]))) H3 ∧ MachAt (CM K) H3 p1 d1 e1 (S0 w c) ∧ MachAt (CM K) H3 p2 d2 e2 (S0 w c) ∧ Tabs (tabT K) H3) ?_ ?_ ?_ ?_⟩
    · exact ⟨_, _, _, _, _, _, _, rfl, fun b o h _ _ => h, M1c, M2c, tc⟩
    · rintro j σ H3 _ ⟨x1, x2, x5, x7, x8, x9, x10, rfl, k3, _⟩
      exact SqL.of (k3 _ _ es (fun _ z => by cases z) smI)
    · rintro j v σ H3 hj ⟨x1, x2, x5, x7, x8, x9, x10, rfl, k3, M1d, M2d, t3⟩
      obtain ⟨t, m, kv, rfl, ht, g⟩ := pall v (List.mem_of_getElem? hj)
      have tI : t ∉ [d1, e1, d2, e2] := in4 (ne_of ht M1c.cn (by intro z; cases z)) (ne_of ht hce1 (by intro z; cases z)) (ne_of ht M2c.cn (by intro z; cases z)) (ne_of ht hce2 (by intro z; cases z))
      refine ⟨t, _, rfl, SqT.of (k3 _ _ ht (fun _ z => by cases z) tI), rfl, _, _, rfl, _, _, rfl, rfl, ?_⟩
      refine ⟨_, rfl, _, rfl, _, rfl, D, p1, d1, e1, p2, d2, e2, w, c, m, kv.toNat, by rw [Int.toNat_of_nonneg g.2.2.1], k3 _ _ hDc (fun _ z => by cases z) DI, M1d, M2d, nd12, ne12, t3, g.1, g.2.1, g.use, fun H4 k4 M1e M2e t4 => ?_⟩
      refine ⟨true, rfl, iteF ?_⟩
      exact ⟨x1, x2, x5, _, _, x9, x10, rfl, k3.trans k4, M1e, M2e, t4⟩
    · rintro σ H3 ⟨x1, x2, x5, x7, x8, x9, x10, rfl, k3, M1d, M2d, t3⟩
      have hD3 := k3 _ _ hDc (fun _ z => by cases z) DI
      refine ⟨_, rfl, D, _, 0, _, rfl, rfl, Sq.lst hD3, atI_nat (j := 0) rfl, ?_⟩
      have e60 : (if (60 : Int) < (nn : Int) then 60 else (nn : Int)) = ((min nn 60 : Nat) : Int) := by split <;> omega
      have g60 : GoodI ((min nn 60 : Nat) : Int) ((min nn 60 : Nat) : Int) := good_b 6 (by omega) (by omega) (by omega) (by omega) (by omega) (by omega)
      have u60 := g60.use
      rw [Int.toNat_natCast] at u60
      have ev : permV ((min nn 60 : Nat) : Int) (min nn 60) = worth ((min nn 60 : Nat) : Int) (min nn 60) := if_neg (by omega)
      refine ⟨_, rfl, _, rfl, _, _, rfl, _, rfl, _, _, rfl, p1, d1, e1, S0 w c, ((min nn 60 : Nat) : Int), min nn 60, by rw [e60], M1d, by omega, by omega, u60, fun hd H4 nhd k4 M4 B4 => ?_⟩
      refine ⟨_, rfl, _, rfl, _, _, rfl, p1, d1, e1, _, min nn 60, by rw [e60], M4, by omega, fun z H5 S5 nz k5 M5 B5 => ?_⟩
      rw [MS.ops_w] at B5
      have B4b := B4.keep M4 k5
      rw [ev] at B4b
      obtain ⟨dxa, fsa, _, ha1, _⟩ := B4b.ob
      obtain ⟨dxb, fsb, _, ha2, _⟩ := B5.ob
      refine ⟨⟨hd, z, _, _, _, _, rfl, rfl, ha1, ha2, _, _, B4b, B5⟩, fun H6 x6 => ?_⟩
      refine ⟨false, rfl, iteF ?_⟩
      refine ⟨x1, x2, _, _, x5, _, x7, x8, _, x10, rfl, fun b o hb hn _ => ?_, ?_⟩
      · have h2 := k2 b o hb hn (by simp)
        have h3 := sa b o h2
        have bl : b ≠ l := ne_of_none h2 hl
        have h4 := ke b o h3 (by simpa using bl)
        have bs := smN b o h4 hn bl
        have h5 := T43.k b o h4 hn (inLS bl bs)
        have fr : ∀ {x : Addr}, (upd H2 l (.lst [.int s0, .int cell, .int 0])) x = none → b ≠ x := fun hx => ne_of_none h3 hx
        have h6 := k3 b o h5 hn (in4 (fr nd1) (fr ne1) (fr nd2) (fr ne2))
        have i2 : b ∉ [d1, e1] := by simp [fr nd1, fr ne1]
        exact x6 _ _ (k5 _ _ (k4 _ _ h6 i2) i2)
      · have ta := tab_m t3 M1d k4
        have tb := tab_m ta M4 k5
        exact tb.ext x6
  · rintro σ H2 ⟨u1, u2, u3, u4, u5, u6, u7, u8, u9, u10, rfl, k2, t2⟩
    refine fun x dx hx hdx ne => ⟨x, dx, 8, 4, rfl, upd_same, by decide, by decide, by decide, by decide, fun d e H3 nd3 ne3 k3 M3 => ⟨rfl, ?_⟩⟩
    have M3s : MachAt (CM K) H3 x d e (S0 8 4) := M3
    have w60 : worth 5 3 < 2 ^ 64 := by decide
    have w5 : permV 5 3 = 60 := by decide
    refine ⟨_, rfl, x, d, e, S0 8 4, 5, 3, rfl, M3s, by decide, by decide, fun _ => ⟨by decide, Int.lt_of_lt_of_le w60 (ipow_le (b := 2) (by decide) (show 64 ≤ 2000 by decide))⟩, fun z H4 n4 k4 M4 B4 => ?_⟩
    refine ⟨_, rfl, x, d, e, _, 60, rfl, M4, by decide, Int.lt_of_lt_of_le (show (60 : Int) < 2 ^ 64 by decide) w64, fun z2 H5 n5 s5 B5 => ?_⟩
    rw [MS.ops_w] at B5
    rw [w5] at B4
    have B4b := B4.same s5
    obtain ⟨dxa, fsa, _, ha1, _⟩ := B4b.ob
    obtain ⟨dxb, fsb, _, ha2, _⟩ := B5.ob
    refine ⟨⟨z, z2, _, _, _, _, rfl, rfl, ha1, ha2, _, _, B4b, B5⟩, fun H6 x6 => ?_⟩
    refine ⟨true, rfl, iteT ?_⟩
    have M6 := (M4.same s5).same (show Same H5 H6 from x6)
    refine ⟨_, rfl, ?_⟩
    refine M6.self (m := "walk") (by decide +kernel) ?_
    refine ⟨x, d, e, _, rfl, M6, fun ts l7 E7 hl7 => ?_⟩
    have s7 := same_upd (o := .lst (ts.map V.ref)) hl7
    refine ⟨by show 3 ≤ sizeLine; decide, fun t8 ht8 => ⟨by show 1 ≤ sizeLine; decide, fun l9 hl9 => ?_⟩⟩
    have s8 := same_upd (o := .tup [.str "perm", .int 5, .int 3]) ht8
    have s9 := same_upd (o := .lst [.ref t8]) hl9
    have hent : ((S0 8 4).ops (permOps (2 ^ (S0 8 4).w) (S0 8 4).c 5 3)).ent = [pe3 5 3] := by
      rw [ops_ent _ (S0 8 4) (by show 0 ≤ 1000; decide), show permOps (2 ^ (S0 8 4).w) (S0 8 4).c 5 3 = rowsOps (2 ^ (S0 8 4).w) (S0 8 4).c 8 5 3 from if_neg (by decide), rowsOps_lt w60]
      rfl
    rw [hent] at E7
    have E9 := E7.mono (H' := _) fun t xs h => s9 _ _ (s8 _ _ (s7 _ _ h))
    have f1 : Fit 8 (.list [PyData.tuple [.str "perm", .int 5, .int 3]]) := fit_lst fun dd hd => by
      obtain rfl := List.mem_singleton.mp hd
      refine (fit_tup (k := 0) fun d2 hd2 => ?_).mono (by decide)
      rcases List.mem_cons.mp hd2 with rfl | hd2
      · exact fit_str _ permW_ok
      rcases List.mem_cons.mp hd2 with rfl | hd2
      · exact fit_int _ _
      obtain rfl := List.mem_singleton.mp hd2
      exact fit_int _ _
    refine ⟨_, _, .lst (SqL.of (s9 _ _ (s8 _ _ upd_same))) (dp_ent E9), .lst (SqL.of upd_same) (.cons (.tup (SqT.of (s9 _ _ upd_same)) (.cons (.str _) (.cons (.int _) (.cons (.int _) .nil)))) .nil), f1.shaped, f1.shaped, ?_⟩
    have er : PyData.eqv (.list ([pe3 5 3].map fun x : Str × Int × Int => PyData.tuple [.str x.1, .int x.2.1, .int x.2.2])) (.list [PyData.tuple [.str "perm", .int 5, .int 3]]) = true := f1.refl
    rw [er]
    exact q _
end
end T87
namespace T87
open PySem PySem.Spec PyProof.Rows L2
open LamX NdefX
theorem law_at {w : World} {K : PySem.W.Frag} {mg : Str → Option Value} {fa : Addr} {h : Heap} (X : K.In h) (G : h.Ns mainGlobals mg) (hfa : mg ("law" : Str) = some (.ref fa)) (c : He.SaysX faAll fnAll [] tfAll exAll w h K) :
    LawAtS PySem.Challenge.rw_thirtybits_k87_whole_rows_of_things w K CX0 41 63 "_law_script" mg fa h := by
  have T : Tx K mg := ⟨c.t.d, c.more, ⟨h, X, G⟩⟩
  have e := hfa.symm.trans T.m_law
  cases e
  obtain ⟨fd, F⟩ := T.f_law
  have hb := FunD.bindsA (ps := ["_law_script"]) F fun _ _ _ _ _ _ us hl => match us, hl with | [_], _ => rfl
  have hm : (("_law_due" : Str), (none : Option Str)) ∈ tfAll := by simp [tfAll]
  have one : ∀ p ∈ [(cA K, pA K)], p = He.cT K ("_law_due", none) := fun p hp => List.mem_singleton.mp hp
  refine ⟨fd, [(cA K, pA K)], spLaw K, fun p hp => ?_, fun p hp => ?_, fun p hp => ?_, fun s u => hb s [u] rfl, fun H a ns hl _ hH hS => ⟨a, ns, rfl, hS, hl, fun p hp => ?_, fun _ => rfl⟩, fun base _ _ TB => ok_law T (TB (cA K, pA K) (List.mem_singleton.mpr rfl)) F⟩
  · rw [one p hp]
    exact c.empty _ hm
  · rw [one p hp]
    exact c.out _ hm
  · rw [one p hp]
    exact PySem.W.codeHd_of_K X (c.hd _ hm)
  · rw [List.mem_singleton.mp hp]
    exact TabS.nil (hH (cA K, pA K) (List.mem_singleton.mpr rfl))
end T87
open PySem PySem.W PySem.Calls PyProof.Rows
theorem PySem.Challenge.cw_thirtybits_k87_whole_rows_of_things_holds : PySem.Challenge.rw_thirtybits_k87_whole_rows_of_things.Holds := by
  w_on; o_law
  refine HandSHeadRun.head_any (r := OpenLaw.row PySem.Challenge.rw_thirtybits_k87_whole_rows_of_things) (q := view (OpenLaw.row PySem.Challenge.rw_thirtybits_k87_whole_rows_of_things).prog [77]) (H := T87.hkAll) (ob := T87.obAll) (M := 20000) (loose := T87.looseAll) (d := HandSHeadRun.topDef (OpenLaw.row PySem.Challenge.rw_thirtybits_k87_whole_rows_of_things).prog 77) (kwd := []) T87.obAll_eq
    (by kernel_rfl) (fun s => by kernel_rfl) T87.runAll (by kernel_rfl) (by kernel_rfl) (by kernel_rfl) (by rfl) (by first | assumption | decide +kernel) (by decide +kernel) ⟨rfl, rfl, rfl, rfl, rfl, by decide +kernel⟩ ?hw ?hc
  case hw => w_witness2
  case hc =>
    refine LamX.walk_ofTsE (l := PySem.Challenge.rw_thirtybits_k87_whole_rows_of_things) (n := 63) (k := 41) (x := "_law_script") (CX := fun _ => L2.CX0) rfl (by decide) (by kernel_rfl) ⟨rfl, by decide, by decide⟩ ?F (fun _ _ _ _ _ z => z)
    intro w mg fa h Y G hmg0
    obtain ⟨K, KX, c⟩ := Y
    have hmg : mg ("law" : PySem.Str) = some (.ref fa) := by
      have e : (HandSHeadRun.topDef (OpenLaw.row PySem.Challenge.rw_thirtybits_k87_whole_rows_of_things).prog 77).name = ("law" : PySem.Str) := by kernel_rfl
      rw [← e]
      exact hmg0
    exact ⟨K, KX, T87.law_at KX G hmg c⟩
#print axioms PySem.Challenge.cw_thirtybits_k87_whole_rows_of_things_holds
