import PyProof.Rows.All
import Wide.All
import OpenK.AllK
import Wide.FinOn
import PySem.Challenge.RW_arcshapes_k65_root_numbers_as_a_field
import Lean
import KE.KStateDown
import HandS.ForMost
import HandS.ForExc
import HandS.More
import HandS.Defaults
import HandS.Head0
import HandS.Head1
import HandS.Head2
import HandS.HeadEnd
import HandS.HeadHook1
import HandS.HeadHook2
import HandS.Wide
import HandS.WideMore
import HandS.IsInst
import HandS.Deep
import HandS.FStr
import HandS.RaiseMore
import PyProof.ReprRoads
import HandS.Comp
import HandS.Codes
import HandS.Zip
import HandS.CallLocal
import KE.KIntText
import HandS.Walk
import HandS.NoneIn
import HandS.Hot
import HandS.HotCalls
import HandS.ExcCtx
section
set_option Elab.async false
set_option linter.all false
set_option maxRecDepth 100000
set_option maxHeartbeats 0
namespace DLH
open PySem PySem.Spec PyProof.Rows L2
/-! the hook with one Bool more: what else is asked of the written part -/
abbrev AlY : Type := He.AlD × Bool
def obsY (fa : List He.Fa) (fn : List He.DefD) (ex : PySem.W.Frag → Bool) (K : PySem.W.Frag) : AlY := (He.obsD fa fn K, ex K)
def obsYG (n : Nat) (fa : List He.Fa) (fn : List He.DefD) (ex : PySem.W.Frag → Bool) (g : Addr → Option Obj) : AlY := obsY fa fn ex (He.frG g (He.asD g n))
def hookY (n : Nat) (fa : List He.Fa) (fn : List He.DefD) (ex : PySem.W.Frag → Bool) : PySem.W.Hook where
  α := AlY
  obs := fun s => obsYG n fa fn ex s.heap.get?
  val := fun _ => (He.valD fn, true)
  says := fun _ h => ∃ K : PySem.W.Frag, K.In h ∧ He.SaysD fa fn K ∧ ex K = true
  of := fun _ _ e => ⟨_, He.frG_in, congrArg (fun z : AlY => z.1) e, congrArg (fun z : AlY => z.2) e⟩
  keeps := fun _ _ _ ⟨K, h1, h2⟩ k => ⟨K, PySem.W.Frag.In.keeps h1 k, h2⟩
theorem obsYG_eq {n : Nat} {fa : List He.Fa} {fn : List He.DefD} {ex : PySem.W.Frag → Bool} {g : Addr → Option Obj} {s : Shared} (h : ∀ a, g a = s.heap.get? a) : obsYG n fa fn ex g = (hookY n fa fn ex).obs s := by
  have e : g = s.heap.get? := funext h
  subst e
  rfl
end DLH
namespace K65
open PySem PySem.Spec PyProof.Rows L2
def top (i : Nat) : Stmt := PySem.Challenge.pw_arcshapes_k65_root_numbers_as_a_field.main.body.getD i (.Pass ⟨0, 0, 0, 0⟩)
abbrev s_is_number : Stmt := top 8
abbrev s_is_index : Stmt := top 9
abbrev s_is_sized : Stmt := top 10
abbrev s_divisor : Stmt := top 11
abbrev s_is_fraction : Stmt := top 12
abbrev s_fraction : Stmt := top 15
abbrev s_whole : Stmt := top 16
abbrev s_add : Stmt := top 17
abbrev s_sub : Stmt := top 18
abbrev s_mul : Stmt := top 19
abbrev s_div : Stmt := top 20
abbrev s_neg : Stmt := top 21
abbrev s_sign : Stmt := top 22
abbrev s_compare_fractions : Stmt := top 23
abbrev s_middle : Stmt := top 25
abbrev s_sum_of : Stmt := top 26
abbrev s_whole_root : Stmt := top 27
abbrev s_root_of : Stmt := top 28
abbrev s_floor : Stmt := top 29
abbrev s_is_long : Stmt := top 30
abbrev s_fraction_text : Stmt := top 31
abbrev s_rooted : Stmt := top 34
abbrev s_of_fraction : Stmt := top 35
abbrev s_plus : Stmt := top 36
abbrev s_times : Stmt := top 37
abbrev s_common : Stmt := top 38
abbrev s_added : Stmt := top 39
abbrev s_product : Stmt := top 40
abbrev s_is_root : Stmt := top 41
abbrev s_is_root_place : Stmt := top 42
abbrev s_root_place : Stmt := top 43
abbrev s_sign_two : Stmt := top 46
abbrev s_sign_of : Stmt := top 47
abbrev s_sign_three : Stmt := top 48
abbrev s_compare_signs : Stmt := top 49
abbrev s_power : Stmt := top 51
abbrev s_root_bounds : Stmt := top 52
abbrev s_width_does : Stmt := top 53
abbrev s_bounds : Stmt := top 54
abbrev s_floor_of : Stmt := top 55
abbrev s_between : Stmt := top 56
abbrev s_nearest : Stmt := top 57
abbrev s_root_text : Stmt := top 60
abbrev s_number_in : Stmt := top 61
abbrev s_fraction_in : Stmt := top 62
abbrev s_root_in : Stmt := top 63
abbrev s_all_in : Stmt := top 64
abbrev s_vertex_in : Stmt := top 65
abbrev s_read_rows : Stmt := top 66
abbrev s_read_vertices : Stmt := top 67
abbrev s__law_bag : Stmt := top 69
abbrev s__law_take : Stmt := top 70
abbrev s__law_some : Stmt := top 71
abbrev s__law_alike : Stmt := top 72
abbrev s__law_fr : Stmt := top 73
abbrev s__law_add : Stmt := top 74
abbrev s__law_sub : Stmt := top 75
abbrev s__law_mul : Stmt := top 76
abbrev s__law_div : Stmt := top 77
abbrev s__law_sign : Stmt := top 78
abbrev s__law_number : Stmt := top 79
abbrev s__law_told_by : Stmt := top 80
abbrev s__law_is : Stmt := top 81
abbrev s__law_rules_so : Stmt := top 82
abbrev s__law_order_so : Stmt := top 83
abbrev s__law_alike_so : Stmt := top 84
abbrev s__law_fractions_so : Stmt := top 85
abbrev s_law : Stmt := top 86
def d_is_number : He.DefD := ⟨("is_number", none), "is_number", "is_number", defArgs s_is_number, defBody s_is_number, defScope s_is_number, [], []⟩
def d_is_index : He.DefD := ⟨("is_index", none), "is_index", "is_index", defArgs s_is_index, defBody s_is_index, defScope s_is_index, [], []⟩
def d_is_sized : He.DefD := ⟨("is_sized", none), "is_sized", "is_sized", defArgs s_is_sized, defBody s_is_sized, defScope s_is_sized, [], []⟩
def d_divisor : He.DefD := ⟨("divisor", none), "divisor", "divisor", defArgs s_divisor, defBody s_divisor, defScope s_divisor, [], []⟩
def d_is_fraction : He.DefD := ⟨("is_fraction", none), "is_fraction", "is_fraction", defArgs s_is_fraction, defBody s_is_fraction, defScope s_is_fraction, [], []⟩
def d_fraction : He.DefD := ⟨("fraction", none), "fraction", "fraction", defArgs s_fraction, defBody s_fraction, defScope s_fraction, [], []⟩
def d_whole : He.DefD := ⟨("whole", none), "whole", "whole", defArgs s_whole, defBody s_whole, defScope s_whole, [], []⟩
def d_add : He.DefD := ⟨("add", none), "add", "add", defArgs s_add, defBody s_add, defScope s_add, [], []⟩
def d_sub : He.DefD := ⟨("sub", none), "sub", "sub", defArgs s_sub, defBody s_sub, defScope s_sub, [], []⟩
def d_mul : He.DefD := ⟨("mul", none), "mul", "mul", defArgs s_mul, defBody s_mul, defScope s_mul, [], []⟩
def d_div : He.DefD := ⟨("div", none), "div", "div", defArgs s_div, defBody s_div, defScope s_div, [], []⟩
def d_neg : He.DefD := ⟨("neg", none), "neg", "neg", defArgs s_neg, defBody s_neg, defScope s_neg, [], []⟩
def d_sign : He.DefD := ⟨("sign", none), "sign", "sign", defArgs s_sign, defBody s_sign, defScope s_sign, [], []⟩
def d_compare_fractions : He.DefD := ⟨("compare_fractions", none), "compare", "compare", defArgs s_compare_fractions, defBody s_compare_fractions, defScope s_compare_fractions, [], []⟩
def d_middle : He.DefD := ⟨("middle", none), "middle", "middle", defArgs s_middle, defBody s_middle, defScope s_middle, [], []⟩
def d_sum_of : He.DefD := ⟨("sum_of", none), "sum_of", "sum_of", defArgs s_sum_of, defBody s_sum_of, defScope s_sum_of, [], []⟩
def d_whole_root : He.DefD := ⟨("whole_root", none), "whole_root", "whole_root", defArgs s_whole_root, defBody s_whole_root, defScope s_whole_root, [], []⟩
def d_root_of : He.DefD := ⟨("root_of", none), "root_of", "root_of", defArgs s_root_of, defBody s_root_of, defScope s_root_of, [], []⟩
def d_floor : He.DefD := ⟨("floor", none), "floor", "floor", defArgs s_floor, defBody s_floor, defScope s_floor, [], []⟩
def d_is_long : He.DefD := ⟨("is_long", none), "is_long", "is_long", defArgs s_is_long, defBody s_is_long, defScope s_is_long, [], []⟩
def d_fraction_text : He.DefD := ⟨("fraction_text", none), "fraction_text", "fraction_text", defArgs s_fraction_text, defBody s_fraction_text, defScope s_fraction_text, [], []⟩
def d_rooted : He.DefD := ⟨("rooted", none), "rooted", "rooted", defArgs s_rooted, defBody s_rooted, defScope s_rooted, [], []⟩
def d_of_fraction : He.DefD := ⟨("of_fraction", none), "of_fraction", "of_fraction", defArgs s_of_fraction, defBody s_of_fraction, defScope s_of_fraction, [], []⟩
def d_plus : He.DefD := ⟨("plus", none), "plus", "plus", defArgs s_plus, defBody s_plus, defScope s_plus, [], []⟩
def d_times : He.DefD := ⟨("times", none), "times", "times", defArgs s_times, defBody s_times, defScope s_times, [], []⟩
def d_common : He.DefD := ⟨("common", none), "common", "common", defArgs s_common, defBody s_common, defScope s_common, [], []⟩
def d_added : He.DefD := ⟨("added", none), "added", "added", defArgs s_added, defBody s_added, defScope s_added, [], []⟩
def d_product : He.DefD := ⟨("product", none), "product", "product", defArgs s_product, defBody s_product, defScope s_product, [], []⟩
def d_is_root : He.DefD := ⟨("is_root", none), "is_root", "is_root", defArgs s_is_root, defBody s_is_root, defScope s_is_root, [], []⟩
def d_is_root_place : He.DefD := ⟨("is_root_place", none), "is_root_place", "is_root_place", defArgs s_is_root_place, defBody s_is_root_place, defScope s_is_root_place, [], []⟩
def d_root_place : He.DefD := ⟨("root_place", none), "root_place", "root_place", defArgs s_root_place, defBody s_root_place, defScope s_root_place, [], []⟩
def d_sign_two : He.DefD := ⟨("sign_two", none), "sign_two", "sign_two", defArgs s_sign_two, defBody s_sign_two, defScope s_sign_two, [], []⟩
def d_sign_of : He.DefD := ⟨("sign_of", none), "sign_of", "sign_of", defArgs s_sign_of, defBody s_sign_of, defScope s_sign_of, [], []⟩
def d_sign_three : He.DefD := ⟨("sign_three", none), "sign_three", "sign_three", defArgs s_sign_three, defBody s_sign_three, defScope s_sign_three, [], []⟩
def d_compare_signs : He.DefD := ⟨("compare_signs", none), "compare", "compare", defArgs s_compare_signs, defBody s_compare_signs, defScope s_compare_signs, [], []⟩
def d_power : He.DefD := ⟨("power", none), "power", "power", defArgs s_power, defBody s_power, defScope s_power, [], []⟩
def d_root_bounds : He.DefD := ⟨("root_bounds", none), "root_bounds", "root_bounds", defArgs s_root_bounds, defBody s_root_bounds, defScope s_root_bounds, [], []⟩
def d_width_does : He.DefD := ⟨("width_does", none), "width_does", "width_does", defArgs s_width_does, defBody s_width_does, defScope s_width_does, [], []⟩
def d_bounds : He.DefD := ⟨("bounds", none), "bounds", "bounds", defArgs s_bounds, defBody s_bounds, defScope s_bounds, [], []⟩
def d_floor_of : He.DefD := ⟨("floor_of", none), "floor_of", "floor_of", defArgs s_floor_of, defBody s_floor_of, defScope s_floor_of, [], []⟩
def d_between : He.DefD := ⟨("between", none), "between", "between", defArgs s_between, defBody s_between, defScope s_between, [], []⟩
def d_nearest : He.DefD := ⟨("nearest", none), "nearest", "nearest", defArgs s_nearest, defBody s_nearest, defScope s_nearest, [], []⟩
def d_root_text : He.DefD := ⟨("root_text", none), "root_text", "root_text", defArgs s_root_text, defBody s_root_text, defScope s_root_text, [], []⟩
def d_number_in : He.DefD := ⟨("number_in", none), "number_in", "number_in", defArgs s_number_in, defBody s_number_in, defScope s_number_in, [], []⟩
def d_fraction_in : He.DefD := ⟨("fraction_in", none), "fraction_in", "fraction_in", defArgs s_fraction_in, defBody s_fraction_in, defScope s_fraction_in, [], []⟩
def d_root_in : He.DefD := ⟨("root_in", none), "root_in", "root_in", defArgs s_root_in, defBody s_root_in, defScope s_root_in, [], []⟩
def d_all_in : He.DefD := ⟨("all_in", none), "all_in", "all_in", defArgs s_all_in, defBody s_all_in, defScope s_all_in, [], []⟩
def d_vertex_in : He.DefD := ⟨("vertex_in", none), "vertex_in", "vertex_in", defArgs s_vertex_in, defBody s_vertex_in, defScope s_vertex_in, [], []⟩
def d_read_rows : He.DefD := ⟨("read_rows", none), "read_rows", "read_rows", defArgs s_read_rows, defBody s_read_rows, defScope s_read_rows, [], []⟩
def d_read_vertices : He.DefD := ⟨("read_vertices", none), "read_vertices", "read_vertices", defArgs s_read_vertices, defBody s_read_vertices, defScope s_read_vertices, [], []⟩
def d__law_bag : He.DefD := ⟨("_law_bag", none), "_law_bag", "_law_bag", defArgs s__law_bag, defBody s__law_bag, defScope s__law_bag, [], []⟩
def d__law_take : He.DefD := ⟨("_law_take", none), "_law_take", "_law_take", defArgs s__law_take, defBody s__law_take, defScope s__law_take, [], []⟩
def d__law_some : He.DefD := ⟨("_law_some", none), "_law_some", "_law_some", defArgs s__law_some, defBody s__law_some, defScope s__law_some, [], []⟩
def d__law_alike : He.DefD := ⟨("_law_alike", none), "_law_alike", "_law_alike", defArgs s__law_alike, defBody s__law_alike, defScope s__law_alike, [], []⟩
def d__law_fr : He.DefD := ⟨("_law_fr", none), "_law_fr", "_law_fr", defArgs s__law_fr, defBody s__law_fr, defScope s__law_fr, [], []⟩
def d__law_add : He.DefD := ⟨("_law_add", none), "_law_add", "_law_add", defArgs s__law_add, defBody s__law_add, defScope s__law_add, [], []⟩
def d__law_sub : He.DefD := ⟨("_law_sub", none), "_law_sub", "_law_sub", defArgs s__law_sub, defBody s__law_sub, defScope s__law_sub, [], []⟩
def d__law_mul : He.DefD := ⟨("_law_mul", none), "_law_mul", "_law_mul", defArgs s__law_mul, defBody s__law_mul, defScope s__law_mul, [], []⟩
def d__law_div : He.DefD := ⟨("_law_div", none), "_law_div", "_law_div", defArgs s__law_div, defBody s__law_div, defScope s__law_div, [], []⟩
def d__law_sign : He.DefD := ⟨("_law_sign", none), "_law_sign", "_law_sign", defArgs s__law_sign, defBody s__law_sign, defScope s__law_sign, [], []⟩
def d__law_number : He.DefD := ⟨("_law_number", none), "_law_number", "_law_number", defArgs s__law_number, defBody s__law_number, defScope s__law_number, [], []⟩
def d__law_told_by : He.DefD := ⟨("_law_told_by", none), "_law_told_by", "_law_told_by", defArgs s__law_told_by, defBody s__law_told_by, defScope s__law_told_by, [], []⟩
def d__law_is : He.DefD := ⟨("_law_is", none), "_law_is", "_law_is", defArgs s__law_is, defBody s__law_is, defScope s__law_is, [], []⟩
def d__law_rules_so : He.DefD := ⟨("_law_rules_so", none), "_law_rules_so", "_law_rules_so", defArgs s__law_rules_so, defBody s__law_rules_so, defScope s__law_rules_so, [], []⟩
def d__law_order_so : He.DefD := ⟨("_law_order_so", none), "_law_order_so", "_law_order_so", defArgs s__law_order_so, defBody s__law_order_so, defScope s__law_order_so, [], []⟩
def d__law_alike_so : He.DefD := ⟨("_law_alike_so", none), "_law_alike_so", "_law_alike_so", defArgs s__law_alike_so, defBody s__law_alike_so, defScope s__law_alike_so, [], []⟩
def d__law_fractions_so : He.DefD := ⟨("_law_fractions_so", none), "_law_fractions_so", "_law_fractions_so", defArgs s__law_fractions_so, defBody s__law_fractions_so, defScope s__law_fractions_so, [], []⟩
def d_law : He.DefD := ⟨("law", none), "law", "law", defArgs s_law, defBody s_law, defScope s_law, [], []⟩
def fn : List He.DefD := [d_is_number, d_is_index, d_is_sized, d_divisor, d_is_fraction, d_fraction, d_whole, d_add, d_sub, d_mul, d_div, d_neg, d_sign, d_compare_fractions, d_middle, d_sum_of, d_whole_root, d_root_of, d_floor, d_is_long, d_fraction_text, d_rooted, d_of_fraction, d_plus, d_times, d_common, d_added, d_product, d_is_root, d_is_root_place, d_root_place, d_sign_two, d_sign_of, d_sign_three, d_compare_signs, d_power, d_root_bounds, d_width_does, d_bounds, d_floor_of, d_between, d_nearest, d_root_text, d_number_in, d_fraction_in, d_root_in, d_all_in, d_vertex_in, d_read_rows, d_read_vertices, d__law_bag, d__law_take, d__law_some, d__law_alike, d__law_fr, d__law_add, d__law_sub, d__law_mul, d__law_div, d__law_sign, d__law_number, d__law_told_by, d__law_is, d__law_rules_so, d__law_order_so, d__law_alike_so, d__law_fractions_so, d_law]
def fa : List He.Fa := [.glo "is_number", .glo "is_index", .glo "is_sized", .glo "divisor", .glo "is_fraction", .glo "fraction", .glo "whole", .glo "add", .glo "sub", .glo "mul", .glo "div", .glo "neg", .glo "sign", .glo "compare_fractions", .glo "middle", .glo "sum_of", .glo "whole_root", .glo "root_of", .glo "floor", .glo "is_long", .glo "fraction_text", .glo "rooted", .glo "of_fraction", .glo "plus", .glo "times", .glo "common", .glo "added", .glo "product", .glo "is_root", .glo "is_root_place", .glo "root_place", .glo "sign_two", .glo "sign_of", .glo "sign_three", .glo "compare_signs", .glo "power", .glo "root_bounds", .glo "width_does", .glo "bounds", .glo "floor_of", .glo "between", .glo "nearest", .glo "root_text", .glo "number_in", .glo "fraction_in", .glo "root_in", .glo "all_in", .glo "vertex_in", .glo "read_rows", .glo "read_vertices", .glo "_law_bag", .glo "_law_take", .glo "_law_some", .glo "_law_alike", .glo "_law_fr", .glo "_law_add", .glo "_law_sub", .glo "_law_mul", .glo "_law_div", .glo "_law_sign", .glo "_law_number", .glo "_law_told_by", .glo "_law_is", .glo "_law_rules_so", .glo "_law_order_so", .glo "_law_alike_so", .glo "_law_fractions_so", .glo "law", .str "DIGITS" "0123456789", .int "MOST_TOLD" 4020, .glo "ZERO", .glo "HALF", .int "MOST_FIGURES" 4020, .free "abs", .free "all", .free "bool", .free "enumerate", .free "int", .free "isinstance", .free "len", .free "range", .free "repr", .free "tuple", .free "zip", .glo "Nothing", .exc "Nothing", .exm "Nothing" "Nothing" true]
/- facts: 0 .glo "is_number", 1 .glo "is_index", 2 .glo "is_sized", 3 .glo "divisor", 4 .glo "is_fraction", 5 .glo "fraction", 6 .glo "whole", 7 .glo "add", 8 .glo "sub", 9 .glo "mul", 10 .glo "div", 11 .glo "neg", 12 .glo "sign", 13 .glo "compare_fractions", 14 .glo "middle", 15 .glo "sum_of", 16 .glo "whole_root", 17 .glo "root_of", 18 .glo "floor", 19 .glo "is_long", 20 .glo "fraction_text", 21 .glo "rooted", 22 .glo "of_fraction", 23 .glo "plus", 24 .glo "times", 25 .glo "common", 26 .glo "added", 27 .glo "product", 28 .glo "is_root", 29 .glo "is_root_place", 30 .glo "root_place", 31 .glo "sign_two", 32 .glo "sign_of", 33 .glo "sign_three", 34 .glo "compare_signs", 35 .glo "power", 36 .glo "root_bounds", 37 .glo "width_does", 38 .glo "bounds", 39 .glo "floor_of", 40 .glo "between", 41 .glo "nearest", 42 .glo "root_text", 43 .glo "number_in", 44 .glo "fraction_in", 45 .glo "root_in", 46 .glo "all_in", 47 .glo "vertex_in", 48 .glo "read_rows", 49 .glo "read_vertices", 50 .glo "_law_bag", 51 .glo "_law_take", 52 .glo "_law_some", 53 .glo "_law_alike", 54 .glo "_law_fr", 55 .glo "_law_add", 56 .glo "_law_sub", 57 .glo "_law_mul", 58 .glo "_law_div", 59 .glo "_law_sign", 60 .glo "_law_number", 61 .glo "_law_told_by", 62 .glo "_law_is", 63 .glo "_law_rules_so", 64 .glo "_law_order_so", 65 .glo "_law_alike_so", 66 .glo "_law_fractions_so", 67 .glo "law", 68 .str "DIGITS" "0123456789", 69 .int "MOST_TOLD" 4020, 70 .glo "ZERO", 71 .glo "HALF", 72 .int "MOST_FIGURES" 4020, 73 .free "abs", 74 .free "all", 75 .free "bool", 76 .free "enumerate", 77 .free "int", 78 .free "isinstance", 79 .free "len", 80 .free "range", 81 .free "repr", 82 .free "tuple", 83 .free "zip", 84 .glo "Nothing", 85 .exc "Nothing", 86 .exm "Nothing" "Nothing" true -/
abbrev R : PySem.W.OpenRow := PySem.W.OpenLaw.row PySem.Challenge.rw_arcshapes_k65_root_numbers_as_a_field
def ex (K : PySem.W.Frag) : Bool := He.tupB K "ZERO" [.int (0), .int (1)] && He.tupB K "HALF" [.int (1), .int (2)]
abbrev hk : PySem.W.Hook := DLH.hookY 5 fa fn ex
def ob (s : PySem.W.SharedT) : DLH.AlY := DLH.obsYG 5 fa fn ex (HandSHeadRun.getT s)
theorem ob_eq (s : PySem.W.SharedT) : ob s = hk.obs s.abs := DLH.obsYG_eq (HandSHeadRun.getT_eq s)
def loose0 : List PySem.Str := ["_wall", "ShapeError", "BadText", "Nothing", "TooLarge", "DIGITS", "is_number", "is_index", "is_sized", "divisor", "is_fraction", "MOST_TOLD", "fraction", "whole", "add", "sub", "mul", "div", "neg", "sign", "compare", "compare_fractions", "middle", "sum_of", "whole_root", "root_of", "floor", "is_long", "fraction_text", "ZERO"]
def loose1 : List PySem.Str := ["rooted", "of_fraction", "plus", "times", "common", "added", "product", "is_root", "is_root_place", "root_place", "HALF", "sign_two", "sign_of", "sign_three", "compare_signs", "power", "root_bounds", "width_does", "bounds", "floor_of", "between", "nearest", "MOST_FIGURES", "root_text", "number_in", "fraction_in", "root_in", "all_in", "vertex_in", "read_rows"]
def loose2 : List PySem.Str := ["read_vertices", "_law_bag", "_law_take", "_law_some", "_law_alike", "_law_fr", "_law_add", "_law_sub", "_law_mul", "_law_div", "_law_sign", "_law_number", "_law_told_by", "_law_is", "_law_rules_so", "_law_order_so", "_law_alike_so", "_law_fractions_so"]
def loose : List PySem.Str := loose0 ++ loose1 ++ loose2
theorem run (w : World) : HandSHeadRun.RunEq R (PySem.W.view R.prog [86]) hk ob 4000 loose w := by
  intro os
  kernel_rfl
end K65
end
section
set_option Elab.async false
set_option linter.all false
set_option maxRecDepth 100000
set_option maxHeartbeats 2000000
/-! DL1: plain data over the hand layer: what an expression, a test, a block does to data, whatever the heap. -/
namespace DL
open PySem PySem.Spec PyProof.Rows L2
abbrev D := PyData
/-! ### heaps seen without what may change -/
def mask (M : Addr → Bool) (H : Hp) : Hp := fun a => if M a = true then none else H a
theorem mask_le {M : Addr → Bool} {H : Hp} : Same (mask M H) H := fun b o h => by
  unfold mask at h
  split at h
  · cases h
  · exact h
theorem mask_no {H : Hp} : mask (fun _ => false) H = H := by
  funext a
  show (if false = true then none else H a) = H a
  rw [if_neg Bool.false_ne_true]
def Rel (M : Addr → Bool) (H H' : Hp) : Prop := Same (mask M H) (mask M H')
theorem Rel.refl {M : Addr → Bool} (H : Hp) : Rel M H H := Same.refl _
theorem Rel.trans {M : Addr → Bool} {H H1 H2 : Hp} (a : Rel M H H1) (b : Rel M H1 H2) : Rel M H H2 := Same.trans a b
theorem mask_new {M : Addr → Bool} {H : Hp} {p : Addr} {o : HO} (h : M p = false) : mask M (upd H p o) = upd (mask M H) p o := by
  funext a
  unfold mask upd
  by_cases e : a = p
  · subst e
    rw [h, if_pos rfl, if_pos rfl]
    exact if_neg Bool.false_ne_true
  · rw [if_neg e, if_neg e]
theorem Same.new {H : Hp} {p : Addr} {o : HO} (h : H p = none) : Same H (upd H p o) := fun a u e => by
  rw [upd_ne (ne_of_none e h)]
  exact e
theorem mask_none {M : Addr → Bool} {H : Hp} {p : Addr} (h : H p = none) : mask M H p = none := by
  unfold mask
  split
  · rfl
  · exact h
theorem Rel.new {M : Addr → Bool} {H : Hp} {p : Addr} {o : HO} (h : H p = none) (m : M p = false) : Rel M H (upd H p o) := by
  unfold Rel
  rw [mask_new m]
  exact Same.new (mask_none h)
theorem Same.tup {K : PySem.W.Frag} {H H' : Hp} {a : Addr} {xs : List V} (e : Same H H') (h : SqT K H a xs) : SqT K H' a xs := by
  rcases h with (h | ⟨o, h⟩) | h
  · exact .inl (.inl (e _ _ h))
  · exact .inl (.inr ⟨o, e _ _ h⟩)
  · exact .inr h
mutual
theorem dp_mono {K : PySem.W.Frag} {H H' : Hp} (e : Same H H') : ∀ (d : D) (v : V), Dp K H v d → Dp K H' v d
  | .none, _, h => by cases h; exact .non
  | .bool b, _, h => by cases h; exact .bl b
  | .int i, _, h => by cases h; exact .int i
  | .str x, _, h => by cases h; exact .str x
  | .list ds, _, h => by
    cases h with
    | lst hs ha => exact .lst (e.seq hs) (dps_mono e ds _ ha)
  | .tuple ds, _, h => by
    cases h with
    | tup hs ha => exact .tup (Same.tup e hs) (dps_mono e ds _ ha)
  | .dict _, _, h => by cases h
theorem dps_mono {K : PySem.W.Frag} {H H' : Hp} (e : Same H H') : ∀ (ds : List D) (vs : List V), DpAll K H vs ds → DpAll K H' vs ds
  | [], _, h => by cases h; exact .nil
  | d :: ds, _, h => by
    cases h with
    | cons h1 h2 => exact .cons (dp_mono e d _ h1) (dps_mono e ds _ h2)
end
theorem DpAll.len {K : PySem.W.Frag} {H : Hp} : ∀ {vs : List V} {ds : List D}, DpAll K H vs ds → vs.length = ds.length
  | _, [], h => by cases h; rfl
  | _, d :: ds, h => by
    cases h with
    | cons h1 h2 => exact congrArg Nat.succ (DpAll.len h2)
theorem DpAll.get {K : PySem.W.Frag} {H : Hp} : ∀ {vs : List V} {ds : List D} {i : Nat} {d : D}, DpAll K H vs ds → ds[i]? = some d → ∃ v, vs[i]? = some v ∧ Dp K H v d
  | _, [], i, d, h, e => by simp at e
  | _, x :: ds, 0, d, h, e => by
    cases h with
    | cons h1 h2 =>
      simp at e
      subst e
      exact ⟨_, rfl, h1⟩
  | _, x :: ds, i + 1, d, h, e => by
    cases h with
    | cons h1 h2 =>
      obtain ⟨v, e1, e2⟩ := DpAll.get (i := i) (d := d) h2 (by simpa using e)
      exact ⟨v, by simpa using e1, e2⟩
theorem DpAll.getV {K : PySem.W.Frag} {H : Hp} : ∀ {vs : List V} {ds : List D} {i : Nat} {v : V}, DpAll K H vs ds → vs[i]? = some v → ∃ d, ds[i]? = some d ∧ Dp K H v d
  | _, [], i, d, h, e => by cases h; simp at e
  | _, x :: ds, 0, d, h, e => by
    cases h with
    | cons h1 h2 =>
      simp at e
      subst e
      exact ⟨_, rfl, h1⟩
  | _, x :: ds, i + 1, d, h, e => by
    cases h with
    | cons h1 h2 =>
      obtain ⟨v, e1, e2⟩ := DpAll.getV (i := i) (v := d) h2 (by simpa using e)
      exact ⟨v, by simpa using e1, e2⟩
theorem DpAll.app {K : PySem.W.Frag} {H : Hp} : ∀ {vs ws : List V} {ds es : List D}, DpAll K H vs ds → DpAll K H ws es → DpAll K H (vs ++ ws) (ds ++ es)
  | _, _, [], _, h, h' => by cases h; exact h'
  | _, _, d :: ds, _, h, h' => by
    cases h with
    | cons h1 h2 => exact .cons h1 (DpAll.app h2 h')
theorem dp_int {K : PySem.W.Frag} {H : Hp} {v : V} {i : Int} (h : Dp K H v (.int i)) : v = .int i := by cases h; rfl
theorem dp_bl {K : PySem.W.Frag} {H : Hp} {v : V} {i : Bool} (h : Dp K H v (.bool i)) : v = .bl i := by cases h; rfl
theorem dp_str {K : PySem.W.Frag} {H : Hp} {v : V} {i : Str} (h : Dp K H v (.str i)) : v = .str i := by cases h; rfl
theorem dp_non {K : PySem.W.Frag} {H : Hp} {v : V} (h : Dp K H v .none) : v = .non := by cases h; rfl
theorem dp_tup {K : PySem.W.Frag} {H : Hp} {v : V} {ds : List D} (h : Dp K H v (.tuple ds)) : ∃ a xs, v = .ref a ∧ SqT K H a xs ∧ DpAll K H xs ds := by
  cases h with
  | tup h1 h2 => exact ⟨_, _, rfl, h1, h2⟩
theorem dp_lst {K : PySem.W.Frag} {H : Hp} {v : V} {ds : List D} (h : Dp K H v (.list ds)) : ∃ a xs, v = .ref a ∧ SqL K H a xs ∧ DpAll K H xs ds := by
  cases h with
  | lst h1 h2 => exact ⟨_, _, rfl, h1, h2⟩
/-! ### a world: what may change (M), what stays true (B); frames of data -/
structure Wd where
  M : Addr → Bool
  B : Hp → Prop
  loc : ∀ (H H' : Hp), (∀ a, M a = true → H' a = H a) → B H → B H'
  there : ∀ (H : Hp) (a : Addr), B H → M a = true → H a ≠ none
def Wd.pure : Wd := ⟨fun _ => false, fun _ => True, fun _ _ _ _ => trivial, fun _ _ _ z => by cases z⟩
theorem Wd.off (W : Wd) {H : Hp} {p : Addr} {o : HO} (h : W.B H) (m : W.M p = false) : W.B (upd H p o) :=
  W.loc H _ (fun a z => upd_ne (fun e => by rw [e, m] at z; cases z)) h
theorem Wd.st (W : Wd) (H : Hp) (p : Addr) (o : HO) (h : W.B H) (n : H p = none) : W.M p = false ∧ W.B (upd H p o) := by
  have m : W.M p = false := by
    cases e : W.M p with
    | false => rfl
    | true => exact absurd n (W.there H p h e)
  exact ⟨m, W.off h m⟩
inductive Sl where
  | no
  | d (x : D)
  | v (x : V)
abbrev En := List Sl
/-- how a slot bears what the frame of data says -/
def Bear (K : PySem.W.Frag) (H : Hp) (o : Option (Option V)) : Sl → Prop
  | .no => True
  | .d x => ∃ v, o = some (some v) ∧ Dp K H v x
  | .v x => o = some (some x)
def RE (K : PySem.W.Frag) (H : Hp) (σ : L2.St) (ρ : En) : Prop := σ.length = ρ.length ∧ ∀ (i : Nat) (x : Sl), ρ[i]? = some x → Bear K H σ[i]? x
theorem Bear.mono {K : PySem.W.Frag} {H H' : Hp} (e : Same H H') {o : Option (Option V)} {x : Sl} (h : Bear K H o x) : Bear K H' o x := by
  cases x with
  | no => trivial
  | d x =>
    obtain ⟨v, e1, e2⟩ := h
    exact ⟨v, e1, dp_mono e _ _ e2⟩
  | v x => exact h
theorem RE.mono {K : PySem.W.Frag} {H H' : Hp} {σ : L2.St} {ρ : En} (e : Same H H') (h : RE K H σ ρ) : RE K H' σ ρ :=
  ⟨h.1, fun i x q => (h.2 i x q).mono e⟩
theorem RE.set {K : PySem.W.Frag} {H : Hp} {σ : L2.St} {ρ : En} {i : Nat} {v : V} {x : Sl} (h : RE K H σ ρ) (hx : Bear K H (some (some v)) x) : RE K H (σ.set i (some v)) (ρ.set i x) := by
  refine ⟨by rw [List.length_set, List.length_set, h.1], fun j y e => ?_⟩
  by_cases hj : i = j
  · subst hj
    by_cases hl : i < ρ.length
    · rw [List.getElem?_set_self hl] at e
      cases e
      rw [List.getElem?_set_self (by rw [h.1]; exact hl)]
      exact hx
    · rw [List.getElem?_eq_none (by rw [List.length_set]; omega)] at e
      cases e
  · rw [List.getElem?_set_ne hj] at e
    rw [List.getElem?_set_ne hj]
    exact h.2 j y e
/-- data alone is asked of the set slot -/
theorem RE.setD {K : PySem.W.Frag} {H : Hp} {σ : L2.St} {ρ : En} {i : Nat} {v : V} {x : D} (h : RE K H σ ρ) (hx : Dp K H v x) : RE K H (σ.set i (some v)) (ρ.set i (.d x)) := h.set ⟨v, rfl, hx⟩
def startE (n : Nat) (ds : List D) : En := ds.map Sl.d ++ List.replicate (n - ds.length) Sl.no
theorem re_start {K : PySem.W.Frag} {H : Hp} {N : List Str} {vs : List V} {ds : List D} (h : DpAll K H vs ds) : RE K H (L2.start N vs) (startE N.length ds) := by
  have hl := DpAll.len h
  refine ⟨?_, fun i x e => ?_⟩
  · unfold L2.start startE
    rw [List.length_append, List.length_append, List.length_map, List.length_map, List.length_replicate, List.length_replicate, hl]
  · unfold startE at e
    unfold L2.start
    by_cases hi : i < ds.length
    · rw [List.getElem?_append_left (by simpa using hi), List.getElem?_map] at e
      rw [List.getElem?_append_left (by simpa [hl] using hi), List.getElem?_map]
      have e1 : ds[i]? = some ds[i] := List.getElem?_eq_getElem hi
      rw [e1] at e
      cases e
      obtain ⟨v, e2, e3⟩ := DpAll.get h e1
      rw [e2]
      exact ⟨v, rfl, e3⟩
    · rw [List.getElem?_append_right (by simpa using hi)] at e
      rw [List.getElem?_replicate] at e
      split at e
      · cases e
        trivial
      · cases e
/-! ### readings over data -/
def tE (K : PySem.W.Frag) (W : Wd) (ρ : En) (R : D → Prop) : TE := fun σ H Q => W.B H ∧ RE K (mask W.M H) σ ρ ∧ ∀ (d : D) (v : V) (H' : Hp), R d → W.B H' → Rel W.M H H' → Dp K (mask W.M H') v d → Q v H'
def tT (K : PySem.W.Frag) (W : Wd) (ρ : En) (b : Bool) : TT := fun σ H Q => W.B H ∧ RE K (mask W.M H) σ ρ ∧ ∀ (H' : Hp), W.B H' → Rel W.M H H' → Q b H'
def tA (K : PySem.W.Frag) (W : Wd) (ρ : En) (R : List D → Prop) : TA := fun σ H Q => W.B H ∧ RE K (mask W.M H) σ ρ ∧ ∀ (ds : List D) (vs : List V) (H' : Hp), R ds → W.B H' → Rel W.M H H' → DpAll K (mask W.M H') vs ds → Q vs H'
/-- expression e gives data of R | the data d | the test gives b | arguments of R -/
abbrev EDr (X : Cx) (W : Wd) (ρ : En) (e : Expr) (R : D → Prop) : Prop := PE X e (tE X.K W ρ R)
abbrev ED (X : Cx) (W : Wd) (ρ : En) (e : Expr) (d : D) : Prop := PE X e (tE X.K W ρ (fun z => z = d))
abbrev TD (X : Cx) (W : Wd) (ρ : En) (e : Expr) (b : Bool) : Prop := PT X e (tT X.K W ρ b)
abbrev ADr (X : Cx) (W : Wd) (ρ : En) (es : List Expr) (R : List D → Prop) : Prop := PA X es (tA X.K W ρ R)
abbrev AD (X : Cx) (W : Wd) (ρ : En) (es : List Expr) (ds : List D) : Prop := PA X es (tA X.K W ρ (fun z => z = ds))
theorem pe_imp {X : Cx} {e : Expr} {t t' : TE} (h : PE X e t) (i : ∀ σ H Q, t' σ H Q → t σ H Q) : PE X e t' := ⟨fun pins s σ H Q I q => h.run pins s σ H Q I (i σ H Q q)⟩
theorem pt_imp {X : Cx} {e : Expr} {t t' : TT} (h : PT X e t) (i : ∀ σ H Q, t' σ H Q → t σ H Q) : PT X e t' := ⟨fun pins s σ H Q I q => h.run pins s σ H Q I (i σ H Q q)⟩
theorem pw_imp {X : Cx} {e : Expr} {t t' : TT} (h : PW X e t) (i : ∀ σ H Q, t' σ H Q → t σ H Q) : PW X e t' := ⟨fun wh pins s σ H Q I q => h.run wh pins s σ H Q I (i σ H Q q)⟩
theorem pa_imp {X : Cx} {es : List Expr} {t t' : TA} (h : PA X es t) (i : ∀ σ H Q, t' σ H Q → t σ H Q) : PA X es t' := ⟨fun pos pins s σ H Q I q => h.run pos pins s σ H Q I (i σ H Q q)⟩
theorem ps_imp {X : Cx} {e : Stmt} {t t' : TS} (h : PS X e t) (i : ∀ D σ H, t' D σ H → t D σ H) : PS X e t' := ⟨fun pins s σ H D I q => h.run pins s σ H D I (i D σ H q)⟩
theorem pss_imp {X : Cx} {e : List Stmt} {t t' : TS} (h : PSs X e t) (i : ∀ D σ H, t' D σ H → t D σ H) : PSs X e t' := ⟨fun pins s σ H D I q => h.run pins s σ H D I (i D σ H q)⟩
section
variable {X : Cx} {W : Wd} {ρ : En} {a b c e : Expr} {pos : Pos} {R Ra Rb Rc : D → Prop} {K : PySem.W.Frag}
theorem EDr.weak {R' : D → Prop} (h : EDr X W ρ e R) (i : ∀ d, R d → R' d) : EDr X W ρ e R' := pe_imp h fun σ H Q q => ⟨q.1, q.2.1, fun d v H' r => q.2.2 d v H' (i d r)⟩
theorem ED.to {d d' : D} (h : ED X W ρ e d) (i : d = d') : ED X W ρ e d' := i ▸ h
theorem TD.to {d d' : Bool} (h : TD X W ρ e d) (i : d = d') : TD X W ρ e d' := i ▸ h
/-- an expression that is never asked -/
def tNo : TE := fun _ _ _ => False
theorem pe_no : PE X e tNo := ⟨fun _ _ _ _ _ _ h => h.elim⟩
def tNoT : TT := fun _ _ _ => False
theorem pt_no : PT X e tNoT := ⟨fun _ _ _ _ _ _ h => h.elim⟩
theorem pw_no : PW X e tNoT := ⟨fun _ _ _ _ _ _ _ h => h.elim⟩
/-! ### names, constants -/
theorem e_var (i : Nat) {d : D} {x : Str} {pos : Pos} (hd : ρ[i]? = some (.d d)) (h : PE X (.Name x pos) (tVar i)) : ED X W ρ (.Name x pos) d :=
  pe_imp h fun σ H Q ⟨hB, hR, q⟩ => by
    obtain ⟨v, e1, e2⟩ := hR.2 i _ hd
    exact ⟨v, e1, q d v H rfl hB (Rel.refl H) e2⟩
theorem e_c {v : V} {d : D} (h : PE X e (tC v)) (hv : ∀ H, Dp X.K H v d) : ED X W ρ e d := pe_imp h fun σ H Q ⟨hB, hR, q⟩ => q d v H rfl hB (Rel.refl H) (hv _)
theorem e_int {i : Int} {j pos} : ED X W ρ (.Constant (.int i) j pos) (.int i) := e_c pe_int fun _ => .int i
theorem e_bl {i : Bool} {j pos} : ED X W ρ (.Constant (.bool i) j pos) (.bool i) := e_c pe_bl fun _ => .bl i
theorem e_non {j pos} : ED X W ρ (.Constant .none j pos) .none := e_c pe_non fun _ => .non
theorem e_str {x : Str} {j pos} : ED X W ρ (.Constant (.str x) j pos) (.str x) := e_c pe_str fun _ => .str x
/-! ### operations by values -/
/-- a two-place operation on data -/
def OpD (K : PySem.W.Frag) (W : Wd) (r : R2) (x y : D) (R : D → Prop) : Prop := ∀ (v1 v2 : V) (H : Hp) (Q : VK), W.B H → Dp K (mask W.M H) v1 x → Dp K (mask W.M H) v2 y →
  (∀ (d : D) (v : V) (H' : Hp), R d → W.B H' → Rel W.M H H' → Dp K (mask W.M H') v d → Q v H') → r v1 v2 H Q
def UnD (K : PySem.W.Frag) (W : Wd) (r : V → Hp → VK → Prop) (x : D) (R : D → Prop) : Prop := ∀ (v1 : V) (H : Hp) (Q : VK), W.B H → Dp K (mask W.M H) v1 x →
  (∀ (d : D) (v : V) (H' : Hp), R d → W.B H' → Rel W.M H H' → Dp K (mask W.M H') v d → Q v H') → r v1 H Q
def CaD (K : PySem.W.Frag) (W : Wd) (r : List V → Hp → VK → Prop) (xs : List D) (R : D → Prop) : Prop := ∀ (vs : List V) (H : Hp) (Q : VK), W.B H → DpAll K (mask W.M H) vs xs →
  (∀ (d : D) (v : V) (H' : Hp), R d → W.B H' → Rel W.M H H' → Dp K (mask W.M H') v d → Q v H') → r vs H Q
theorem top_imp {r : R2} (h : ∀ x y, Ra x → Rb y → OpD K W r x y R) : ∀ σ H Q, tE K W ρ R σ H Q → tOp r (tE K W ρ Ra) (tE K W ρ Rb) σ H Q := fun σ H Q ⟨hB, hR, q⟩ =>
  ⟨hB, hR, fun x v1 H1 rx B1 l1 p1 => ⟨B1, hR.mono l1, fun y v2 H2 ry B2 l2 p2 => h x y rx ry v1 v2 H2 Q B2 (dp_mono l2 _ _ p1) p2 fun d v H3 r3 B3 l3 p3 => q d v H3 r3 B3 ((l1.trans l2).trans l3) p3⟩⟩
theorem e_opR {op : Operator} {r : R2} (ho : OpR X (binaryOp op) r) (ha : EDr X W ρ a Ra) (hb : EDr X W ρ b Rb) (h : ∀ x y, Ra x → Rb y → OpD X.K W r x y R) : EDr X W ρ (.BinOp a op b pos) R := pe_imp (pe_op ho ha hb) (top_imp h)
theorem e_op {op : Operator} {r : R2} {x y : D} (ho : OpR X (binaryOp op) r) (ha : ED X W ρ a x) (hb : ED X W ρ b y) (h : OpD X.K W r x y R) : EDr X W ρ (.BinOp a op b pos) R := e_opR ho ha hb fun _ _ e1 e2 => by subst e1 e2; exact h
theorem e_unR {op : UnaryOp} {r : V → Hp → VK → Prop} (ho : UnR X (unaryOp op) r) (ha : EDr X W ρ a Ra) (h : ∀ x, Ra x → UnD X.K W r x R) : EDr X W ρ (.UnaryOp op a pos) R := pe_imp (pe_un ho ha) fun σ H Q ⟨hB, hR, q⟩ =>
  ⟨hB, hR, fun x v1 H1 rx B1 l1 p1 => h x rx v1 H1 Q B1 p1 fun d v H3 r3 B3 l3 p3 => q d v H3 r3 B3 (l1.trans l3) p3⟩
theorem e_cmpR {op : CmpOp} {r : R2} (ho : OpR X (compareOp op) r) (ha : EDr X W ρ a Ra) (hb : EDr X W ρ b Rb) (h : ∀ x y, Ra x → Rb y → OpD X.K W r x y R) (hm : behindInMarks op b = false) : EDr X W ρ (.Compare a [op] [b] pos) R := pe_imp (pe_cmpR ho ha hb hm) (top_imp h)
theorem e_cmp {op : CmpOp} {r : R2} {x y : D} (ho : OpR X (compareOp op) r) (ha : ED X W ρ a x) (hb : ED X W ρ b y) (h : OpD X.K W r x y R) (hm : behindInMarks op b = false) : EDr X W ρ (.Compare a [op] [b] pos) R := e_cmpR ho ha hb (fun _ _ e1 e2 => by subst e1 e2; exact h) hm
theorem t_cmp {op : CmpOp} {r : R2} {x y : D} {k : Bool} (ho : OpR X (compareOp op) r) (ha : ED X W ρ a x) (hb : ED X W ρ b y) (h : OpD X.K W r x y (fun z => z = .bool k)) (hm : behindInMarks op b = false) : TD X W ρ (.Compare a [op] [b] pos) k :=
  pt_imp (pt_cmpR ho ha hb hm) fun σ H Q ⟨hB, hR, q⟩ => top_imp (K := X.K) (W := W) (ρ := ρ) (R := fun z => z = .bool k) (r := r) (Ra := fun z => z = x) (Rb := fun z => z = y) (fun _ _ e1 e2 => by subst e1 e2; exact h) σ H _
    ⟨hB, hR, fun d v H' rd B' l' p' => by subst rd; exact ⟨k, dp_bl p', q H' B' l'⟩⟩
/-! ints -/
theorem od_I0 {g : Int → Int → V} {gd : Int → Int → D} (hg : ∀ i j H, Dp K H (g i j) (gd i j)) (i j : Int) : OpD K W (rI0 g) (.int i) (.int j) (fun z => z = gd i j) := fun v1 v2 H Q hB p1 p2 q => by
  rw [dp_int p1, dp_int p2]
  exact ⟨i, j, rfl, rfl, q _ _ H rfl hB (Rel.refl H) (hg i j _)⟩
theorem od_I {C : Int → Int → Prop} {g : Int → Int → V} {gd : Int → Int → D} (hg : ∀ i j H, Dp K H (g i j) (gd i j)) (i j : Int) (hc : C i j) : OpD K W (rI C g) (.int i) (.int j) (fun z => z = gd i j) := fun v1 v2 H Q hB p1 p2 q => by
  rw [dp_int p1, dp_int p2]
  exact ⟨i, j, rfl, rfl, hc, q _ _ H rfl hB (Rel.refl H) (hg i j _)⟩
variable {i j : Int}
theorem e_add (ha : ED X W ρ a (.int i)) (hb : ED X W ρ b (.int j)) : ED X W ρ (.BinOp a .Add b pos) (.int (i + j)) := e_op op_add ha hb (od_I0 (gd := fun i j => .int (i + j)) (fun _ _ _ => .int _) i j)
theorem e_sub (ha : ED X W ρ a (.int i)) (hb : ED X W ρ b (.int j)) : ED X W ρ (.BinOp a .Sub b pos) (.int (i - j)) := e_op op_sub ha hb (od_I0 (gd := fun i j => .int (i - j)) (fun _ _ _ => .int _) i j)
theorem e_mul (hc : CMulW i j) (ha : ED X W ρ a (.int i)) (hb : ED X W ρ b (.int j)) : ED X W ρ (.BinOp a .Mult b pos) (.int (i * j)) := e_op op_mulW ha hb (od_I (gd := fun i j => .int (i * j)) (fun _ _ _ => .int _) i j hc)
theorem e_fdiv (hc : CDivW i j) (ha : ED X W ρ a (.int i)) (hb : ED X W ρ b (.int j)) : ED X W ρ (.BinOp a .FloorDiv b pos) (.int (i / j)) := e_op op_fdivW ha hb (od_I (gd := fun i j => .int (i / j)) (fun _ _ _ => .int _) i j hc)
theorem e_mod (hc : 0 < j) (ha : ED X W ρ a (.int i)) (hb : ED X W ρ b (.int j)) : ED X W ρ (.BinOp a .Mod b pos) (.int (i % j)) := e_op op_mod ha hb (od_I (gd := fun i j => .int (i % j)) (fun _ _ _ => .int _) i j hc)
theorem e_pow (hc : CPow i j) (ha : ED X W ρ a (.int i)) (hb : ED X W ρ b (.int j)) : ED X W ρ (.BinOp a .Pow b pos) (.int (i ^ j.toNat)) := e_op op_pow ha hb (od_I (gd := fun i j => .int (i ^ j.toNat)) (fun _ _ _ => .int _) i j hc)
theorem e_neg (ha : ED X W ρ a (.int i)) : ED X W ρ (.UnaryOp .USub a pos) (.int (-i)) := e_unR un_neg ha fun x e v1 H Q hB p1 q => by
  subst e
  rw [dp_int p1]
  exact ⟨i, rfl, q _ _ H rfl hB (Rel.refl H) (.int _)⟩
theorem e_lt (ha : ED X W ρ a (.int i)) (hb : ED X W ρ b (.int j)) : ED X W ρ (.Compare a [.Lt] [b] pos) (.bool (decide (i < j))) := e_cmp op_lt ha hb (od_I0 (gd := fun i j => .bool (decide (i < j))) (fun _ _ _ => .bl _) i j) (nomark _)
theorem e_le (ha : ED X W ρ a (.int i)) (hb : ED X W ρ b (.int j)) : ED X W ρ (.Compare a [.LtE] [b] pos) (.bool (decide (i ≤ j))) := e_cmp op_le ha hb (od_I0 (gd := fun i j => .bool (decide (i ≤ j))) (fun _ _ _ => .bl _) i j) (nomark _)
theorem e_gt (ha : ED X W ρ a (.int i)) (hb : ED X W ρ b (.int j)) : ED X W ρ (.Compare a [.Gt] [b] pos) (.bool (decide (j < i))) := e_cmp op_gt ha hb (od_I0 (gd := fun i j => .bool (decide (j < i))) (fun _ _ _ => .bl _) i j) (nomark _)
theorem e_ge (ha : ED X W ρ a (.int i)) (hb : ED X W ρ b (.int j)) : ED X W ρ (.Compare a [.GtE] [b] pos) (.bool (decide (j ≤ i))) := e_cmp op_ge ha hb (od_I0 (gd := fun i j => .bool (decide (j ≤ i))) (fun _ _ _ => .bl _) i j) (nomark _)
theorem t_lt (ha : ED X W ρ a (.int i)) (hb : ED X W ρ b (.int j)) : TD X W ρ (.Compare a [.Lt] [b] pos) (decide (i < j)) := t_cmp op_lt ha hb (od_I0 (gd := fun i j => .bool (decide (i < j))) (fun _ _ _ => .bl _) i j) (nomark _)
theorem t_le (ha : ED X W ρ a (.int i)) (hb : ED X W ρ b (.int j)) : TD X W ρ (.Compare a [.LtE] [b] pos) (decide (i ≤ j)) := t_cmp op_le ha hb (od_I0 (gd := fun i j => .bool (decide (i ≤ j))) (fun _ _ _ => .bl _) i j) (nomark _)
theorem t_gt (ha : ED X W ρ a (.int i)) (hb : ED X W ρ b (.int j)) : TD X W ρ (.Compare a [.Gt] [b] pos) (decide (j < i)) := t_cmp op_gt ha hb (od_I0 (gd := fun i j => .bool (decide (j < i))) (fun _ _ _ => .bl _) i j) (nomark _)
theorem t_ge (ha : ED X W ρ a (.int i)) (hb : ED X W ρ b (.int j)) : TD X W ρ (.Compare a [.GtE] [b] pos) (decide (j ≤ i)) := t_cmp op_ge ha hb (od_I0 (gd := fun i j => .bool (decide (j ≤ i))) (fun _ _ _ => .bl _) i j) (nomark _)
/-! == and != of any data -/
theorem od_eqD {x y : D} (hx : SeqAt.shaped x = true) (hy : SeqAt.shaped y = true) : OpD K W (rEqD K) x y (fun z => z = .bool (PyData.eqv x y)) := fun v1 v2 H Q hB p1 p2 q =>
  ⟨x, y, dp_mono mask_le _ _ p1, dp_mono mask_le _ _ p2, hx, hy, q _ _ H rfl hB (Rel.refl H) (.bl _)⟩
theorem od_neD {x y : D} (hx : SeqAt.shaped x = true) (hy : SeqAt.shaped y = true) : OpD K W (rNeD K) x y (fun z => z = .bool (!PyData.eqv x y)) := fun v1 v2 H Q hB p1 p2 q =>
  ⟨x, y, dp_mono mask_le _ _ p1, dp_mono mask_le _ _ p2, hx, hy, q _ _ H rfl hB (Rel.refl H) (.bl _)⟩
theorem e_eq {x y : D} (hu : X.A.units + 64 < cLine) (hx : SeqAt.shaped x = true) (hy : SeqAt.shaped y = true) (ha : ED X W ρ a x) (hb : ED X W ρ b y) : ED X W ρ (.Compare a [.Eq] [b] pos) (.bool (PyData.eqv x y)) := e_cmp (op_eqD hu) ha hb (od_eqD hx hy) (nomark _)
theorem t_eq {x y : D} (hu : X.A.units + 64 < cLine) (hx : SeqAt.shaped x = true) (hy : SeqAt.shaped y = true) (ha : ED X W ρ a x) (hb : ED X W ρ b y) : TD X W ρ (.Compare a [.Eq] [b] pos) (PyData.eqv x y) := t_cmp (op_eqD hu) ha hb (od_eqD hx hy) (nomark _)
theorem e_ne {x y : D} (hu : X.A.units + 64 < cLine) (hx : SeqAt.shaped x = true) (hy : SeqAt.shaped y = true) (ha : ED X W ρ a x) (hb : ED X W ρ b y) : ED X W ρ (.Compare a [.NotEq] [b] pos) (.bool (!PyData.eqv x y)) := e_cmp (op_neD hu) ha hb (od_neD hx hy) (nomark _)
theorem t_ne {x y : D} (hu : X.A.units + 64 < cLine) (hx : SeqAt.shaped x = true) (hy : SeqAt.shaped y = true) (ha : ED X W ρ a x) (hb : ED X W ρ b y) : TD X W ρ (.Compare a [.NotEq] [b] pos) (!PyData.eqv x y) := t_cmp (op_neD hu) ha hb (od_neD hx hy) (nomark _)
/-- ints: == without shapes -/
theorem od_eqI : OpD K W rEq (.int i) (.int j) (fun z => z = .bool (decide (i = j))) := fun v1 v2 H Q hB p1 p2 q => by
  rw [dp_int p1, dp_int p2]
  refine ⟨rfl, ?_⟩
  have e : decide (V.int i = V.int j) = decide (i = j) := by rw [dec_int, Bool.beq_eq_decide_eq]
  rw [e]
  exact q _ _ H rfl hB (Rel.refl H) (.bl _)
theorem od_neI : OpD K W rNe (.int i) (.int j) (fun z => z = .bool (!decide (i = j))) := fun v1 v2 H Q hB p1 p2 q => by
  rw [dp_int p1, dp_int p2]
  refine ⟨rfl, ?_⟩
  have e : decide (V.int i = V.int j) = decide (i = j) := by rw [dec_int, Bool.beq_eq_decide_eq]
  rw [e]
  exact q _ _ H rfl hB (Rel.refl H) (.bl _)
theorem e_eqI (ha : ED X W ρ a (.int i)) (hb : ED X W ρ b (.int j)) : ED X W ρ (.Compare a [.Eq] [b] pos) (.bool (decide (i = j))) := e_cmp op_eq ha hb od_eqI (nomark _)
theorem e_neI (ha : ED X W ρ a (.int i)) (hb : ED X W ρ b (.int j)) : ED X W ρ (.Compare a [.NotEq] [b] pos) (.bool (!decide (i = j))) := e_cmp op_ne ha hb od_neI (nomark _)
theorem t_eqI (ha : ED X W ρ a (.int i)) (hb : ED X W ρ b (.int j)) : TD X W ρ (.Compare a [.Eq] [b] pos) (decide (i = j)) := t_cmp op_eq ha hb od_eqI (nomark _)
theorem t_neI (ha : ED X W ρ a (.int i)) (hb : ED X W ρ b (.int j)) : TD X W ρ (.Compare a [.NotEq] [b] pos) (!decide (i = j)) := t_cmp op_ne ha hb od_neI (nomark _)
/-! is None -/
def isNone : D → Bool
  | .none => true
  | _ => false
theorem dp_isN {K : PySem.W.Frag} {H : Hp} {v : V} {d : D} (h : Dp K H v d) : decide (v = .non) = isNone d := by
  cases h <;> rfl
theorem od_isN {x : D} : OpD K W (fun x y H Q => y = .non ∧ Q (.bl (decide (x = .non))) H) x .none (fun z => z = .bool (isNone x)) := fun v1 v2 H Q hB p1 p2 q => by
  refine ⟨dp_non p2, ?_⟩
  show Q (.bl (decide (v1 = .non))) H
  rw [dp_isN p1]
  exact q _ _ H rfl hB (Rel.refl H) (.bl _)
theorem od_notN {x : D} : OpD K W (fun x y H Q => y = .non ∧ Q (.bl (!decide (x = .non))) H) x .none (fun z => z = .bool (!isNone x)) := fun v1 v2 H Q hB p1 p2 q => by
  refine ⟨dp_non p2, ?_⟩
  show Q (.bl (!decide (v1 = .non))) H
  rw [dp_isN p1]
  exact q _ _ H rfl hB (Rel.refl H) (.bl _)
theorem e_isN {x : D} (ha : ED X W ρ a x) {j pos'} : ED X W ρ (.Compare a [.Is] [.Constant .none j pos'] pos) (.bool (isNone x)) := e_cmp op_isN ha e_non od_isN (nomark _)
theorem t_isN {x : D} (ha : ED X W ρ a x) {j pos'} : TD X W ρ (.Compare a [.Is] [.Constant .none j pos'] pos) (isNone x) := t_cmp op_isN ha e_non od_isN (nomark _)
theorem e_notN {x : D} (ha : ED X W ρ a x) {j pos'} : ED X W ρ (.Compare a [.IsNot] [.Constant .none j pos'] pos) (.bool (!isNone x)) := e_cmp op_notN ha e_non od_notN (nomark _)
theorem t_notN {x : D} (ha : ED X W ρ a x) {j pos'} : TD X W ρ (.Compare a [.IsNot] [.Constant .none j pos'] pos) (!isNone x) := t_cmp op_notN ha e_non od_notN (nomark _)
/-! ### tests: a value, and, or, not; the same as values -/
theorem t_val {k : Bool} (ha : ED X W ρ a (.bool k)) (he : ∀ whole, isTrue a X.env whole = (do let v ← whole; standAt a.pos; holding [v] (truthy v)) := by intro _; rfl) : TD X W ρ a k :=
  pt_imp (pt_val ha he) fun σ H Q ⟨hB, hR, q⟩ => ⟨hB, hR, fun d v H' rd B' l' p' => by subst rd; exact ⟨k, dp_bl p', q H' B' l'⟩⟩
theorem t_not {k : Bool} (ha : TD X W ρ a k) : TD X W ρ (.UnaryOp .Not a pos) (!k) := pt_imp (pt_not ha) fun σ H Q ⟨hB, hR, q⟩ => ⟨hB, hR, fun H' B' l' => q H' B' l'⟩
abbrev WDt (X : Cx) (W : Wd) (ρ : En) (e : Expr) (b : Bool) : Prop := PW X e (tT X.K W ρ b)
theorem w_and1 {k : Bool} (ha : TD X W ρ a k) : WDt X W ρ (.BoolOp .And [a] pos) k := pw_and1 ha
theorem w_or1 {k : Bool} (ha : TD X W ρ a k) : WDt X W ρ (.BoolOp .Or [a] pos) k := pw_or1 ha
variable {rest : List Expr}
theorem w_and {k l : Bool} (ha : TD X W ρ a k) (hb : k = true → WDt X W ρ (.BoolOp .And (b :: rest) pos) l) : WDt X W ρ (.BoolOp .And (a :: b :: rest) pos) (k && l) := by
  cases k with
  | true =>
    refine pw_imp (pw_and ha (hb rfl)) fun σ H Q ⟨hB, hR, q⟩ => ⟨hB, hR, fun H' B' l' => ?_⟩
    refine iteT ?_
    exact ⟨B', hR.mono l', fun H2 B2 l2 => q H2 B2 (l'.trans l2)⟩
  | false =>
    refine pw_imp (pw_and ha pw_no) fun σ H Q ⟨hB, hR, q⟩ => ⟨hB, hR, fun H' B' l' => ?_⟩
    refine iteF ?_
    exact q H' B' l'
theorem w_or {k l : Bool} (ha : TD X W ρ a k) (hb : k = false → WDt X W ρ (.BoolOp .Or (b :: rest) pos) l) : WDt X W ρ (.BoolOp .Or (a :: b :: rest) pos) (k || l) := by
  cases k with
  | false =>
    refine pw_imp (pw_or ha (hb rfl)) fun σ H Q ⟨hB, hR, q⟩ => ⟨hB, hR, fun H' B' l' => ?_⟩
    refine iteF ?_
    exact ⟨B', hR.mono l', fun H2 B2 l2 => q H2 B2 (l'.trans l2)⟩
  | true =>
    refine pw_imp (pw_or ha pw_no) fun σ H Q ⟨hB, hR, q⟩ => ⟨hB, hR, fun H' B' l' => ?_⟩
    refine iteT ?_
    exact q H' B' l'
theorem t_w {k : Bool} (h : WDt X W ρ a k) : TD X W ρ a k := h.pt
theorem e_one {op : BoolOp} {d : D} (ha : ED X W ρ a d) : ED X W ρ (.BoolOp op [a] pos) d := pe_one ha
theorem e_and {k l : Bool} (ha : ED X W ρ a (.bool k)) (hb : k = true → ED X W ρ (.BoolOp .And (b :: rest) pos) (.bool l)) : ED X W ρ (.BoolOp .And (a :: b :: rest) pos) (.bool (k && l)) := by
  cases k with
  | true =>
    refine pe_imp (pe_and ha (hb rfl)) fun σ H Q ⟨hB, hR, q⟩ => ⟨hB, hR, fun d v H' rd B' l' p' => ?_⟩
    subst rd
    refine ⟨true, dp_bl p', ?_⟩
    refine iteT ?_
    exact ⟨B', hR.mono l', fun d v H2 rd B2 l2 => q d v H2 rd B2 (l'.trans l2)⟩
  | false =>
    refine pe_imp (pe_and ha pe_no) fun σ H Q ⟨hB, hR, q⟩ => ⟨hB, hR, fun d v H' rd B' l' p' => ?_⟩
    subst rd
    refine ⟨false, dp_bl p', ?_⟩
    refine iteF ?_
    exact q _ _ H' rfl B' l' (.bl _)
theorem e_or {k l : Bool} (ha : ED X W ρ a (.bool k)) (hb : k = false → ED X W ρ (.BoolOp .Or (b :: rest) pos) (.bool l)) : ED X W ρ (.BoolOp .Or (a :: b :: rest) pos) (.bool (k || l)) := by
  cases k with
  | false =>
    refine pe_imp (pe_or ha (hb rfl)) fun σ H Q ⟨hB, hR, q⟩ => ⟨hB, hR, fun d v H' rd B' l' p' => ?_⟩
    subst rd
    refine ⟨false, dp_bl p', ?_⟩
    refine iteF ?_
    exact ⟨B', hR.mono l', fun d v H2 rd B2 l2 => q d v H2 rd B2 (l'.trans l2)⟩
  | true =>
    refine pe_imp (pe_or ha pe_no) fun σ H Q ⟨hB, hR, q⟩ => ⟨hB, hR, fun d v H' rd B' l' p' => ?_⟩
    subst rd
    refine ⟨true, dp_bl p', ?_⟩
    refine iteT ?_
    exact q _ _ H' rfl B' l' (.bl _)
theorem e_not {k : Bool} (ha : ED X W ρ a (.bool k)) : ED X W ρ (.UnaryOp .Not a pos) (.bool (!k)) := pe_imp (pe_not ha) fun σ H Q ⟨hB, hR, q⟩ => ⟨hB, hR, fun d v H' rd B' l' p' => by
  subst rd
  exact ⟨k, dp_bl p', q _ _ H' rfl B' l' (.bl _)⟩⟩
/-- a if c else b -/
theorem e_if {k : Bool} (hc : TD X W ρ c k) (ha : k = true → EDr X W ρ a R) (hb : k = false → EDr X W ρ b R) : EDr X W ρ (.IfExp c a b pos) R := by
  cases k with
  | true =>
    refine pe_imp (pe_ifExp hc (ha rfl) pe_no) fun σ H Q ⟨hB, hR, q⟩ => ⟨hB, hR, fun H' B' l' => ?_⟩
    refine iteT ?_
    exact ⟨B', hR.mono l', fun d v H2 rd B2 l2 => q d v H2 rd B2 (l'.trans l2)⟩
  | false =>
    refine pe_imp (pe_ifExp hc pe_no (hb rfl)) fun σ H Q ⟨hB, hR, q⟩ => ⟨hB, hR, fun H' B' l' => ?_⟩
    refine iteF ?_
    exact ⟨B', hR.mono l', fun d v H2 rd B2 l2 => q d v H2 rd B2 (l'.trans l2)⟩
/-! ### arguments, displays -/
variable {es : List Expr}
theorem a_nil : AD X W ρ [] [] := pa_imp pa_nil fun σ H Q ⟨hB, hR, q⟩ => q [] [] H rfl hB (Rel.refl H) .nil
theorem a_consR {Rs Rs' : List D → Prop} (ha : EDr X W ρ e Ra) (hr : ADr X W ρ es Rs) (h : ∀ d ds, Ra d → Rs ds → Rs' (d :: ds)) (hs : starEach (e :: es) X.env = (false, eval e X.env) :: starEach es X.env := by rfl) : ADr X W ρ (e :: es) Rs' :=
  pa_imp (pa_cons ha hr hs) fun σ H Q ⟨hB, hR, q⟩ => ⟨hB, hR, fun d v H1 rd B1 l1 p1 => ⟨B1, hR.mono l1, fun ds vs H2 rs B2 l2 p2 => q (d :: ds) (v :: vs) H2 (h d ds rd rs) B2 (l1.trans l2) (.cons (dp_mono l2 _ _ p1) p2)⟩⟩
theorem a_cons {d : D} {ds : List D} (ha : ED X W ρ e d) (hr : AD X W ρ es ds) (hs : starEach (e :: es) X.env = (false, eval e X.env) :: starEach es X.env := by rfl) : AD X W ρ (e :: es) (d :: ds) := a_consR ha hr (fun _ _ e1 e2 => by rw [e1, e2]) hs
theorem Wd.new {H : Hp} {p : Addr} {o : HO} (hB : W.B H) (hp : H p = none) : W.B (upd H p o) ∧ Rel W.M H (upd H p o) ∧ mask W.M (upd H p o) = upd (mask W.M H) p o := by
  obtain ⟨h1, h2⟩ := W.st H p o hB hp
  exact ⟨h2, Rel.new hp h1, mask_new h1⟩
theorem dp_newT {H : Hp} {p : Addr} {vs : List V} {ds : List D} (hB : W.B H) (hp : H p = none) (h : DpAll K (mask W.M H) vs ds) : Dp K (mask W.M (upd H p (.tup vs))) (.ref p) (.tuple ds) := by
  obtain ⟨h1, h2, h3⟩ := W.new (o := .tup vs) hB hp
  rw [h3]
  exact .tup (SqT.of upd_same) (dps_mono (Same.new (mask_none hp)) _ _ h)
theorem dp_newL {H : Hp} {p : Addr} {vs : List V} {ds : List D} (hB : W.B H) (hp : H p = none) (h : DpAll K (mask W.M H) vs ds) : Dp K (mask W.M (upd H p (.lst vs))) (.ref p) (.list ds) := by
  obtain ⟨h1, h2, h3⟩ := W.new (o := .lst vs) hB hp
  rw [h3]
  exact .lst (SqL.of upd_same) (dps_mono (Same.new (mask_none hp)) _ _ h)
theorem e_tupR {x1} {Rs : List D → Prop} (h : ADr X W ρ es Rs) (hR' : ∀ ds, Rs ds → ds.length ≤ 1000 ∧ R (.tuple ds)) : EDr X W ρ (.Tuple es x1 pos) R :=
  pe_imp (pe_tup h) fun σ H Q ⟨hB, hR, q⟩ => ⟨hB, hR, fun ds vs H1 rs B1 l1 p1 => by
    obtain ⟨h1, h2⟩ := hR' ds rs
    refine ⟨by rw [DpAll.len p1]; exact Nat.le_of_lt (small1000 h1), fun p hp => ?_⟩
    obtain ⟨c1, c2, c3⟩ := W.new (o := .tup vs) B1 hp
    exact q _ _ _ h2 c1 (l1.trans c2) (dp_newT B1 hp p1)⟩
theorem e_tup {x1} {ds : List D} (h : AD X W ρ es ds) (hl : ds.length ≤ 1000 := by exact Nat.le_of_ble_eq_true rfl) : ED X W ρ (.Tuple es x1 pos) (.tuple ds) := e_tupR h fun ds' e => by subst e; exact ⟨hl, rfl⟩
theorem e_lst {ds : List D} (h : AD X W ρ es ds) (hl : ds.length ≤ 1000 := by exact Nat.le_of_ble_eq_true rfl) : ED X W ρ (.List es pos) (.list ds) :=
  pe_imp (pe_lst h) fun σ H Q ⟨hB, hR, q⟩ => ⟨hB, hR, fun ds' vs H1 rs B1 l1 p1 => by
    subst rs
    refine ⟨by rw [DpAll.len p1]; exact Nat.le_of_lt (small1000 hl), fun p hp => ?_⟩
    obtain ⟨c1, c2, c3⟩ := W.new (o := .lst vs) B1 hp
    exact q _ _ _ rfl c1 (l1.trans c2) (dp_newL B1 hp p1)⟩
/-! ### items -/
theorem od_ixT {ds : List D} {n : Nat} {d : D} (h : ds[n]? = some d) : OpD K W (rIxT K) (.tuple ds) (.int n) (fun z => z = d) := fun v1 v2 H Q hB p1 p2 q => by
  obtain ⟨a, xs, e1, e2, e3⟩ := dp_tup p1
  obtain ⟨v, e4, e5⟩ := DpAll.get e3 h
  exact ⟨a, xs, n, v, e1, dp_int p2, Same.tup mask_le e2, atI_nat e4, q d v H rfl hB (Rel.refl H) e5⟩
theorem od_ixL {ds : List D} {n : Nat} {d : D} (h : ds[n]? = some d) : OpD K W (rIxL K) (.list ds) (.int n) (fun z => z = d) := fun v1 v2 H Q hB p1 p2 q => by
  obtain ⟨a, xs, e1, e2, e3⟩ := dp_lst p1
  obtain ⟨v, e4, e5⟩ := DpAll.get e3 h
  exact ⟨a, xs, n, v, e1, dp_int p2, Same.seq mask_le e2, atI_nat e4, q d v H rfl hB (Rel.refl H) e5⟩
theorem e_ixR {r : R2} (hr : IxR X r) (ha : EDr X W ρ a Ra) (hb : EDr X W ρ b Rb) (h : ∀ x y, Ra x → Rb y → OpD X.K W r x y R) (hs : PlainIx b) : EDr X W ρ (.Subscript a b pos) R := pe_imp (pe_ix hr ha hb hs) (top_imp h)
/-- t[n], n written -/
theorem e_at {ds : List D} {n : Nat} {d : D} {k p2} (ha : ED X W ρ a (.tuple ds)) (h : ds[n]? = some d) : ED X W ρ (.Subscript a (.Constant (.int n) k p2) pos) d :=
  e_ixR ix_tup ha e_int (fun x y e1 e2 => by subst e1 e2; exact od_ixT h) (fun _ _ => rfl)
theorem e_atL {ds : List D} {n : Nat} {d : D} {k p2} (ha : ED X W ρ a (.list ds)) (h : ds[n]? = some d) : ED X W ρ (.Subscript a (.Constant (.int n) k p2) pos) d :=
  e_ixR ix_list ha e_int (fun x y e1 e2 => by subst e1 e2; exact od_ixL h) (fun _ _ => rfl)
/-! ### built-ins by values -/
theorem tcb_imp {r : List V → Hp → VK → Prop} {Rs : List D → Prop} (h : ∀ ds, Rs ds → CaD K W r ds R) : ∀ σ H Q, tE K W ρ R σ H Q → tCB r (tA K W ρ Rs) σ H Q := fun σ H Q ⟨hB, hR, q⟩ =>
  ⟨hB, hR, fun ds vs H1 rs B1 l1 p1 => h ds rs vs H1 Q B1 p1 fun d v H3 r3 B3 l3 p3 => q d v H3 r3 B3 (l1.trans l3) p3⟩
variable {x : Str} {p : Pos} {id T : String} {r : List V → Hp → VK → Prop}
theorem e_callB {Rs : List D → Prop} (hc : CallR X (.builtin id) r) (hm : X.mg x = none) (ha : ADr X W ρ (e :: es) Rs) (h : ∀ ds, Rs ds → CaD X.K W r ds R) (hg : Gl X x := by rfl) (hv : bootBuiltins x = some (.builtin id) := by decide +kernel) (hn : x ≠ "__name__" := by decide) (hdb : (x == ("__debug__" : Str)) = false := by decide)
    (he : starEach (e :: es) X.env = (false, eval e X.env) :: starEach es X.env := by rfl) (hpl : (backTo pos (starEach es X.env)).any (·.1) = false := by rfl) : EDr X W ρ (.Call (.Name x p) (e :: es) [] pos) R := pe_imp (pe_callB hc hg hm hv ha hn hdb he hpl) (tcb_imp h)
theorem e_callTy {Rs : List D → Prop} (hc : CallR X (.type T) r) (hm : X.mg x = none) (ha : ADr X W ρ (e :: es) Rs) (h : ∀ ds, Rs ds → CaD X.K W r ds R) (hg : Gl X x := by rfl) (hv : bootBuiltins x = some (.type T) := by decide +kernel) (hn : x ≠ "__name__" := by decide) (hdb : (x == ("__debug__" : Str)) = false := by decide)
    (he : starEach (e :: es) X.env = (false, eval e X.env) :: starEach es X.env := by rfl) (hpl : (backTo pos (starEach es X.env)).any (·.1) = false := by rfl) : EDr X W ρ (.Call (.Name x p) (e :: es) [] pos) R := pe_imp (pe_callTy hc hg hm hv ha hn hdb he hpl) (tcb_imp h)
theorem dps1 {H : Hp} {vs : List V} {d : D} (h : DpAll K H vs [d]) : ∃ v, vs = [v] ∧ Dp K H v d := by
  cases h with
  | cons h1 h2 => cases h2; exact ⟨_, rfl, h1⟩
theorem dps2 {H : Hp} {vs : List V} {d d' : D} (h : DpAll K H vs [d, d']) : ∃ v v', vs = [v, v'] ∧ Dp K H v d ∧ Dp K H v' d' := by
  cases h with
  | cons h1 h2 =>
    obtain ⟨v, e1, e2⟩ := dps1 h2
    subst e1
    exact ⟨_, _, rfl, h1, e2⟩
theorem e_abs (hm : X.mg "abs" = none) (ha : ED X W ρ a (.int i)) (hg : Gl X "abs" := by rfl) (he : starEach [a] X.env = (false, eval a X.env) :: starEach [] X.env := by rfl) : ED X W ρ (.Call (.Name "abs" p) [a] [] pos) (.int (i.natAbs)) :=
  e_callB call_abs hm (a_cons ha a_nil he) (fun ds e vs H Q hB p1 q => by
    subst e
    obtain ⟨v, e1, e2⟩ := dps1 p1
    subst e1
    rw [dp_int e2]
    refine ⟨i, rfl, ?_⟩
    have e3 : (if i < 0 then -i else i) = (i.natAbs : Int) := by split <;> omega
    rw [e3]
    exact q _ _ H rfl hB (Rel.refl H) (.int _)) hg (by decide +kernel) (by decide) (by decide) he
/-- int(a truth) -/
theorem e_intB {k : Bool} (hm : X.mg "int" = none) (ha : ED X W ρ a (.bool k)) (hg : Gl X "int" := by rfl) (he : starEach [a] X.env = (false, eval a X.env) :: starEach [] X.env := by rfl) : ED X W ρ (.Call (.Name "int" p) [a] [] pos) (.int (if k then 1 else 0)) :=
  e_callTy call_int1 hm (a_cons ha a_nil he) (fun ds e vs H Q hB p1 q => by
    subst e
    obtain ⟨v, e1, e2⟩ := dps1 p1
    subst e1
    rw [dp_bl e2]
    exact .inr ⟨k, rfl, q _ _ H rfl hB (Rel.refl H) (.int _)⟩) hg (by decide +kernel) (by decide) (by decide) he
/-- int(a whole number) -/
theorem e_intI (hm : X.mg "int" = none) (ha : ED X W ρ a (.int i)) (hg : Gl X "int" := by rfl) (he : starEach [a] X.env = (false, eval a X.env) :: starEach [] X.env := by rfl) : ED X W ρ (.Call (.Name "int" p) [a] [] pos) (.int i) :=
  e_callTy call_int1 hm (a_cons ha a_nil he) (fun ds e vs H Q hB p1 q => by
    subst e
    obtain ⟨v, e1, e2⟩ := dps1 p1
    subst e1
    rw [dp_int e2]
    exact .inl ⟨i, rfl, q _ _ H rfl hB (Rel.refl H) (.int _)⟩) hg (by decide +kernel) (by decide) (by decide) he
/-- len -/
def lenD : D → Option Nat
  | .str s => some s.length
  | .list ds => some ds.length
  | .tuple ds => some ds.length
  | _ => none
theorem e_len {d : D} {n : Nat} (hm : X.mg "len" = none) (ha : ED X W ρ a d) (hn : lenD d = some n) (hz : n ≤ sizeLine) (hg : Gl X "len" := by rfl) (he : starEach [a] X.env = (false, eval a X.env) :: starEach [] X.env := by rfl) : ED X W ρ (.Call (.Name "len" p) [a] [] pos) (.int n) :=
  e_callB call_len hm (a_cons ha a_nil he) (fun ds e vs H Q hB p1 q => by
    subst e
    obtain ⟨v, e1, e2⟩ := dps1 p1
    subst e1
    have fin : Q (.int n) H := q _ _ H rfl hB (Rel.refl H) (.int _)
    cases d with
    | str s =>
      cases hn
      rw [dp_str e2]
      exact ⟨_, _, rfl, ⟨hz, rfl⟩, fin⟩
    | list ds =>
      cases hn
      obtain ⟨a, xs, e3, e4, e5⟩ := dp_lst e2
      subst e3
      exact ⟨_, _, rfl, .inl ⟨xs, Same.seq mask_le e4, (DpAll.len e5).symm⟩, fin⟩
    | tuple ds =>
      cases hn
      obtain ⟨a, xs, e3, e4, e5⟩ := dp_tup e2
      subst e3
      exact ⟨_, _, rfl, .inr ⟨xs, Same.tup mask_le e4, (DpAll.len e5).symm⟩, fin⟩
    | _ => cases hn) hg (by decide +kernel) (by decide) (by decide) he
end
end DL
end
section
set_option Elab.async false
set_option linter.all false
set_option maxRecDepth 100000
set_option maxHeartbeats 2000000
/-! DL2: blocks over data, loops, calls of defs by what they do to data. -/
namespace DL
open PySem PySem.Spec PyProof.Rows L2
/-! ### how a block ends -/
inductive Oc where
  | nx (ρ : En)
  | rt (d : D)
  | bk (ρ : En)
  | ct (ρ : En)
/-- an end as the layer wishes it -/
def Oc.go (K : PySem.W.Frag) (H : Hp) (G : Ends) : Oc → Prop
  | .nx ρ => ∀ σ, RE K H σ ρ → True → True
  | .rt _ => True
  | .bk _ => True
  | .ct _ => True
def tB (K : PySem.W.Frag) (W : Wd) (ρ : En) (Φ : Oc → Prop) : TS := fun G σ H => W.B H ∧ RE K (mask W.M H) σ ρ ∧
  (∀ ρ' σ' H', Φ (.nx ρ') → W.B H' → Rel W.M H H' → RE K (mask W.M H') σ' ρ' → G.nx σ' H') ∧
  (∀ d v H', Φ (.rt d) → W.B H' → Rel W.M H H' → Dp K (mask W.M H') v d → G.rt v H') ∧
  (∀ ρ' σ' H', Φ (.bk ρ') → W.B H' → Rel W.M H H' → RE K (mask W.M H') σ' ρ' → G.bk σ' H') ∧
  (∀ ρ' σ' H', Φ (.ct ρ') → W.B H' → Rel W.M H H' → RE K (mask W.M H') σ' ρ' → G.ct σ' H')
abbrev SD (X : Cx) (W : Wd) (ρ : En) (st : Stmt) (Φ : Oc → Prop) : Prop := PS X st (tB X.K W ρ Φ)
abbrev BD (X : Cx) (W : Wd) (ρ : En) (sts : List Stmt) (Φ : Oc → Prop) : Prop := PSs X sts (tB X.K W ρ Φ)
/-- behind a statement the rest of the block -/
def Thn (X : Cx) (W : Wd) (rest : List Stmt) (Φ : Oc → Prop) : Oc → Prop
  | .nx ρ => BD X W ρ rest Φ
  | o => Φ o
section
variable {X : Cx} {W : Wd} {ρ : En} {a b c e : Expr} {st : Stmt} {sts rest : List Stmt} {pos : Pos} {Φ Ψ : Oc → Prop} {R : D → Prop}
theorem BD.weak (h : BD X W ρ sts Φ) (i : ∀ o, Φ o → Ψ o) : BD X W ρ sts Ψ := pss_imp h fun G σ H ⟨hB, hR, q1, q2, q3, q4⟩ =>
  ⟨hB, hR, fun ρ' σ' H' f => q1 ρ' σ' H' (i _ f), fun d v H' f => q2 d v H' (i _ f), fun ρ' σ' H' f => q3 ρ' σ' H' (i _ f), fun ρ' σ' H' f => q4 ρ' σ' H' (i _ f)⟩
theorem b_nil (h : Φ (.nx ρ)) : BD X W ρ [] Φ := pss_imp pss_nil fun G σ H ⟨hB, hR, q, _⟩ => q ρ σ H h hB (Rel.refl H) hR
theorem b_cons (h : SD X W ρ st (Thn X W rest Φ)) : BD X W ρ (st :: rest) Φ := by
  refine ⟨fun pins s σ H G I q => ?_⟩
  obtain ⟨hB, hR, q1, q2, q3, q4⟩ := q
  refine wpAny_execs_cons (thn (h.run pins s σ H ⟨fun σ' H' => ∃ ρ', BD X W ρ' rest Φ ∧ W.B H' ∧ Rel W.M H H' ∧ RE X.K (mask W.M H') σ' ρ', G.rt, G.bk, G.ct⟩ I
    ⟨hB, hR, fun ρ' σ' H' f B' l' r' => ⟨ρ', f, B', l', r'⟩, fun d v H' f => q2 d v H' f, fun ρ' σ' H' f => q3 ρ' σ' H' f, fun ρ' σ' H' f => q4 ρ' σ' H' f⟩) fun fl s1 z => ?_)
  cases fl with
  | next =>
    obtain ⟨σ', H', I', ρ', f, B', l', r'⟩ := z
    exact f.run pins s1 σ' H' G I' ⟨B', r', fun ρ2 σ2 H2 g B2 l2 => q1 ρ2 σ2 H2 g B2 (l'.trans l2), fun d v H2 g B2 l2 => q2 d v H2 g B2 (l'.trans l2),
      fun ρ2 σ2 H2 g B2 l2 => q3 ρ2 σ2 H2 g B2 (l'.trans l2), fun ρ2 σ2 H2 g B2 l2 => q4 ρ2 σ2 H2 g B2 (l'.trans l2)⟩
  | ret v => exact z
  | brk => exact z
  | cont => exact z
theorem SD.weak (h : SD X W ρ st Φ) (i : ∀ o, Φ o → Ψ o) : SD X W ρ st Ψ := ps_imp h fun G σ H ⟨hB, hR, q1, q2, q3, q4⟩ =>
  ⟨hB, hR, fun ρ' σ' H' f => q1 ρ' σ' H' (i _ f), fun d v H' f => q2 d v H' (i _ f), fun ρ' σ' H' f => q3 ρ' σ' H' (i _ f), fun ρ' σ' H' f => q4 ρ' σ' H' (i _ f)⟩
/-! ### small statements -/
theorem s_retR (he : EDr X W ρ e R) (h : ∀ d, R d → Φ (.rt d)) : SD X W ρ (.Return (some e) pos) Φ := ps_imp (ps_ret he) fun G σ H ⟨hB, hR, q1, q2, q3, q4⟩ =>
  ⟨hB, hR, fun d v H' r B' l' p' => q2 d v H' (h d r) B' l' p'⟩
theorem b_retR (he : EDr X W ρ e R) (h : ∀ d, R d → Φ (.rt d)) : BD X W ρ (.Return (some e) pos :: rest) Φ := b_cons (s_retR he h)
theorem b_ret {d : D} (he : ED X W ρ e d) (h : Φ (.rt d)) : BD X W ρ (.Return (some e) pos :: rest) Φ := b_retR he fun _ r => by subst r; exact h
theorem b_pass (h : BD X W ρ rest Φ) : BD X W ρ (.Pass pos :: rest) Φ := b_cons (ps_imp ps_pass fun G σ H ⟨hB, hR, q1, _⟩ => q1 ρ σ H h hB (Rel.refl H) hR)
theorem b_break (h : Φ (.bk ρ)) : BD X W ρ (.Break pos :: rest) Φ := b_cons (ps_imp ps_break fun G σ H ⟨hB, hR, _, _, q3, _⟩ => q3 ρ σ H h hB (Rel.refl H) hR)
/-- x = e -/
theorem b_setR {i : Nat} {x : Str} {pos' : Pos} (nd : X.N.Nodup) (hi : X.N[i]? = some x) (hx : Loc X.env.scope x) (he : EDr X W ρ e R) (h : ∀ d, R d → BD X W (ρ.set i (.d d)) rest Φ)
    (hs : swapsWith e (some (.Name x pos')) pos.line X.env = pure false := by rfl) (hf : X.fn x = true ∨ X.env.scope.names.lookup x = some .local := by first | exact .inl rfl | exact .inr rfl | assumption) : BD X W ρ (.Assign [.Name x pos'] e pos :: rest) Φ :=
  b_cons (ps_imp (ps_set nd hi hx he hs hf) fun G σ H ⟨hB, hR, q1, _⟩ => ⟨hB, hR, fun d v H' r B' l' p' => q1 _ _ H' (h d r) B' l' ((hR.mono l').setD p')⟩)
theorem b_set (i : Nat) {d : D} {x : Str} {pos' : Pos} (nd : X.N.Nodup) (hi : X.N[i]? = some x) (hx : Loc X.env.scope x) (he : ED X W ρ e d) (h : BD X W (ρ.set i (.d d)) rest Φ)
    (hs : swapsWith e (some (.Name x pos')) pos.line X.env = pure false := by rfl) (hf : X.fn x = true ∨ X.env.scope.names.lookup x = some .local := by first | exact .inl rfl | exact .inr rfl | assumption) : BD X W ρ (.Assign [.Name x pos'] e pos :: rest) Φ :=
  b_setR nd hi hx he (fun _ r => by subst r; exact h) hs hf
/-- x, y = e1, e2 -/
theorem b_par (i j : Nat) {d1 d2 : D} {x y : Str} {px py pt : Pos} {kt k2 pt2} (hc : X.calm = true) (nd : X.N.Nodup) (hi : X.N[i]? = some x) (hj : X.N[j]? = some y) (hij : i ≠ j)
    (hx : X.env.scope.names.lookup x = some .local) (hy : X.env.scope.names.lookup y = some .local) (ha : AD X W ρ [a, b] [d1, d2])
    (hw : swappedStores [.Tuple [.Name x px, .Name y py] kt pt] (.Tuple [a, b] k2 pt2) X.env = pure (some [x, y]))
    (h : BD X W ((ρ.set i (.d d1)).set j (.d d2)) rest Φ)
    (hs : swapsWithSole [.Tuple [.Name x px, .Name y py] kt pt] (.Tuple [a, b] k2 pt2) pos.line X.env = pure false := by rfl) : BD X W ρ (.Assign [.Tuple [.Name x px, .Name y py] kt pt] (.Tuple [a, b] k2 pt2) pos :: rest) Φ :=
  b_cons (ps_imp (ps_par hc nd hi hj hij hx hy ha hw hs) fun G σ H ⟨hB, hR, q1, _⟩ => ⟨hB, hR, fun ds vs H' r B' l' p' => by
    subst r
    obtain ⟨v, w, e1, p1, p2⟩ := dps2 p'
    exact ⟨v, w, e1, q1 _ _ H' h B' l' (((hR.mono l').setD p1).setD p2)⟩⟩)
/-- x, y = e, e a tuple of two -/
theorem b_un2R (i j : Nat) {x y : Str} {px py pt : Pos} {kt} (hc : X.calm = true) (nd : X.N.Nodup) (hi : X.N[i]? = some x) (hj : X.N[j]? = some y) (hx : Loc X.env.scope x) (hy : Loc X.env.scope y)
    (he : EDr X W ρ e R) (h : ∀ d, R d → ∃ d1 d2, d = .tuple [d1, d2] ∧ BD X W ((ρ.set i (.d d1)).set j (.d d2)) rest Φ)
    (hs : swapsWithSole [.Tuple [.Name x px, .Name y py] kt pt] e pos.line X.env = pure false := by rfl) (hw : swappedStores [.Tuple [.Name x px, .Name y py] kt pt] e X.env = pure none := by rfl)
    (h1 : (assignEach [.Tuple [.Name x px, .Name y py] kt pt] X.env).map (·.2) = [assign (.Tuple [.Name x px, .Name y py] kt pt) X.env] := by rfl)
    (hn : (assignEach [.Name x px, .Name y py] X.env).length = 2 := by rfl) (hst : (assignEach [.Name x px, .Name y py] X.env).findIdx? (·.1) = none := by rfl)
    (hc1 : (assignEach [.Name x px, .Name y py] X.env).map (·.2) = assign (.Name x px) X.env :: (assignEach [.Name y py] X.env).map (·.2) := by rfl) (hc2 : (assignEach [.Name y py] X.env).map (·.2) = assign (.Name y py) X.env :: (assignEach [] X.env).map (·.2) := by rfl)
    (hf : X.fn x = true ∨ X.env.scope.names.lookup x = some .local := by first | exact .inl rfl | exact .inr rfl | assumption) (hf2 : X.fn y = true ∨ X.env.scope.names.lookup y = some .local := by first | exact .inl rfl | exact .inr rfl | assumption) :
    BD X W ρ (.Assign [.Tuple [.Name x px, .Name y py] kt pt] e pos :: rest) Φ :=
  b_cons (ps_imp (ps_asg he (pg_tup hc (pgs_cons (pg_name nd hi hx hf) (pgs_cons (pg_name nd hj hy hf2) pgs_nil hc2) hc1) hn hst) hs hw h1) fun G σ H ⟨hB, hR, q1, _⟩ => ⟨hB, hR, fun d v H' r B' l' p' => by
    obtain ⟨d1, d2, e1, e2⟩ := h d r
    subst e1
    obtain ⟨t, xs, f1, f2, f3⟩ := dp_tup p'
    obtain ⟨v1, v2, g1, g2, g3⟩ := dps2 f3
    subst g1
    exact ⟨t, _, f1, Same.tup mask_le f2, rfl, v1, [v2], rfl, v2, [], rfl, rfl, q1 _ _ H' e2 B' l' (((hR.mono l').setD g2).setD g3)⟩⟩)
/-- x op= e on ints -/
theorem b_aug (i : Nat) {x : Str} {pos' : Pos} {op : Operator} {r : R2} {d0 d1 : D} (nd : X.N.Nodup) (hi : X.N[i]? = some x) (hx : Loc X.env.scope x) (h0 : ρ[i]? = some (.d d0)) (he : ED X W ρ e d1) (ho : OpR X (inplaceOp op) r)
    (hr : OpD X.K W r d0 d1 R) (h : ∀ d, R d → BD X W (ρ.set i (.d d)) rest Φ)
    (hf : X.fn x = true ∨ X.env.scope.names.lookup x = some .local := by first | exact .inl rfl | exact .inr rfl | assumption) : BD X W ρ (.AugAssign (.Name x pos') op e pos :: rest) Φ :=
  b_cons (ps_imp (ps_aug (ti := r) nd hi hx he ho hf) fun G σ H ⟨hB, hR, q1, _⟩ => by
    obtain ⟨v, e1, e2⟩ := hR.2 i _ h0
    exact ⟨v, e1, hB, hR, fun d v2 H' r1 B' l' p' => by
      subst r1
      exact hr v v2 H' _ B' (dp_mono l' _ _ e2) p' fun d v H2 r2 B2 l2 p2 => q1 _ _ H2 (h d r2) B2 (l'.trans l2) (((hR.mono l').mono l2).setD p2)⟩)
/-- if c: A else: B, and what follows -/
theorem b_if {k : Bool} {sa sb : List Stmt} (hc : TD X W ρ c k) (ha : k = true → BD X W ρ sa (Thn X W rest Φ)) (hb : k = false → BD X W ρ sb (Thn X W rest Φ)) : BD X W ρ (.If c sa sb pos :: rest) Φ := by
  refine b_cons ?_
  cases k with
  | true =>
    refine ps_imp (ps_if hc (ha rfl) pss_never) fun G σ H ⟨hB, hR, q1, q2, q3, q4⟩ => ⟨hB, hR, fun H' B' l' => ?_⟩
    refine iteT ?_
    exact ⟨B', hR.mono l', fun ρ' σ' H2 f B2 l2 => q1 ρ' σ' H2 f B2 (l'.trans l2), fun d v H2 f B2 l2 => q2 d v H2 f B2 (l'.trans l2), fun ρ' σ' H2 f B2 l2 => q3 ρ' σ' H2 f B2 (l'.trans l2), fun ρ' σ' H2 f B2 l2 => q4 ρ' σ' H2 f B2 (l'.trans l2)⟩
  | false =>
    refine ps_imp (ps_if hc pss_never (hb rfl)) fun G σ H ⟨hB, hR, q1, q2, q3, q4⟩ => ⟨hB, hR, fun H' B' l' => ?_⟩
    refine iteF ?_
    exact ⟨B', hR.mono l', fun ρ' σ' H2 f B2 l2 => q1 ρ' σ' H2 f B2 (l'.trans l2), fun d v H2 f B2 l2 => q2 d v H2 f B2 (l'.trans l2), fun ρ' σ' H2 f B2 l2 => q3 ρ' σ' H2 f B2 (l'.trans l2), fun ρ' σ' H2 f B2 l2 => q4 ρ' σ' H2 f B2 (l'.trans l2)⟩
/-- if c: A (no else), and what follows -/
theorem b_if1 {k : Bool} {sa : List Stmt} (hc : TD X W ρ c k) (ha : k = true → BD X W ρ sa (Thn X W rest Φ)) (hb : k = false → BD X W ρ rest Φ) : BD X W ρ (.If c sa [] pos :: rest) Φ :=
  b_if hc ha fun z => b_nil (hb z)
/-! ### while -/
/-- what a turn may come to: I with a lesser measure, a break, a return -/
def Turns (I : Nat → En → Prop) (m : Nat) (Ω : En → Prop) (Φ : Oc → Prop) : Oc → Prop
  | .nx ρ => ∃ m', m' < m ∧ I m' ρ
  | .ct ρ => ∃ m', m' < m ∧ I m' ρ
  | .bk ρ => Ω ρ
  | .rt d => Φ (.rt d)
theorem b_while {body : List Stmt} (I : Nat → En → Prop) (Ω : En → Prop) (hp : PassesOwn (model X.prog X.w) X.A X.env X.xe) (h0 : ∃ m, I m ρ)
    (ht : ∀ m ρ', I m ρ' → ∃ k, TD X W ρ' c k ∧ (k = true → BD X W ρ' body (Turns I m Ω Φ)) ∧ (k = false → Ω ρ')) (hn : ∀ ρ', Ω ρ' → BD X W ρ' rest Φ) : BD X W ρ (.While c body [] pos :: rest) Φ := by
  refine b_cons ?_
  have hc : PT X c (fun σ H Q => ∃ m ρ' k, I m ρ' ∧ TD X W ρ' c k ∧ tT X.K W ρ' k σ H Q) := ⟨fun pins s σ H Q J ⟨m, ρ', k, i, t, q⟩ => t.run pins s σ H Q J q⟩
  have hb : PSs X body (fun G σ H => ∃ m ρ', I m ρ' ∧ BD X W ρ' body (Turns I m Ω Φ) ∧ tB X.K W ρ' (Turns I m Ω Φ) G σ H) := ⟨fun pins s σ H G J ⟨m, ρ', i, t, q⟩ => t.run pins s σ H G J q⟩
  refine ps_imp (ps_while hp hc hb) fun G σ H ⟨hB, hR, q1, q2, q3, q4⟩ => ?_
  obtain ⟨m0, i0⟩ := h0
  refine ⟨fun m σ' H' => ∃ ρ', I m ρ' ∧ W.B H' ∧ Rel W.M H H' ∧ RE X.K (mask W.M H') σ' ρ', ⟨m0, ρ, i0, hB, Rel.refl H, hR⟩, ?_⟩
  rintro m σ' H' ⟨ρ', i, B', l', r'⟩
  obtain ⟨k, t, kt, kf⟩ := ht m ρ' i
  refine ⟨m, ρ', k, i, t, B', r', fun H2 B2 l2 => ?_⟩
  cases k with
  | true =>
    refine iteT ⟨fun σ3 H3 => ∃ m' ρ3, m' < m ∧ I m' ρ3 ∧ W.B H3 ∧ Rel W.M H H3 ∧ RE X.K (mask W.M H3) σ3 ρ3, fun σ3 H3 ⟨m', ρ3, lt, i3, z⟩ => ⟨m', lt, ρ3, i3, z⟩, m, ρ', i, kt rfl, B2, r'.mono l2, ?_, ?_, ?_, ?_⟩
    · rintro ρ3 σ3 H3 ⟨m', lt, i3⟩ B3 l3 r3
      exact ⟨m', ρ3, lt, i3, B3, (l'.trans l2).trans l3, r3⟩
    · exact fun d v H3 f B3 l3 p3 => q2 d v H3 f B3 ((l'.trans l2).trans l3) p3
    · exact fun ρ3 σ3 H3 f B3 l3 r3 => q1 ρ3 σ3 H3 (hn _ f) B3 ((l'.trans l2).trans l3) r3
    · rintro ρ3 σ3 H3 ⟨m', lt, i3⟩ B3 l3 r3
      exact ⟨m', ρ3, lt, i3, B3, (l'.trans l2).trans l3, r3⟩
  | false => exact iteF (q1 ρ' σ' H2 (hn _ (kf rfl)) B2 (l'.trans l2) (r'.mono l2))
/-! ### for over range(n), over a tuple or list of data -/
def NextI (I : Nat → En → Prop) (Ω : En → Prop) (Φ : Oc → Prop) (j : Nat) : Oc → Prop
  | .nx ρ => I (j + 1) ρ
  | .ct ρ => I (j + 1) ρ
  | .bk ρ => Ω ρ
  | .rt d => Φ (.rt d)
def tJ (X : Cx) (W : Wd) (body : List Stmt) (Ξ : Nat → Oc → Prop) : TS := fun G σ H => ∃ (j : Nat) (ρ : En), BD X W ρ body (Ξ j) ∧ tB X.K W ρ (Ξ j) G σ H
theorem pss_j {body : List Stmt} {Ξ : Nat → Oc → Prop} : PSs X body (tJ X W body Ξ) := ⟨fun pins s σ H G J ⟨j, ρ', t, q⟩ => t.run pins s σ H G J q⟩
theorem b_forR {x : Str} {pos' pr pc : Pos} {i : Nat} {n : Int} {body : List Stmt} (I : Nat → En → Prop) (Ω : En → Prop) (hp : PassesOwn (model X.prog X.w) X.A X.env X.xe) (hc : X.calm = true) (nd : X.N.Nodup) (hi : X.N[i]? = some x) (hx : Loc X.env.scope x)
    (hm : X.mg "range" = none) (he : ED X W ρ e (.int n)) (hn1 : -(2 ^ 62) ≤ n) (hn2 : n < 2 ^ 62) (h0 : I 0 ρ)
    (ht : ∀ (j : Nat) ρ', j < n.toNat → I j ρ' → BD X W (ρ'.set i (.d (.int (j : Nat)))) body (NextI I Ω Φ j))
    (hd : ∀ ρ', I n.toNat ρ' → Ω ρ') (hn : ∀ ρ', Ω ρ' → BD X W ρ' rest Φ)
    (hg : Gl X "range" := by rfl) (hs1 : starEach [e] X.env = [(false, eval e X.env)] := by rfl) (hs : ∀ z, foldedSetIterable (.Call (.Name "range" pr) [e] [] pc) X.env z = pure z := by intro _; rfl)
    (hf : X.fn x = true ∨ X.env.scope.names.lookup x = some .local := by first | exact .inl rfl | exact .inr rfl | assumption) :
    BD X W ρ (.For (.Name x pos') (.Call (.Name "range" pr) [e] [] pc) body [] pos :: rest) Φ := by
  refine b_cons ?_
  have ha : AD X W ρ [e] [.int n] := a_cons he a_nil (by rw [hs1]; rfl)
  refine ps_imp (ps_for hp hc (pi_range1 hg hm ha hs1) (pg_name nd hi hx hf) (pss_j (W := W) (Ξ := NextI I Ω Φ)) hs) fun G σ H ⟨hB, hR, q1, q2, q3, q4⟩ => ?_
  refine ⟨hB, hR, fun ds vs H1 r1 B1 l1 p1 => ?_⟩
  subst r1
  obtain ⟨v, e1, e2⟩ := dps1 p1
  subst e1
  rw [dp_int e2]
  refine ⟨n, rfl, hn1, hn2, for_range (lo := 0) (n := n.toNat) (g := gName i) (tb := tJ X W body (NextI I Ω Φ)) (D := G) (fun j σ' H' => ∃ ρ', I j ρ' ∧ W.B H' ∧ Rel W.M H H' ∧ RE X.K (mask W.M H') σ' ρ') ⟨ρ, h0, B1, l1, hR.mono l1⟩ ?_ ?_⟩
  · rintro j σ' H' hj ⟨ρ', i', B', l', r'⟩
    have ez : (0 : Int) + (j : Int) = (j : Nat) := by omega
    refine ⟨j, ρ'.set i (.d (.int (j : Nat))), ht j ρ' hj i', B', ?_, ?_, ?_, ?_, ?_⟩
    · rw [ez]
      exact r'.setD (.int _)
    · exact fun ρ3 σ3 H3 f B3 l3 r3 => ⟨ρ3, f, B3, l'.trans l3, r3⟩
    · exact fun d v H3 f B3 l3 p3 => q2 d v H3 f B3 (l'.trans l3) p3
    · exact fun ρ3 σ3 H3 f B3 l3 r3 => q1 ρ3 σ3 H3 (hn _ f) B3 (l'.trans l3) r3
    · exact fun ρ3 σ3 H3 f B3 l3 r3 => ⟨ρ3, f, B3, l'.trans l3, r3⟩
  · rintro σ' H' ⟨ρ', i', B', l', r'⟩
    exact q1 ρ' σ' H' (hn _ (hd _ i')) B' l' r'
theorem b_forT {x : Str} {pos' : Pos} {i : Nat} {ds : List D} {body : List Stmt} (I : Nat → En → Prop) (Ω : En → Prop) (hp : PassesOwn (model X.prog X.w) X.A X.env X.xe) (hc : X.calm = true) (nd : X.N.Nodup) (hi : X.N[i]? = some x) (hx : Loc X.env.scope x)
    (he : ED X W ρ e (.tuple ds)) (h0 : I 0 ρ)
    (ht : ∀ (j : Nat) d ρ', ds[j]? = some d → I j ρ' → BD X W (ρ'.set i (.d d)) body (NextI I Ω Φ j))
    (hd : ∀ ρ', I ds.length ρ' → Ω ρ') (hn : ∀ ρ', Ω ρ' → BD X W ρ' rest Φ) (hs : ∀ z, foldedSetIterable e X.env z = pure z := by intro _; rfl)
    (hf : X.fn x = true ∨ X.env.scope.names.lookup x = some .local := by first | exact .inl rfl | exact .inr rfl | assumption) :
    BD X W ρ (.For (.Name x pos') e body [] pos :: rest) Φ := by
  refine b_cons ?_
  refine ps_imp (ps_for hp hc (pi_tup he) (pg_name nd hi hx hf) (pss_j (W := W) (Ξ := NextI I Ω Φ)) hs) fun G σ H ⟨hB, hR, q1, q2, q3, q4⟩ => ?_
  refine ⟨hB, hR, fun d v H1 r1 B1 l1 p1 => ?_⟩
  subst r1
  obtain ⟨t, xs, e1, e2, e3⟩ := dp_tup p1
  have hlen := DpAll.len e3
  refine ⟨t, e1, ⟨xs, Same.tup mask_le e2⟩, for_tup (K := X.K) (a := t) (xs := xs) (g := gName i) (tb := tJ X W body (NextI I Ω Φ)) (D := G) (fun j σ' H' => ∃ ρ', I j ρ' ∧ W.B H' ∧ Rel W.M H1 H' ∧ RE X.K (mask W.M H') σ' ρ') ⟨ρ, h0, B1, Rel.refl _, hR.mono l1⟩ ?_ ?_ ?_⟩
  · rintro j σ' H' hj ⟨ρ', i', B', l', r'⟩
    exact Same.tup mask_le (Same.tup l' e2)
  · rintro j v' σ' H' hj ⟨ρ', i', B', l', r'⟩
    obtain ⟨d, g1, g2⟩ := DpAll.getV e3 hj
    refine ⟨j, ρ'.set i (.d d), ht j d ρ' g1 i', B', r'.setD (dp_mono l' _ _ g2), ?_, ?_, ?_, ?_⟩
    · exact fun ρ3 σ3 H3 f B3 l3 r3 => ⟨ρ3, f, B3, l'.trans l3, r3⟩
    · exact fun d v H3 f B3 l3 p3 => q2 d v H3 f B3 ((l1.trans l').trans l3) p3
    · exact fun ρ3 σ3 H3 f B3 l3 r3 => q1 ρ3 σ3 H3 (hn _ f) B3 ((l1.trans l').trans l3) r3
    · exact fun ρ3 σ3 H3 f B3 l3 r3 => ⟨ρ3, f, B3, l'.trans l3, r3⟩
  · rintro σ' H' ⟨ρ', i', B', l', r'⟩
    rw [hlen] at i'
    exact q1 ρ' σ' H' (hn _ (hd _ i')) B' (l1.trans l') r'
end
/-! ### defs -/
/-- a def that keeps its promise where no text of an object is under way -/
structure FG (P : Program) (w : World) (K : PySem.W.Frag) (mg : Str → Option Value) (base : Heap) (CX : CXT) (k : Nat) (f : Addr) (fd : FuncData) (ps : List Str) (sp : Sp) : Prop where
  sized : ∀ vs H Q E, sp vs H Q E → vs.length = ps.length
  goes : ∀ (A : Around) (l : List Env) (s : Shared) (H : Hp) (g : Args) (us : List Value) (vs : List V) (Q : VK) (E : XK), Room k A → A.guards = some [] → Env0 P w K mg base A l s H → BindsTo s fd g (ps.zip us) → Vals vs us → sp vs H Q E →
    codeAny (model P w) A (.call (.ref f) g) (CR CX l P w H s Q E) s
section
variable {P : Program} {w : World} {K : PySem.W.Frag} {mg : Str → Option Value} {base : Heap} {CX : CXT} {k : Nat} {f : Addr} {fd : FuncData} {ps N : List Str} {sp : Sp}
theorem FG.mono {j : Nat} (F : FG P w K mg base CX j f fd ps sp) (h : j ≤ k) : FG P w K mg base CX k f fd ps sp := ⟨F.sized, fun A l s H g us vs Q E hr hg => F.goes A l s H g us vs Q E (hr.mono h) hg⟩
/-- by its body -/
theorem FG.of {x qual : Str} {params : Arguments} {body : List Stmt} {scope : Scope} {dvs : List V} {kws : List (Str × V)} (F : FunD K x qual params body scope dvs kws f fd) (S : FnScope N ps scope) (len : ∀ vs H Q E, sp vs H Q E → vs.length = ps.length)
    (hb : ∀ (cdv : Value) (A : Around) (l : List Env) (s : Shared) (H : Hp) (vs : List V) (Q : VK) (E : XK), Room k (A.deeper (envOfC qual scope s.heap.objs.size f cdv)) → A.guards = some [] → sp vs H Q E →
      ∃ t, PSs (cxOf CX P w K mg base N qual scope f cdv A l s H E) body t ∧ t { nx := fun _ H' => Q .non H', rt := Q } (L2.start N vs) H) : FG P w K mg base CX (k + 1) f fd ps sp := by
  obtain ⟨oc, od, dV, kV, doc, pm, an, cdv, ct, osl, rfl, lk, hcd, _, _⟩ := F.ex
  refine ⟨len, fun A l s H g us vs Q E hr hG e0 bt rv q => ?_⟩
  have n1 := len _ _ _ _ q
  have inK : K.In s.heap := e0.mod.kin.keeps fun b o z => (e0.bs b o z).1
  have nl : s.heap.NoLimit := e0.mod.nolimit.keeps fun b o z => (e0.bs b o z).1
  have kinds : ∀ y ∈ ps.zip us, scope.names.lookup y.1 = some .local ∨ (scope.names.lookup y.1 = some .cell ∧ ((cellsFrom (s.heap.objs.size + 1) scope.names []).lookup y.1).isSome = true) := by
    rintro ⟨n, v⟩ hy
    have m1 := S.par n (List.of_mem_zip hy).1
    rcases m1 with z | z
    · exact Or.inl z
    · exact Or.inr ⟨z, PySem.W.cellsFrom_some _ _ _ (.inl z)⟩
  refine codeAny_call_function hr.depth (inK _ _ lk) rfl S.co S.gen rfl (PySem.W.codeRec_of inK hcd) (bt _ _ _ _ ?_)
  refine wpAny_newFunctionEnv_cells S.kind kinds fun en he s1 y => ?_
  subst he
  refine ⟨nl.keeps y.toInCall.keep, codeAny_func ?_⟩
  obtain ⟨t, h1, h2⟩ := hb cdv A l s H vs Q E (hr.deeper _) hG q
  have J := inv_start (CX := CX) (E := E) (cd := cdv) (f := f) (qual := qual) S hr.hd e0 n1 rv y
  refine wpAny_mono (h1.run [] s1 _ H _ J h2) (fun fl s' z => ?_) fun _ _ z => z
  cases fl with
  | ret u =>
    obtain ⟨v, σ', H', J', r', q'⟩ := z
    exact ⟨v, H', J'.os, J'.bare, J'.base, J'.hok, r', q'⟩
  | next =>
    obtain ⟨σ', H', J', q'⟩ := z
    exact ⟨V.non, H', J'.os, J'.bare, J'.base, J'.hok, rfl, q'⟩
  | brk =>
    obtain ⟨_, _, _, q'⟩ := z
    exact q'.elim
  | cont =>
    obtain ⟨_, _, _, q'⟩ := z
    exact q'.elim
/-- as the layer knows it, where nothing is under way -/
theorem FG.end_ (F : FG P w K mg base CX k f fd ps sp) {A : Around} {l : List Env} {s : Shared} {H : Hp} {g : Args} {us : List Value} {vs : List V} {Q : VK} {E : XK} (hr : Room k A) (hg : A.guards = some []) (e0 : Env0 P w K mg base A l s H) (bt : BindsTo s fd g (ps.zip us))
    (rv : Vals vs us) (q : sp vs H Q E) : codeAny (model P w) A (.call (.ref f) g) (CR CX l P w H s Q E) s := F.goes A l s H g us vs Q E hr hg e0 bt rv q
end
/-! ### calls of defs -/
section
variable {X : Cx} {CX : CXT} {k : Nat} {f : Addr} {fd : FuncData} {ps : List Str} {sp : Sp} {E : XK} {x : Str} {p pos : Pos} {e : Expr} {es : List Expr} {t : TA}
theorem run_fg {pins : List (Addr × Obj)} {σ : L2.St} {H : Hp} {s : Shared} {Q : VK} {us : List Value} {vs : List V} (F : FG X.prog X.w X.K X.mg X.base CX k f fd ps sp) (hr : Room k X.A) (hG : X.A.guards = some []) (hb : Binds X.K fd ps []) (hx : Passes CX X E)
    (I : Inv X pins σ H s) (rv : Vals vs us) (q : sp vs H Q E) : wpAny (model X.prog X.w) X.A (PySem.call (.ref f) us) (EP X pins σ Q) X.xe s := by
  have n1 : us.length = ps.length := by rw [← rv.length]; exact F.sized _ _ _ _ q
  have bt := hb s us I.kIn (by rw [List.append_nil]; exact n1)
  rw [List.append_nil] at bt
  refine wpAny_call (codeAny_mono (F.goes X.A X.stack s H ⟨us, []⟩ us vs Q E hr hG I.env0 bt rv q) fun r s' z => ?_)
  cases r with
  | error e => exact hx pins σ H s e s' I z
  | ok fl =>
    cases fl with
    | ret u => exact I.after z
    | next => exact False.elim z
    | brk => exact False.elim z
    | cont => exact False.elim z
def tCallG (sp : Sp) (E : XK) (t : TA) : TE := fun σ H Q => t σ H fun vs H1 => sp vs H1 Q E
theorem pe_callG (F : FG X.prog X.w X.K X.mg X.base CX k f fd ps sp) (hr : Room k X.A) (hG : X.A.guards = some []) (hg : Gl X x) (hm : X.mg x = some (.ref f)) (hk : PySem.W.keepIn X.K (.ref f) = true) (hb : Binds X.K fd ps []) (hx : Passes CX X E)
    (ha : PA X (e :: es) t) (hd : (x == ("__debug__" : Str)) = false) (he : starEach (e :: es) X.env = (false, eval e X.env) :: starEach es X.env) (hpl : (backTo pos (starEach es X.env)).any (·.1) = false) : PE X (.Call (.Name x p) (e :: es) [] pos) (tCallG sp E t) := by
  refine ⟨fun pins s σ H Q I q => wpAny_Call_Name_kw (ld_glob I hg hm ?_ hd)⟩
  refine PySem.W.callWith_K (h₀ := X.base) I.ok.mod.kin hk (thn (ha.run pos pins s σ H _ I q) fun us s1 z => ?_) he hpl
  obtain ⟨vs, H1, I1, r1, q1⟩ := z
  exact ⟨I1.kIn, run_fg F hr hG hb hx I1 r1 q1⟩
end
/-- what a def does to data: F ds R: of the arguments ds, some data of R -/
def spD (K : PySem.W.Frag) (F : List D → (D → Prop) → Prop) : Sp := fun vs H Q _ => ∃ (W : Wd) (ds : List D) (R : D → Prop), W.B H ∧ DpAll K (mask W.M H) vs ds ∧ F ds R ∧
  ∀ (d : D) (v : V) (H' : Hp), R d → W.B H' → Rel W.M H H' → Dp K (mask W.M H') v d → Q v H'
/-- the module's name x is a def that does F, k levels deep, of n arguments -/
structure Cb (P : Program) (w : World) (K : PySem.W.Frag) (mg : Str → Option Value) (base : Heap) (k : Nat) (x : Str) (F : List D → (D → Prop) → Prop) : Prop where
  ex : ∃ (f : Addr) (fd : FuncData) (ps : List Str), mg x = some (.ref f) ∧ PySem.W.keepIn K (.ref f) = true ∧ FG P w K mg base CX0 k f fd ps (spD K F) ∧ Binds K fd ps []
theorem Cb.mono {P : Program} {w : World} {K : PySem.W.Frag} {mg : Str → Option Value} {base : Heap} {j k : Nat} {x : Str} {F : List D → (D → Prop) → Prop} (C : Cb P w K mg base j x F) (h : j ≤ k) : Cb P w K mg base k x F := by
  obtain ⟨f, fd, ps, h1, h2, h3, h4⟩ := C.ex
  exact ⟨f, fd, ps, h1, h2, h3.mono h, h4⟩
section
variable {X : Cx} {W : Wd} {ρ : En} {e : Expr} {es : List Expr} {p pos : Pos} {x : Str} {k : Nat} {F : List D → (D → Prop) → Prop} {R : D → Prop}
theorem e_callR {Rs : List D → Prop} (C : Cb X.prog X.w X.K X.mg X.base k x F) (hr : Room k X.A) (hG : X.A.guards = some []) (ha : ADr X W ρ (e :: es) Rs) (h : ∀ ds, Rs ds → F ds R) (hg : Gl X x := by rfl) (hd : (x == ("__debug__" : Str)) = false := by decide)
    (he : starEach (e :: es) X.env = (false, eval e X.env) :: starEach es X.env := by rfl) (hpl : (backTo pos (starEach es X.env)).any (·.1) = false := by rfl) : EDr X W ρ (.Call (.Name x p) (e :: es) [] pos) R := by
  obtain ⟨f, fd, ps, h1, h2, h3, h4⟩ := C.ex
  exact pe_imp (pe_callG h3 hr hG hg h1 h2 h4 pass0 ha hd he hpl) fun σ H Q ⟨hB, hR, q⟩ => ⟨hB, hR, fun ds vs H1 rs B1 l1 p1 => ⟨W, ds, R, B1, p1, h ds rs, fun d v H2 r2 B2 l2 p2 => q d v H2 r2 B2 (l1.trans l2) p2⟩⟩
theorem e_call {ds : List D} {d : D} (C : Cb X.prog X.w X.K X.mg X.base k x F) (hr : Room k X.A) (hG : X.A.guards = some []) (ha : AD X W ρ (e :: es) ds) (h : F ds (fun z => z = d)) (hg : Gl X x := by rfl) (hd : (x == ("__debug__" : Str)) = false := by decide)
    (he : starEach (e :: es) X.env = (false, eval e X.env) :: starEach es X.env := by rfl) (hpl : (backTo pos (starEach es X.env)).any (·.1) = false := by rfl) : ED X W ρ (.Call (.Name x p) (e :: es) [] pos) d :=
  e_callR C hr hG ha (fun _ z => by subst z; exact h) hg hd he hpl
end
/-- a def of the text does F, by its body over data -/
theorem cb_of {P : Program} {w : World} {K : PySem.W.Frag} {mg : Str → Option Value} {base : Heap} {k : Nat} {x name qual : Str} {params : Arguments} {body : List Stmt} {scope : Scope} {f : Addr} {fd : FuncData} {N ps : List Str} {F : List D → (D → Prop) → Prop}
    (U : FunD K name qual params body scope [] [] f fd) (hm : mg x = some (.ref f)) (S : FnScope N ps scope) (hb : Binds K fd ps []) (hl : ∀ ds R, F ds R → ds.length = ps.length)
    (hbody : ∀ (cdv : Value) (A : Around) (l : List Env) (s : Shared) (H : Hp) (E : XK) (W : Wd) (ds : List D) (R : D → Prop), Room k (A.deeper (envOfC qual scope s.heap.objs.size f cdv)) → (A.deeper (envOfC qual scope s.heap.objs.size f cdv)).guards = some [] → F ds R →
      BD (cxOf CX0 P w K mg base N qual scope f cdv A l s H E).nox W (startE N.length ds) body (fun o => match o with | .rt d => R d | .nx _ => R .none | _ => False)) : Cb P w K mg base (k + 1) x F := by
  refine ⟨f, fd, ps, hm, U.kp, FG.of U S (fun vs H Q E q => ?_) (fun cdv A l s H vs Q E hr hG q => ?_), hb⟩
  · obtain ⟨W, ds, R, _, p1, f1, _⟩ := q
    rw [DpAll.len p1]
    exact hl ds R f1
  · obtain ⟨W, ds, R, hB, p1, f1, q1⟩ := q
    refine ⟨_, (hbody cdv A l s H E W ds R hr hG f1).nox, hB, re_start p1, ?_, ?_, ?_, ?_⟩
    · exact fun ρ' σ' H' r' B' l' r2 => q1 .none .non H' r' B' l' .non
    · exact fun d v H' r' B' l' p' => q1 d v H' r' B' l' p'
    · exact fun ρ' σ' H' r' => r'.elim
    · exact fun ρ' σ' H' r' => r'.elim
end DL
end
section
set_option Elab.async false
set_option linter.all false
set_option maxRecDepth 100000
set_option maxHeartbeats 2000000
/-! DL3: built-ins, comprehensions, texts over data. -/
namespace DL
open PySem PySem.Spec PyProof.Rows L2
section
variable {X : Cx} {W : Wd} {ρ : En} {a b c e o : Expr} {es : List Expr} {pos p : Pos} {R Ra Rb : D → Prop} {K : PySem.W.Frag} {x : Str}
/-! ### isinstance -/
def tyD : D → String
  | .none => "NoneType"
  | .bool _ => "bool"
  | .int _ => "int"
  | .str _ => "str"
  | .list _ => "list"
  | .tuple _ => "tuple"
  | .dict _ => "dict"
theorem dp_ty {H : Hp} {v : V} {d : D} (h : Dp K H v d) : TyX K H v (.type (tyD d)) := by
  cases h with
  | non => exact .base .non
  | bl b => exact .base (.bl b)
  | int i => exact .base (.int i)
  | str x => exact .base (.str x)
  | lst h1 h2 =>
    rcases h1 with (h1 | ⟨o, h1⟩) | ⟨o, its, n, h1, h3, _⟩
    · exact .base (.lst h1)
    · exact .base (.frz h1)
    · exact .kList h1 h3
  | tup h1 h2 =>
    rcases h1 with (h1 | ⟨o, h1⟩) | ⟨o, its, n, h1, h3, _⟩
    · exact .base (.tup h1)
    · exact .fTuple h1
    · exact .kTuple h1 h3
theorem e_isi {d : D} {T : String} {tx : Str} {pt : Pos} {k : Bool} (hm : X.mg "isinstance" = none) (hmt : X.mg tx = none) (ha : ED X W ρ a d) (hv : bootBuiltins tx = some (.type T)) (hk : PySem.W.kitOne X.K (.type (tyD d)) (.type T) = some k)
    (hg : Gl X "isinstance" := by rfl) (hgt : Gl X tx := by rfl) (hn : tx ≠ "__name__" := by decide) (hd : (tx == ("__debug__" : Str)) = false := by decide)
    (h1 : starEach [a, .Name tx pt] X.env = (false, eval a X.env) :: starEach [.Name tx pt] X.env := by rfl) (h2 : starEach [.Name tx pt] X.env = (false, eval (.Name tx pt) X.env) :: starEach [] X.env := by rfl) (h3 : (backTo pos (starEach [.Name tx pt] X.env)).any (·.1) = false := by rfl) :
    ED X W ρ (.Call (.Name "isinstance" p) [a, .Name tx pt] [] pos) (.bool k) :=
  pe_imp (pe_callB call_isi hg hm (by decide +kernel) (pa_cons ha (pa_cons (pe_bltn (v := .ty T) hgt hmt hv rfl hn hd) pa_nil h2) h1) (by decide) (by decide) h1 h3) fun σ H Q ⟨hB, hR, q⟩ => ⟨hB, hR, fun d' v H' r B' l' p' => by
    subst r
    exact ⟨v, .ty T, .type (tyD d'), .type T, k, rfl, .ty T, dp_ty (dp_mono mask_le _ _ p'), hk, q _ _ H' rfl B' l' (.bl k)⟩⟩
/-! ### the module's constants -/
theorem e_glob {v : V} {u : Value} {d : D} (hm : X.mg x = some u) (r : RelV v u) (hv : ∀ H, Dp X.K H v d) (hg : Gl X x := by rfl) (hd : (x == ("__debug__" : Str)) = false := by decide) : ED X W ρ (.Name x pos) d := e_c (pe_glob hg hm r hd) hv
theorem dps_k : ∀ {vs : List He.Dv} {ds : List D} {H : Hp}, (∀ (i : Nat) (v : He.Dv), vs[i]? = some v → ∃ d, ds[i]? = some d ∧ Dp K H (v.v K) d) → vs.length = ds.length → DpAll K H (vs.map (He.Dv.v K)) ds
  | [], [], _, _, _ => .nil
  | [], _ :: _, _, _, h => by cases h
  | _ :: _, [], _, _, h => by cases h
  | v :: vs, d :: ds, H, h, hl => by
    obtain ⟨d', e1, e2⟩ := h 0 v rfl
    cases e1
    exact .cons e2 (dps_k (fun i w hw => h (i + 1) w hw) (by simpa using hl))
/-! ### in, not in -/
theorem od_inD {d : D} {ds : List D} (hd : SeqAt.shaped d = true) (hs : SeqAt.shaped (.list ds) = true) : OpD K W (rInD K) d (.list ds) (fun z => z = .bool (ds.any fun z => PyData.eqv z d)) := fun v1 v2 H Q hB p1 p2 q =>
  ⟨d, ds, dp_mono mask_le _ _ p1, dp_mono mask_le _ _ p2, hd, hs, q _ _ H rfl hB (Rel.refl H) (.bl _)⟩
theorem t_inL {d : D} {ds : List D} (hu : X.A.units + 65 < cLine) (hd : SeqAt.shaped d = true) (hs : SeqAt.shaped (.list ds) = true) (ha : ED X W ρ a d) (hb : ED X W ρ b (.list ds)) (hm : behindInMarks .In b = false := by rfl) :
    TD X W ρ (.Compare a [.In] [b] pos) (ds.any fun z => PyData.eqv z d) := t_cmp (op_inD hu) ha hb (od_inD hd hs) hm
theorem e_inL {d : D} {ds : List D} (hu : X.A.units + 65 < cLine) (hd : SeqAt.shaped d = true) (hs : SeqAt.shaped (.list ds) = true) (ha : ED X W ρ a d) (hb : ED X W ρ b (.list ds)) (hm : behindInMarks .In b = false := by rfl) :
    ED X W ρ (.Compare a [.In] [b] pos) (.bool (ds.any fun z => PyData.eqv z d)) := e_cmp (op_inD hu) ha hb (od_inD hd hs) hm
/-- x in a tuple of data -/
def rInT (K : PySem.W.Frag) : R2 := fun x y H Q => ∃ d ds, Dp K H x d ∧ Dp K H y (.tuple ds) ∧ SeqAt.shaped d = true ∧ SeqAt.shaped (.list ds) = true ∧ Q (.bl (ds.any fun z => PyData.eqv z d)) H
def rNotInT (K : PySem.W.Frag) : R2 := fun x y H Q => ∃ d ds, Dp K H x d ∧ Dp K H y (.tuple ds) ∧ SeqAt.shaped d = true ∧ SeqAt.shaped (.list ds) = true ∧ Q (.bl (!ds.any fun z => PyData.eqv z d)) H
theorem lay_list {ds : List D} (h : SeqAt.shaped (.list ds) = true) : PyData.canLayAll0 ds = true := by
  have := SeqAt.canLay_of_shaped h
  simpa [PyData.canLay0] using this
theorem op_inT (hu : X.A.units + 65 < cLine) : OpR X (compareOp .In) (rInT X.K) := by
  intro pins s σ H u v y z Q I r1 r2 q
  obtain ⟨d, ds, p1, p2, s1, s2, q⟩ := q
  obtain ⟨as, w1⟩ := Dp.reads I d _ _ p1 r1
  obtain ⟨bs, w2⟩ := Dp.reads I (.tuple ds) _ _ p2 r2
  exact SeqAt.in_tuple_reads w2 w1 (lay_list s2) (SeqAt.canLay_of_shaped s1) (room_in_shaped s1 hu) ⟨.bl _, H, I, rfl, q⟩
theorem op_notInT (hu : X.A.units + 65 < cLine) : OpR X (compareOp .NotIn) (rNotInT X.K) := by
  intro pins s σ H u v y z Q I r1 r2 q
  obtain ⟨d, ds, p1, p2, s1, s2, q⟩ := q
  obtain ⟨as, w1⟩ := Dp.reads I d _ _ p1 r1
  obtain ⟨bs, w2⟩ := Dp.reads I (.tuple ds) _ _ p2 r2
  exact SeqAt.notIn_tuple_reads w2 w1 (lay_list s2) (SeqAt.canLay_of_shaped s1) (room_in_shaped s1 hu) ⟨.bl _, H, I, rfl, q⟩
theorem od_inT {d : D} {ds : List D} (hd : SeqAt.shaped d = true) (hs : SeqAt.shaped (.list ds) = true) : OpD K W (rInT K) d (.tuple ds) (fun z => z = .bool (ds.any fun z => PyData.eqv z d)) := fun v1 v2 H Q hB p1 p2 q =>
  ⟨d, ds, dp_mono mask_le _ _ p1, dp_mono mask_le _ _ p2, hd, hs, q _ _ H rfl hB (Rel.refl H) (.bl _)⟩
theorem od_notInT {d : D} {ds : List D} (hd : SeqAt.shaped d = true) (hs : SeqAt.shaped (.list ds) = true) : OpD K W (rNotInT K) d (.tuple ds) (fun z => z = .bool (!ds.any fun z => PyData.eqv z d)) := fun v1 v2 H Q hB p1 p2 q =>
  ⟨d, ds, dp_mono mask_le _ _ p1, dp_mono mask_le _ _ p2, hd, hs, q _ _ H rfl hB (Rel.refl H) (.bl _)⟩
theorem e_inT {d : D} {ds : List D} (hu : X.A.units + 65 < cLine) (hd : SeqAt.shaped d = true) (hs : SeqAt.shaped (.list ds) = true) (ha : ED X W ρ a d) (hb : ED X W ρ b (.tuple ds)) (hm : behindInMarks .In b = false := by rfl) :
    ED X W ρ (.Compare a [.In] [b] pos) (.bool (ds.any fun z => PyData.eqv z d)) := e_cmp (op_inT hu) ha hb (od_inT hd hs) hm
theorem t_inT {d : D} {ds : List D} (hu : X.A.units + 65 < cLine) (hd : SeqAt.shaped d = true) (hs : SeqAt.shaped (.list ds) = true) (ha : ED X W ρ a d) (hb : ED X W ρ b (.tuple ds)) (hm : behindInMarks .In b = false := by rfl) :
    TD X W ρ (.Compare a [.In] [b] pos) (ds.any fun z => PyData.eqv z d) := t_cmp (op_inT hu) ha hb (od_inT hd hs) hm
theorem t_notInT {d : D} {ds : List D} (hu : X.A.units + 65 < cLine) (hd : SeqAt.shaped d = true) (hs : SeqAt.shaped (.list ds) = true) (ha : ED X W ρ a d) (hb : ED X W ρ b (.tuple ds)) (hm : behindInMarks .NotIn b = false := by rfl) :
    TD X W ρ (.Compare a [.NotIn] [b] pos) (!ds.any fun z => PyData.eqv z d) := t_cmp (op_notInT hu) ha hb (od_notInT hd hs) hm
/-- one sign in a text -/
theorem e_inS {ch : Nat} {z : Str} (ha : ED X W ρ a (.str ⟨#[ch]⟩)) (hb : ED X W ρ b (.str z)) (hm : behindInMarks .In b = false := by rfl) : ED X W ρ (.Compare a [.In] [b] pos) (.bool (decide (ch ∈ z.cps.toList))) :=
  e_cmp op_in_sign ha hb (fun v1 v2 H Q hB p1 p2 q => ⟨ch, z, dp_str p1, dp_str p2, q _ _ H rfl hB (Rel.refl H) (.bl _)⟩) hm
/-! ### slices -/
theorem dps_cut {H : Hp} {vs : List V} {ds : List D} (h : DpAll K H vs ds) (i n : Nat) : DpAll K H ((vs.drop i).take n) ((ds.drop i).take n) := by
  induction i generalizing vs ds with
  | zero =>
    rw [List.drop_zero, List.drop_zero]
    induction n generalizing vs ds with
    | zero => rw [List.take_zero, List.take_zero]; exact .nil
    | succ n ih =>
      cases ds with
      | nil => cases h; exact .nil
      | cons d ds =>
        cases h with
        | cons h1 h2 => exact .cons h1 (ih h2)
  | succ i ih =>
    cases ds with
    | nil => cases h; rw [List.drop_nil, List.drop_nil, List.take_nil, List.take_nil]; exact .nil
    | cons d ds =>
      cases h with
      | cons h1 h2 => exact ih h2
/-- t[n:], n written, a tuple of more than n (n from 1 on) -/
theorem e_dropT {ds : List D} {n : Nat} {k : Nat} {p2 p3 : Pos} (ha : ED X W ρ a (.tuple ds)) (h0 : 0 < n) (h1 : n ≤ ds.length) : ED X W ρ (.Subscript a (.Slice (some (.Constant (.int n) k p2)) none none p3) pos) (.tuple (ds.drop n)) :=
  pe_imp (pe_slice sl_tup ha (po_some pe_int) po_none) fun σ H Q ⟨hB, hR, q⟩ => ⟨hB, hR, fun d v H' r B' l' p' => by
    subst r
    obtain ⟨t, xs, e1, e2, e3⟩ := dp_tup p'
    have hl := DpAll.len e3
    have ez : HT.sIx xs.length 0 (some (n : Int)) = n := by
      unfold HT.sIx
      simp only
      rw [if_neg (by omega)]
      omega
    have ez2 : HT.sIx xs.length xs.length none = xs.length := rfl
    refine ⟨(n : Int), rfl, t, xs, e1, Same.tup mask_le e2, by rw [ez]; omega, fun pp hp => ?_⟩
    obtain ⟨c1, c2, c3⟩ := W.new (o := .tup (cutV xs (some (n : Int)) none)) B' hp
    refine q _ _ _ rfl c1 (l'.trans c2) ?_
    have e4 : cutV xs (some (n : Int)) none = (xs.drop n).take (ds.length - n) := by
      unfold cutV
      rw [ez, ez2, hl]
    have e5 : ds.drop n = (ds.drop n).take (ds.length - n) := by
      rw [List.take_of_length_le]
      rw [List.length_drop]
      exact Nat.le_refl _
    rw [e4, e5]
    exact dp_newT B' hp (dps_cut e3 n (ds.length - n))⟩
/-- a part of a text -/
theorem e_cutS {z : Str} {n : Nat} {k : Nat} {p2 p3 : Pos} (ha : ED X W ρ a (.str z)) (hz : z.length ≤ sizeLine) : ED X W ρ (.Subscript a (.Slice (some (.Constant (.int n) k p2)) none none p3) pos) (.str (cutS z (some (n : Int)) none)) :=
  pe_imp (pe_slice sl_str ha (po_some pe_int) po_none) fun σ H Q ⟨hB, hR, q⟩ => ⟨hB, hR, fun d v H' r B' l' p' => by
    subst r
    exact ⟨(n : Int), rfl, z, dp_str p', hz, q _ _ H' rfl B' l' (.str _)⟩⟩
theorem e_headS {z : Str} {n : Nat} {k : Nat} {p2 p3 : Pos} (ha : ED X W ρ a (.str z)) (hz : z.length ≤ sizeLine) : ED X W ρ (.Subscript a (.Slice none (some (.Constant (.int n) k p2)) none p3) pos) (.str (cutS z none (some (n : Int)))) :=
  pe_imp (pe_slice sl_str ha po_none (po_some pe_int)) fun σ H Q ⟨hB, hR, q⟩ => ⟨hB, hR, fun d v H' r B' l' p' => by
    subst r
    exact ⟨(n : Int), rfl, z, dp_str p', hz, q _ _ H' rfl B' l' (.str _)⟩⟩
/-- the first sign -/
theorem e_signS {z : Str} {ch : Nat} {k : Nat} {p2 : Pos} (ha : ED X W ρ a (.str z)) (hz : z.length ≤ sizeLine) (h : z.cps.toList[0]? = some ch) : ED X W ρ (.Subscript a (.Constant (.int 0) k p2) pos) (.str ⟨#[ch]⟩) :=
  e_ixR ix_str ha e_int (fun x y e1 e2 => by
    subst e1 e2
    intro v1 v2 H Q hB p1 p2 q
    exact ⟨z, 0, ch, dp_str p1, dp_int p2, hz, atI_nat (j := 0) h, q _ _ H rfl hB (Rel.refl H) (.str _)⟩) (fun _ _ => rfl)
/-! ### texts -/
theorem e_addS {y z : Str} (hz : y.length + z.length ≤ sizeLine) (ha : ED X W ρ a (.str y)) (hb : ED X W ρ b (.str z)) : ED X W ρ (.BinOp a .Add b pos) (.str (y ++ z)) :=
  e_op op_add_str ha hb fun v1 v2 H Q hB p1 p2 q => ⟨y, z, dp_str p1, dp_str p2, hz, q _ _ H rfl hB (Rel.refl H) (.str _)⟩
theorem dps_str {H : Hp} : ∀ (ys : List Str), DpAll K H (ys.map V.str) (ys.map PyData.str)
  | [] => .nil
  | y :: ys => .cons (.str y) (dps_str ys)
theorem dps_strs {H : Hp} : ∀ {ys : List Str} {vs : List V}, DpAll K H vs (ys.map PyData.str) → vs = ys.map V.str
  | [], _, h => by cases h; rfl
  | y :: ys, _, h => by
    cases h with
    | cons h1 h2 => rw [dp_str h1, dps_strs h2]; rfl
theorem e_split {y z : Str} {apos : Pos} (h0 : (z.length == 0) = false) (hz : y.length + 2 ≤ sizeLine) (ho : ED X W ρ o (.str y)) (he : ED X W ρ e (.str z))
    (hs : starEach [e] X.env = [(false, eval e X.env)] := by rfl) (hbase : attributeBase o "split" X.env (eval o X.env) = eval o X.env := by rfl) (hline : (apos.endLine == pos.line) = true := by rfl) :
    ED X W ρ (.Call (.Attribute o "split" apos) [e] [] pos) (.list ((Txt.split y z).map PyData.str)) :=
  pe_imp (pe_split ho he hs hbase hline) fun σ H Q ⟨hB, hR, q⟩ => ⟨hB, hR, fun d v H1 r B1 l1 p1 => by
    subst r
    refine ⟨⟨y, dp_str p1⟩, B1, hR.mono l1, fun d2 v2 H2 r2 B2 l2 p2 => ?_⟩
    subst r2
    refine ⟨y, z, dp_str p1, by rw [dp_str p2], h0, hz, fun pp hp => ?_⟩
    obtain ⟨c1, c2, c3⟩ := W.new (o := .lst ((Txt.split y z).map V.str)) B2 hp
    exact q _ _ _ rfl c1 ((l1.trans l2).trans c2) (dp_newL B2 hp (dps_str _))⟩
theorem e_join {y : Str} {ys : List Str} {apos : Pos} (hz : (ys.map (·.length)).sum + ys.length * y.length ≤ 16777216) (ho : ED X W ρ o (.str y)) (he : ED X W ρ e (.list (ys.map PyData.str)))
    (hs : starEach [e] X.env = [(false, eval e X.env)] := by rfl) (hbase : attributeBase o "join" X.env (eval o X.env) = eval o X.env := by rfl) (hline : (apos.endLine == pos.line) = true := by rfl) :
    ED X W ρ (.Call (.Attribute o "join" apos) [e] [] pos) (.str (Txt.join y ys)) :=
  pe_imp (pe_join ho he hs hbase hline) fun σ H Q ⟨hB, hR, q⟩ => ⟨hB, hR, fun d v H1 r B1 l1 p1 => by
    subst r
    refine ⟨⟨y, dp_str p1⟩, B1, hR.mono l1, fun d2 v2 H2 r2 B2 l2 p2 => ?_⟩
    subst r2
    obtain ⟨t, xs, e1, e2, e3⟩ := dp_lst p2
    have e4 := dps_strs e3
    subst e4
    exact ⟨y, t, ys, dp_str p1, by rw [e1], .inl (Same.seq mask_le e2), hz, q _ _ _ rfl B2 (l1.trans l2) (.str _)⟩⟩
theorem e_intS {y : Str} {n : Int} (hm : X.mg "int" = none) (hn : PySem.intText? y = some n) (hl : y.length ≤ 640) (ha : ED X W ρ a (.str y)) (hg : Gl X "int" := by rfl) (he : starEach [a] X.env = (false, eval a X.env) :: starEach [] X.env := by rfl) :
    ED X W ρ (.Call (.Name "int" p) [a] [] pos) (.int n) :=
  e_callTy call_int_str hm (a_cons ha a_nil he) (fun ds r vs H Q hB p1 q => by
    subst r
    obtain ⟨v, e1, e2⟩ := dps1 p1
    subst e1
    rw [dp_str e2]
    exact ⟨y, n, rfl, hn, hl, q _ _ H rfl hB (Rel.refl H) (.int _)⟩) hg (by decide +kernel) (by decide) (by decide) he
/-! ### lists and tuples by built-ins -/
theorem dps_bls {H : Hp} : ∀ {bs : List Bool} {vs : List V}, DpAll K H vs (bs.map PyData.bool) → vs = bs.map V.bl
  | [], _, h => by cases h; rfl
  | y :: ys, _, h => by
    cases h with
    | cons h1 h2 => rw [dp_bl h1, dps_bls h2]; rfl
theorem e_all {bs : List Bool} (hc : X.calm = true) (hm : X.mg "all" = none) (ha : ED X W ρ a (.list (bs.map PyData.bool))) (hg : Gl X "all" := by rfl) (he : starEach [a] X.env = (false, eval a X.env) :: starEach [] X.env := by rfl) :
    ED X W ρ (.Call (.Name "all" p) [a] [] pos) (.bool (bs.all id)) :=
  e_callB (cr_all hc) hm (a_cons ha a_nil he) (fun ds r vs H Q hB p1 q => by
    subst r
    obtain ⟨v, e1, e2⟩ := dps1 p1
    subst e1
    obtain ⟨t, xs, f1, f2, f3⟩ := dp_lst e2
    have f4 := dps_bls f3
    subst f4 f1
    exact ⟨t, bs, rfl, Same.seq mask_le f2, q _ _ H rfl hB (Rel.refl H) (.bl _)⟩) hg (by decide +kernel) (by decide) (by decide) he
theorem e_tupleL {ds : List D} (hm : X.mg "tuple" = none) (ha : ED X W ρ a (.list ds)) (hg : Gl X "tuple" := by rfl) (he : starEach [a] X.env = (false, eval a X.env) :: starEach [] X.env := by rfl) :
    ED X W ρ (.Call (.Name "tuple" p) [a] [] pos) (.tuple ds) :=
  e_callTy call_tuple_of hm (a_cons ha a_nil he) (fun ds' r vs H Q hB p1 q => by
    subst r
    obtain ⟨v, e1, e2⟩ := dps1 p1
    subst e1
    obtain ⟨t, xs, f1, f2, f3⟩ := dp_lst e2
    subst f1
    refine ⟨t, xs, rfl, .inl ⟨Same.seq mask_le f2, fun pp hp => ?_⟩⟩
    obtain ⟨c1, c2, c3⟩ := W.new (o := .tup xs) hB hp
    exact q _ _ _ rfl c1 c2 (dp_newT hB hp f3)) hg (by decide +kernel) (by decide) (by decide) he
/-- repr of a tuple or list -/
def isRef : D → Bool
  | .tuple _ => true
  | .list _ => true
  | _ => false
theorem call_reprD (hG : X.A.guards = some []) : CallR X (.builtin "repr") (fun xs H Q => ∃ y d, xs = [y] ∧ Dp X.K H y d ∧ isRef d = true ∧ d.showable = true ∧ d.hasDict = false ∧ X.A.units + (d.depth + 1) < cLine ∧ d.shown.length ≤ sizeLine ∧ Q (.str d.shown) H) := by
  intro pins s σ H xs us Q I r q
  obtain ⟨y, d, rfl, p1, hr, h1, h2, h3, h4, q⟩ := q
  obtain ⟨u, rfl, ru⟩ := vals1 r
  obtain ⟨as, w1⟩ := Dp.reads I d _ _ p1 ru
  have go : ∀ t : Addr, u = .ref t → wpAny (model X.prog X.w) X.A (PySem.call (.builtin "repr") [u]) (EP X pins σ Q) X.xe s := by
    intro t e
    subst e
    exact PySem.repr_of_reads' w1 h1 (fun z => by rw [h2] at z; cases z) hG h3 (fun _ _ z => z) (fun h' u' tk k => ⟨.str d.shown, H, I.kept k, ⟨u', rfl⟩, q⟩) h4
  cases p1 with
  | lst g1 g2 => exact go _ ru
  | tup g1 g2 => exact go _ ru
  | _ => cases hr
theorem e_repr {d : D} (hG : X.A.guards = some []) (hm : X.mg "repr" = none) (hr : isRef d = true) (h1 : d.showable = true) (h2 : d.hasDict = false) (h3 : X.A.units + (d.depth + 1) < cLine) (h4 : d.shown.length ≤ sizeLine) (ha : ED X W ρ a d)
    (hg : Gl X "repr" := by rfl) (he : starEach [a] X.env = (false, eval a X.env) :: starEach [] X.env := by rfl) : ED X W ρ (.Call (.Name "repr" p) [a] [] pos) (.str d.shown) :=
  e_callB (call_reprD hG) hm (a_cons ha a_nil he) (fun ds r vs H Q hB p1 q => by
    subst r
    obtain ⟨v, e1, e2⟩ := dps1 p1
    exact ⟨v, d, e1, dp_mono mask_le _ _ e2, hr, h1, h2, h3, h4, q _ _ H rfl hB (Rel.refl H) (.str _)⟩) hg (by decide +kernel) (by decide) (by decide) he
theorem dps_rep {H : Hp} {vs : List V} {ds : List D} (h : DpAll K H vs ds) : ∀ k : Nat, DpAll K H (List.replicate k vs).flatten (List.replicate k ds).flatten
  | 0 => .nil
  | k + 1 => by
    rw [List.replicate_succ, List.replicate_succ, List.flatten_cons, List.flatten_cons]
    exact DpAll.app h (dps_rep h k)
/-- xs * k, a list made just now -/
theorem e_rep {ds : List D} {k : Nat} {j : Nat} {p2 pl : Pos} (ha : AD X W ρ es ds) (hl : ds.length ≤ 1000) (hk : ds.length * k ≤ 1000) (hk2 : (k : Int) < 2 ^ 63) : ED X W ρ (.BinOp (.List es pl) .Mult (.Constant (.int k) j p2) pos) (.list (List.replicate k ds).flatten) :=
  pe_imp (pe_op op_rep (pe_lst ha) pe_int) fun σ H Q ⟨hB, hR, q⟩ => ⟨hB, hR, fun ds' vs H1 r B1 l1 p1 => by
    subst r
    have hlen := DpAll.len p1
    refine ⟨by rw [hlen]; exact Nat.le_of_lt (small1000 hl), fun t ht => ?_⟩
    obtain ⟨c1, c2, c3⟩ := W.new (o := .lst vs) B1 ht
    have kn : ((k : Int)).toNat = k := Int.toNat_natCast k
    refine ⟨t, (k : Int), vs, rfl, rfl, upd_same, by omega, hk2, by rw [kn, hlen]; exact Nat.le_of_lt (small1000 hk), fun t2 ht2 => ?_⟩
    obtain ⟨c4, c5, c6⟩ := W.new (o := .lst (List.replicate (k : Int).toNat vs).flatten) c1 ht2
    refine q _ _ _ rfl c4 ((l1.trans c2).trans c5) (dp_newL c1 ht2 ?_)
    rw [kn]
    have p2 : DpAll X.K (mask W.M (upd H1 t (.lst vs))) vs ds' := dps_mono c2 _ _ p1
    exact dps_rep p2 k⟩
end
end DL
end
section
set_option Elab.async false
set_option linter.all false
set_option maxRecDepth 100000
set_option maxHeartbeats 2000000
/-! DL4: list comprehensions over data; a list that may change. -/
namespace DL
open PySem PySem.Spec PyProof.Rows L2
/-- the same world with a list at D that stands as acc -/
def Wd.push (W : Wd) (D : Addr) (acc : List V) : Wd where
  M := fun a => W.M a || decide (a = D)
  B := fun H => W.B H ∧ H D = some (.lst acc)
  loc := fun H H' h ⟨h1, h2⟩ => ⟨W.loc H H' (fun a z => h a (by rw [z]; rfl)) h1, by rw [h D (by simp)]; exact h2⟩
  there := fun H a ⟨h1, h2⟩ z => by
    rcases Bool.or_eq_true_iff.mp z with z | z
    · exact W.there H a h1 z
    · have e : a = D := of_decide_eq_true z
      rw [e, h2]
      exact fun y => by cases y
theorem push_M {W : Wd} {D a : Addr} {acc : List V} (h : (W.push D acc).M a = false) : W.M a = false ∧ a ≠ D := by
  have h1 : (W.M a || decide (a = D)) = false := h
  rw [Bool.or_eq_false_iff] at h1
  exact ⟨h1.1, of_decide_eq_false h1.2⟩
theorem push_Mi {W : Wd} {D a : Addr} {acc : List V} (h1 : W.M a = false) (h2 : a ≠ D) : (W.push D acc).M a = false := by
  show (W.M a || decide (a = D)) = false
  rw [h1, decide_eq_false h2]
  rfl
theorem mask_at {M : Addr → Bool} {H : Hp} {a : Addr} (h : M a = false) : mask M H a = H a := by
  unfold mask
  rw [h]
  exact if_neg Bool.false_ne_true
theorem mask_of {M : Addr → Bool} {H : Hp} {a : Addr} {o : HO} (h : mask M H a = some o) : M a = false ∧ H a = some o := by
  unfold mask at h
  cases e : M a with
  | true =>
    rw [e, if_pos rfl] at h
    cases h
  | false =>
    rw [e] at h
    exact ⟨rfl, by rw [if_neg Bool.false_ne_true] at h; exact h⟩
/-- from a heap without D on -/
theorem push_same {W : Wd} {H H' : Hp} {D : Addr} {acc : List V} (h : H D = none) (l : Rel W.M H H') : Same (mask W.M H) (mask (W.push D acc).M H') := fun a o e => by
  obtain ⟨m, e1⟩ := mask_of e
  have ne : a ≠ D := ne_of_none e1 h
  rw [mask_at (push_Mi m ne)]
  have := l a o e
  rwa [mask_at m] at this
theorem mask_upd {M : Addr → Bool} {H : Hp} {p : Addr} {o : HO} (h : M p = true) : mask M (upd H p o) = mask M H := by
  funext a
  unfold mask
  by_cases e : a = p
  · subst e
    rw [h, if_pos rfl, if_pos rfl]
  · rw [upd_ne e]
theorem push_D {W : Wd} {D : Addr} {acc : List V} : (W.push D acc).M D = true := by
  show (W.M D || decide (D = D)) = true
  rw [decide_eq_true rfl, Bool.or_true]
theorem dps_app1 {K : PySem.W.Frag} {H : Hp} {vs : List V} {ds : List D} {v : V} {d : D} (h : DpAll K H vs ds) (h1 : Dp K H v d) : DpAll K H (vs ++ [v]) (ds ++ [d]) := DpAll.app h (.cons h1 .nil)
/-- how far a comprehension has come -/
def LcI (K : PySem.W.Frag) (W : Wd) (H1 : Hp) (D : Addr) (Rj : Nat → PyData → Prop) (j : Nat) (H : Hp) : Prop := ∃ (vs : List V) (res : List PyData), W.B H ∧ Rel W.M H1 H ∧ H D = some (.lst vs) ∧ DpAll K (mask (W.push D []).M H) vs res ∧ res.length = j ∧ ∀ (i : Nat) (r : PyData), res[i]? = some r → Rj i r
section
variable {X : Cx} {W : Wd} {ρ : En} {K : PySem.W.Frag} {H1 : Hp} {D : Addr} {Rj : Nat → DL.D → Prop}
theorem lcI_0 (hB : W.B H1) (hD : H1 D = none) : LcI K W H1 D Rj 0 (upd H1 D (.lst [])) := by
  obtain ⟨c1, c2, c3⟩ := W.new (o := .lst []) hB hD
  exact ⟨[], [], c1, c2, upd_same, .nil, rfl, fun i r e => by simp at e⟩
/-- one turn -/
theorem lcI_turn {i : Nat} {σ : L2.St} {j n : Nat} {d : DL.D} {v : V} {H : Hp} {te : Wd → TE} {te0 : TE} (hD : H1 D = none) (hm : W.M D = false) (hR : RE K (mask W.M H1) σ ρ) (hn : j < n) (hz : n ≤ 1000) (h : LcI K W H1 D Rj j H) (hv : Dp K (mask W.M H1) v d)
    (hte : ∀ (acc : List V) (H : Hp) (σ : L2.St) (Q : VK), tE K (W.push D acc) ((ρ.set i .no).set i (.d d)) (Rj j) σ H Q → te0 σ H Q) :
    te0 ((σ.set i none).set i (some v)) H fun y H4 => ∃ acc, H4 D = some (.lst acc) ∧ acc.length < sizeLine ∧ LcI K W H1 D Rj (j + 1) (upd H4 D (.lst (acc ++ [y]))) := by
  obtain ⟨vs, res, hB, l, hd, p, hl, hr⟩ := h
  have s1 : Same (mask W.M H1) (mask (W.push D vs).M H) := push_same hD l
  have hR1 : RE K (mask (W.push D vs).M H) σ ρ := hR.mono s1
  have hR2 : RE K (mask (W.push D vs).M H) ((σ.set i none).set i (some v)) ((ρ.set i .no).set i (.d d)) := by
    refine RE.setD ⟨by rw [List.length_set, List.length_set]; exact hR1.1, fun k x e => ?_⟩ (dp_mono s1 _ _ hv)
    by_cases hk : i = k
    · subst hk
      by_cases hi : i < ρ.length
      · rw [List.getElem?_set_self hi] at e
        cases e
        trivial
      · rw [List.getElem?_eq_none (by rw [List.length_set]; omega)] at e
        cases e
    · rw [List.getElem?_set_ne hk] at e ⊢
      exact hR1.2 k x e
  refine hte vs H _ _ ⟨⟨hB, hd⟩, hR2, fun r y H4 rr B4 l4 p4 => ?_⟩
  obtain ⟨hB4, hd4⟩ := B4
  have hvl : vs.length = j := by rw [DpAll.len p, hl]
  refine ⟨vs, hd4, small1000 (by omega), vs ++ [y], res ++ [r], W.off hB4 hm, ?_, upd_same, ?_, ?_, ?_⟩
  · intro a o e
    obtain ⟨m, e1⟩ := mask_of e
    have ne : a ≠ D := ne_of_none e1 hD
    have m2 : (W.push D vs).M a = false := push_Mi m ne
    have e2 := s1 a o e
    have e3 := l4 a o e2
    rw [mask_at m2] at e3
    rw [mask_at m, upd_ne ne]
    exact e3
  · have e : mask (W.push D []).M (upd H4 D (.lst (vs ++ [y]))) = mask (W.push D []).M H4 := mask_upd push_D
    rw [e]
    exact dps_app1 (dps_mono l4 _ _ p) p4
  · rw [List.length_append, hl]; rfl
  · intro k x e
    by_cases hk : k < res.length
    · rw [List.getElem?_append_left hk] at e
      exact hr k x e
    · rw [List.getElem?_append_right (by omega)] at e
      have hk0 : k - res.length = 0 := by
        cases q : k - res.length with
        | zero => rfl
        | succ m => rw [q] at e; simp at e
      rw [hk0] at e
      have e1 : r = x := by simpa using e
      have e2 : k = j := by omega
      rw [← e1, e2]
      exact rr
theorem lcI_end {n : Nat} {H : Hp} {R : DL.D → Prop} {Q : VK} (hm : W.M D = false) (h : LcI K W H1 D Rj n H) (hres : ∀ res : List DL.D, res.length = n → (∀ (i : Nat) (r : DL.D), res[i]? = some r → Rj i r) → R (.list res))
    (q : ∀ (d : DL.D) (v : V) (H' : Hp), R d → W.B H' → Rel W.M H1 H' → Dp K (mask W.M H') v d → Q v H') : Q (.ref D) H := by
  obtain ⟨vs, res, hB, l, hd, p, hl, hr⟩ := h
  refine q (.list res) (.ref D) H (hres res hl hr) hB l (.lst (SqL.of ?_) (dps_mono (fun a o e => ?_) _ _ p))
  · rw [mask_at hm]; exact hd
  · obtain ⟨m, e1⟩ := mask_of e
    rw [mask_at (push_M m).1]
    exact e1
/-- what a turn's element is asked -/
def tEl (K : PySem.W.Frag) (W : Wd) (ρ : En) (i : Nat) (C : Nat → PyData → Prop) (Rj : Nat → PyData → Prop) : TE := fun σ H Q => ∃ (L : Addr) (acc : List V) (j : Nat) (d : PyData), W.M L = false ∧ C j d ∧ tE K (W.push L acc) ((ρ.set i .no).set i (.d d)) (Rj j) σ H Q
/-- the context of a comprehension's block -/
abbrev BlkX (X : Cx) (scope : Scope) (P : Cx → Prop) : Prop := ∀ (s : Shared) (H : Hp) (C : Addr) (cl : List (Str × Addr)) (fp : List Addr), P (X.blk s H scope (compEnvC scope cl C X.env) fp)
variable {elt e : Expr} {scope : Scope} {pos pos' pr pc : Pos} {i : Nat} {x : Str} {R : DL.D → Prop}
/-- [elt for x in e], e a tuple | a list of data -/
theorem e_lcT {ds : List DL.D} (hc : X.calm = true) (nd : X.N.Nodup) (ok : blkC X.N X.env.scope scope [(x, i)] = true) (hi : X.N[i]? = some x) (he : ED X W ρ e (.tuple ds)) (hz : ds.length ≤ 1000)
    (hx : BlkX X scope fun Y => Loc Y.env.scope x ∧ (Y.fn x = true ∨ Y.env.scope.names.lookup x = some .local))
    (hel : BlkX X scope fun Y => ∀ (D : Addr) (acc : List V) (j : Nat) (d : DL.D), W.M D = false → ds[j]? = some d → EDr Y (W.push D acc) ((ρ.set i .no).set i (.d d)) elt (Rj j))
    (hres : ∀ res : List DL.D, res.length = ds.length → (∀ (i : Nat) (r : DL.D), res[i]? = some r → Rj i r) → R (.list res))
    (hs : ∀ z, foldedSetIterable e X.env z = pure z := by intro _; rfl) : EDr X W ρ (.ListComp elt [⟨.Name x pos', e, [], 0⟩] scope pos) R := by
  have hte : BlkX X scope fun Y => PE Y elt (tEl X.K W ρ i (fun j d => ds[j]? = some d) Rj) :=
    fun s H C cl fp => ⟨fun pins s' σ H' Q I ⟨D, acc, j, d, h1, h2, h3⟩ => (hel s H C cl fp D acc j d h1 h2).run pins s' σ H' Q I h3⟩
  refine pe_imp (pe_lc (own := [(x, i)]) hc nd (pi_tup he) (blkOk_by ok) (fun s H C cl fp => pg_name (i := i) nd hi (hx s H C cl fp).1 (hx s H C cl fp).2) (fun _ _ _ _ _ => pts_nil) hte hs) fun σ H Q ⟨hB, hR, q⟩ => ?_
  refine ⟨hB, hR, fun d v H1 r B1 l1 p1 => ?_⟩
  subst r
  obtain ⟨t, xs, e1, e2, e3⟩ := dp_tup p1
  have hlen := DpAll.len e3
  refine ⟨t, e1, ⟨xs, Same.tup mask_le e2⟩, fun D hD => ?_⟩
  have hm : W.M D = false := (W.new (o := .lst []) B1 hD).1 |> fun _ => (W.st H1 D (.lst []) B1 hD).1
  refine lc_tup (K := X.K) (a := t) (xs := xs) (g := gName i) (tt := tYes) (te := tEl X.K W ρ i (fun j d => ds[j]? = some d) Rj) (vs := [i]) (σ := σ) (Qd := fun H2 => Q (.ref D) H2) (LcI X.K W H1 D Rj) (lcI_0 B1 hD) (fun j H2 _ h => ?_) (fun j v2 H2 hj h => ?_) fun H2 h => ?_
  · obtain ⟨_, _, _, l, _⟩ := h
    exact Same.tup mask_le (Same.tup l e2)
  · obtain ⟨d, g1, g2⟩ := DpAll.getV e3 hj
    have hjl : j < ds.length := (List.getElem?_eq_some_iff.mp g1).1
    refine ⟨?_, ?_⟩
    · show ((σ.set i none).set i (some v2)).set i none = σ.set i none
      rw [List.set_set, List.set_set]
    · unfold tYes
      refine iteT ?_
      exact lcI_turn (te := fun _ => fun _ _ _ => True) (i := i) (n := ds.length) hD hm (hR.mono l1) hjl hz h g2 fun acc H3 σ3 Q3 z => ⟨D, acc, j, d, hm, g1, z⟩
  · rw [hlen] at h
    exact lcI_end hm h hres fun d v H' r B' l' p' => q d v H' r B' (l1.trans l') p'
theorem e_lcL {ds : List DL.D} (hc : X.calm = true) (nd : X.N.Nodup) (ok : blkC X.N X.env.scope scope [(x, i)] = true) (hi : X.N[i]? = some x) (he : ED X W ρ e (.list ds)) (hz : ds.length ≤ 1000)
    (hx : BlkX X scope fun Y => Loc Y.env.scope x ∧ (Y.fn x = true ∨ Y.env.scope.names.lookup x = some .local))
    (hel : BlkX X scope fun Y => ∀ (D : Addr) (acc : List V) (j : Nat) (d : DL.D), W.M D = false → ds[j]? = some d → EDr Y (W.push D acc) ((ρ.set i .no).set i (.d d)) elt (Rj j))
    (hres : ∀ res : List DL.D, res.length = ds.length → (∀ (i : Nat) (r : DL.D), res[i]? = some r → Rj i r) → R (.list res))
    (hs : ∀ z, foldedSetIterable e X.env z = pure z := by intro _; rfl) : EDr X W ρ (.ListComp elt [⟨.Name x pos', e, [], 0⟩] scope pos) R := by
  have hte : BlkX X scope fun Y => PE Y elt (tEl X.K W ρ i (fun j d => ds[j]? = some d) Rj) :=
    fun s H C cl fp => ⟨fun pins s' σ H' Q I ⟨D, acc, j, d, h1, h2, h3⟩ => (hel s H C cl fp D acc j d h1 h2).run pins s' σ H' Q I h3⟩
  refine pe_imp (pe_lc (own := [(x, i)]) hc nd (pi_list he) (blkOk_by ok) (fun s H C cl fp => pg_name (i := i) nd hi (hx s H C cl fp).1 (hx s H C cl fp).2) (fun _ _ _ _ _ => pts_nil) hte hs) fun σ H Q ⟨hB, hR, q⟩ => ?_
  refine ⟨hB, hR, fun d v H1 r B1 l1 p1 => ?_⟩
  subst r
  obtain ⟨t, xs, e1, e2, e3⟩ := dp_lst p1
  have hlen := DpAll.len e3
  refine ⟨t, e1, ⟨xs, Same.seq mask_le e2⟩, fun D hD => ?_⟩
  have hm : W.M D = false := (W.st H1 D (.lst []) B1 hD).1
  refine lc_list (K := X.K) (a := t) (xs := xs) (g := gName i) (tt := tYes) (te := tEl X.K W ρ i (fun j d => ds[j]? = some d) Rj) (vs := [i]) (σ := σ) (Qd := fun H2 => Q (.ref D) H2) (LcI X.K W H1 D Rj) (lcI_0 B1 hD) (fun j H2 _ h => ?_) (fun j v2 H2 hj h => ?_) fun H2 h => ?_
  · obtain ⟨_, _, _, l, _⟩ := h
    exact Same.seq mask_le (Same.seq l e2)
  · obtain ⟨d, g1, g2⟩ := DpAll.getV e3 hj
    have hjl : j < ds.length := (List.getElem?_eq_some_iff.mp g1).1
    refine ⟨?_, ?_⟩
    · show ((σ.set i none).set i (some v2)).set i none = σ.set i none
      rw [List.set_set, List.set_set]
    · unfold tYes
      refine iteT ?_
      exact lcI_turn (te := fun _ => fun _ _ _ => True) (i := i) (n := ds.length) hD hm (hR.mono l1) hjl hz h g2 fun acc H3 σ3 Q3 z => ⟨D, acc, j, d, hm, g1, z⟩
  · rw [hlen] at h
    exact lcI_end hm h hres fun d v H' r B' l' p' => q d v H' r B' (l1.trans l') p'
/-- [elt for x in range(n)] -/
theorem e_lcN {n : Nat} (hc : X.calm = true) (nd : X.N.Nodup) (ok : blkC X.N X.env.scope scope [(x, i)] = true) (hi : X.N[i]? = some x) (hmr : X.mg "range" = none) (he : ED X W ρ e (.int n)) (hz : n ≤ 1000)
    (hx : BlkX X scope fun Y => Loc Y.env.scope x ∧ (Y.fn x = true ∨ Y.env.scope.names.lookup x = some .local))
    (hel : BlkX X scope fun Y => ∀ (D : Addr) (acc : List V) (j : Nat), W.M D = false → j < n → EDr Y (W.push D acc) ((ρ.set i .no).set i (.d (.int (j : Nat)))) elt (Rj j))
    (hres : ∀ res : List DL.D, res.length = n → (∀ (i : Nat) (r : DL.D), res[i]? = some r → Rj i r) → R (.list res))
    (hg : Gl X "range" := by rfl) (hs1 : starEach [e] X.env = [(false, eval e X.env)] := by rfl)
    (hs : ∀ z, foldedSetIterable (.Call (.Name "range" pr) [e] [] pc) X.env z = pure z := by intro _; rfl) : EDr X W ρ (.ListComp elt [⟨.Name x pos', .Call (.Name "range" pr) [e] [] pc, [], 0⟩] scope pos) R := by
  have hte : BlkX X scope fun Y => PE Y elt (tEl X.K W ρ i (fun j d => j < n ∧ d = .int (j : Nat)) Rj) :=
    fun s H C cl fp => ⟨fun pins s' σ H' Q I ⟨D, acc, j, d, h1, h2, h3⟩ => by obtain ⟨h2, rfl⟩ := h2; exact (hel s H C cl fp D acc j h1 h2).run pins s' σ H' Q I h3⟩
  have ha : AD X W ρ [e] [.int n] := a_cons he a_nil (by rw [hs1]; rfl)
  refine pe_imp (pe_lc (own := [(x, i)]) hc nd (pi_range1 hg hmr ha hs1) (blkOk_by ok) (fun s H C cl fp => pg_name (i := i) nd hi (hx s H C cl fp).1 (hx s H C cl fp).2) (fun _ _ _ _ _ => pts_nil) hte hs) fun σ H Q ⟨hB, hR, q⟩ => ?_
  refine ⟨hB, hR, fun ds vs H1 r B1 l1 p1 => ?_⟩
  subst r
  obtain ⟨v, e1, e2⟩ := dps1 p1
  subst e1
  rw [dp_int e2]
  refine ⟨(n : Int), rfl, by omega, by omega, fun D hD => ?_⟩
  have hm : W.M D = false := (W.st H1 D (.lst []) B1 hD).1
  have hn : ((n : Int)).toNat = n := Int.toNat_natCast n
  rw [hn]
  refine lc_range (lo := 0) (n := n) (g := gName i) (tt := tYes) (te := tEl X.K W ρ i (fun j d => j < n ∧ d = .int (j : Nat)) Rj) (vs := [i]) (σ := σ) (Qd := fun H2 => Q (.ref D) H2) (LcI X.K W H1 D Rj) (lcI_0 B1 hD) (fun j H2 hj h => ?_) fun H2 h => ?_
  · refine ⟨?_, ?_⟩
    · show ((σ.set i none).set i _).set i none = σ.set i none
      rw [List.set_set, List.set_set]
    · unfold tYes
      refine iteT ?_
      have ez : (0 : Int) + (j : Int) = (j : Nat) := by omega
      rw [ez]
      exact lcI_turn (te := fun _ => fun _ _ _ => True) (i := i) (n := n) hD hm (hR.mono l1) hj hz h (.int (j : Nat)) fun acc H3 σ3 Q3 z => ⟨D, acc, j, _, hm, ⟨hj, rfl⟩, z⟩
  · exact lcI_end hm h hres fun d v H' r B' l' p' => q d v H' r B' (l1.trans l') p'
end
end DL
namespace DL
open PySem PySem.Spec PyProof.Rows L2
section
variable {X : Cx} {W : Wd} {ρ : En} {a b c e : Expr} {rest : List Stmt} {pos : Pos} {Φ : Oc → Prop}
theorem e_ifD {k : Bool} {d1 d2 : DL.D} (hc : TD X W ρ c k) (ha : k = true → ED X W ρ a d1) (hb : k = false → ED X W ρ b d2) : ED X W ρ (.IfExp c a b pos) (if k = true then d1 else d2) := by
  cases k with
  | true => exact e_if hc (fun h => (ha h).to (if_pos rfl).symm) fun h => by cases h
  | false => exact e_if hc (fun h => by cases h) fun h => (hb h).to (if_neg Bool.false_ne_true).symm
theorem b_un2 (i j : Nat) {d1 d2 : DL.D} {x y : Str} {px py pt : Pos} {kt} (hc : X.calm = true) (nd : X.N.Nodup) (hi : X.N[i]? = some x) (hj : X.N[j]? = some y) (hx : Loc X.env.scope x) (hy : Loc X.env.scope y)
    (he : ED X W ρ e (.tuple [d1, d2])) (h : BD X W ((ρ.set i (.d d1)).set j (.d d2)) rest Φ)
    (hs : swapsWithSole [.Tuple [.Name x px, .Name y py] kt pt] e pos.line X.env = pure false := by rfl) (hw : swappedStores [.Tuple [.Name x px, .Name y py] kt pt] e X.env = pure none := by rfl)
    (h1 : (assignEach [.Tuple [.Name x px, .Name y py] kt pt] X.env).map (·.2) = [assign (.Tuple [.Name x px, .Name y py] kt pt) X.env] := by rfl)
    (hn : (assignEach [.Name x px, .Name y py] X.env).length = 2 := by rfl) (hst : (assignEach [.Name x px, .Name y py] X.env).findIdx? (·.1) = none := by rfl)
    (hc1 : (assignEach [.Name x px, .Name y py] X.env).map (·.2) = assign (.Name x px) X.env :: (assignEach [.Name y py] X.env).map (·.2) := by rfl) (hc2 : (assignEach [.Name y py] X.env).map (·.2) = assign (.Name y py) X.env :: (assignEach [] X.env).map (·.2) := by rfl)
    (hf : X.fn x = true ∨ X.env.scope.names.lookup x = some .local := by first | exact .inl rfl | exact .inr rfl | assumption) (hf2 : X.fn y = true ∨ X.env.scope.names.lookup y = some .local := by first | exact .inl rfl | exact .inr rfl | assumption) :
    BD X W ρ (.Assign [.Tuple [.Name x px, .Name y py] kt pt] e pos :: rest) Φ :=
  b_un2R i j hc nd hi hj hx hy he (fun d r => ⟨d1, d2, r, h⟩) hs hw h1 hn hst hc1 hc2 hf hf2
/-- what is never reached: a raise where the test is not met -/
theorem b_never {sts : List Stmt} (h : False) : BD X W ρ sts Φ := h.elim
end
end DL
namespace DL
open PySem PySem.Spec PyProof.Rows L2
theorem hu65 {A : Around} {k : Nat} (hr : Room k A) : A.units + 65 < cLine := by have := hr.un; omega
section
variable {X : Cx} {W : Wd} {ρ : En} {a b c e : Expr} {rest : List Stmt} {pos : Pos} {Φ : Oc → Prop} {R : PyData → Prop}
theorem e_ifI {k : Bool} {i j : Int} (hc : TD X W ρ c k) (ha : k = true → ED X W ρ a (.int i)) (hb : k = false → ED X W ρ b (.int j)) : ED X W ρ (.IfExp c a b pos) (.int (if k = true then i else j)) := by
  cases k with
  | true => exact e_if hc (fun h => (ha h).to (by rw [if_pos rfl])) fun h => by cases h
  | false => exact e_if hc (fun h => by cases h) fun h => (hb h).to (by rw [if_neg Bool.false_ne_true])
theorem b_augAdd (i : Nat) {n m : Int} {x : Str} {pos' : Pos} (nd : X.N.Nodup) (hi : X.N[i]? = some x) (hx : Loc X.env.scope x) (h0 : ρ[i]? = some (.d (.int n))) (he : ED X W ρ e (.int m)) (h : BD X W (ρ.set i (.d (.int (n + m)))) rest Φ)
    (hf : X.fn x = true ∨ X.env.scope.names.lookup x = some .local := by first | exact .inl rfl | exact .inr rfl | assumption) : BD X W ρ (.AugAssign (.Name x pos') .Add e pos :: rest) Φ :=
  b_aug i nd hi hx h0 he iop_add (od_I0 (gd := fun i j => .int (i + j)) (fun _ _ _ => .int _) n m) (fun d r => by subst r; exact h) hf
theorem b_augMul (i : Nat) {n m : Int} {x : Str} {pos' : Pos} (hc : CMul n m) (nd : X.N.Nodup) (hi : X.N[i]? = some x) (hx : Loc X.env.scope x) (h0 : ρ[i]? = some (.d (.int n))) (he : ED X W ρ e (.int m)) (h : BD X W (ρ.set i (.d (.int (n * m)))) rest Φ)
    (hf : X.fn x = true ∨ X.env.scope.names.lookup x = some .local := by first | exact .inl rfl | exact .inr rfl | assumption) : BD X W ρ (.AugAssign (.Name x pos') .Mult e pos :: rest) Φ :=
  b_aug i nd hi hx h0 he iop_mul (od_I (gd := fun i j => .int (i * j)) (fun _ _ _ => .int _) n m hc) (fun d r => by subst r; exact h) hf
theorem b_augDiv (i : Nat) {n m : Int} {x : Str} {pos' : Pos} (hc : CDivW n m) (nd : X.N.Nodup) (hi : X.N[i]? = some x) (hx : Loc X.env.scope x) (h0 : ρ[i]? = some (.d (.int n))) (he : ED X W ρ e (.int m)) (h : BD X W (ρ.set i (.d (.int (n / m)))) rest Φ)
    (hf : X.fn x = true ∨ X.env.scope.names.lookup x = some .local := by first | exact .inl rfl | exact .inr rfl | assumption) : BD X W ρ (.AugAssign (.Name x pos') .FloorDiv e pos :: rest) Φ :=
  b_aug i nd hi hx h0 he iop_fdivW (od_I (gd := fun i j => .int (i / j)) (fun _ _ _ => .int _) n m hc) (fun d r => by subst r; exact h) hf
end
end DL
end
section
set_option Elab.async false
set_option linter.all false
set_option maxRecDepth 100000
set_option maxHeartbeats 2000000
namespace K65
open PySem PySem.Spec PyProof.Rows L2 DL
/-! ### what the head tells, by names -/
structure Tp (K : PySem.W.Frag) (mg : Str → Option Value) : Prop where
  c : He.SaysD fa fn K
  x : ex K = true
  ex : ∃ h : Heap, K.In h ∧ h.Ns mainGlobals mg
section
variable {K : PySem.W.Frag} {mg : Str → Option Value}
theorem Tp.glo (T : Tp K mg) (i : Nat) {x : Str} (h : fa[i]? = some (.glo x) := by rfl) : mg x = some (.ref (He.ga K x)) := by
  obtain ⟨h, X, G⟩ := T.ex
  exact He.glo_ok X G (T.c.fact i ‹_›)
theorem Tp.free (T : Tp K mg) (i : Nat) {x : Str} (h : fa[i]? = some (.free x) := by rfl) : mg x = none := by
  obtain ⟨h, X, G⟩ := T.ex
  exact He.free_ok X G (T.c.fact i ‹_›)
theorem Tp.int (T : Tp K mg) (i : Nat) {x : Str} {n : Int} (h : fa[i]? = some (.int x n) := by rfl) : ∃ t, mg x = some (.int n t) := by
  obtain ⟨h, X, G⟩ := T.ex
  exact He.int_ok X G (T.c.fact i ‹_›)
theorem Tp.str (T : Tp K mg) (i : Nat) {x z : Str} (h : fa[i]? = some (.str x z) := by rfl) : ∃ t, mg x = some (.str z t) := by
  obtain ⟨h, X, G⟩ := T.ex
  exact He.str_ok X G (T.c.fact i ‹_›)
end
abbrev Binding (x qual : Str) (ps : List Str) (st : Stmt) : Prop := ∀ (kV doc pm : Value) (an : Option Addr) (cdv ct : Value) (us : List Value), us.length = ps.length → bindArgs (PySem.W.fnOf x qual (defArgs st) (defBody st) (defScope st) .none kV doc pm an cdv ct) ⟨us, []⟩ = pure (ps.zip us)
/-- a def of the text by its body over data -/
theorem Tp.cb {K : PySem.W.Frag} {mg : Str → Option Value} {P : Program} {w : World} {base : Heap} (T : Tp K mg) (i : Nat) {x name qual : Str} {st : Stmt} {N ps : List Str} {k : Nat} {F : List D → (D → Prop) → Prop}
    (hd : fn[i]? = some ⟨(x, none), name, qual, defArgs st, defBody st, defScope st, [], []⟩) (hf : fa[i]? = some (.glo x)) (S : FnScope N ps (defScope st)) (hb : Binding name qual ps st) (hl : ∀ ds R, F ds R → ds.length = ps.length)
    (hbody : ∀ (f : Addr) (cdv : Value) (A : Around) (l : List Env) (s : Shared) (H : Hp) (E : XK) (W : Wd) (ds : List D) (R : D → Prop), Room k (A.deeper (envOfC qual (defScope st) s.heap.objs.size f cdv)) → (A.deeper (envOfC qual (defScope st) s.heap.objs.size f cdv)).guards = some [] → F ds R →
      BD (cxOf CX0 P w K mg base N qual (defScope st) f cdv A l s H E).nox W (startE N.length ds) (defBody st) (fun o => match o with | .rt d => R d | .nx _ => R .none | _ => False)) : Cb P w K mg base (k + 1) x F := by
  obtain ⟨fd, U⟩ := T.c.def_ i hd
  exact cb_of U (T.glo i hf) S (U.bindsN hb) hl (hbody _)
/-! ### the data -/
def encQ (q : Rat) : D := .tuple [.int q.num, .int (q.den : Int)]
def encR (a b c : Rat) : D := .tuple [encQ a, encQ b, encQ c]
/-- above and below so many bits -/
def Sz (q : Rat) (a b : Nat) : Prop := q.num.natAbs < 2 ^ a ∧ q.den < 2 ^ b
/-- what can be reckoned with -/
def Bd (q : Rat) : Prop := Sz q 100000 4500
theorem Sz.mono {q : Rat} {a b a' b' : Nat} (h : Sz q a b) (ha : a ≤ a') (hb : b ≤ b') : Sz q a' b' :=
  ⟨Nat.lt_of_lt_of_le h.1 (Nat.pow_le_pow_right (by decide) ha), Nat.lt_of_lt_of_le h.2 (Nat.pow_le_pow_right (by decide) hb)⟩
theorem Sz.bd {q : Rat} {a b : Nat} (h : Sz q a b) (ha : a ≤ 100000) (hb : b ≤ 4500) : Bd q := h.mono ha hb
theorem encQ_half : (.tuple [.int 1, .int 2] : D) = encQ (1/2) := by
  have h1 : (1/2 : Rat).num = 1 := by decide +kernel
  have h2 : (1/2 : Rat).den = 2 := by decide +kernel
  unfold encQ
  rw [h1, h2]
  rfl
theorem shQ (q : Rat) : SeqAt.shaped (encQ q) = true := by
  simp [encQ, SeqAt.shaped, PyData.canLay0, PyData.canLayAll0, PyData.depth, PyData.depthAll]
theorem shR (a b c : Rat) : SeqAt.shaped (encR a b c) = true := by
  simp [encR, encQ, SeqAt.shaped, PyData.canLay0, PyData.canLayAll0, PyData.depth, PyData.depthAll]
theorem eqvQ (p q : Rat) : PyData.eqv (encQ p) (encQ q) = decide (p = q) := by
  have e : PyData.eqv (encQ p) (encQ q) = ((p.num == q.num) && (((p.den : Int) == (q.den : Int)) && true)) := by simp only [encQ, PyData.eqv, PyData.eqvAll]
  rw [e, Bool.and_true, Bool.eq_iff_iff]
  simp only [Bool.and_eq_true, beq_iff_eq, decide_eq_true_eq]
  constructor
  · rintro ⟨h1, h2⟩
    exact Rat.ext h1 (by omega)
  · rintro rfl
    exact ⟨rfl, rfl⟩
variable {K : PySem.W.Frag} {mg : Str → Option Value}
theorem k_ty (a b : String) {r : Bool} (h : kitB a b = some r) : PySem.W.kitOne K (.type a) (.type b) = some r := kit_ty h
section
variable {X : Cx} {W : Wd} {ρ : En} {pos : Pos}
theorem Tp.tz (T : Tp K mg) (H : Hp) : SqT K H (He.ga K "ZERO") [.int 0, .int 1] ∧ SqT K H (He.ga K "HALF") [.int 1, .int 2] := by
  obtain ⟨h1, h2⟩ := He.ba T.x
  exact ⟨He.tupB_ok h1 H, He.tupB_ok h2 H⟩
theorem Tp.f_abs (T : Tp K mg) : mg "abs" = none := T.free 73
theorem Tp.f_all (T : Tp K mg) : mg "all" = none := T.free 74
theorem Tp.f_bool (T : Tp K mg) : mg "bool" = none := T.free 75
theorem Tp.f_enumerate (T : Tp K mg) : mg "enumerate" = none := T.free 76
theorem Tp.f_int (T : Tp K mg) : mg "int" = none := T.free 77
theorem Tp.f_isinstance (T : Tp K mg) : mg "isinstance" = none := T.free 78
theorem Tp.f_len (T : Tp K mg) : mg "len" = none := T.free 79
theorem Tp.f_range (T : Tp K mg) : mg "range" = none := T.free 80
theorem Tp.f_repr (T : Tp K mg) : mg "repr" = none := T.free 81
theorem Tp.f_tuple (T : Tp K mg) : mg "tuple" = none := T.free 82
theorem Tp.f_zip (T : Tp K mg) : mg "zip" = none := T.free 83
theorem g_ZERO (T : Tp X.K X.mg) (hg : Gl X "ZERO" := by rfl) : ED X W ρ (.Name "ZERO" pos) (encQ 0) := e_glob (v := .ref (He.ga X.K "ZERO")) (T.glo 70) rfl (fun H => .tup (T.tz H).1 (.cons (.int 0) (.cons (.int 1) .nil))) hg (by decide)
theorem g_HALF (T : Tp X.K X.mg) (hg : Gl X "HALF" := by rfl) : ED X W ρ (.Name "HALF" pos) (encQ (1/2)) := (e_glob (v := .ref (He.ga X.K "HALF")) (T.glo 71) rfl (fun H => .tup (T.tz H).2 (.cons (.int 1) (.cons (.int 2) .nil))) hg (by decide)).to encQ_half
theorem g_DIGITS (T : Tp X.K X.mg) (hg : Gl X "DIGITS" := by rfl) : ED X W ρ (.Name "DIGITS" pos) (.str "0123456789") := by
  obtain ⟨t, h⟩ := T.str 68
  exact e_glob (v := .str "0123456789") h ⟨t, rfl⟩ (fun H => .str _) hg (by decide)
theorem g_MOST_TOLD (T : Tp X.K X.mg) (hg : Gl X "MOST_TOLD" := by rfl) : ED X W ρ (.Name "MOST_TOLD" pos) (.int 4020) := by
  obtain ⟨t, h⟩ := T.int 69
  exact e_glob (v := .int 4020) h ⟨t, rfl⟩ (fun H => .int _) hg (by decide)
theorem g_MOST_FIGURES (T : Tp X.K X.mg) (hg : Gl X "MOST_FIGURES" := by rfl) : ED X W ρ (.Name "MOST_FIGURES" pos) (.int 4020) := by
  obtain ⟨t, h⟩ := T.int 72
  exact e_glob (v := .int 4020) h ⟨t, rfl⟩ (fun H => .int _) hg (by decide)
end
end K65
end
section
set_option linter.all false
/-! QM: numbers a + b root c in plain Lean: their sign, sums, products, order. -/
namespace QM
structure Good (c : Rat) : Prop where
  pos : 0 < c
  irr : ∀ x : Rat, x * x ≠ c
theorem sq_nn (x : Rat) : 0 ≤ x * x := by
  rcases Rat.le_total (a := 0) (b := x) with h | h
  · exact Rat.mul_nonneg h h
  · have : 0 ≤ (-x) * (-x) := Rat.mul_nonneg (by grind) (by grind)
    grind
theorem mul_lt {u v u' v' : Rat} (h : u < v) (h' : u' < v') (n : 0 ≤ u) (n' : 0 ≤ u') : u * u' < v * v' := by
  have h1 : u * u' ≤ u * v' := Rat.mul_le_mul_of_nonneg_left (Rat.le_of_lt h') n
  have h2 : u * v' < v * v' := Rat.mul_lt_mul_of_pos_right h (by grind)
  grind
theorem abs_lt {x y : Rat} (h : 0 < y) (q : x * x < y * y) : 0 < y + x ∧ 0 < y - x := by
  constructor
  · refine Rat.not_le.mp fun z => ?_
    have h1 : y * y ≤ (-x) * y := Rat.mul_le_mul_of_nonneg_right (by grind) (by grind)
    have h2 : (-x) * y ≤ (-x) * (-x) := Rat.mul_le_mul_of_nonneg_left (by grind) (by grind)
    grind
  · refine Rat.not_le.mp fun z => ?_
    have h1 : y * y ≤ x * y := Rat.mul_le_mul_of_nonneg_right (by grind) (by grind)
    have h2 : x * y ≤ x * x := Rat.mul_le_mul_of_nonneg_left (by grind) (by grind)
    grind
theorem norm0 {c a b : Rat} (g : Good c) (h : a * a = b * b * c) : a = 0 ∧ b = 0 := by
  have hb : b = 0 := by
    refine Classical.byContradiction fun z => ?_
    have i := Rat.mul_inv_cancel b z
    refine g.irr (a * b⁻¹) ?_
    have e : (a * b⁻¹) * (a * b⁻¹) = (a * a) * (b⁻¹ * b⁻¹) := by grind
    rw [e, h]
    have e2 : b * b * c * (b⁻¹ * b⁻¹) = (b * b⁻¹) * (b * b⁻¹) * c := by grind
    rw [e2, i]
    grind
  subst hb
  refine ⟨?_, rfl⟩
  have e : a * a = 0 := by grind
  rcases Rat.mul_eq_zero.mp e with z | z <;> exact z
/-- a + b root c is above 0 -/
def P (c a b : Rat) : Prop := (0 < a ∧ b * b * c < a * a) ∨ (0 < b ∧ a * a < b * b * c)
theorem P_mul {c a b a' b' : Rat} (g : Good c) (h : P c a b) (h' : P c a' b') : P c (a * a' + b * b' * c) (a * b' + b * a') := by
  have c0 := g.pos
  have nb : 0 ≤ b * b * c := Rat.mul_nonneg (sq_nn b) (by grind)
  have nb' : 0 ≤ b' * b' * c := Rat.mul_nonneg (sq_nn b') (by grind)
  have na := sq_nn a
  have na' := sq_nn a'
  have key : (a * a' + b * b' * c) * (a * a' + b * b' * c) - (a * b' + b * a') * (a * b' + b * a') * c = (a * a - b * b * c) * (a' * a' - b' * b' * c) := by grind
  rcases h with ⟨h1, h2⟩ | ⟨h1, h2⟩ <;> rcases h' with ⟨h3, h4⟩ | ⟨h3, h4⟩
  · have q := mul_lt h2 h4 nb nb'
    have p : 0 < (a * a - b * b * c) * (a' * a' - b' * b' * c) := Rat.mul_pos (by grind) (by grind)
    have r := (abs_lt (x := b * b' * c) (y := a * a') (Rat.mul_pos h1 h3) (by grind)).1
    exact .inl ⟨r, by grind⟩
  · have q := mul_lt h2 h4 nb na'
    have p : 0 < (a * a - b * b * c) * (b' * b' * c - a' * a') := Rat.mul_pos (by grind) (by grind)
    have q2 : (b * a') * (b * a') < (a * b') * (a * b') := Rat.lt_of_mul_lt_mul_right (c := c) (by grind) (by grind)
    have r := (abs_lt (x := b * a') (y := a * b') (Rat.mul_pos h1 h3) q2).1
    exact .inr ⟨r, by grind⟩
  · have q := mul_lt h2 h4 na nb'
    have p : 0 < (b * b * c - a * a) * (a' * a' - b' * b' * c) := Rat.mul_pos (by grind) (by grind)
    have q2 : (a * b') * (a * b') < (b * a') * (b * a') := Rat.lt_of_mul_lt_mul_right (c := c) (by grind) (by grind)
    have r := (abs_lt (x := a * b') (y := b * a') (Rat.mul_pos h1 h3) q2).1
    exact .inr ⟨by grind, by grind⟩
  · have q := mul_lt h2 h4 na na'
    have p : 0 < (b * b * c - a * a) * (b' * b' * c - a' * a') := Rat.mul_pos (by grind) (by grind)
    have r := (abs_lt (x := a * a') (y := b * b' * c) (Rat.mul_pos (Rat.mul_pos h1 h3) c0) (by grind)).1
    exact .inl ⟨by grind, by grind⟩
theorem P_tri {c a b : Rat} (g : Good c) : P c a b ∨ P c (-a) (-b) ∨ (a = 0 ∧ b = 0) := by
  unfold P
  have e1 : (-a) * (-a) = a * a := by grind
  have e2 : (-b) * (-b) = b * b := by grind
  rw [e1, e2]
  have n1 := sq_nn a
  have nb : 0 ≤ b * b * c := Rat.mul_nonneg (sq_nn b) (by have := g.pos; grind)
  rcases Classical.em (a * a = b * b * c) with z | z
  · exact .inr (.inr (norm0 g z))
  · have a0 : b * b * c < a * a → a ≠ 0 := by rintro q rfl; grind
    have b0 : a * a < b * b * c → b ≠ 0 := by rintro q rfl; grind
    grind
theorem P_not {c a b : Rat} (h : P c a b) (h' : P c (-a) (-b)) : False := by
  unfold P at h h'
  have e1 : (-a) * (-a) = a * a := by grind
  have e2 : (-b) * (-b) = b * b := by grind
  rw [e1, e2] at h'
  grind
theorem P_ne {c a b : Rat} (h : P c a b) : ¬ (a = 0 ∧ b = 0) := by
  rintro ⟨rfl, rfl⟩
  unfold P at h
  grind
theorem P_one {c a b : Rat} (g : Good c) (h : P c a b) : P c (1 + a) b := by
  have e : (1 + a) * (1 + a) = 1 + 2 * a + a * a := by grind
  unfold P
  rw [e]
  rcases h with ⟨h1, h2⟩ | ⟨h1, h2⟩
  · exact .inl ⟨by grind, by grind⟩
  · rcases Classical.em (1 + 2 * a + a * a = b * b * c) with z | z
    · have := norm0 g (a := 1 + a) (b := b) (by grind)
      grind
    · grind
theorem P_inv {c a b : Rat} (g : Good c) (h : P c a b) : ∃ u v, P c u v ∧ a * u + b * v * c = 1 ∧ a * v + b * u = 0 := by
  have hn : a * a - b * b * c ≠ 0 := fun z => P_ne h (norm0 g (by grind))
  have i := Rat.mul_inv_cancel _ hn
  have nn : ∀ z : Rat, (a * a - b * b * c) * z = 1 → ∃ u v, P c u v ∧ a * u + b * v * c = 1 ∧ a * v + b * u = 0 := by
    intro z hz
    refine ⟨a * z, -b * z, ?_, by grind, by grind⟩
    have e : (a * z) * (a * z) - (-b * z) * (-b * z) * c = z := by grind
    rcases h with ⟨h1, h2⟩ | ⟨h1, h2⟩
    · have hz0 : 0 < z := by
        refine Rat.not_le.mp fun y => ?_
        have : 0 ≤ (a * a - b * b * c) * (-z) := Rat.mul_nonneg (by grind) (by grind)
        grind
      exact .inl ⟨Rat.mul_pos h1 hz0, by grind⟩
    · have hz0 : z < 0 := by
        refine Rat.not_le.mp fun y => ?_
        have : 0 ≤ (b * b * c - a * a) * z := Rat.mul_nonneg (by grind) (by grind)
        grind
      have : 0 < b * (-z) := Rat.mul_pos h1 (by grind)
      exact .inr ⟨by grind, by grind⟩
  exact nn _ i
theorem P_add {c a b a' b' : Rat} (g : Good c) (h : P c a b) (h' : P c a' b') : P c (a + a') (b + b') := by
  obtain ⟨u, v, h1, h2, h3⟩ := P_inv g h
  have h4 := P_mul g h (P_one g (P_mul g h1 h'))
  have e1 : a * (1 + (u * a' + v * b' * c)) + b * (u * b' + v * a') * c = a + a' := by grind
  have e2 : a * (u * b' + v * a') + b * (1 + (u * a' + v * b' * c)) = b + b' := by grind
  rw [e1, e2] at h4
  exact h4
end QM
end
section
set_option linter.all false
/-! QM2: the sign as the program reckons it. -/
namespace QM
/-- the sign of a number -/
def sgn (q : Rat) : Int := if 0 < q then 1 else if q < 0 then -1 else 0
def sg2 (a b c : Rat) : Int :=
  let one := sgn a
  let other := if c ≠ 0 then sgn b else 0
  if 0 ≤ one * other then (if one ≠ 0 then one else other) else one * sgn (a * a - b * b * c)
def sg3 (a b c d e : Rat) : Int :=
  let one := sg2 a b c
  let other := if e ≠ 0 then sgn d else 0
  if 0 ≤ one * other then (if one ≠ 0 then one else other) else one * sg2 (a * a + b * b * c - d * d * e) (a * b * 2) c
open Classical in
/-- the sign of a + b root c -/
noncomputable def S (c a b : Rat) : Int := if P c a b then 1 else if P c (-a) (-b) then -1 else 0
theorem sgn_pos {q : Rat} (h : 0 < q) : sgn q = 1 := if_pos h
theorem sgn_neg {q : Rat} (h : q < 0) : sgn q = -1 := by
  unfold sgn
  rw [if_neg (by grind), if_pos h]
theorem sgn_zero : sgn 0 = 0 := by decide +kernel
theorem sgn_cases (q : Rat) : (0 < q ∧ sgn q = 1) ∨ (q < 0 ∧ sgn q = -1) ∨ (q = 0 ∧ sgn q = 0) := by
  by_cases h : 0 < q
  · exact .inl ⟨h, sgn_pos h⟩
  · by_cases h2 : q < 0
    · exact .inr (.inl ⟨h2, sgn_neg h2⟩)
    · have : q = 0 := by grind
      subst this
      exact .inr (.inr ⟨rfl, sgn_zero⟩)
theorem S_pos {c a b : Rat} (h : P c a b) : S c a b = 1 := if_pos h
theorem S_neg {c a b : Rat} (h : P c (-a) (-b)) : S c a b = -1 := by
  unfold S
  rw [if_neg (fun z => P_not z h), if_pos h]
theorem S_zero {c : Rat} : S c 0 0 = 0 := by
  have n : ¬ P c 0 0 := fun z => P_ne z ⟨rfl, rfl⟩
  have e : (-0 : Rat) = 0 := by grind
  unfold S
  rw [e, if_neg n, if_neg n]
theorem S_cases {c : Rat} (g : Good c) (a b : Rat) : (P c a b ∧ S c a b = 1) ∨ (P c (-a) (-b) ∧ S c a b = -1) ∨ (a = 0 ∧ b = 0 ∧ S c a b = 0) := by
  rcases P_tri (a := a) (b := b) g with h | h | ⟨rfl, rfl⟩
  · exact .inl ⟨h, S_pos h⟩
  · exact .inr (.inl ⟨h, S_neg h⟩)
  · exact .inr (.inr ⟨rfl, rfl, S_zero⟩)
theorem sg2_eq {c : Rat} (g : Good c) (a b : Rat) : sg2 a b c = S c a b := by
  have c0 : c ≠ 0 := by have := g.pos; grind
  have cp := g.pos
  unfold sg2
  simp only [if_pos c0]
  have nb : 0 ≤ b * b * c := Rat.mul_nonneg (sq_nn b) (by grind)
  rcases sgn_cases a with ⟨h1, e1⟩ | ⟨h1, e1⟩ | ⟨h1, e1⟩ <;> rcases sgn_cases b with ⟨h2, e2⟩ | ⟨h2, e2⟩ | ⟨h2, e2⟩ <;> rw [e1, e2]
  · have p : P c a b := by
      rcases P_tri (a := a) (b := b) g with h | h | h
      · exact h
      · unfold P at h; grind
      · grind
    rw [S_pos p]; rfl
  · rcases sgn_cases (a * a - b * b * c) with ⟨h3, e3⟩ | ⟨h3, e3⟩ | ⟨h3, e3⟩
    · rw [e3, S_pos (.inl ⟨h1, by grind⟩)]; rfl
    · rw [e3, S_neg (.inr ⟨by grind, by grind⟩)]; rfl
    · have := norm0 g (a := a) (b := b) (by grind); grind
  · subst h2
    rw [S_pos (.inl ⟨h1, by have := Rat.mul_pos h1 h1; grind⟩)]; rfl
  · rcases sgn_cases (a * a - b * b * c) with ⟨h3, e3⟩ | ⟨h3, e3⟩ | ⟨h3, e3⟩
    · rw [e3, S_neg (.inl ⟨by grind, by grind⟩)]; rfl
    · rw [e3, S_pos (.inr ⟨h2, by grind⟩)]; rfl
    · have := norm0 g (a := a) (b := b) (by grind); grind
  · have p : P c (-a) (-b) := by
      rcases P_tri (a := a) (b := b) g with h | h | h
      · unfold P at h; grind
      · exact h
      · grind
    rw [S_neg p]; rfl
  · subst h2
    have p : P c (-a) (-0) := .inl ⟨by grind, by have := Rat.mul_pos (a := -a) (b := -a) (by grind) (by grind); grind⟩
    rw [S_neg p]; rfl
  · subst h1
    have q := Rat.mul_pos h2 h2
    have q2 := Rat.mul_pos q cp
    rw [S_pos (.inr ⟨h2, by grind⟩)]; rfl
  · subst h1
    have q := Rat.mul_pos (a := -b) (b := -b) (by grind) (by grind)
    have q2 := Rat.mul_pos q cp
    rw [S_neg (.inr ⟨by grind, by grind⟩)]; rfl
  · subst h1 h2
    rw [S_zero]; rfl
theorem S_flip {c : Rat} (g : Good c) (a b : Rat) : S c (-a) (-b) = - S c a b := by
  have e1 : -(-a) = a := by grind
  have e2 : -(-b) = b := by grind
  rcases S_cases g a b with ⟨h, e⟩ | ⟨h, e⟩ | ⟨rfl, rfl, e⟩
  · rw [e, S_neg (by rw [e1, e2]; exact h)]
  · rw [e, S_pos h]; rfl
  · rw [e]
    have e3 : (-0 : Rat) = 0 := by grind
    rw [e3, S_zero]; rfl
theorem S_mul {c : Rat} (g : Good c) (a b a' b' : Rat) : S c (a * a' + b * b' * c) (a * b' + b * a') = S c a b * S c a' b' := by
  rcases S_cases g a b with ⟨h, e⟩ | ⟨h, e⟩ | ⟨rfl, rfl, e⟩
  · rcases S_cases g a' b' with ⟨h', e'⟩ | ⟨h', e'⟩ | ⟨rfl, rfl, e'⟩
    · rw [e, e', S_pos (P_mul g h h')]; rfl
    · have q := P_mul g h h'
      have e1 : a * -a' + b * -b' * c = -(a * a' + b * b' * c) := by grind
      have e2 : a * -b' + b * -a' = -(a * b' + b * a') := by grind
      rw [e1, e2] at q
      rw [e, e', S_neg q]; rfl
    · have e1 : a * 0 + b * 0 * c = 0 := by grind
      have e2 : a * 0 + b * 0 = 0 := by grind
      rw [e1, e2, e', Int.mul_zero]
  · rcases S_cases g a' b' with ⟨h', e'⟩ | ⟨h', e'⟩ | ⟨rfl, rfl, e'⟩
    · have q := P_mul g h h'
      have e1 : -a * a' + -b * b' * c = -(a * a' + b * b' * c) := by grind
      have e2 : -a * b' + -b * a' = -(a * b' + b * a') := by grind
      rw [e1, e2] at q
      rw [e, e', S_neg q]; rfl
    · have q := P_mul g h h'
      have e1 : -a * -a' + -b * -b' * c = (a * a' + b * b' * c) := by grind
      have e2 : -a * -b' + -b * -a' = (a * b' + b * a') := by grind
      rw [e1, e2] at q
      rw [e, e', S_pos q]; rfl
    · have e1 : a * 0 + b * 0 * c = 0 := by grind
      have e2 : a * 0 + b * 0 = 0 := by grind
      rw [e1, e2, e', Int.mul_zero]
  · have e1 : 0 * a' + 0 * b' * c = 0 := by grind
    have e2 : 0 * b' + 0 * a' = 0 := by grind
    rw [e1, e2, e, Int.zero_mul]
theorem S_rat {c : Rat} (g : Good c) (a : Rat) : S c a 0 = sgn a := by
  rw [← sg2_eq g]
  unfold sg2
  rw [sgn_zero]
  simp only [ite_self, Int.mul_zero, if_pos (Int.le_refl 0)]
  split
  · rfl
  · rename_i h
    exact (Classical.byContradiction fun z => h fun y => z y.symm)
theorem S_abs1 {c : Rat} (g : Good c) (a b : Rat) : S c a b = 1 ∨ S c a b = -1 ∨ S c a b = 0 := by
  rcases S_cases g a b with ⟨_, e⟩ | ⟨_, e⟩ | ⟨_, _, e⟩ <;> simp [e]
theorem S_one {c a b : Rat} (g : Good c) (h : S c a b = 1) : P c a b := by
  rcases S_cases g a b with ⟨h', e⟩ | ⟨h', e⟩ | ⟨_, _, e⟩
  · exact h'
  · rw [e] at h; cases h
  · rw [e] at h; cases h
theorem S_z {c a b : Rat} (g : Good c) (h : S c a b = 0) : a = 0 ∧ b = 0 := by
  rcases S_cases g a b with ⟨_, e⟩ | ⟨_, e⟩ | ⟨h1, h2, e⟩
  · rw [e] at h; cases h
  · rw [e] at h; cases h
  · exact ⟨h1, h2⟩
theorem S_m {c a b : Rat} (g : Good c) (h : S c a b = -1) : P c (-a) (-b) := by
  rcases S_cases g a b with ⟨_, e⟩ | ⟨h', e⟩ | ⟨_, _, e⟩
  · rw [e] at h; cases h
  · exact h'
  · rw [e] at h; cases h
/-- one of two numbers with the sign of the greater square -/
theorem S_sum {c : Rat} (g : Good c) {a b a' b' : Rat} (h : S c a b * S c a' b' < 0) : S c (a + a') (b + b') = S c a b * S c ((a * a + b * b * c) - (a' * a' + b' * b' * c)) (a * b * 2 - a' * b' * 2) := by
  have e1 : (a * a + b * b * c) - (a' * a' + b' * b' * c) = (a + a') * (a - a') + (b + b') * (b - b') * c := by grind
  have e2 : a * b * 2 - a' * b' * 2 = (a + a') * (b - b') + (b + b') * (a - a') := by grind
  rw [e1, e2, S_mul g]
  have key : S c (a - a') (b - b') = S c a b := by
    rcases S_cases g a b with ⟨p, e⟩ | ⟨p, e⟩ | ⟨_, _, e⟩ <;> rcases S_cases g a' b' with ⟨p', e'⟩ | ⟨p', e'⟩ | ⟨_, _, e'⟩ <;> rw [e, e'] at h <;> first | (exfalso; revert h; decide) | skip
    · have q := P_add g p p'
      have f1 : a + -a' = a - a' := by grind
      have f2 : b + -b' = b - b' := by grind
      rw [f1, f2] at q
      rw [e, S_pos q]
    · have q := P_add g p p'
      have f1 : -a + a' = -(a - a') := by grind
      have f2 : -b + b' = -(b - b') := by grind
      rw [f1, f2] at q
      rw [e, S_neg q]
  rw [key]
  rcases S_abs1 g a b with e | e | e <;> rw [e]
  · omega
  · omega
  · rw [e] at h; omega
/-- b root c is b' root c0 -/
def Co (c0 b c b' : Rat) : Prop := (b = 0 ∧ c = 0 ∧ b' = 0) ∨ ∃ t, 0 < t ∧ c = t * t * c0 ∧ b' = b * t
theorem good_t {c t : Rat} (g : Good c) (h : 0 < t) : Good (t * t * c) := by
  refine ⟨Rat.mul_pos (Rat.mul_pos h h) g.pos, fun x e => g.irr (x * t⁻¹) ?_⟩
  have i := Rat.mul_inv_cancel t (by grind)
  have e1 : (x * t⁻¹) * (x * t⁻¹) = (x * x) * (t⁻¹ * t⁻¹) := by grind
  rw [e1, e]
  have e2 : t * t * c * (t⁻¹ * t⁻¹) = (t * t⁻¹) * (t * t⁻¹) * c := by grind
  rw [e2, i]
  grind
theorem P_t {c t a b : Rat} (h : 0 < t) : P (t * t * c) a b ↔ P c a (b * t) := by
  have e : b * t * (b * t) * c = b * b * (t * t * c) := by grind
  unfold P
  rw [e]
  rw [Rat.mul_pos_iff_of_pos_right h]
theorem S_t {c t a b : Rat} (h : 0 < t) : S (t * t * c) a b = S c a (b * t) := by
  have e : -(b * t) = -b * t := by grind
  unfold S
  rw [P_t h, P_t h, e]
theorem sg2_co {c0 a b c b' : Rat} (g : Good c0) (h : Co c0 b c b') : sg2 a b c = S c0 a b' := by
  rcases h with ⟨rfl, rfl, rfl⟩ | ⟨t, ht, rfl, rfl⟩
  · rw [S_rat g]
    unfold sg2
    have z : ¬ ((0 : Rat) ≠ 0) := by grind
    simp only [if_neg z, Int.mul_zero, if_pos (Int.le_refl 0)]
    split
    · rfl
    · rename_i h
      exact (Classical.byContradiction fun z => h fun y => z y.symm)
  · rw [sg2_eq (good_t g ht), S_t ht]
theorem sgn_t {d t : Rat} (h : 0 < t) : sgn (d * t) = sgn d := by
  unfold sgn
  have e1 : 0 < d * t ↔ 0 < d := Rat.mul_pos_iff_of_pos_right h
  have e2 : d * t < 0 ↔ d < 0 := Rat.mul_neg_iff_of_pos_right h
  simp only [e1, e2]
theorem other_co {c0 d e d' : Rat} (g : Good c0) (h : Co c0 d e d') : (if e ≠ 0 then sgn d else 0) = S c0 0 d' := by
  rcases h with ⟨rfl, rfl, rfl⟩ | ⟨t, ht, rfl, rfl⟩
  · rw [S_zero, if_neg (by grind)]
  · have hp := Rat.mul_pos (Rat.mul_pos ht ht) g.pos
    rw [if_pos (by grind), ← sg2_eq g]
    have c0 : c0 ≠ 0 := by have := g.pos; grind
    unfold sg2
    rw [sgn_zero, sgn_t ht]
    simp only [if_pos c0, Int.zero_mul, if_pos (Int.le_refl 0)]
    rw [if_neg (by decide)]
theorem sg3_co {c0 a b c d e b' d' : Rat} (g : Good c0) (h1 : Co c0 b c b') (h2 : Co c0 d e d') : sg3 a b c d e = S c0 a (b' + d') := by
  have e1 := sg2_co (a := a) g h1
  have e2 := other_co g h2
  have e3 : sg2 (a * a + b * b * c - d * d * e) (a * b * 2) c = S c0 ((a * a + b' * b' * c0) - (0 * 0 + d' * d' * c0)) (a * b' * 2 - 0 * d' * 2) := by
    have q : Co c0 (a * b * 2) c (a * b' * 2 - 0 * d' * 2) := by
      rcases h1 with ⟨rfl, rfl, rfl⟩ | ⟨t, ht, rfl, rfl⟩
      · exact .inl ⟨by grind, rfl, by grind⟩
      · exact .inr ⟨t, ht, rfl, by grind⟩
    rw [sg2_co g q]
    congr 1
    rcases h1 with ⟨rfl, rfl, rfl⟩ | ⟨t, ht, rfl, rfl⟩ <;> rcases h2 with ⟨rfl, rfl, rfl⟩ | ⟨u, hu, rfl, rfl⟩ <;> grind
  unfold sg3
  simp only []
  rw [e1, e2, e3]
  have comb := S_sum (c := c0) g (a := a) (b := b') (a' := 0) (b' := d')
  have e0 : a + 0 = a := by grind
  rw [e0] at comb
  split
  · rename_i hp
    rcases S_cases g a b' with ⟨p, e⟩ | ⟨p, e⟩ | ⟨rfl, rfl, e⟩
    · rw [e, if_pos (by decide)]
      rcases S_cases g 0 d' with ⟨p', e'⟩ | ⟨p', e'⟩ | ⟨_, rfl, e'⟩
      · have q := P_add g p p'
        rw [e0] at q
        rw [S_pos q]
      · rw [e, e'] at hp; exact absurd hp (by decide)
      · have f : b' + 0 = b' := by grind
        rw [f, e]
    · rw [e, if_pos (by decide)]
      rcases S_cases g 0 d' with ⟨p', e'⟩ | ⟨p', e'⟩ | ⟨_, rfl, e'⟩
      · rw [e, e'] at hp; exact absurd hp (by decide)
      · have q := P_add g p p'
        have f1 : -a + -0 = -a := by grind
        have f2 : -b' + -d' = -(b' + d') := by grind
        rw [f1, f2] at q
        rw [S_neg q]
      · have f : b' + 0 = b' := by grind
        rw [f, e]
    · rw [e, if_neg (by decide)]
      have f : (0 : Rat) + d' = d' := by grind
      rw [f]
  · rename_i hp
    exact (comb (by omega)).symm
end QM
end
section
set_option linter.all false
set_option maxRecDepth 100000
/-! NM: whole roots, sizes. -/
namespace K65
theorem sq_ex (n : Nat) : ∃ r : Nat, r * r ≤ n ∧ n < (r + 1) * (r + 1) := by
  induction n with
  | zero => exact ⟨0, by decide, by decide⟩
  | succ n ih =>
    obtain ⟨r, h1, h2⟩ := ih
    by_cases h : n + 1 < (r + 1) * (r + 1)
    · exact ⟨r, by omega, h⟩
    · refine ⟨r + 1, by omega, ?_⟩
      have : (r + 1 + 1) * (r + 1 + 1) = (r + 1) * (r + 1) + (2 * r + 3) := by grind
      omega
/-- the whole root -/
noncomputable def isq (n : Nat) : Nat := Classical.choose (sq_ex n)
theorem isq_le (n : Nat) : isq n * isq n ≤ n := (Classical.choose_spec (sq_ex n)).1
theorem isq_lt (n : Nat) : n < (isq n + 1) * (isq n + 1) := (Classical.choose_spec (sq_ex n)).2
theorem isq_of {n r : Nat} (h1 : r * r ≤ n) (h2 : n < (r + 1) * (r + 1)) : isq n = r := by
  have a1 := isq_le n
  have a2 := isq_lt n
  have b1 : ¬ isq n < r := fun z => by
    have : (isq n + 1) * (isq n + 1) ≤ r * r := Nat.mul_le_mul z z
    omega
  have b2 : ¬ r < isq n := fun z => by
    have : (r + 1) * (r + 1) ≤ isq n * isq n := Nat.mul_le_mul z z
    omega
  omega
/-- a step of the search never falls below -/
theorem newton {n x : Nat} (hx : 0 < x) : isq n ≤ (x + n / x) / 2 := by
  have h := isq_le n
  rw [Nat.le_div_iff_mul_le (by decide)]
  by_cases h2 : isq n * 2 ≤ x
  · exact Nat.le_trans h2 (Nat.le_add_right x (n / x))
  · have : isq n * 2 - x ≤ n / x := by
      rw [Nat.le_div_iff_mul_le hx]
      refine Nat.le_trans ?_ h
      obtain ⟨y, hy⟩ : ∃ y, isq n * 2 = x + y := ⟨isq n * 2 - x, by omega⟩
      have e : isq n * 2 - x = y := by omega
      rw [e]
      have : (isq n * 2) * (isq n * 2) = (x + y) * (x + y) := by rw [hy]
      have q : 4 * (y * x) ≤ (x + y) * (x + y) := by
        rcases Nat.le_total x y with z | z
        · obtain ⟨k, rfl⟩ := Nat.exists_eq_add_of_le z
          grind
        · obtain ⟨k, rfl⟩ := Nat.exists_eq_add_of_le z
          grind
      grind
    omega
theorem newton_end {n x : Nat} (hx : 0 < x) (h0 : isq n ≤ x) (h : ¬ (x + n / x) / 2 < x) : isq n = x := by
  have h2 := isq_lt n
  refine Nat.le_antisymm h0 ?_
  refine Nat.not_lt.mp fun z => h ?_
  have : n / x < x := by
    rw [Nat.div_lt_iff_lt_mul hx]
    have : (isq n + 1) * (isq n + 1) ≤ x * x := Nat.mul_le_mul z z
    omega
  omega
/-! sizes -/
theorem natAbs_ediv_le (a b : Int) : (a / b).natAbs ≤ a.natAbs := Int.natAbs_ediv_le_natAbs a b
theorem sz_divInt {n d : Int} {a b : Nat} (h : d ≠ 0) (hn : n.natAbs < 2 ^ a) (hd : d.natAbs < 2 ^ b) : Sz (Rat.divInt n d) a b := by
  constructor
  · rw [Rat.num_divInt]
    refine Nat.lt_of_le_of_lt (natAbs_ediv_le _ _) ?_
    rw [Int.natAbs_mul]
    have : d.sign.natAbs = 1 := by rcases Int.lt_or_gt_of_ne h with z | z <;> simp [Int.sign_eq_one_of_pos, Int.sign_eq_neg_one_of_neg, z]
    rw [this, Nat.one_mul]
    exact hn
  · rw [Rat.den_divInt, if_neg h]
    exact Nat.lt_of_le_of_lt (Nat.div_le_self _ _) hd
theorem sz_enc (p : Rat) : p = Rat.divInt p.num (p.den : Int) := (Rat.num_divInt_den p).symm
theorem den_ne (p : Rat) : (p.den : Int) ≠ 0 := by have := p.den_nz; omega
theorem Sz.mul {p q : Rat} {a b a' b' : Nat} (h : Sz p a b) (h' : Sz q a' b') : Sz (p * q) (a + a') (b + b') := by
  rw [sz_enc p, sz_enc q, Rat.divInt_mul_divInt]
  refine sz_divInt (Int.mul_ne_zero (den_ne p) (den_ne q)) ?_ ?_
  · exact L2.wide_lt h.1 h'.1
  · exact L2.wide_lt (i := (p.den : Int)) (j := (q.den : Int)) h.2 h'.2
theorem Sz.add {p q : Rat} {a b a' b' : Nat} (h : Sz p a b) (h' : Sz q a' b') : Sz (p + q) (a + a' + b + b' + 1) (b + b') := by
  rw [sz_enc p, sz_enc q, Rat.divInt_add_divInt _ _ (den_ne p) (den_ne q)]
  refine sz_divInt (Int.mul_ne_zero (den_ne p) (den_ne q)) ?_ ?_
  · have h1 : (p.num * (q.den : Int)).natAbs < 2 ^ (a + b') := L2.wide_lt h.1 h'.2
    have h2 : (q.num * (p.den : Int)).natAbs < 2 ^ (a' + b) := L2.wide_lt h'.1 h.2
    have e1 : 2 ^ (a + b') ≤ 2 ^ (a + a' + b + b') := Nat.pow_le_pow_right (by decide) (by omega)
    have e2 : 2 ^ (a' + b) ≤ 2 ^ (a + a' + b + b') := Nat.pow_le_pow_right (by decide) (by omega)
    have e3 : 2 ^ (a + a' + b + b' + 1) = 2 ^ (a + a' + b + b') * 2 := Nat.pow_succ ..
    omega
  · exact L2.wide_lt (i := (p.den : Int)) (j := (q.den : Int)) h.2 h'.2
theorem Sz.neg {p : Rat} {a b : Nat} (h : Sz p a b) : Sz (-p) a b := by
  refine ⟨?_, h.2⟩
  rw [Rat.neg_num, Int.natAbs_neg]
  exact h.1
theorem Sz.sub {p q : Rat} {a b a' b' : Nat} (h : Sz p a b) (h' : Sz q a' b') : Sz (p - q) (a + a' + b + b' + 1) (b + b') := by
  rw [Rat.sub_eq_add_neg]
  exact h.add h'.neg
theorem sz0 : Sz 0 1 1 := ⟨by decide +kernel, by decide +kernel⟩
theorem sz1 : Sz 1 1 1 := ⟨by decide +kernel, by decide +kernel⟩
theorem sz2 : Sz 2 2 1 := ⟨by decide +kernel, by decide +kernel⟩
theorem sz_int {n : Int} {a : Nat} (h : n.natAbs < 2 ^ a) : Sz (n : Rat) a 1 := ⟨by rw [Rat.num_intCast]; exact h, by rw [Rat.den_intCast]; decide⟩
end K65
end
section
set_option Elab.async false
set_option linter.all false
set_option maxRecDepth 100000
set_option maxHeartbeats 4000000
namespace K65
open PySem PySem.Spec PyProof.Rows L2 DL
variable {K : PySem.W.Frag} {mg : Str → Option Value} {P : Program} {w : World} {base : Heap}
theorem lg {i : Int} {a : Nat} (h : i.natAbs < 2 ^ a) (h0 : 0 < a) : i.natAbs.log2 < a := PySem.Flt.log2_lt_of h0 h
theorem mulW {i j : Int} {a b : Nat} (ha : i.natAbs < 2 ^ a) (hb : j.natAbs < 2 ^ b) (h : a + b ≤ 999990) : CMulW i j :=
  wide_mul (Nat.lt_of_lt_of_le ha (Nat.pow_le_pow_right (by decide) (Nat.le_add_right a 1))) (Nat.lt_of_lt_of_le hb (Nat.pow_le_pow_right (by decide) (Nat.le_add_right b 1))) (by omega) (by omega) (by omega)
theorem natAbs_den (q : Rat) : ((q.den : Int)).natAbs = q.den := Int.natAbs_natCast _
theorem Bd.n {q : Rat} (h : Bd q) : q.num.natAbs < 2 ^ 100000 := h.1
theorem Bd.d {q : Rat} (h : Bd q) : ((q.den : Int)).natAbs < 2 ^ 4500 := by rw [natAbs_den]; exact h.2
theorem den_pos (q : Rat) : (0 : Int) < (q.den : Int) := Int.natCast_pos.mpr (Nat.pos_of_ne_zero q.den_nz)
theorem gcd_pos_of {n d : Int} (h : d ≠ 0) : 0 < Int.gcd n d := Int.gcd_pos_of_ne_zero_right n h
theorem gcd_le_of {n d : Int} (h : d ≠ 0) : Int.gcd n d ≤ d.natAbs := Nat.le_of_dvd (Int.natAbs_pos.mpr h) (Nat.gcd_dvd_right _ _)
/-- what is left of a fraction by its greatest divisor -/
theorem divInt_enc {n d : Int} (h : d ≠ 0) : encQ (Rat.divInt n d) = if decide (0 < d) = true then (.tuple [.int (n / (Int.gcd n d : Int)), .int (d / (Int.gcd n d : Int))] : D) else .tuple [.int (-n / (Int.gcd n d : Int)), .int (-d / (Int.gcd n d : Int))] := by
  have hc : (Int.gcd d n) = Int.gcd n d := Int.gcd_comm _ _
  unfold encQ
  rw [Rat.num_divInt, Rat.den_divInt, if_neg h, hc]
  by_cases hd : 0 < d
  · rw [decide_eq_true hd, if_pos rfl, Int.sign_eq_one_of_pos hd, Int.one_mul]
    have e : ((d.natAbs / Int.gcd n d : Nat) : Int) = d / (Int.gcd n d : Int) := by
      rw [Int.natCast_ediv, Int.natAbs_of_nonneg (by omega)]
    rw [e]
  · rw [decide_eq_false hd, if_neg Bool.false_ne_true, Int.sign_eq_neg_one_of_neg (by omega), Int.neg_one_mul]
    have e : ((d.natAbs / Int.gcd n d : Nat) : Int) = -d / (Int.gcd n d : Int) := by
      rw [Int.natCast_ediv, Int.ofNat_natAbs_of_nonpos (by omega)]
    rw [e]

def F_is_number : List D → (D → Prop) → Prop := fun ds R => ∃ i : Int, ds = [.int i] ∧ R (.bool true)
theorem c_is_number (T : Tp K mg) : Cb P w K mg base 1 "is_number" F_is_number := by
  have sc : FnScope ["thing"] ["thing"] (defScope s_is_number) := ⟨rfl, rfl, rfl, by decide +kernel, rfl, by decide +kernel, by decide +kernel⟩
  refine T.cb 0 rfl rfl (st := s_is_number) sc (fun _ _ _ _ _ _ us hl => match us, hl with | [_], _ => rfl) (fun ds R hF => by obtain ⟨i, rfl, q⟩ := hF; rfl) ?_
  intro f cdv A l s H E W ds R hr hG hF
  obtain ⟨i, rfl, q⟩ := hF
  refine' (b_ret (e_and (e_isi (T := "int") T.f_isinstance T.f_int (e_var 0 rfl (pv 0)) (by decide +kernel) ?h0) (fun hc => (e_one (e_not (e_isi (T := "bool") T.f_isinstance T.f_bool (e_var 0 rfl (pv 0)) (by decide +kernel) ?h1))))) ?h2)
  case h0 =>
    exact k_ty "int" "int" (r := true) (by decide +kernel)
  case h1 =>
    exact k_ty "int" "bool" (r := false) (by decide +kernel)
  case h2 =>
    exact q
def F_is_index : List D → (D → Prop) → Prop := fun ds R => ∃ i : Int, ds = [.int i] ∧ R (.bool (decide (0 ≤ i)))
theorem c_is_index (T : Tp K mg) : Cb P w K mg base 2 "is_index" F_is_index := by
  have sc : FnScope ["thing"] ["thing"] (defScope s_is_index) := ⟨rfl, rfl, rfl, by decide +kernel, rfl, by decide +kernel, by decide +kernel⟩
  have C_is_number := c_is_number (P := P) (w := w) (base := base) T
  refine T.cb 1 rfl rfl (st := s_is_index) sc (fun _ _ _ _ _ _ us hl => match us, hl with | [_], _ => rfl) (fun ds R hF => by obtain ⟨i, rfl, q⟩ := hF; rfl) ?_
  intro f cdv A l s H E W ds R hr hG hF
  obtain ⟨i, rfl, q⟩ := hF
  refine' (b_ret (e_and (e_call (C_is_number.mono (by decide)) hr hG (a_cons (e_var 0 rfl (pv 0)) a_nil) ?h0) (fun hc => (e_one (e_ge (e_var 0 rfl (pv 0)) e_int)))) ?h1)
  case h0 =>
    exact ⟨i, rfl, rfl⟩
  case h1 =>
    exact q
def F_is_sized : List D → (D → Prop) → Prop := fun ds R => ∃ (xs : List D) (n : Nat), ds = [.tuple xs, .int n] ∧ xs.length ≤ 1000 ∧ R (.bool (decide (xs.length = n)))
theorem c_is_sized (T : Tp K mg) : Cb P w K mg base 1 "is_sized" F_is_sized := by
  have sc : FnScope ["thing", "many"] ["thing", "many"] (defScope s_is_sized) := ⟨rfl, rfl, rfl, by decide +kernel, rfl, by decide +kernel, by decide +kernel⟩
  refine T.cb 2 rfl rfl (st := s_is_sized) sc (fun _ _ _ _ _ _ us hl => match us, hl with | [_, _], _ => rfl) (fun ds R hF => by obtain ⟨xs, n, rfl, hz, q⟩ := hF; rfl) ?_
  intro f cdv A l s H E W ds R hr hG hF
  obtain ⟨xs, n, rfl, hz, q⟩ := hF
  refine' (b_ret (e_and (e_isi (T := "tuple") T.f_isinstance T.f_tuple (e_var 0 rfl (pv 0)) (by decide +kernel) ?h0) (fun hc => (e_one (e_eqI (e_len T.f_len (e_var 0 rfl (pv 0)) rfl ?h1) (e_var 1 rfl (pv 1)))))) ?h2)
  case h0 =>
    exact k_ty "tuple" "tuple" (r := true) (by decide +kernel)
  case h1 =>
    exact Nat.le_of_lt (small1000 hz)
  case h2 =>
    have e : (true && decide ((xs.length : Int) = (n : Int))) = decide (xs.length = n) := by
      rw [Bool.true_and, decide_eq_decide]
      omega
    rw [← e] at q
    exact q
def F_divisor : List D → (D → Prop) → Prop := fun ds R => ∃ n d : Int, ds = [.int n, .int d] ∧ R (.int (Int.gcd n d : Int))
theorem c_divisor (T : Tp K mg) : Cb P w K mg base 1 "divisor" F_divisor := by
  have sc : FnScope ["n", "d", "one", "other"] ["n", "d"] (defScope s_divisor) := ⟨rfl, rfl, rfl, by decide +kernel, rfl, by decide +kernel, by decide +kernel⟩
  refine T.cb 3 rfl rfl (st := s_divisor) sc (fun _ _ _ _ _ _ us hl => match us, hl with | [_, _], _ => rfl) (fun ds R hF => by obtain ⟨n, d, rfl, q⟩ := hF; rfl) ?_
  intro f cdv A l s H E W ds R hr hG hF
  obtain ⟨n, d, rfl, q⟩ := hF
  refine' (b_par 2 3 rfl sc.nd rfl rfl (by decide) rfl rfl (a_cons (e_abs T.f_abs (e_var 0 rfl (pv 0))) (a_cons (e_abs T.f_abs (e_var 1 rfl (pv 1))) a_nil)) rfl ?h0)
  case h0 =>
    refine b_while (I := fun m ρ' => ∃ a : Nat, Nat.gcd a m = Int.gcd n d ∧ ρ' = [.d (.int n), .d (.int d), .d (.int a), .d (.int m)]) (Ω := fun ρ' => ρ' = [.d (.int n), .d (.int d), .d (.int (Int.gcd n d : Int)), .d (.int 0)]) PassesOwn.never ⟨d.natAbs, n.natAbs, rfl, rfl⟩ ?_ ?_
    · rintro b ρ' ⟨a, hg, rfl⟩
      refine ⟨_, t_neI (e_var 3 rfl (pv 3)) e_int, fun hc => ?_, fun hc => ?_⟩
      · have hb : b ≠ 0 := by
          rintro rfl
          simp at hc
        refine b_par 2 3 rfl sc.nd rfl rfl (by decide) rfl rfl (a_cons (e_var 3 rfl (pv 3)) (a_cons (e_mod (by omega) (e_var 2 rfl (pv 2)) (e_var 3 rfl (pv 3))) a_nil)) rfl (b_nil ?_)
        refine ⟨a % b, Nat.mod_lt _ (Nat.pos_of_ne_zero hb), b, ?_, ?_⟩
        · rw [← hg, Nat.gcd_comm a b, Nat.gcd_rec b a, Nat.gcd_comm]
        · show [Sl.d (.int n), Sl.d (.int d), Sl.d (.int (b : Int)), Sl.d (.int ((a : Int) % (b : Int)))] = _
          rw [Int.natCast_emod]
      · have hb : b = 0 := by
          have h1 := hc
          simp at h1
          exact h1
        subst hb
        rw [Nat.gcd_zero_right] at hg
        rw [← hg]
        rfl
    · rintro ρ' rfl
      exact b_ret (e_var 2 rfl (pv 2)) q
def F_is_fraction : List D → (D → Prop) → Prop := fun ds R => ∃ p : Rat, ds = [encQ p] ∧ R (.bool true)
theorem c_is_fraction (T : Tp K mg) : Cb P w K mg base 3 "is_fraction" F_is_fraction := by
  have sc : FnScope ["thing"] ["thing"] (defScope s_is_fraction) := ⟨rfl, rfl, rfl, by decide +kernel, rfl, by decide +kernel, by decide +kernel⟩
  have C_divisor := c_divisor (P := P) (w := w) (base := base) T
  have C_is_number := c_is_number (P := P) (w := w) (base := base) T
  have C_is_sized := c_is_sized (P := P) (w := w) (base := base) T
  refine T.cb 4 rfl rfl (st := s_is_fraction) sc (fun _ _ _ _ _ _ us hl => match us, hl with | [_], _ => rfl) (fun ds R hF => by obtain ⟨p, rfl, q⟩ := hF; rfl) ?_
  intro f cdv A l s H E W ds R hr hG hF
  obtain ⟨p, rfl, q⟩ := hF
  refine' (b_if1 (t_w (w_or (t_not (t_val (e_call (C_is_sized.mono (by decide)) hr hG (a_cons (e_var 0 rfl (pv 0)) (a_cons e_int a_nil)) ?h0))) (fun hc => (w_or (t_not (t_val (e_call (C_is_number.mono (by decide)) hr hG (a_cons (e_at (e_var 0 rfl (pv 0)) rfl) a_nil) ?h1))) (fun hc => (w_or (t_not (t_val (e_call (C_is_number.mono (by decide)) hr hG (a_cons (e_at (e_var 0 rfl (pv 0)) rfl) a_nil) ?h2))) (fun hc => (w_or1 (t_lt (e_at (e_var 0 rfl (pv 0)) rfl) e_int))))))))) (fun hc => (b_ret e_bl ?h3)) (fun hc => (b_ret (e_eqI (e_call (C_divisor.mono (by decide)) hr hG (a_cons (e_at (e_var 0 rfl (pv 0)) rfl) (a_cons (e_at (e_var 0 rfl (pv 0)) rfl) a_nil)) ?h4) e_int) ?h5)))
  case h0 =>
    exact ⟨_, 2, rfl, Nat.le_of_ble_eq_true rfl, rfl⟩
  case h1 =>
    exact ⟨_, rfl, rfl⟩
  case h2 =>
    exact ⟨_, rfl, rfl⟩
  case h3 =>
    exfalso
    have h1 := den_pos p
    have h2 : decide ((p.den : Int) < 1) = false := decide_eq_false (by omega)
    rw [h2] at hc
    simp at hc
  case h4 =>
    exact ⟨_, _, rfl, rfl⟩
  case h5 =>
    have e : (Int.gcd p.num (p.den : Int) : Int) = 1 := by
      have := p.reduced
      show ((Nat.gcd p.num.natAbs (p.den : Int).natAbs : Nat) : Int) = 1
      rw [natAbs_den, this]
      rfl
    rw [e]
    exact q
def F_fraction : List D → (D → Prop) → Prop := fun ds R => ∃ n d : Int, ds = [.int n, .int d] ∧ d ≠ 0 ∧ d.natAbs < 2 ^ 9000 ∧ R (encQ (Rat.divInt n d))
theorem c_fraction (T : Tp K mg) : Cb P w K mg base 3 "fraction" F_fraction := by
  have sc : FnScope ["n", "d", "by"] ["n", "d"] (defScope s_fraction) := ⟨rfl, rfl, rfl, by decide +kernel, rfl, by decide +kernel, by decide +kernel⟩
  have C_divisor := c_divisor (P := P) (w := w) (base := base) T
  have C_is_number := c_is_number (P := P) (w := w) (base := base) T
  refine T.cb 5 rfl rfl (st := s_fraction) sc (fun _ _ _ _ _ _ us hl => match us, hl with | [_, _], _ => rfl) (fun ds R hF => by obtain ⟨n, d, rfl, h0, hd, q⟩ := hF; rfl) ?_
  intro f cdv A l s H E W ds R hr hG hF
  obtain ⟨n, d, rfl, h0, hd, q⟩ := hF
  refine' (b_if1 (t_w (w_or (t_not (t_val (e_call (C_is_number.mono (by decide)) hr hG (a_cons (e_var 0 rfl (pv 0)) a_nil) ?h0))) (fun hc => (w_or (t_not (t_val (e_call (C_is_number.mono (by decide)) hr hG (a_cons (e_var 1 rfl (pv 1)) a_nil) ?h1))) (fun hc => (w_or1 (t_eqI (e_var 1 rfl (pv 1)) e_int))))))) (fun hc => ?h2) (fun hc => (b_set 2 sc.nd rfl (.inl rfl) (e_call (C_divisor.mono (by decide)) hr hG (a_cons (e_var 0 rfl (pv 0)) (a_cons (e_var 1 rfl (pv 1)) a_nil)) ?h3) (b_ret (e_ifD (t_gt (e_var 1 rfl (pv 1)) e_int) (fun hc => (e_tup (a_cons (e_fdiv ?h4 (e_var 0 rfl (pv 0)) (e_var 2 rfl (pv 2))) (a_cons (e_fdiv ?h5 (e_var 1 rfl (pv 1)) (e_var 2 rfl (pv 2))) a_nil)))) (fun hc => (e_tup (a_cons (e_fdiv ?h6 (e_neg (e_var 0 rfl (pv 0))) (e_var 2 rfl (pv 2))) (a_cons (e_fdiv ?h7 (e_neg (e_var 1 rfl (pv 1))) (e_var 2 rfl (pv 2))) a_nil))))) ?h8))))
  case h0 =>
    exact ⟨_, rfl, rfl⟩
  case h1 =>
    exact ⟨_, rfl, rfl⟩
  case h2 =>
    refine b_never ?_
    simp [h0] at hc
  case h3 =>
    exact ⟨_, _, rfl, rfl⟩
  case h4 =>
    exact wide_div (b := 9000) (Int.natCast_pos.mpr (gcd_pos_of h0)) (by rw [Int.natAbs_natCast]; exact Nat.lt_of_le_of_lt (gcd_le_of h0) hd) (by decide) (by decide)
  case h5 =>
    exact wide_div (b := 9000) (Int.natCast_pos.mpr (gcd_pos_of h0)) (by rw [Int.natAbs_natCast]; exact Nat.lt_of_le_of_lt (gcd_le_of h0) hd) (by decide) (by decide)
  case h6 =>
    exact wide_div (b := 9000) (Int.natCast_pos.mpr (gcd_pos_of h0)) (by rw [Int.natAbs_natCast]; exact Nat.lt_of_le_of_lt (gcd_le_of h0) hd) (by decide) (by decide)
  case h7 =>
    exact wide_div (b := 9000) (Int.natCast_pos.mpr (gcd_pos_of h0)) (by rw [Int.natAbs_natCast]; exact Nat.lt_of_le_of_lt (gcd_le_of h0) hd) (by decide) (by decide)
  case h8 =>
    rw [divInt_enc h0] at q
    exact q
def F_whole : List D → (D → Prop) → Prop := fun ds R => ∃ n : Int, ds = [.int n] ∧ R (encQ (n : Rat))
theorem c_whole (T : Tp K mg) : Cb P w K mg base 4 "whole" F_whole := by
  have sc : FnScope ["n"] ["n"] (defScope s_whole) := ⟨rfl, rfl, rfl, by decide +kernel, rfl, by decide +kernel, by decide +kernel⟩
  have C_fraction := c_fraction (P := P) (w := w) (base := base) T
  refine T.cb 6 rfl rfl (st := s_whole) sc (fun _ _ _ _ _ _ us hl => match us, hl with | [_], _ => rfl) (fun ds R hF => by obtain ⟨n, rfl, q⟩ := hF; rfl) ?_
  intro f cdv A l s H E W ds R hr hG hF
  obtain ⟨n, rfl, q⟩ := hF
  refine' (b_ret (e_call (C_fraction.mono (by decide)) hr hG (a_cons (e_var 0 rfl (pv 0)) (a_cons e_int a_nil)) ?h0) ?h1)
  case h0 =>
    exact ⟨n, 1, rfl, by decide, by decide +kernel, rfl⟩
  case h1 =>
    have e : Rat.divInt n 1 = (n : Rat) := by
      have h := Rat.num_divInt_den (n : Rat)
      rw [Rat.num_intCast, Rat.den_intCast] at h
      exact h
    rw [e]
    exact q
def F_add : List D → (D → Prop) → Prop := fun ds R => ∃ p r : Rat, ds = [encQ p, encQ r] ∧ Bd p ∧ Bd r ∧ R (encQ (p + r))
theorem c_add (T : Tp K mg) : Cb P w K mg base 4 "add" F_add := by
  have sc : FnScope ["f", "g"] ["f", "g"] (defScope s_add) := ⟨rfl, rfl, rfl, by decide +kernel, rfl, by decide +kernel, by decide +kernel⟩
  have C_fraction := c_fraction (P := P) (w := w) (base := base) T
  refine T.cb 7 rfl rfl (st := s_add) sc (fun _ _ _ _ _ _ us hl => match us, hl with | [_, _], _ => rfl) (fun ds R hF => by obtain ⟨p, r, rfl, hp, hq, q⟩ := hF; rfl) ?_
  intro f cdv A l s H E W ds R hr hG hF
  obtain ⟨p, r, rfl, hp, hq, q⟩ := hF
  refine' (b_ret (e_call (C_fraction.mono (by decide)) hr hG (a_cons (e_add (e_mul ?h0 (e_at (e_var 0 rfl (pv 0)) rfl) (e_at (e_var 1 rfl (pv 1)) rfl)) (e_mul ?h1 (e_at (e_var 1 rfl (pv 1)) rfl) (e_at (e_var 0 rfl (pv 0)) rfl))) (a_cons (e_mul ?h2 (e_at (e_var 0 rfl (pv 0)) rfl) (e_at (e_var 1 rfl (pv 1)) rfl)) a_nil)) ?h3) ?h4)
  case h0 =>
    exact mulW hp.n hq.d (by decide)
  case h1 =>
    exact mulW hq.n hp.d (by decide)
  case h2 =>
    exact mulW hp.d hq.d (by decide)
  case h3 =>
    refine ⟨_, _, rfl, ?_, ?_, rfl⟩
    · have h1 := Int.mul_pos (den_pos p) (den_pos r)
      omega
    · exact wide_lt hp.d hq.d
  case h4 =>
    have e : Rat.divInt (p.num * (r.den : Int) + r.num * (p.den : Int)) ((p.den : Int) * (r.den : Int)) = p + r := by
      rw [Rat.add_def', ← Rat.divInt_ofNat, Int.natCast_mul]
    rw [e]
    exact q
def F_sub : List D → (D → Prop) → Prop := fun ds R => ∃ p r : Rat, ds = [encQ p, encQ r] ∧ Bd p ∧ Bd r ∧ R (encQ (p - r))
theorem c_sub (T : Tp K mg) : Cb P w K mg base 4 "sub" F_sub := by
  have sc : FnScope ["f", "g"] ["f", "g"] (defScope s_sub) := ⟨rfl, rfl, rfl, by decide +kernel, rfl, by decide +kernel, by decide +kernel⟩
  have C_fraction := c_fraction (P := P) (w := w) (base := base) T
  refine T.cb 8 rfl rfl (st := s_sub) sc (fun _ _ _ _ _ _ us hl => match us, hl with | [_, _], _ => rfl) (fun ds R hF => by obtain ⟨p, r, rfl, hp, hq, q⟩ := hF; rfl) ?_
  intro f cdv A l s H E W ds R hr hG hF
  obtain ⟨p, r, rfl, hp, hq, q⟩ := hF
  refine' (b_ret (e_call (C_fraction.mono (by decide)) hr hG (a_cons (e_sub (e_mul ?h0 (e_at (e_var 0 rfl (pv 0)) rfl) (e_at (e_var 1 rfl (pv 1)) rfl)) (e_mul ?h1 (e_at (e_var 1 rfl (pv 1)) rfl) (e_at (e_var 0 rfl (pv 0)) rfl))) (a_cons (e_mul ?h2 (e_at (e_var 0 rfl (pv 0)) rfl) (e_at (e_var 1 rfl (pv 1)) rfl)) a_nil)) ?h3) ?h4)
  case h0 =>
    exact mulW hp.n hq.d (by decide)
  case h1 =>
    exact mulW hq.n hp.d (by decide)
  case h2 =>
    exact mulW hp.d hq.d (by decide)
  case h3 =>
    refine ⟨_, _, rfl, ?_, ?_, rfl⟩
    · have h1 := Int.mul_pos (den_pos p) (den_pos r)
      omega
    · exact wide_lt hp.d hq.d
  case h4 =>
    have e : Rat.divInt (p.num * (r.den : Int) - r.num * (p.den : Int)) ((p.den : Int) * (r.den : Int)) = p - r := by
      rw [Rat.sub_def', ← Rat.divInt_ofNat, Int.natCast_mul]
    rw [e]
    exact q
def F_mul : List D → (D → Prop) → Prop := fun ds R => ∃ p r : Rat, ds = [encQ p, encQ r] ∧ Bd p ∧ Bd r ∧ R (encQ (p * r))
theorem c_mul (T : Tp K mg) : Cb P w K mg base 4 "mul" F_mul := by
  have sc : FnScope ["f", "g"] ["f", "g"] (defScope s_mul) := ⟨rfl, rfl, rfl, by decide +kernel, rfl, by decide +kernel, by decide +kernel⟩
  have C_fraction := c_fraction (P := P) (w := w) (base := base) T
  refine T.cb 9 rfl rfl (st := s_mul) sc (fun _ _ _ _ _ _ us hl => match us, hl with | [_, _], _ => rfl) (fun ds R hF => by obtain ⟨p, r, rfl, hp, hq, q⟩ := hF; rfl) ?_
  intro f cdv A l s H E W ds R hr hG hF
  obtain ⟨p, r, rfl, hp, hq, q⟩ := hF
  refine' (b_ret (e_call (C_fraction.mono (by decide)) hr hG (a_cons (e_mul ?h0 (e_at (e_var 0 rfl (pv 0)) rfl) (e_at (e_var 1 rfl (pv 1)) rfl)) (a_cons (e_mul ?h1 (e_at (e_var 0 rfl (pv 0)) rfl) (e_at (e_var 1 rfl (pv 1)) rfl)) a_nil)) ?h2) ?h3)
  case h0 =>
    exact mulW hp.n hq.n (by decide)
  case h1 =>
    exact mulW hp.d hq.d (by decide)
  case h2 =>
    refine ⟨_, _, rfl, ?_, ?_, rfl⟩
    · have h1 := Int.mul_pos (den_pos p) (den_pos r)
      omega
    · exact wide_lt hp.d hq.d
  case h3 =>
    have e : Rat.divInt (p.num * r.num) ((p.den : Int) * (r.den : Int)) = p * r := by
      rw [Rat.mul_def', ← Rat.divInt_ofNat, Int.natCast_mul]
    rw [e]
    exact q
def F_div : List D → (D → Prop) → Prop := fun ds R => ∃ p r : Rat, ds = [encQ p, encQ r] ∧ Bd p ∧ Sz r 4400 4400 ∧ r ≠ 0 ∧ R (encQ (p / r))
theorem c_div (T : Tp K mg) : Cb P w K mg base 4 "div" F_div := by
  have sc : FnScope ["f", "g"] ["f", "g"] (defScope s_div) := ⟨rfl, rfl, rfl, by decide +kernel, rfl, by decide +kernel, by decide +kernel⟩
  have C_fraction := c_fraction (P := P) (w := w) (base := base) T
  refine T.cb 10 rfl rfl (st := s_div) sc (fun _ _ _ _ _ _ us hl => match us, hl with | [_, _], _ => rfl) (fun ds R hF => by obtain ⟨p, r, rfl, hp, hq, h0, q⟩ := hF; rfl) ?_
  intro f cdv A l s H E W ds R hr hG hF
  obtain ⟨p, r, rfl, hp, hq, h0, q⟩ := hF
  refine' (b_ret (e_call (C_fraction.mono (by decide)) hr hG (a_cons (e_mul ?h0 (e_at (e_var 0 rfl (pv 0)) rfl) (e_at (e_var 1 rfl (pv 1)) rfl)) (a_cons (e_mul ?h1 (e_at (e_var 0 rfl (pv 0)) rfl) (e_at (e_var 1 rfl (pv 1)) rfl)) a_nil)) ?h2) ?h3)
  case h0 =>
    exact mulW hp.n (show (r.den : Int).natAbs < 2 ^ 4400 by rw [natAbs_den]; exact hq.2) (by decide)
  case h1 =>
    exact mulW hp.d hq.1 (by decide)
  case h2 =>
    refine ⟨_, _, rfl, ?_, ?_, rfl⟩
    · have h1 := den_pos p
      exact Int.mul_ne_zero (by omega) (fun z => h0 (Rat.num_eq_zero.mp z))
    · exact Nat.lt_of_lt_of_le (wide_lt hp.d hq.1) (Nat.pow_le_pow_right (by decide) (by decide))
  case h3 =>
    have e : Rat.divInt (p.num * (r.den : Int)) ((p.den : Int) * r.num) = p / r := by
      rw [Rat.div_def, Rat.inv_def]
      have h1 : p = Rat.divInt p.num (p.den : Int) := (Rat.num_divInt_den p).symm
      rw [← Rat.divInt_mul_divInt, ← h1]
    rw [e]
    exact q
def F_neg : List D → (D → Prop) → Prop := fun ds R => ∃ p : Rat, ds = [encQ p] ∧ R (encQ (-p))
theorem c_neg (T : Tp K mg) : Cb P w K mg base 1 "neg" F_neg := by
  have sc : FnScope ["f"] ["f"] (defScope s_neg) := ⟨rfl, rfl, rfl, by decide +kernel, rfl, by decide +kernel, by decide +kernel⟩
  refine T.cb 11 rfl rfl (st := s_neg) sc (fun _ _ _ _ _ _ us hl => match us, hl with | [_], _ => rfl) (fun ds R hF => by obtain ⟨p, rfl, q⟩ := hF; rfl) ?_
  intro f cdv A l s H E W ds R hr hG hF
  obtain ⟨p, rfl, q⟩ := hF
  refine' (b_ret (e_tup (a_cons (e_neg (e_at (e_var 0 rfl (pv 0)) rfl)) (a_cons (e_at (e_var 0 rfl (pv 0)) rfl) a_nil))) ?h0)
  case h0 =>
    exact q
theorem sgn_num (q : Rat) : (if decide (0 < q.num) = true then (1 : Int) else 0) - (if decide (q.num < 0) = true then (1 : Int) else 0) = QM.sgn q := by
  have h1 : 0 < q ↔ 0 < q.num := by rw [Rat.lt_iff]; simp
  have h2 : q < 0 ↔ q.num < 0 := by rw [Rat.lt_iff]; simp
  unfold QM.sgn
  by_cases a : 0 < q.num
  · rw [decide_eq_true a, if_pos rfl, decide_eq_false (by omega), if_neg Bool.false_ne_true, if_pos (h1.mpr a)]
    rfl
  · rw [decide_eq_false a, if_neg Bool.false_ne_true, if_neg (fun z => a (h1.mp z))]
    by_cases b : q.num < 0
    · rw [decide_eq_true b, if_pos rfl, if_pos (h2.mpr b)]
      rfl
    · rw [decide_eq_false b, if_neg Bool.false_ne_true, if_neg (fun z => b (h2.mp z))]
      rfl
def F_sign : List D → (D → Prop) → Prop := fun ds R => ∃ p : Rat, ds = [encQ p] ∧ R (.int (QM.sgn p))
theorem c_sign (T : Tp K mg) : Cb P w K mg base 1 "sign" F_sign := by
  have sc : FnScope ["f"] ["f"] (defScope s_sign) := ⟨rfl, rfl, rfl, by decide +kernel, rfl, by decide +kernel, by decide +kernel⟩
  refine T.cb 12 rfl rfl (st := s_sign) sc (fun _ _ _ _ _ _ us hl => match us, hl with | [_], _ => rfl) (fun ds R hF => by obtain ⟨p, rfl, q⟩ := hF; rfl) ?_
  intro f cdv A l s H E W ds R hr hG hF
  obtain ⟨p, rfl, q⟩ := hF
  refine' (b_ret (e_sub (e_intB T.f_int (e_gt (e_at (e_var 0 rfl (pv 0)) rfl) e_int)) (e_intB T.f_int (e_lt (e_at (e_var 0 rfl (pv 0)) rfl) e_int))) ?h0)
  case h0 =>
    rw [← sgn_num] at q
    exact q
def F_compare_fractions : List D → (D → Prop) → Prop := fun ds R => ∃ p r : Rat, ds = [encQ p, encQ r] ∧ Bd p ∧ Bd r ∧ R (.int (QM.sgn (p - r)))
theorem c_compare_fractions (T : Tp K mg) : Cb P w K mg base 5 "compare_fractions" F_compare_fractions := by
  have sc : FnScope ["f", "g"] ["f", "g"] (defScope s_compare_fractions) := ⟨rfl, rfl, rfl, by decide +kernel, rfl, by decide +kernel, by decide +kernel⟩
  have C_sign := c_sign (P := P) (w := w) (base := base) T
  have C_sub := c_sub (P := P) (w := w) (base := base) T
  refine T.cb 13 rfl rfl (st := s_compare_fractions) sc (fun _ _ _ _ _ _ us hl => match us, hl with | [_, _], _ => rfl) (fun ds R hF => by obtain ⟨p, r, rfl, hp, hq, q⟩ := hF; rfl) ?_
  intro f cdv A l s H E W ds R hr hG hF
  obtain ⟨p, r, rfl, hp, hq, q⟩ := hF
  refine' (b_ret (e_call (C_sign.mono (by decide)) hr hG (a_cons (e_call (C_sub.mono (by decide)) hr hG (a_cons (e_var 0 rfl (pv 0)) (a_cons (e_var 1 rfl (pv 1)) a_nil)) ?h0) a_nil) ?h1) ?h2)
  case h0 =>
    exact ⟨p, r, rfl, hp, hq, rfl⟩
  case h1 =>
    exact ⟨_, rfl, rfl⟩
  case h2 =>
    exact q
def F_middle : List D → (D → Prop) → Prop := fun ds R => ∃ p r : Rat, ds = [encQ p, encQ r] ∧ Bd p ∧ Bd r ∧ Bd (p + r) ∧ R (encQ ((p + r) / 2))
theorem c_middle (T : Tp K mg) : Cb P w K mg base 5 "middle" F_middle := by
  have sc : FnScope ["f", "g"] ["f", "g"] (defScope s_middle) := ⟨rfl, rfl, rfl, by decide +kernel, rfl, by decide +kernel, by decide +kernel⟩
  have C_add := c_add (P := P) (w := w) (base := base) T
  have C_div := c_div (P := P) (w := w) (base := base) T
  refine T.cb 14 rfl rfl (st := s_middle) sc (fun _ _ _ _ _ _ us hl => match us, hl with | [_, _], _ => rfl) (fun ds R hF => by obtain ⟨p, r, rfl, hp, hq, h2, q⟩ := hF; rfl) ?_
  intro f cdv A l s H E W ds R hr hG hF
  obtain ⟨p, r, rfl, hp, hq, h2, q⟩ := hF
  refine' (b_ret (e_call (C_div.mono (by decide)) hr hG (a_cons (e_call (C_add.mono (by decide)) hr hG (a_cons (e_var 0 rfl (pv 0)) (a_cons (e_var 1 rfl (pv 1)) a_nil)) ?h0) (a_cons (e_tup (a_cons e_int (a_cons e_int a_nil))) a_nil)) ?h1) ?h2)
  case h0 =>
    exact ⟨p, r, rfl, hp, hq, rfl⟩
  case h1 =>
    exact ⟨p + r, 2, rfl, h2, ⟨by decide +kernel, by decide +kernel⟩, by decide +kernel, rfl⟩
  case h2 =>
    exact q
def F_floor : List D → (D → Prop) → Prop := fun ds R => ∃ p : Rat, ds = [encQ p] ∧ Bd p ∧ R (.int p.floor)
theorem c_floor (T : Tp K mg) : Cb P w K mg base 1 "floor" F_floor := by
  have sc : FnScope ["f"] ["f"] (defScope s_floor) := ⟨rfl, rfl, rfl, by decide +kernel, rfl, by decide +kernel, by decide +kernel⟩
  refine T.cb 18 rfl rfl (st := s_floor) sc (fun _ _ _ _ _ _ us hl => match us, hl with | [_], _ => rfl) (fun ds R hF => by obtain ⟨p, rfl, hp, q⟩ := hF; rfl) ?_
  intro f cdv A l s H E W ds R hr hG hF
  obtain ⟨p, rfl, hp, q⟩ := hF
  refine' (b_ret (e_fdiv ?h0 (e_at (e_var 0 rfl (pv 0)) rfl) (e_at (e_var 0 rfl (pv 0)) rfl)) ?h1)
  case h0 =>
    exact wide_div (den_pos p) hp.d (by decide) (by decide)
  case h1 =>
    rw [Rat.floor_def] at q
    exact q
end K65
end
section
set_option Elab.async false
set_option linter.all false
set_option maxRecDepth 100000
set_option maxHeartbeats 4000000
set_option exponentiation.threshold 20000
namespace K65
open PySem PySem.Spec PyProof.Rows L2 DL
variable {K : PySem.W.Frag} {mg : Str → Option Value} {P : Program} {w : World} {base : Heap}
theorem pw8002 : (2 : Nat) ^ 8002 = 2 ^ 8000 * 4 := Nat.pow_add 2 8000 2
theorem cmulN {i j : Int} {a b : Nat} (ha : i.natAbs < 2 ^ a) (hb : j.natAbs < 2 ^ b) (h : a + b ≤ 999990 := by decide) : CMulW i j := mulW ha hb h
theorem sgn_abs (q : Rat) : (QM.sgn q).natAbs < 2 ^ 2 := by
  rcases QM.sgn_cases q with ⟨_, e⟩ | ⟨_, e⟩ | ⟨_, e⟩ <;> rw [e] <;> decide
theorem sg2_abs (a b c : Rat) : (QM.sg2 a b c).natAbs < 2 ^ 2 := by
  unfold QM.sg2
  simp only []
  rcases QM.sgn_cases a with ⟨_, e⟩ | ⟨_, e⟩ | ⟨_, e⟩ <;> rcases QM.sgn_cases b with ⟨_, e'⟩ | ⟨_, e'⟩ | ⟨_, e'⟩ <;> rcases QM.sgn_cases (a * a - b * b * c) with ⟨_, e2⟩ | ⟨_, e2⟩ | ⟨_, e2⟩ <;> rw [e, e', e2] <;> (repeat' split) <;> decide
/-- what rooted makes of good numbers -/
def rtD (a b c : Rat) : D := if b = 0 ∨ c = 0 then encR a 0 0 else encR a b c
/-- what may stand under a root -/
def Und (b c : Rat) : Prop := b = 0 ∨ c = 0 ∨ (QM.Good c ∧ Sz c 2000 2000)
theorem no_root {c : Rat} (g : ∀ x : Rat, x * x ≠ c) (h0 : 0 < c) : ¬ (isq c.num.natAbs * isq c.num.natAbs = c.num.natAbs ∧ isq c.den * isq c.den = c.den) := by
  rintro ⟨h1, h2⟩
  have hn : 0 ≤ c.num := Rat.num_nonneg.mpr (Rat.le_of_lt h0)
  have hd : (isq c.den : Int) ≠ 0 := by
    intro z
    have : isq c.den = 0 := by omega
    rw [this] at h2
    exact c.den_nz h2.symm
  refine g (Rat.divInt (isq c.num.natAbs : Int) (isq c.den : Int)) ?_
  rw [Rat.divInt_mul_divInt]
  have e1 : (isq c.num.natAbs : Int) * (isq c.num.natAbs : Int) = c.num := by
    rw [← Int.natCast_mul, h1]
    omega
  have e2 : (isq c.den : Int) * (isq c.den : Int) = (c.den : Int) := by
    rw [← Int.natCast_mul, h2]
  rw [e1, e2]
  exact Rat.num_divInt_den c
theorem sz_isq {n a : Nat} (h : n < 2 ^ (2 * a)) : isq n < 2 ^ a := by
  refine Nat.lt_of_not_le fun z => ?_
  have h1 := isq_le n
  have h2 : 2 ^ a * 2 ^ a ≤ isq n * isq n := Nat.mul_le_mul z z
  have h3 : 2 ^ (2 * a) = 2 ^ a * 2 ^ a := by rw [← Nat.pow_add]; congr 1; omega
  omega

def F_whole_root : List D → (D → Prop) → Prop := fun ds R => ∃ n : Nat, ds = [.int n] ∧ n < 2 ^ 8000 ∧ R (.int (isq n : Nat))
theorem c_whole_root (T : Tp K mg) : Cb P w K mg base 3 "whole_root" F_whole_root := by
  have sc : FnScope ["n", "found", "later"] ["n"] (defScope s_whole_root) := ⟨rfl, rfl, rfl, by decide +kernel, rfl, by decide +kernel, by decide +kernel⟩
  have C_is_index := c_is_index (P := P) (w := w) (base := base) T
  refine T.cb 16 rfl rfl (st := s_whole_root) sc (fun _ _ _ _ _ _ us hl => match us, hl with | [_], _ => rfl) (fun ds R hF => by obtain ⟨n, rfl, hn, q⟩ := hF; rfl) ?_
  intro f cdv A l s H E W ds R hr hG hF
  obtain ⟨n, rfl, hn, q⟩ := hF
  refine' (b_if1 (t_not (t_val (e_call (C_is_index.mono (by decide)) hr hG (a_cons (e_var 0 rfl (pv 0)) a_nil) ?h0))) (fun hc => ?h1) (fun hc => (b_if1 (t_lt (e_var 0 rfl (pv 0)) e_int) (fun hc => (b_ret (e_var 0 rfl (pv 0)) ?h2)) (fun hc => (b_set 1 sc.nd rfl (.inl rfl) e_int ?h3)))))
  case h0 =>
    exact ⟨_, rfl, rfl⟩
  case h1 =>
    refine b_never ?_
    simp at hc
  case h2 =>
    have e : isq n = n := by
      have h2 : n < 2 := by
        have := of_decide_eq_true hc
        omega
      refine isq_of ?_ ?_
      · have : n = 0 ∨ n = 1 := by omega
        rcases this with rfl | rfl <;> decide
      · have : n = 0 ∨ n = 1 := by omega
        rcases this with rfl | rfl <;> decide
    rw [e] at q
    exact q
  case h3 =>
    rename_i hc
    have h2 : 2 ≤ n := by
      have := of_decide_eq_false hc
      omega
    refine b_while (I := fun m ρ' => ∃ x : Nat, 0 < x ∧ m = 2 * n + 1 - x ∧ x ≤ 2 * n ∧ ρ' = [.d (.int n), .d (.int x), .no]) (Ω := fun ρ' => ∃ x : Nat, 0 < x ∧ n < x * x ∧ x ≤ 2 * n ∧ ρ' = [.d (.int n), .d (.int x), .no]) PassesOwn.never ⟨2 * n + 1 - 1, 1, by decide, rfl, by omega, rfl⟩ ?_ ?_
    · rintro m ρ' ⟨x, hx, rfl, hle, rfl⟩
      have hxb : x < 2 ^ 8002 := by
        have := pw8002
        omega
      refine ⟨_, t_le (e_mul (cmulN (a := 8002) (b := 8002) (by rw [Int.natAbs_natCast]; exact hxb) (by rw [Int.natAbs_natCast]; exact hxb)) (e_var 1 rfl (pv 1)) (e_var 1 rfl (pv 1))) (e_var 0 rfl (pv 0)), fun hc => ?_, fun hc => ?_⟩
      · have hxx : x * x ≤ n := by
          have h := of_decide_eq_true hc
          rw [← Int.natCast_mul] at h
          omega
        have hxn : x ≤ n := Nat.le_trans (Nat.le_mul_of_pos_left x hx) hxx
        refine b_augMul 1 (.inr (by decide)) sc.nd rfl (.inl rfl) rfl e_int (b_nil ?_)
        exact ⟨2 * n + 1 - x * 2, by omega, x * 2, by omega, rfl, by omega, rfl⟩
      · have h := of_decide_eq_false hc
        rw [← Int.natCast_mul] at h
        exact ⟨x, hx, by omega, hle, rfl⟩
    · rintro ρ' ⟨x, hx, hxx, hle, rfl⟩
      have dv : ∀ y : Nat, 0 < y → y ≤ 2 * n → CDivW (n : Int) (y : Int) := fun y h1 h2 => wide_div (b := 8002) (by omega) (by
        rw [Int.natAbs_natCast]
        have := pw8002
        omega) (by decide) (by decide)
      have ed : ∀ y : Nat, (((y : Int) + (n : Int) / (y : Int)) / 2 : Int) = (((y + n / y) / 2 : Nat) : Int) := fun y => by
        rw [← Int.natCast_ediv, ← Int.natCast_add]
        generalize y + n / y = z
        omega
      refine b_set 2 sc.nd rfl (.inl rfl) (e_fdiv (by exact ⟨by decide, by decide⟩) (e_add (e_var 1 rfl (pv 1)) (e_fdiv (dv x hx hle) (e_var 0 rfl (pv 0)) (e_var 1 rfl (pv 1)))) e_int) ?_
      rw [ed x]
      have hroot : isq n ≤ x := by
        refine Nat.le_of_not_lt fun z => ?_
        have := isq_le n
        have : x * x ≤ isq n * isq n := Nat.mul_le_mul (Nat.le_of_lt z) (Nat.le_of_lt z)
        omega
      refine b_while (I := fun m ρ' => m ≤ 2 * n ∧ 0 < m ∧ isq n ≤ m ∧ ρ' = [.d (.int n), .d (.int m), .d (.int ((m + n / m) / 2 : Nat))]) (Ω := fun ρ' => ∃ y, ρ' = [.d (.int n), .d (.int (isq n : Nat)), y]) PassesOwn.never ⟨x, hle, hx, hroot, rfl⟩ ?_ ?_
      · rintro m ρ' ⟨h1, h3, h4, rfl⟩
        refine ⟨_, t_lt (e_var 2 rfl (pv 2)) (e_var 1 rfl (pv 1)), fun hc => ?_, fun hc => ?_⟩
        · have hlt : (m + n / m) / 2 < m := by
            have h := of_decide_eq_true hc
            omega
          have hnw := newton (n := n) h3
          have hpos : 0 < (m + n / m) / 2 := by
            have h5 : 1 ≤ isq n := by
              refine Nat.le_of_not_lt fun z => ?_
              have h6 := isq_lt n
              have h7 : isq n = 0 := by omega
              rw [h7] at h6
              omega
            omega
          refine b_par 1 2 rfl sc.nd rfl rfl (by decide) rfl rfl (a_cons (e_var 2 rfl (pv 2)) (a_cons (e_fdiv (by exact ⟨by decide, by decide⟩) (e_add (e_var 2 rfl (pv 2)) (e_fdiv (dv _ hpos (by omega)) (e_var 0 rfl (pv 0)) (e_var 2 rfl (pv 2)))) e_int) a_nil)) rfl (b_nil ?_)
          refine ⟨(m + n / m) / 2, hlt, by omega, hpos, hnw, ?_⟩
          rw [ed]
          rfl
        · have hge : ¬ (m + n / m) / 2 < m := by
            have h := of_decide_eq_false hc
            omega
          rw [newton_end h3 h4 hge]
          exact ⟨_, rfl⟩
      · rintro ρ' ⟨y, rfl⟩
        exact b_ret (e_var 1 rfl (pv 1)) q
def F_root_of : List D → (D → Prop) → Prop := fun ds R => ∃ c : Rat, ds = [encQ c] ∧ 0 < c ∧ (∀ x : Rat, x * x ≠ c) ∧ Sz c 2000 2000 ∧ R .none
theorem c_root_of (T : Tp K mg) : Cb P w K mg base 4 "root_of" F_root_of := by
  have sc : FnScope ["f", "top", "bottom"] ["f"] (defScope s_root_of) := ⟨rfl, rfl, rfl, by decide +kernel, rfl, by decide +kernel, by decide +kernel⟩
  have C_whole_root := c_whole_root (P := P) (w := w) (base := base) T
  refine T.cb 17 rfl rfl (st := s_root_of) sc (fun _ _ _ _ _ _ us hl => match us, hl with | [_], _ => rfl) (fun ds R hF => by obtain ⟨c, rfl, h0, g, hs, q⟩ := hF; rfl) ?_
  intro f cdv A l s H E W ds R hr hG hF
  obtain ⟨c, rfl, h0, g, hs, q⟩ := hF
  refine' (b_if1 (t_lt (e_at (e_var 0 rfl (pv 0)) rfl) e_int) (fun hc => (b_ret e_non ?h0)) (fun hc => (b_par 1 2 rfl sc.nd rfl rfl (by decide) rfl rfl (a_cons (e_call (C_whole_root.mono (by decide)) hr hG (a_cons (e_at (e_var 0 rfl (pv 0)) rfl) a_nil) ?h1) (a_cons (e_call (C_whole_root.mono (by decide)) hr hG (a_cons (e_at (e_var 0 rfl (pv 0)) rfl) a_nil) ?h2) a_nil)) rfl (b_ret (e_ifD (t_w (w_and (t_eqI (e_mul ?h3 (e_var 1 rfl (pv 1)) (e_var 1 rfl (pv 1))) (e_at (e_var 0 rfl (pv 0)) rfl)) (fun hc => (w_and1 (t_eqI (e_mul ?h4 (e_var 2 rfl (pv 2)) (e_var 2 rfl (pv 2))) (e_at (e_var 0 rfl (pv 0)) rfl)))))) (fun hc => (e_tup (a_cons (e_var 1 rfl (pv 1)) (a_cons (e_var 2 rfl (pv 2)) a_nil)))) (fun hc => e_non)) ?h5))))
  case h0 =>
    exact q
  case h1 =>
    exact ⟨c.num.natAbs, by rw [Int.natAbs_of_nonneg (Rat.num_nonneg.mpr (Rat.le_of_lt h0))], Nat.lt_of_lt_of_le hs.1 (Nat.pow_le_pow_right (by decide) (by decide)), rfl⟩
  case h2 =>
    exact ⟨c.den, rfl, Nat.lt_of_lt_of_le hs.2 (Nat.pow_le_pow_right (by decide) (by decide)), rfl⟩
  case h3 =>
    exact cmulN (a := 1000) (b := 1000) (by rw [Int.natAbs_natCast]; exact sz_isq hs.1) (by rw [Int.natAbs_natCast]; exact sz_isq hs.1)
  case h4 =>
    exact cmulN (a := 1000) (b := 1000) (by rw [Int.natAbs_natCast]; exact sz_isq hs.2) (by rw [Int.natAbs_natCast]; exact sz_isq hs.2)
  case h5 =>
    have e : (decide ((isq c.num.natAbs : Int) * (isq c.num.natAbs : Int) = c.num) && decide ((isq c.den : Int) * (isq c.den : Int) = (c.den : Int))) = false := by
      rw [Bool.and_eq_false_iff]
      have h1 := no_root g h0
      have hn : 0 ≤ c.num := Rat.num_nonneg.mpr (Rat.le_of_lt h0)
      by_cases z : (isq c.num.natAbs : Int) * (isq c.num.natAbs : Int) = c.num
      · right
        refine decide_eq_false fun y => h1 ⟨?_, ?_⟩
        · rw [← Int.natCast_mul] at z
          omega
        · rw [← Int.natCast_mul] at y
          omega
      · exact .inl (decide_eq_false z)
    rw [e, if_neg Bool.false_ne_true]
    exact q
def F_rooted : List D → (D → Prop) → Prop := fun ds R => ∃ a b c : Rat, ds = [encQ a, encQ b, encQ c] ∧ Und b c ∧ R (rtD a b c)
theorem c_rooted (T : Tp K mg) : Cb P w K mg base 5 "rooted" F_rooted := by
  have sc : FnScope ["a", "b", "c", "root"] ["a", "b", "c"] (defScope s_rooted) := ⟨rfl, rfl, rfl, by decide +kernel, rfl, by decide +kernel, by decide +kernel⟩
  have C_add := c_add (P := P) (w := w) (base := base) T
  have C_mul := c_mul (P := P) (w := w) (base := base) T
  have C_root_of := c_root_of (P := P) (w := w) (base := base) T
  have C_sign := c_sign (P := P) (w := w) (base := base) T
  refine T.cb 21 rfl rfl (st := s_rooted) sc (fun _ _ _ _ _ _ us hl => match us, hl with | [_, _, _], _ => rfl) (fun ds R hF => by obtain ⟨a, b, c, rfl, hu, q⟩ := hF; rfl) ?_
  intro f cdv A l s H E W ds R hr hG hF
  obtain ⟨a, b, c, rfl, hu, q⟩ := hF
  refine' (b_if1 (t_w (w_or (t_eq hr.units ?h0 ?h1 (e_var 1 rfl (pv 1)) (g_ZERO T)) (fun hc => (w_or1 (t_eq hr.units ?h2 ?h3 (e_var 2 rfl (pv 2)) (g_ZERO T)))))) (fun hc => (b_ret (e_tup (a_cons (e_var 0 rfl (pv 0)) (a_cons (g_ZERO T) (a_cons (g_ZERO T) a_nil)))) ?h4)) (fun hc => (b_if1 (t_lt (e_call (C_sign.mono (by decide)) hr hG (a_cons (e_var 2 rfl (pv 2)) a_nil) ?h5) e_int) (fun hc => ?h6) (fun hc => (b_set 3 sc.nd rfl (.inl rfl) (e_call (d := .none) (C_root_of.mono (by decide)) hr hG (a_cons (e_var 2 rfl (pv 2)) a_nil) ?h7) (b_ret (e_if (t_isN (e_var 3 rfl (pv 3))) (fun hc => (e_tup (a_cons (e_var 0 rfl (pv 0)) (a_cons (e_var 1 rfl (pv 1)) (a_cons (e_var 2 rfl (pv 2)) a_nil))))) (fun hc => absurd hc (by decide))) ?h8))))))
  case h0 =>
    exact shQ _
  case h1 =>
    exact shQ _
  case h2 =>
    exact shQ _
  case h3 =>
    exact shQ _
  case h4 =>
    rw [eqvQ, eqvQ, Bool.or_eq_true, decide_eq_true_iff, decide_eq_true_iff] at hc
    have e : rtD a b c = encR a 0 0 := if_pos hc
    rw [e] at q
    exact q
  case h5 =>
    exact ⟨_, rfl, rfl⟩
  case h6 =>
    refine b_never ?_
    rename_i hc1
    rw [eqvQ, eqvQ, Bool.or_eq_false_iff, decide_eq_false_iff_not, decide_eq_false_iff_not] at hc1
    rcases hu with h | h | ⟨g, _⟩
    · exact hc1.1 h
    · exact hc1.2 h
    · have e : QM.sgn c = 1 := QM.sgn_pos g.pos
      rw [e] at hc
      simp at hc
  case h7 =>
    rename_i hc1
    rw [eqvQ, eqvQ, Bool.or_eq_false_iff, decide_eq_false_iff_not, decide_eq_false_iff_not] at hc1
    rcases hu with h | h | ⟨g, h⟩
    · exact absurd h hc1.1
    · exact absurd h hc1.2
    · exact ⟨c, rfl, g.pos, g.irr, h, rfl⟩
  case h8 =>
    rename_i hc1
    rw [eqvQ, eqvQ, Bool.or_eq_false_iff, decide_eq_false_iff_not, decide_eq_false_iff_not] at hc1
    have e : rtD a b c = encR a b c := if_neg (fun z => z.elim hc1.1 hc1.2)
    rw [e] at q
    exact q
end K65
end
section
set_option Elab.async false
set_option linter.all false
set_option maxRecDepth 100000
set_option maxHeartbeats 4000000
set_option exponentiation.threshold 20000
namespace K65
open PySem PySem.Spec PyProof.Rows L2 DL
variable {K : PySem.W.Frag} {mg : Str → Option Value} {P : Program} {w : World} {base : Heap}
theorem iteb {α : Type} {k : Bool} {a b : α} : (if k = true then a else b) = (match k with | true => a | false => b) := by cases k <;> rfl
/-- which root two numbers have together -/
def cmn (b c c' : Rat) : Rat := if b = 0 then c' else c
theorem eqvQ0 (p : Rat) : PyData.eqv (encQ p) (encQ 0) = decide (p = 0) := eqvQ p 0
/-- a root number as it is told -/
def RootOk (b c : Rat) : Prop := (b = 0 ∧ c = 0) ∨ (b ≠ 0 ∧ QM.Good c ∧ Sz c 2000 2000)
theorem eqv2 (p q r s : Rat) : PyData.eqv (.tuple [encQ p, encQ q]) (.tuple [encQ r, encQ s]) = (decide (p = r) && decide (q = s)) := by
  have e : PyData.eqv (.tuple [encQ p, encQ q]) (.tuple [encQ r, encQ s]) = (PyData.eqv (encQ p) (encQ r) && (PyData.eqv (encQ q) (encQ s) && true)) := by simp only [PyData.eqv, PyData.eqvAll]
  rw [e, eqvQ, eqvQ, Bool.and_true]
theorem sh2 (p q : Rat) : SeqAt.shaped (.tuple [encQ p, encQ q]) = true := by
  simp [encQ, SeqAt.shaped, PyData.canLay0, PyData.canLayAll0, PyData.depth, PyData.depthAll]
theorem shL2 (p q : Rat) : SeqAt.shaped (.list [encQ p, encQ q]) = true := by
  simp [encQ, SeqAt.shaped, PyData.canLay0, PyData.canLayAll0, PyData.depth, PyData.depthAll]
theorem all3 {res : List D} (hl : res.length = 3) (h : ∀ (i : Nat) (r : D), res[i]? = some r → r = .bool true) : res = [true, true, true].map PyData.bool := by
  match res, hl with
  | [a, b, c], _ =>
    rw [h 0 a rfl, h 1 b rfl, h 2 c rfl]
    rfl

def F_of_fraction : List D → (D → Prop) → Prop := fun ds R => ∃ f : Rat, ds = [encQ f] ∧ R (encR f 0 0)
theorem c_of_fraction (T : Tp K mg) : Cb P w K mg base 1 "of_fraction" F_of_fraction := by
  have sc : FnScope ["f"] ["f"] (defScope s_of_fraction) := ⟨rfl, rfl, rfl, by decide +kernel, rfl, by decide +kernel, by decide +kernel⟩
  refine T.cb 22 rfl rfl (st := s_of_fraction) sc (fun _ _ _ _ _ _ us hl => match us, hl with | [_], _ => rfl) (fun ds R hF => by obtain ⟨f, rfl, q⟩ := hF; rfl) ?_
  intro f cdv A l s H E W ds R hr hG hF
  obtain ⟨f, rfl, q⟩ := hF
  refine' (b_ret (e_tup (a_cons (e_var 0 rfl (pv 0)) (a_cons (g_ZERO T) (a_cons (g_ZERO T) a_nil)))) ?h0)
  case h0 =>
    exact q
def F_plus : List D → (D → Prop) → Prop := fun ds R => ∃ a b c f : Rat, ds = [encR a b c, encQ f] ∧ Bd a ∧ Bd f ∧ R (encR (a + f) b c)
theorem c_plus (T : Tp K mg) : Cb P w K mg base 5 "plus" F_plus := by
  have sc : FnScope ["r", "f"] ["r", "f"] (defScope s_plus) := ⟨rfl, rfl, rfl, by decide +kernel, rfl, by decide +kernel, by decide +kernel⟩
  have C_add := c_add (P := P) (w := w) (base := base) T
  refine T.cb 23 rfl rfl (st := s_plus) sc (fun _ _ _ _ _ _ us hl => match us, hl with | [_, _], _ => rfl) (fun ds R hF => by obtain ⟨a, b, c, f, rfl, ha, hf, q⟩ := hF; rfl) ?_
  intro f cdv A l s H E W ds R hr hG hF
  obtain ⟨a, b, c, f, rfl, ha, hf, q⟩ := hF
  refine' (b_ret (e_tup (a_cons (e_call (C_add.mono (by decide)) hr hG (a_cons (e_at (e_var 0 rfl (pv 0)) rfl) (a_cons (e_var 1 rfl (pv 1)) a_nil)) ?h0) (a_cons (e_at (e_var 0 rfl (pv 0)) rfl) (a_cons (e_at (e_var 0 rfl (pv 0)) rfl) a_nil)))) ?h1)
  case h0 =>
    exact ⟨_, _, rfl, ha, hf, rfl⟩
  case h1 =>
    exact q
def F_times : List D → (D → Prop) → Prop := fun ds R => ∃ a b c f : Rat, ds = [encR a b c, encQ f] ∧ Bd a ∧ Bd b ∧ Bd f ∧ Und (b * f) c ∧ R (rtD (a * f) (b * f) c)
theorem c_times (T : Tp K mg) : Cb P w K mg base 6 "times" F_times := by
  have sc : FnScope ["r", "f"] ["r", "f"] (defScope s_times) := ⟨rfl, rfl, rfl, by decide +kernel, rfl, by decide +kernel, by decide +kernel⟩
  have C_mul := c_mul (P := P) (w := w) (base := base) T
  have C_rooted := c_rooted (P := P) (w := w) (base := base) T
  refine T.cb 24 rfl rfl (st := s_times) sc (fun _ _ _ _ _ _ us hl => match us, hl with | [_, _], _ => rfl) (fun ds R hF => by obtain ⟨a, b, c, f, rfl, ha, hb, hf, hu, q⟩ := hF; rfl) ?_
  intro f cdv A l s H E W ds R hr hG hF
  obtain ⟨a, b, c, f, rfl, ha, hb, hf, hu, q⟩ := hF
  refine' (b_ret (e_call (C_rooted.mono (by decide)) hr hG (a_cons (e_call (C_mul.mono (by decide)) hr hG (a_cons (e_at (e_var 0 rfl (pv 0)) rfl) (a_cons (e_var 1 rfl (pv 1)) a_nil)) ?h0) (a_cons (e_call (C_mul.mono (by decide)) hr hG (a_cons (e_at (e_var 0 rfl (pv 0)) rfl) (a_cons (e_var 1 rfl (pv 1)) a_nil)) ?h1) (a_cons (e_at (e_var 0 rfl (pv 0)) rfl) a_nil))) ?h2) ?h3)
  case h0 =>
    exact ⟨_, _, rfl, ha, hf, rfl⟩
  case h1 =>
    exact ⟨_, _, rfl, hb, hf, rfl⟩
  case h2 =>
    exact ⟨_, _, _, rfl, hu, rfl⟩
  case h3 =>
    exact q
def F_common : List D → (D → Prop) → Prop := fun ds R => ∃ a b c a2 b2 c2 : Rat, ds = [encR a b c, encR a2 b2 c2] ∧ (b = 0 ∨ b2 = 0 ∨ c = c2) ∧ R (encQ (cmn b c c2))
theorem c_common (T : Tp K mg) : Cb P w K mg base 1 "common" F_common := by
  have sc : FnScope ["r", "s"] ["r", "s"] (defScope s_common) := ⟨rfl, rfl, rfl, by decide +kernel, rfl, by decide +kernel, by decide +kernel⟩
  refine T.cb 25 rfl rfl (st := s_common) sc (fun _ _ _ _ _ _ us hl => match us, hl with | [_, _], _ => rfl) (fun ds R hF => by obtain ⟨a, b, c, a2, b2, c2, rfl, ho, q⟩ := hF; rfl) ?_
  intro f cdv A l s H E W ds R hr hG hF
  obtain ⟨a, b, c, a2, b2, c2, rfl, ho, q⟩ := hF
  refine' (b_if1 (t_w (w_or (t_eq hr.units ?h0 ?h1 (e_at (e_var 0 rfl (pv 0)) rfl) (g_ZERO T)) (fun hc => (w_or1 (t_eq hr.units ?h2 ?h3 (e_at (e_var 1 rfl (pv 1)) rfl) (g_ZERO T)))))) (fun hc => (b_ret (e_ifD (t_eq hr.units ?h4 ?h5 (e_at (e_var 0 rfl (pv 0)) rfl) (g_ZERO T)) (fun hc => (e_at (e_var 1 rfl (pv 1)) rfl)) (fun hc => (e_at (e_var 0 rfl (pv 0)) rfl))) ?h6)) (fun hc => (b_if1 (t_ne hr.units ?h7 ?h8 (e_at (e_var 0 rfl (pv 0)) rfl) (e_at (e_var 1 rfl (pv 1)) rfl)) (fun hc => ?h9) (fun hc => (b_ret (e_at (e_var 0 rfl (pv 0)) rfl) ?h10)))))
  case h0 =>
    exact shQ _
  case h1 =>
    exact shQ _
  case h2 =>
    exact shQ _
  case h3 =>
    exact shQ _
  case h4 =>
    exact shQ _
  case h5 =>
    exact shQ _
  case h6 =>
    rw [eqvQ0]
    unfold cmn at q
    by_cases h : b = 0
    · rw [decide_eq_true h, if_pos rfl]
      rw [if_pos h] at q
      exact q
    · rw [decide_eq_false h, if_neg Bool.false_ne_true]
      rw [if_neg h] at q
      exact q
  case h7 =>
    exact shQ _
  case h8 =>
    exact shQ _
  case h9 =>
    refine b_never ?_
    rename_i hc1
    rw [eqvQ0, eqvQ0, Bool.or_eq_false_iff, decide_eq_false_iff_not, decide_eq_false_iff_not] at hc1
    rw [eqvQ] at hc
    rcases ho with h | h | h
    · exact hc1.1 h
    · exact hc1.2 h
    · rw [decide_eq_true h] at hc
      simp at hc
  case h10 =>
    rename_i hc1
    rw [eqvQ0, eqvQ0, Bool.or_eq_false_iff, decide_eq_false_iff_not, decide_eq_false_iff_not] at hc1
    have e : cmn b c c2 = c := if_neg hc1.1
    rw [e] at q
    exact q
def F_added : List D → (D → Prop) → Prop := fun ds R => ∃ a b c a2 b2 c2 : Rat, ds = [encR a b c, encR a2 b2 c2] ∧ (b = 0 ∨ b2 = 0 ∨ c = c2) ∧ Bd a ∧ Bd a2 ∧ Bd b ∧ Bd b2 ∧ Und (b + b2) (cmn b c c2) ∧ R (rtD (a + a2) (b + b2) (cmn b c c2))
theorem c_added (T : Tp K mg) : Cb P w K mg base 6 "added" F_added := by
  have sc : FnScope ["r", "s"] ["r", "s"] (defScope s_added) := ⟨rfl, rfl, rfl, by decide +kernel, rfl, by decide +kernel, by decide +kernel⟩
  have C_add := c_add (P := P) (w := w) (base := base) T
  have C_common := c_common (P := P) (w := w) (base := base) T
  have C_rooted := c_rooted (P := P) (w := w) (base := base) T
  refine T.cb 26 rfl rfl (st := s_added) sc (fun _ _ _ _ _ _ us hl => match us, hl with | [_, _], _ => rfl) (fun ds R hF => by obtain ⟨a, b, c, a2, b2, c2, rfl, ho, h1, h2, h3, h4, hu, q⟩ := hF; rfl) ?_
  intro f cdv A l s H E W ds R hr hG hF
  obtain ⟨a, b, c, a2, b2, c2, rfl, ho, h1, h2, h3, h4, hu, q⟩ := hF
  refine' (b_ret (e_call (C_rooted.mono (by decide)) hr hG (a_cons (e_call (C_add.mono (by decide)) hr hG (a_cons (e_at (e_var 0 rfl (pv 0)) rfl) (a_cons (e_at (e_var 1 rfl (pv 1)) rfl) a_nil)) ?h0) (a_cons (e_call (C_add.mono (by decide)) hr hG (a_cons (e_at (e_var 0 rfl (pv 0)) rfl) (a_cons (e_at (e_var 1 rfl (pv 1)) rfl) a_nil)) ?h1) (a_cons (e_call (C_common.mono (by decide)) hr hG (a_cons (e_var 0 rfl (pv 0)) (a_cons (e_var 1 rfl (pv 1)) a_nil)) ?h2) a_nil))) ?h3) ?h4)
  case h0 =>
    exact ⟨_, _, rfl, h1, h2, rfl⟩
  case h1 =>
    exact ⟨_, _, rfl, h3, h4, rfl⟩
  case h2 =>
    exact ⟨_, _, _, _, _, _, rfl, ho, rfl⟩
  case h3 =>
    exact ⟨_, _, _, rfl, hu, rfl⟩
  case h4 =>
    exact q
def F_product : List D → (D → Prop) → Prop := fun ds R => ∃ a b c a2 b2 c2 : Rat, ds = [encR a b c, encR a2 b2 c2] ∧ (b = 0 ∨ b2 = 0 ∨ c = c2) ∧ Bd a ∧ Bd a2 ∧ Bd b ∧ Bd b2 ∧ Bd (cmn b c c2) ∧ Bd (a * a2) ∧ Bd (b * b2) ∧ Bd (b * b2 * cmn b c c2) ∧ Bd (a * b2) ∧ Bd (b * a2) ∧ Und (a * b2 + b * a2) (cmn b c c2) ∧
  R (rtD (a * a2 + b * b2 * cmn b c c2) (a * b2 + b * a2) (cmn b c c2))
theorem c_product (T : Tp K mg) : Cb P w K mg base 6 "product" F_product := by
  have sc : FnScope ["r", "s", "under", "first"] ["r", "s"] (defScope s_product) := ⟨rfl, rfl, rfl, by decide +kernel, rfl, by decide +kernel, by decide +kernel⟩
  have C_add := c_add (P := P) (w := w) (base := base) T
  have C_common := c_common (P := P) (w := w) (base := base) T
  have C_mul := c_mul (P := P) (w := w) (base := base) T
  have C_rooted := c_rooted (P := P) (w := w) (base := base) T
  refine T.cb 27 rfl rfl (st := s_product) sc (fun _ _ _ _ _ _ us hl => match us, hl with | [_, _], _ => rfl) (fun ds R hF => by obtain ⟨a, b, c, a2, b2, c2, rfl, ho, h1, h2, h3, h4, h5, h6, h7, h8, h9, h10, hu, q⟩ := hF; rfl) ?_
  intro f cdv A l s H E W ds R hr hG hF
  obtain ⟨a, b, c, a2, b2, c2, rfl, ho, h1, h2, h3, h4, h5, h6, h7, h8, h9, h10, hu, q⟩ := hF
  refine' (b_set 2 sc.nd rfl (.inl rfl) (e_call (C_common.mono (by decide)) hr hG (a_cons (e_var 0 rfl (pv 0)) (a_cons (e_var 1 rfl (pv 1)) a_nil)) ?h0) (b_set 3 sc.nd rfl (.inl rfl) (e_call (C_add.mono (by decide)) hr hG (a_cons (e_call (C_mul.mono (by decide)) hr hG (a_cons (e_at (e_var 0 rfl (pv 0)) rfl) (a_cons (e_at (e_var 1 rfl (pv 1)) rfl) a_nil)) ?h1) (a_cons (e_call (C_mul.mono (by decide)) hr hG (a_cons (e_call (C_mul.mono (by decide)) hr hG (a_cons (e_at (e_var 0 rfl (pv 0)) rfl) (a_cons (e_at (e_var 1 rfl (pv 1)) rfl) a_nil)) ?h2) (a_cons (e_var 2 rfl (pv 2)) a_nil)) ?h3) a_nil)) ?h4) (b_ret (e_call (C_rooted.mono (by decide)) hr hG (a_cons (e_var 3 rfl (pv 3)) (a_cons (e_call (C_add.mono (by decide)) hr hG (a_cons (e_call (C_mul.mono (by decide)) hr hG (a_cons (e_at (e_var 0 rfl (pv 0)) rfl) (a_cons (e_at (e_var 1 rfl (pv 1)) rfl) a_nil)) ?h5) (a_cons (e_call (C_mul.mono (by decide)) hr hG (a_cons (e_at (e_var 0 rfl (pv 0)) rfl) (a_cons (e_at (e_var 1 rfl (pv 1)) rfl) a_nil)) ?h6) a_nil)) ?h7) (a_cons (e_var 2 rfl (pv 2)) a_nil))) ?h8) ?h9)))
  case h0 =>
    exact ⟨_, _, _, _, _, _, rfl, ho, rfl⟩
  case h1 =>
    exact ⟨_, _, rfl, h1, h2, rfl⟩
  case h2 =>
    exact ⟨_, _, rfl, h3, h4, rfl⟩
  case h3 =>
    exact ⟨_, _, rfl, h7, h5, rfl⟩
  case h4 =>
    exact ⟨_, _, rfl, h6, h8, rfl⟩
  case h5 =>
    exact ⟨_, _, rfl, h1, h4, rfl⟩
  case h6 =>
    exact ⟨_, _, rfl, h3, h2, rfl⟩
  case h7 =>
    exact ⟨_, _, rfl, h9, h10, rfl⟩
  case h8 =>
    exact ⟨_, _, _, rfl, hu, rfl⟩
  case h9 =>
    exact q
def F_is_root : List D → (D → Prop) → Prop := fun ds R => ∃ a b c : Rat, ds = [encR a b c] ∧ RootOk b c ∧ R (.bool true)
theorem c_is_root (T : Tp K mg) : Cb P w K mg base 5 "is_root" F_is_root := by
  have sc : FnScope ["thing", "part"] ["thing"] (defScope s_is_root) := ⟨rfl, rfl, rfl, by decide +kernel, rfl, by decide +kernel, by decide +kernel⟩
  have C_is_fraction := c_is_fraction (P := P) (w := w) (base := base) T
  have C_is_sized := c_is_sized (P := P) (w := w) (base := base) T
  have C_root_of := c_root_of (P := P) (w := w) (base := base) T
  have C_sign := c_sign (P := P) (w := w) (base := base) T
  refine T.cb 28 rfl rfl (st := s_is_root) sc (fun _ _ _ _ _ _ us hl => match us, hl with | [_], _ => rfl) (fun ds R hF => by obtain ⟨a, b, c, rfl, hr0, q⟩ := hF; rfl) ?_
  intro f cdv A l s H E W ds R hr hG hF
  obtain ⟨a, b, c, rfl, hr0, q⟩ := hF
  refine' (b_if1 (t_w (w_or (t_not (t_val (e_call (C_is_sized.mono (by decide)) hr hG (a_cons (e_var 0 rfl (pv 0)) (a_cons e_int a_nil)) ?h0))) (fun hc => (w_or1 (t_not (t_val (e_all rfl T.f_all ?h1))))))) (fun hc => (b_ret e_bl ?h2)) (fun hc => (b_if1 (t_w (w_or (t_eq hr.units ?h3 ?h4 (e_at (e_var 0 rfl (pv 0)) rfl) (g_ZERO T)) (fun hc => (w_or1 (t_eq hr.units ?h5 ?h6 (e_at (e_var 0 rfl (pv 0)) rfl) (g_ZERO T)))))) (fun hc => (b_ret (e_eq hr.units ?h7 ?h8 (e_dropT (e_var 0 rfl (pv 0)) ?h9 ?h10) (e_tup (a_cons (g_ZERO T) (a_cons (g_ZERO T) a_nil)))) ?h11)) (fun hc => (b_ret (e_and (e_gt (e_call (C_sign.mono (by decide)) hr hG (a_cons (e_at (e_var 0 rfl (pv 0)) rfl) a_nil) ?h12) e_int) (fun hc => (e_one (e_isN (e_call (d := .none) (C_root_of.mono (by decide)) hr hG (a_cons (e_at (e_var 0 rfl (pv 0)) rfl) a_nil) ?h13))))) ?h14)))))
  case h0 =>
    exact ⟨_, 3, rfl, Nat.le_of_ble_eq_true rfl, rfl⟩
  case h1 =>
    refine (e_lcT (i := 1) (x := "part") (Rj := fun _ r => r = .bool true) (R := fun z => z = .list ([true, true, true].map PyData.bool)) rfl sc.nd (show blkC ["thing", "part"] (defScope s_is_root) _ [("part", 1)] = true by decide +kernel) rfl (e_var 0 rfl (pv 0)) (Nat.le_of_ble_eq_true rfl) (fun _ _ _ _ _ => ⟨.inl rfl, .inr rfl⟩) ?_ ?_)
    · intro s1 H1 C1 cl fp D1 acc j d hD hj
      refine e_call (d := .bool true) (C_is_fraction.mono (by decide)) hr hG (a_cons (e_var 1 rfl (pv 1)) a_nil) ?_
      match j, hj with
      | 0, hj => cases hj; exact ⟨_, rfl, rfl⟩
      | 1, hj => cases hj; exact ⟨_, rfl, rfl⟩
      | 2, hj => cases hj; exact ⟨_, rfl, rfl⟩
      | j + 3, hj => cases hj
    · intro res hl h
      rw [all3 hl h]
  case h2 =>
    simp at hc
  case h3 =>
    exact shQ _
  case h4 =>
    exact shQ _
  case h5 =>
    exact shQ _
  case h6 =>
    exact shQ _
  case h7 =>
    exact sh2 _ _
  case h8 =>
    exact sh2 _ _
  case h9 =>
    decide
  case h10 =>
    exact Nat.le_of_ble_eq_true rfl
  case h11 =>
    rw [eqvQ0, eqvQ0, Bool.or_eq_true, decide_eq_true_iff, decide_eq_true_iff] at hc
    rcases hr0 with ⟨rfl, rfl⟩ | ⟨h1, h2, h3⟩
    · have e : PyData.eqv (.tuple (List.drop 1 [encQ a, encQ 0, encQ 0])) (.tuple [encQ 0, encQ 0]) = true := by
        show PyData.eqv (.tuple [encQ 0, encQ 0]) (.tuple [encQ 0, encQ 0]) = true
        rw [eqv2]
        simp
      show R (.bool (PyData.eqv (.tuple (List.drop 1 [encQ a, encQ 0, encQ 0])) (.tuple [encQ 0, encQ 0])))
      rw [e]
      exact q
    · rcases hc with h | h
      · exact absurd h h1
      · have := h2.pos
        rw [h] at this
        exact absurd this (by decide +kernel)
  case h12 =>
    exact ⟨_, rfl, rfl⟩
  case h13 =>
    have hb : ¬ b = 0 := by
      first
      | (rw [eqvQ0, eqvQ0, Bool.or_eq_false_iff, decide_eq_false_iff_not, decide_eq_false_iff_not] at hc; exact hc.1)
      | (rename_i hc1; rw [eqvQ0, eqvQ0, Bool.or_eq_false_iff, decide_eq_false_iff_not, decide_eq_false_iff_not] at hc1; exact hc1.1)
      | (rename_i hc0 hc1; rw [eqvQ0, eqvQ0, Bool.or_eq_false_iff, decide_eq_false_iff_not, decide_eq_false_iff_not] at hc0; exact hc0.1)
    rcases hr0 with ⟨h1, h2⟩ | ⟨h1, h2, h3⟩
    · exact absurd h1 hb
    · exact ⟨c, rfl, h2.pos, h2.irr, h3, rfl⟩
  case h14 =>
    have hb : ¬ b = 0 := by
      first
      | (rw [eqvQ0, eqvQ0, Bool.or_eq_false_iff, decide_eq_false_iff_not, decide_eq_false_iff_not] at hc; exact hc.1)
      | (rename_i hc1; rw [eqvQ0, eqvQ0, Bool.or_eq_false_iff, decide_eq_false_iff_not, decide_eq_false_iff_not] at hc1; exact hc1.1)
      | (rename_i hc0 hc1; rw [eqvQ0, eqvQ0, Bool.or_eq_false_iff, decide_eq_false_iff_not, decide_eq_false_iff_not] at hc0; exact hc0.1)
    rcases hr0 with ⟨h1, h2⟩ | ⟨h1, h2, h3⟩
    · exact absurd h1 hb
    · have e : (decide (0 < QM.sgn c) && isNone PyData.none) = true := by
        rw [QM.sgn_pos h2.pos]
        rfl
      rw [e]
      exact q
def F_is_root_place : List D → (D → Prop) → Prop := fun ds R => ∃ a b c a2 b2 c2 : Rat, ds = [.tuple [encR a b c, encR a2 b2 c2]] ∧ RootOk b c ∧ RootOk b2 c2 ∧ (b = 0 ∨ b2 = 0 ∨ c = c2) ∧ R (.bool true)
theorem c_is_root_place (T : Tp K mg) : Cb P w K mg base 6 "is_root_place" F_is_root_place := by
  have sc : FnScope ["thing"] ["thing"] (defScope s_is_root_place) := ⟨rfl, rfl, rfl, by decide +kernel, rfl, by decide +kernel, by decide +kernel⟩
  have C_is_root := c_is_root (P := P) (w := w) (base := base) T
  have C_is_sized := c_is_sized (P := P) (w := w) (base := base) T
  refine T.cb 29 rfl rfl (st := s_is_root_place) sc (fun _ _ _ _ _ _ us hl => match us, hl with | [_], _ => rfl) (fun ds R hF => by obtain ⟨a, b, c, a2, b2, c2, rfl, h1, h2, ho, q⟩ := hF; rfl) ?_
  intro f cdv A l s H E W ds R hr hG hF
  obtain ⟨a, b, c, a2, b2, c2, rfl, h1, h2, ho, q⟩ := hF
  refine' (b_if1 (t_w (w_or (t_not (t_val (e_call (C_is_sized.mono (by decide)) hr hG (a_cons (e_var 0 rfl (pv 0)) (a_cons e_int a_nil)) ?h0))) (fun hc => (w_or (t_not (t_val (e_call (C_is_root.mono (by decide)) hr hG (a_cons (e_at (e_var 0 rfl (pv 0)) rfl) a_nil) ?h1))) (fun hc => (w_or1 (t_not (t_val (e_call (C_is_root.mono (by decide)) hr hG (a_cons (e_at (e_var 0 rfl (pv 0)) rfl) a_nil) ?h2))))))))) (fun hc => (b_ret e_bl ?h3)) (fun hc => (b_ret (e_or (e_inT (hu65 hr) ?h4 ?h5 (g_ZERO T) (e_tup (a_cons (e_at (e_at (e_var 0 rfl (pv 0)) rfl) rfl) (a_cons (e_at (e_at (e_var 0 rfl (pv 0)) rfl) rfl) a_nil)))) (fun hc => (e_one (e_eq hr.units ?h6 ?h7 (e_at (e_at (e_var 0 rfl (pv 0)) rfl) rfl) (e_at (e_at (e_var 0 rfl (pv 0)) rfl) rfl))))) ?h8)))
  case h0 =>
    exact ⟨_, 2, rfl, Nat.le_of_ble_eq_true rfl, rfl⟩
  case h1 =>
    exact ⟨_, _, _, rfl, h1, rfl⟩
  case h2 =>
    exact ⟨_, _, _, rfl, h2, rfl⟩
  case h3 =>
    simp at hc
  case h4 =>
    exact shQ _
  case h5 =>
    exact shL2 _ _
  case h6 =>
    exact shQ _
  case h7 =>
    exact shQ _
  case h8 =>
    have e : (([encQ b, encQ b2].any fun z => PyData.eqv z (encQ 0)) || PyData.eqv (encQ c) (encQ c2)) = true := by
      rw [eqvQ]
      simp only [List.any_cons, List.any_nil, eqvQ0, Bool.or_false]
      rcases ho with h | h | h <;> simp [h]
    show R (.bool (([encQ b, encQ b2].any fun z => PyData.eqv z (encQ 0)) || PyData.eqv (encQ c) (encQ c2)))
    rw [e]
    exact q
def F_root_place : List D → (D → Prop) → Prop := fun ds R => ∃ x y : Rat, ds = [.tuple [encQ x, encQ y]] ∧ R (.tuple [encR x 0 0, encR y 0 0])
theorem c_root_place (T : Tp K mg) : Cb P w K mg base 2 "root_place" F_root_place := by
  have sc : FnScope ["place"] ["place"] (defScope s_root_place) := ⟨rfl, rfl, rfl, by decide +kernel, rfl, by decide +kernel, by decide +kernel⟩
  have C_of_fraction := c_of_fraction (P := P) (w := w) (base := base) T
  refine T.cb 30 rfl rfl (st := s_root_place) sc (fun _ _ _ _ _ _ us hl => match us, hl with | [_], _ => rfl) (fun ds R hF => by obtain ⟨x, y, rfl, q⟩ := hF; rfl) ?_
  intro f cdv A l s H E W ds R hr hG hF
  obtain ⟨x, y, rfl, q⟩ := hF
  refine' (b_ret (e_tup (a_cons (e_call (C_of_fraction.mono (by decide)) hr hG (a_cons (e_at (e_var 0 rfl (pv 0)) rfl) a_nil) ?h0) (a_cons (e_call (C_of_fraction.mono (by decide)) hr hG (a_cons (e_at (e_var 0 rfl (pv 0)) rfl) a_nil) ?h1) a_nil))) ?h2)
  case h0 =>
    exact ⟨_, rfl, rfl⟩
  case h1 =>
    exact ⟨_, rfl, rfl⟩
  case h2 =>
    exact q
def F_sign_two : List D → (D → Prop) → Prop := fun ds R => ∃ a b c : Rat, ds = [encQ a, encQ b, encQ c] ∧ Sz a 30000 2200 ∧ Sz b 30000 2000 ∧ Sz c 30000 400 ∧ R (.int (QM.sg2 a b c))
theorem c_sign_two (T : Tp K mg) : Cb P w K mg base 6 "sign_two" F_sign_two := by
  have sc : FnScope ["a", "b", "c", "one", "other"] ["a", "b", "c"] (defScope s_sign_two) := ⟨rfl, rfl, rfl, by decide +kernel, rfl, by decide +kernel, by decide +kernel⟩
  have C_compare_fractions := c_compare_fractions (P := P) (w := w) (base := base) T
  have C_mul := c_mul (P := P) (w := w) (base := base) T
  have C_sign := c_sign (P := P) (w := w) (base := base) T
  refine T.cb 31 rfl rfl (st := s_sign_two) sc (fun _ _ _ _ _ _ us hl => match us, hl with | [_, _, _], _ => rfl) (fun ds R hF => by obtain ⟨a, b, c, rfl, ha, hb, hg, q⟩ := hF; rfl) ?_
  intro f cdv A l s H E W ds R hr hG hF
  obtain ⟨a, b, c, rfl, ha, hb, hg, q⟩ := hF
  refine' (b_par 3 4 rfl sc.nd rfl rfl (by decide) rfl rfl (a_cons (e_call (C_sign.mono (by decide)) hr hG (a_cons (e_var 0 rfl (pv 0)) a_nil) ?h0) (a_cons (e_ifI (t_ne hr.units ?h1 ?h2 (e_var 2 rfl (pv 2)) (g_ZERO T)) (fun hc => (e_call (C_sign.mono (by decide)) hr hG (a_cons (e_var 1 rfl (pv 1)) a_nil) ?h3)) (fun hc => e_int)) a_nil)) rfl (b_if1 (t_ge (e_mul ?h4 (e_var 3 rfl (pv 3)) (e_var 4 rfl (pv 4))) e_int) (fun hc => (b_ret (e_ifD (t_neI (e_var 3 rfl (pv 3)) e_int) (fun hc => (e_var 3 rfl (pv 3))) (fun hc => (e_var 4 rfl (pv 4)))) ?h5)) (fun hc => (b_ret (e_mul ?h6 (e_var 3 rfl (pv 3)) (e_call (d := .int (QM.sgn (a * a - b * b * c))) (C_compare_fractions.mono (by decide)) hr hG (a_cons (e_call (C_mul.mono (by decide)) hr hG (a_cons (e_var 0 rfl (pv 0)) (a_cons (e_var 0 rfl (pv 0)) a_nil)) ?h7) (a_cons (e_call (C_mul.mono (by decide)) hr hG (a_cons (e_call (C_mul.mono (by decide)) hr hG (a_cons (e_var 1 rfl (pv 1)) (a_cons (e_var 1 rfl (pv 1)) a_nil)) ?h8) (a_cons (e_var 2 rfl (pv 2)) a_nil)) ?h9) a_nil)) ?h10)) ?h11))))
  case h0 =>
    exact ⟨_, rfl, rfl⟩
  case h1 =>
    exact shQ _
  case h2 =>
    exact shQ _
  case h3 =>
    exact ⟨_, rfl, rfl⟩
  case h4 =>
    refine cmulN (a := 2) (b := 2) (sgn_abs a) ?_
    split
    · exact sgn_abs b
    · decide
  case h5 =>
    have e0 : (if (!PyData.eqv (encQ c) (encQ 0)) = true then QM.sgn b else 0) = (if c ≠ 0 then QM.sgn b else 0) := by
      rw [eqvQ0]
      by_cases h : c = 0 <;> simp [h]
    rw [e0] at hc
    have hc1 := of_decide_eq_true hc
    unfold QM.sg2 at q
    simp only [] at q
    rw [if_pos hc1] at q
    rw [e0]
    by_cases h : QM.sgn a = 0
    · rw [decide_eq_true h]
      rw [if_neg (by simp [h])] at q
      exact q
    · rw [decide_eq_false h]
      rw [if_pos h] at q
      exact q
  case h6 =>
    refine cmulN (a := 2) (b := 2) (sgn_abs a) (sgn_abs _)
  case h7 =>
    exact ⟨_, _, rfl, ha.bd (by decide) (by decide), ha.bd (by decide) (by decide), rfl⟩
  case h8 =>
    exact ⟨_, _, rfl, hb.bd (by decide) (by decide), hb.bd (by decide) (by decide), rfl⟩
  case h9 =>
    exact ⟨_, _, rfl, (hb.mul hb).bd (by decide) (by decide), hg.bd (by decide) (by decide), rfl⟩
  case h10 =>
    exact ⟨_, _, rfl, (ha.mul ha).bd (by decide) (by decide), ((hb.mul hb).mul hg).bd (by decide) (by decide), rfl⟩
  case h11 =>
    have e0 : (if (!PyData.eqv (encQ c) (encQ 0)) = true then QM.sgn b else 0) = (if c ≠ 0 then QM.sgn b else 0) := by
      rw [eqvQ0]
      by_cases h : c = 0 <;> simp [h]
    rw [e0] at hc
    have hc1 := of_decide_eq_false hc
    unfold QM.sg2 at q
    simp only [] at q
    rw [if_neg hc1] at q
    exact q
def F_sign_of : List D → (D → Prop) → Prop := fun ds R => ∃ a b c : Rat, ds = [encR a b c] ∧ Sz a 30000 2200 ∧ Sz b 30000 2000 ∧ Sz c 30000 400 ∧ R (.int (QM.sg2 a b c))
theorem c_sign_of (T : Tp K mg) : Cb P w K mg base 7 "sign_of" F_sign_of := by
  have sc : FnScope ["r"] ["r"] (defScope s_sign_of) := ⟨rfl, rfl, rfl, by decide +kernel, rfl, by decide +kernel, by decide +kernel⟩
  have C_sign_two := c_sign_two (P := P) (w := w) (base := base) T
  refine T.cb 32 rfl rfl (st := s_sign_of) sc (fun _ _ _ _ _ _ us hl => match us, hl with | [_], _ => rfl) (fun ds R hF => by obtain ⟨a, b, c, rfl, ha, hb, hg, q⟩ := hF; rfl) ?_
  intro f cdv A l s H E W ds R hr hG hF
  obtain ⟨a, b, c, rfl, ha, hb, hg, q⟩ := hF
  refine' (b_ret (e_call (C_sign_two.mono (by decide)) hr hG (a_cons (e_at (e_var 0 rfl (pv 0)) rfl) (a_cons (e_at (e_var 0 rfl (pv 0)) rfl) (a_cons (e_at (e_var 0 rfl (pv 0)) rfl) a_nil))) ?h0) ?h1)
  case h0 =>
    exact ⟨_, _, _, rfl, ha, hb, hg, rfl⟩
  case h1 =>
    exact q
def F_sign_three : List D → (D → Prop) → Prop := fun ds R => ∃ a b c d e : Rat, ds = [encQ a, encQ b, encQ c, encQ d, encQ e] ∧ 0 ≤ c ∧ 0 ≤ e ∧ Sz a 30000 2200 ∧ Sz b 30000 2000 ∧ Sz c 30000 400 ∧ Sz d 30000 2000 ∧ Sz e 30000 400 ∧ Bd (a * a + b * b * c) ∧ Sz (a * a + b * b * c - d * d * e) 30000 2200 ∧ Sz (a * b * 2) 30000 2000 ∧
  R (.int (QM.sg3 a b c d e))
theorem c_sign_three (T : Tp K mg) : Cb P w K mg base 7 "sign_three" F_sign_three := by
  have sc : FnScope ["a", "b", "c", "d", "e", "one", "other", "squares"] ["a", "b", "c", "d", "e"] (defScope s_sign_three) := ⟨rfl, rfl, rfl, by decide +kernel, rfl, by decide +kernel, by decide +kernel⟩
  have C_add := c_add (P := P) (w := w) (base := base) T
  have C_mul := c_mul (P := P) (w := w) (base := base) T
  have C_sign := c_sign (P := P) (w := w) (base := base) T
  have C_sign_two := c_sign_two (P := P) (w := w) (base := base) T
  have C_sub := c_sub (P := P) (w := w) (base := base) T
  have C_whole := c_whole (P := P) (w := w) (base := base) T
  refine T.cb 33 rfl rfl (st := s_sign_three) sc (fun _ _ _ _ _ _ us hl => match us, hl with | [_, _, _, _, _], _ => rfl) (fun ds R hF => by obtain ⟨a, b, c, d, e, rfl, hc0, he0, ha, hb, hg, hd, he, h1, h2, h3, q⟩ := hF; rfl) ?_
  intro f cdv A l s H E W ds R hr hG hF
  obtain ⟨a, b, c, d, e, rfl, hc0, he0, ha, hb, hg, hd, he, h1, h2, h3, q⟩ := hF
  refine' (b_if1 (t_w (w_or (t_lt (e_call (C_sign.mono (by decide)) hr hG (a_cons (e_var 2 rfl (pv 2)) a_nil) ?h0) e_int) (fun hc => (w_or1 (t_lt (e_call (C_sign.mono (by decide)) hr hG (a_cons (e_var 4 rfl (pv 4)) a_nil) ?h1) e_int))))) (fun hc => ?h2) (fun hc => (b_par 5 6 rfl sc.nd rfl rfl (by decide) rfl rfl (a_cons (e_call (C_sign_two.mono (by decide)) hr hG (a_cons (e_var 0 rfl (pv 0)) (a_cons (e_var 1 rfl (pv 1)) (a_cons (e_var 2 rfl (pv 2)) a_nil))) ?h3) (a_cons (e_ifI (t_ne hr.units ?h4 ?h5 (e_var 4 rfl (pv 4)) (g_ZERO T)) (fun hc => (e_call (C_sign.mono (by decide)) hr hG (a_cons (e_var 3 rfl (pv 3)) a_nil) ?h6)) (fun hc => e_int)) a_nil)) rfl (b_if1 (t_ge (e_mul ?h7 (e_var 5 rfl (pv 5)) (e_var 6 rfl (pv 6))) e_int) (fun hc => (b_ret (e_ifD (t_neI (e_var 5 rfl (pv 5)) e_int) (fun hc => (e_var 5 rfl (pv 5))) (fun hc => (e_var 6 rfl (pv 6)))) ?h8)) (fun hc => (b_set 7 sc.nd rfl (.inl rfl) (e_call (C_sub.mono (by decide)) hr hG (a_cons (e_call (C_add.mono (by decide)) hr hG (a_cons (e_call (C_mul.mono (by decide)) hr hG (a_cons (e_var 0 rfl (pv 0)) (a_cons (e_var 0 rfl (pv 0)) a_nil)) ?h9) (a_cons (e_call (C_mul.mono (by decide)) hr hG (a_cons (e_call (C_mul.mono (by decide)) hr hG (a_cons (e_var 1 rfl (pv 1)) (a_cons (e_var 1 rfl (pv 1)) a_nil)) ?h10) (a_cons (e_var 2 rfl (pv 2)) a_nil)) ?h11) a_nil)) ?h12) (a_cons (e_call (C_mul.mono (by decide)) hr hG (a_cons (e_call (C_mul.mono (by decide)) hr hG (a_cons (e_var 3 rfl (pv 3)) (a_cons (e_var 3 rfl (pv 3)) a_nil)) ?h13) (a_cons (e_var 4 rfl (pv 4)) a_nil)) ?h14) a_nil)) ?h15) (b_ret (e_mul ?h16 (e_var 5 rfl (pv 5)) (e_call (d := .int (QM.sg2 (a * a + b * b * c - d * d * e) (a * b * 2) c)) (C_sign_two.mono (by decide)) hr hG (a_cons (e_var 7 rfl (pv 7)) (a_cons (e_call (d := encQ (a * b * 2)) (C_mul.mono (by decide)) hr hG (a_cons (e_call (C_mul.mono (by decide)) hr hG (a_cons (e_var 0 rfl (pv 0)) (a_cons (e_var 1 rfl (pv 1)) a_nil)) ?h17) (a_cons (e_call (C_whole.mono (by decide)) hr hG (a_cons e_int a_nil) ?h18) a_nil)) ?h19) (a_cons (e_var 2 rfl (pv 2)) a_nil))) ?h20)) ?h21)))))))
  case h0 =>
    exact ⟨_, rfl, rfl⟩
  case h1 =>
    exact ⟨_, rfl, rfl⟩
  case h2 =>
    refine b_never ?_
    have n : ∀ z : Rat, 0 ≤ z → ¬ QM.sgn z < 0 := fun z hz y => by
      rcases QM.sgn_cases z with ⟨_, e⟩ | ⟨h, _⟩ | ⟨_, e⟩
      · rw [e] at y; exact absurd y (by decide)
      · grind
      · rw [e] at y; exact absurd y (by decide)
    rw [Bool.or_eq_true, decide_eq_true_iff, decide_eq_true_iff] at hc
    rcases hc with h | h
    · exact n c hc0 h
    · exact n e he0 h
  case h3 =>
    exact ⟨_, _, _, rfl, ha, hb, hg, rfl⟩
  case h4 =>
    exact shQ _
  case h5 =>
    exact shQ _
  case h6 =>
    exact ⟨_, rfl, rfl⟩
  case h7 =>
    refine cmulN (a := 2) (b := 2) (sg2_abs a b c) ?_
    split
    · exact sgn_abs d
    · decide
  case h8 =>
    have e0 : (if (!PyData.eqv (encQ e) (encQ 0)) = true then QM.sgn d else 0) = (if e ≠ 0 then QM.sgn d else 0) := by
      rw [eqvQ0]
      by_cases h : e = 0 <;> simp [h]
    rw [e0] at hc
    have hc1 := of_decide_eq_true hc
    unfold QM.sg3 at q
    simp only [] at q
    rw [if_pos hc1] at q
    rw [e0]
    by_cases h : QM.sg2 a b c = 0
    · rw [decide_eq_true h]
      rw [if_neg (by simp [h])] at q
      exact q
    · rw [decide_eq_false h]
      rw [if_pos h] at q
      exact q
  case h9 =>
    exact ⟨_, _, rfl, ha.bd (by decide) (by decide), ha.bd (by decide) (by decide), rfl⟩
  case h10 =>
    exact ⟨_, _, rfl, hb.bd (by decide) (by decide), hb.bd (by decide) (by decide), rfl⟩
  case h11 =>
    exact ⟨_, _, rfl, (hb.mul hb).bd (by decide) (by decide), hg.bd (by decide) (by decide), rfl⟩
  case h12 =>
    exact ⟨_, _, rfl, (ha.mul ha).bd (by decide) (by decide), ((hb.mul hb).mul hg).bd (by decide) (by decide), rfl⟩
  case h13 =>
    exact ⟨_, _, rfl, hd.bd (by decide) (by decide), hd.bd (by decide) (by decide), rfl⟩
  case h14 =>
    exact ⟨_, _, rfl, (hd.mul hd).bd (by decide) (by decide), he.bd (by decide) (by decide), rfl⟩
  case h15 =>
    exact ⟨_, _, rfl, h1, ((hd.mul hd).mul he).bd (by decide) (by decide), rfl⟩
  case h16 =>
    exact cmulN (a := 2) (b := 2) (sg2_abs a b c) (sg2_abs _ _ _)
  case h17 =>
    exact ⟨_, _, rfl, ha.bd (by decide) (by decide), hb.bd (by decide) (by decide), rfl⟩
  case h18 =>
    exact ⟨2, rfl, rfl⟩
  case h19 =>
    exact ⟨_, ((2 : Int) : Rat), rfl, (ha.mul hb).bd (by decide) (by decide), sz2.bd (by decide) (by decide), rfl⟩
  case h20 =>
    exact ⟨_, _, _, rfl, h2, h3, hg, rfl⟩
  case h21 =>
    have e0 : (if (!PyData.eqv (encQ e) (encQ 0)) = true then QM.sgn d else 0) = (if e ≠ 0 then QM.sgn d else 0) := by
      rw [eqvQ0]
      by_cases h : e = 0 <;> simp [h]
    rw [e0] at hc
    have hc1 := of_decide_eq_false hc
    unfold QM.sg3 at q
    simp only [] at q
    rw [if_neg hc1] at q
    exact q
end K65
end
section
set_option linter.all false
/-! QM3: order, floors, bounds of numbers a + b root c. -/
namespace QM
theorem sgn_flip (q : Rat) : sgn (-q) = - sgn q := by
  rcases sgn_cases q with ⟨h, e⟩ | ⟨h, e⟩ | ⟨h, e⟩
  · rw [e, sgn_neg (by grind)]
  · rw [e, sgn_pos (by grind)]; rfl
  · subst h; rw [e]; exact e
theorem sgn_le {q : Rat} : sgn q ≤ 0 ↔ q ≤ 0 := by
  rcases sgn_cases q with ⟨h, e⟩ | ⟨h, e⟩ | ⟨h, e⟩ <;> rw [e] <;> constructor <;> intro z <;> first | grind | omega
theorem Co.neg {c0 b c q : Rat} (h : Co c0 b c q) : Co c0 (-b) c (-q) := by
  rcases h with ⟨rfl, rfl, rfl⟩ | ⟨t, ht, rfl, rfl⟩
  · exact .inl ⟨by grind, rfl, by grind⟩
  · exact .inr ⟨t, ht, rfl, by grind⟩
theorem Co.mul {c0 b c q : Rat} (h : Co c0 b c q) (f : Rat) : Co c0 (b * f) c (q * f) := by
  rcases h with ⟨rfl, rfl, rfl⟩ | ⟨t, ht, rfl, rfl⟩
  · exact .inl ⟨by grind, rfl, by grind⟩
  · exact .inr ⟨t, ht, rfl, by grind⟩
theorem Co.zero {c0 : Rat} : Co c0 0 0 0 := .inl ⟨rfl, rfl, rfl⟩
theorem Co.nn {c0 b c q : Rat} (g : Good c0) (h : Co c0 b c q) : 0 ≤ c := by
  rcases h with ⟨rfl, rfl, rfl⟩ | ⟨t, ht, rfl, rfl⟩
  · exact Rat.le_refl
  · exact Rat.le_of_lt (Rat.mul_pos (Rat.mul_pos ht ht) g.pos)
theorem Co.z {c0 b c q : Rat} (h : Co c0 b c q) (hb : b = 0) : q = 0 := by
  subst hb
  rcases h with ⟨_, rfl, rfl⟩ | ⟨t, ht, rfl, rfl⟩
  · rfl
  · grind
theorem S_mono {c u v b : Rat} (g : Good c) (h : u ≤ v) : S c u b ≤ S c v b := by
  by_cases e : u = v
  · subst e; exact Int.le_refl _
  · have pd : P c (v - u) 0 := .inl ⟨by grind, by have : 0 < (v - u) * (v - u) := Rat.mul_pos (by grind) (by grind); grind⟩
    have e1 : u + (v - u) = v := by grind
    have e2 : b + 0 = b := by grind
    rcases S_cases g u b with ⟨p, e⟩ | ⟨p, e⟩ | ⟨rfl, rfl, e⟩
    · have q := P_add g p pd
      rw [e1, e2] at q
      rw [e, S_pos q]
      exact Int.le_refl _
    · rw [e]
      rcases S_abs1 g v b with h | h | h <;> rw [h] <;> decide
    · have q := pd
      have e3 : v - 0 = v := by grind
      rw [e3] at q
      rw [e, S_pos q]
      decide
theorem S_scale {c a b d : Rat} (g : Good c) (h : 0 < d) : S c (a * d) (b * d) = S c a b := by
  have e := S_mul g a b d 0
  rw [S_rat g, sgn_pos h, Int.mul_one] at e
  rw [← e]
  congr 1 <;> grind
/-- n is the greatest whole number that is not above a + b root c -/
def Fl (c a b : Rat) (n : Int) : Prop := 0 ≤ S c (a - (n : Rat)) b ∧ S c (a - ((n + 1 : Int) : Rat)) b < 0
theorem Fl_lt {c a b : Rat} (g : Good c) {n m : Int} (h : 0 ≤ S c (a - (m : Rat)) b) (h' : S c (a - ((n + 1 : Int) : Rat)) b < 0) : m ≤ n := by
  refine Int.not_lt.mp fun z => ?_
  have : ((n + 1 : Int) : Rat) ≤ (m : Rat) := Rat.intCast_le_intCast.mpr z
  have := S_mono g (b := b) (u := a - (m : Rat)) (v := a - ((n + 1 : Int) : Rat)) (by grind)
  omega
theorem Fl_uniq {c a b : Rat} (g : Good c) {n m : Int} (h : Fl c a b n) (h' : Fl c a b m) : n = m := by
  have := Fl_lt g h.1 h'.2
  have := Fl_lt g h'.1 h.2
  omega
theorem S_lo {c l : Rat} (g : Good c) (h : l * l ≤ c) : S c (-l) 1 = 1 := by
  refine S_pos (.inr ⟨by decide +kernel, ?_⟩)
  have := g.irr l
  grind
theorem S_hi {c h : Rat} (g : Good c) (h0 : 0 < h) (h1 : c < h * h) : S c (-h) 1 = -1 := by
  refine S_neg (.inl ⟨by grind, by grind⟩)
theorem end_eq {c a b l : Rat} (g : Good c) : S c (a - (a + b * l)) b = sgn b * S c (-l) 1 := by
  have e := S_mul g b 0 (-l) 1
  rw [S_rat g] at e
  rw [← e]
  congr 1 <;> grind
theorem end_pos {c a b l h : Rat} (g : Good c) (hl : l * l ≤ c) (h0 : 0 < h) (h1 : c < h * h) (hb : 0 < b) : 0 ≤ S c (a - (a + b * l)) b ∧ S c (a - (a + b * h)) b ≤ 0 := by
  rw [end_eq g, end_eq g, S_lo g hl, S_hi g h0 h1, sgn_pos hb]
  decide
theorem end_neg {c a b l h : Rat} (g : Good c) (hl : l * l ≤ c) (h0 : 0 < h) (h1 : c < h * h) (hb : b < 0) : 0 ≤ S c (a - (a + b * h)) b ∧ S c (a - (a + b * l)) b ≤ 0 := by
  rw [end_eq g, end_eq g, S_lo g hl, S_hi g h0 h1, sgn_neg hb]
  decide
theorem P_sub {c a b a' b' : Rat} (g : Good c) (h : 0 ≤ S c a b) (h' : P c a' b') : P c (a + a') (b + b') := by
  rcases S_cases g a b with ⟨p, e⟩ | ⟨p, e⟩ | ⟨rfl, rfl, e⟩
  · exact P_add g p h'
  · omega
  · have e1 : 0 + a' = a' := by grind
    have e2 : 0 + b' = b' := by grind
    rw [e1, e2]
    exact h'
theorem S_neg' {c a b a' b' : Rat} (h : P c a b) (e1 : a' = -a) (e2 : b' = -b) : S c a' b' < 0 := by
  subst e1 e2
  have e3 : - -a = a := by grind
  have e4 : - -b = b := by grind
  rw [S_neg (by rw [e3, e4]; exact h)]
  decide
/-! ### a gap between two numbers has a least size -/
theorem dmul {n d : Int} (h : d ≠ 0) : Rat.divInt n d * (d : Rat) = (n : Rat) := by
  rw [Rat.divInt_eq_div, Rat.div_mul_cancel]
  intro z
  exact h (Rat.intCast_inj.mp z)
theorem le_den {q : Rat} {β : Nat} (h : 0 < q) (hd : q.den < 2 ^ β) : 1 < q * (2 ^ β : Rat) := by
  have e : q * ((q.den : Int) : Rat) = (q.num : Rat) := by
    have e := dmul (n := q.num) (d := (q.den : Int)) (by have := q.den_nz; omega)
    rw [Rat.num_divInt_den] at e
    exact e
  have h1 : (1 : Rat) ≤ (q.num : Rat) := by
    have : 0 < q.num := by
      have h1 : 0 ≤ q.num := Rat.num_nonneg.mpr (Rat.le_of_lt h)
      refine Int.lt_iff_le_and_ne.mpr ⟨h1, fun z => ?_⟩
      rw [← z] at e
      have : q * ((q.den : Int) : Rat) = 0 := e
      rcases Rat.mul_eq_zero.mp this with y | y
      · grind
      · exact q.den_nz (Int.ofNat_inj.mp (Rat.intCast_inj.mp y))
    have : (1 : Int) ≤ q.num := this
    have := Rat.intCast_le_intCast.mpr this
    simpa using this
  have h2 : ((q.den : Int) : Rat) < (2 ^ β : Rat) := by
    have := Rat.natCast_lt_natCast.mpr hd
    rw [Rat.natCast_pow] at this
    rw [Rat.intCast_natCast]
    exact this
  have := Rat.mul_lt_mul_of_pos_left h2 h
  grind
theorem pw_pos (n : Nat) : (0 : Rat) < 2 ^ n := Rat.pow_pos (by decide +kernel)
theorem pw_one (n : Nat) : (1 : Rat) ≤ 2 ^ n := by
  induction n with
  | zero => rw [Rat.pow_zero]; exact Rat.le_refl
  | succ n ih => rw [Rat.pow_succ]; grind
theorem gap {c p q : Rat} (g : Good c) (h : P c p q) {β n : Nat} (hd : (p * p - q * q * c).den < 2 ^ β) (h1 : p ≤ 2 ^ n) (h2 : -p ≤ 2 ^ n) {ε : Rat} (h0 : 0 < ε) (he : ε * 2 ^ β * 2 ^ n * 4 = 1) : P c (p - ε) q := by
  have hA := pw_pos β
  have hB := pw_one n
  have hBp := pw_pos n
  revert h1 h2 he hA hB hBp
  generalize hBe : (2 : Rat) ^ n = B
  intro h1 h2 he hA hB hBp
  have key : ∀ N : Rat, 0 < N → N.den < 2 ^ β → ε * (1 + 2 * B) < N := by
    intro N hN hd
    have k := le_den hN hd
    revert k he hA
    generalize (2 : Rat) ^ β = A
    intro he hA k
    have eA : 0 < ε * A := Rat.mul_pos h0 hA
    have eAB : ε * A * 1 ≤ ε * A * B := Rat.mul_le_mul_of_nonneg_left hB (Rat.le_of_lt eA)
    have : ε * (1 + 2 * B) * A < N * A := by grind
    exact Rat.lt_of_mul_lt_mul_right this (Rat.le_of_lt hA)
  have nn : 0 ≤ q * q * c := Rat.mul_nonneg (sq_nn q) (Rat.le_of_lt g.pos)
  have hl : ε < 1 := by
    have eA := pw_one β
    have e1 : ε * 1 ≤ ε * 2 ^ β := Rat.mul_le_mul_of_nonneg_left eA (Rat.le_of_lt h0)
    have e2 : (ε * 2 ^ β) * 1 ≤ ε * 2 ^ β * B := Rat.mul_le_mul_of_nonneg_left hB (Rat.le_of_lt (Rat.mul_pos h0 hA))
    grind
  have he2 : ε * ε < ε * 1 := Rat.mul_lt_mul_of_pos_left hl h0
  have m1 : ε * p ≤ ε * B := Rat.mul_le_mul_of_nonneg_left h1 (Rat.le_of_lt h0)
  have m2 : ε * (-p) ≤ ε * B := Rat.mul_le_mul_of_nonneg_left h2 (Rat.le_of_lt h0)
  have m3 : 0 < ε * ε := Rat.mul_pos h0 h0
  rcases h with ⟨h3, h4⟩ | ⟨h3, h4⟩
  · have k := key (p * p - q * q * c) (by grind) hd
    have hlt : ε < p := by
      refine Rat.not_le.mp fun z => ?_
      have a1 : p * p ≤ ε * p := Rat.mul_le_mul_of_nonneg_right z (Rat.le_of_lt h3)
      grind
    exact .inl ⟨by grind, by grind⟩
  · have hd' : (q * q * c - p * p).den < 2 ^ β := by
      have e : q * q * c - p * p = -(p * p - q * q * c) := by grind
      rw [e, Rat.neg_den]
      exact hd
    have k := key (q * q * c - p * p) (by grind) hd'
    exact .inr ⟨h3, by grind⟩
/-! ### the first number of the halves between two numbers -/
def Btw (c a q a2 q2 f : Rat) : Prop := ∃ (k : Nat) (n : Int), f * 2 ^ k = ((n + 1 : Int) : Rat) ∧ Fl c (a * 2 ^ k) (q * 2 ^ k) n ∧ S c (f - a2) (0 - q2) < 0 ∧ ∀ j < k, ∀ (m : Int) (e : Rat), Fl c (a * 2 ^ j) (q * 2 ^ j) m → e * 2 ^ j = ((m + 1 : Int) : Rat) → ¬ S c (e - a2) (0 - q2) < 0
theorem Btw_uniq {c a q a2 q2 f f' : Rat} (g : Good c) (h : Btw c a q a2 q2 f) (h' : Btw c a q a2 q2 f') : f = f' := by
  obtain ⟨k, n, e, fl, s, l⟩ := h
  obtain ⟨k', n', e', fl', s', l'⟩ := h'
  rcases Nat.lt_trichotomy k k' with z | z | z
  · exact absurd s (l' k z n f fl e)
  · subst z
    have := Fl_uniq g fl fl'
    subst this
    have := pw_pos k
    have h : f * 2 ^ k = f' * 2 ^ k := by rw [e, e']
    have i := Rat.mul_inv_cancel ((2 : Rat) ^ k) (by grind)
    have : f * (2 ^ k * (2 ^ k)⁻¹) = f' * (2 ^ k * (2 ^ k)⁻¹) := by rw [← Rat.mul_assoc, h, Rat.mul_assoc]
    rw [i] at this
    grind
  · exact absurd s' (l k' z n' f' fl' e')
theorem Btw_lt {c a q a2 q2 f : Rat} (g : Good c) (h : Btw c a q a2 q2 f) : S c (a - f) (q - 0) < 0 ∧ S c (f - a2) (0 - q2) < 0 := by
  obtain ⟨k, n, e, fl, s, l⟩ := h
  refine ⟨?_, s⟩
  have e1 := S_scale g (a := a - f) (b := q) (pw_pos k)
  have e2 : (a - f) * 2 ^ k = a * 2 ^ k - ((n + 1 : Int) : Rat) := by rw [← e]; grind
  rw [e2] at e1
  have e3 : q - 0 = q := by grind
  rw [e3, ← e1]
  exact fl.2
/-- at the least size the number is below -/
theorem Btw_end {c a q a2 q2 ε f : Rat} (g : Good c) {k : Nat} {n : Int} (he : ε * 2 ^ k = 1) (hp : P c (a2 - a - ε) (q2 - q)) (fl : Fl c (a * 2 ^ k) (q * 2 ^ k) n) (hf : f * 2 ^ k = ((n + 1 : Int) : Rat)) : S c (f - a2) (0 - q2) < 0 := by
  have h0 := pw_pos k
  have e1 := S_scale g (a := a - (f - ε)) (b := q) h0
  have e2 : (a - (f - ε)) * 2 ^ k = a * 2 ^ k - (n : Rat) := by
    have : ((n + 1 : Int) : Rat) = (n : Rat) + 1 := by rw [Rat.intCast_add]; rfl
    grind
  rw [e2] at e1
  have h1 := fl.1
  rw [e1] at h1
  have p := P_sub g h1 hp
  exact S_neg' p (by grind) (by grind)
end QM
end
section
set_option linter.all false
/-! QM4: floors, first halves: they are there. -/
namespace QM
theorem big {c q B : Rat} (g : Good c) (h : q * q + c + 1 ≤ B) : 0 < B ∧ q * q * c < B * B := by
  have h0 := sq_nn q
  have h1 := g.pos
  have n := sq_nn c
  have hp : 0 < q * q + c + 1 := by grind
  have m1 : (q * q + c + 1) * (q * q + c + 1) ≤ B * (q * q + c + 1) := Rat.mul_le_mul_of_nonneg_right h (Rat.le_of_lt hp)
  have m2 : B * (q * q + c + 1) ≤ B * B := Rat.mul_le_mul_of_nonneg_left h (by grind)
  have m3 : 0 ≤ q * q * c := Rat.mul_nonneg h0 (Rat.le_of_lt h1)
  have m4 : 0 ≤ q * q * q * q := by
    have := sq_nn (q * q)
    grind
  exact ⟨by grind, by grind⟩
theorem P_big {c a q : Rat} (g : Good c) (h : q * q + c + 1 ≤ a) : P c a q := .inl (big g h)
theorem Fl_step {c a q : Rat} {L : Int} (h : 0 ≤ S c (a - (L : Rat)) q) : ∀ (m : Nat), S c (a - ((L + m : Int) : Rat)) q < 0 → ∃ n, Fl c a q n
  | 0, h' => by
    have e : L + ((0 : Nat) : Int) = L := by omega
    rw [e] at h'
    omega
  | m + 1, h' => by
    by_cases z : S c (a - ((L + m : Int) : Rat)) q < 0
    · exact Fl_step h m z
    · refine ⟨L + m, by omega, ?_⟩
      have e : L + (m : Int) + 1 = L + ((m + 1 : Nat) : Int) := by omega
      rw [e]
      exact h'
theorem Fl_ex {c : Rat} (g : Good c) (a q : Rat) : ∃ n, Fl c a q n := by
  have f1 := Rat.floor_le (a - (q * q + c + 1))
  have f2 := Rat.lt_floor_add_one (a + (q * q + c + 1))
  have hB := (big (B := q * q + c + 1) g Rat.le_refl).1
  have h1 : 0 ≤ S c (a - ((a - (q * q + c + 1)).floor : Rat)) q := by
    rw [S_pos (P_big g (by grind))]
    decide
  have hle : (a - (q * q + c + 1)).floor ≤ (a + (q * q + c + 1)).floor := Rat.floor_monotone (by grind)
  refine Fl_step h1 ((a + (q * q + c + 1)).floor + 1 - (a - (q * q + c + 1)).floor).toNat ?_
  have e : (a - (q * q + c + 1)).floor + (((a + (q * q + c + 1)).floor + 1 - (a - (q * q + c + 1)).floor).toNat : Int) = (a + (q * q + c + 1)).floor + 1 := by omega
  rw [e]
  have e2 : (-q) * (-q) = q * q := by grind
  exact S_neg' (P_big (a := (((a + (q * q + c + 1)).floor + 1 : Int) : Rat) - a) (q := -q) g (by rw [e2]; grind)) (by grind) (by grind)
open Classical in
/-- the greatest whole number not above a + q root c -/
noncomputable def flr (c a q : Rat) : Int := if h : ∃ n, Fl c a q n then Classical.choose h else 0
theorem flr_ok {c : Rat} (g : Good c) (a q : Rat) : Fl c a q (flr c a q) := by
  have h := Fl_ex g a q
  unfold flr
  rw [dif_pos h]
  exact Classical.choose_spec h
theorem flr_of {c a q : Rat} {n : Int} (g : Good c) (h : Fl c a q n) : n = flr c a q := Fl_uniq g h (flr_ok g a q)
theorem Fl_rng {c a q : Rat} {n : Int} (g : Good c) (h : Fl c a q n) : a - (q * q + c + 1) - 1 ≤ (n : Rat) ∧ (n : Rat) ≤ a + (q * q + c + 1) := by
  constructor
  · refine Rat.not_lt.mp fun z => ?_
    have e : ((n + 1 : Int) : Rat) = (n : Rat) + 1 := by rw [Rat.intCast_add]; rfl
    have := S_pos (P_big (a := a - ((n + 1 : Int) : Rat)) (q := q) g (by rw [e]; grind))
    have h2 := h.2
    omega
  · refine Rat.not_lt.mp fun z => ?_
    have e2 : (-q) * (-q) = q * q := by grind
    have := S_neg' (P_big (a := (n : Rat) - a) (q := -q) g (by rw [e2]; grind)) (a' := a - (n : Rat)) (b' := q) (by grind) (by grind)
    have h1 := h.1
    omega
theorem natAbs_lt {n : Int} {N : Nat} (h1 : -(2 ^ N : Rat) < (n : Rat)) (h2 : (n : Rat) < (2 ^ N : Rat)) : n.natAbs < 2 ^ N := by
  have e : (((2 ^ N : Nat) : Int) : Rat) = (2 ^ N : Rat) := by rw [Rat.intCast_natCast, Rat.natCast_pow]; rfl
  rw [← e] at h1 h2
  have a1 : -((2 ^ N : Nat) : Int) < n := by
    rw [← Rat.intCast_neg] at h1
    exact Rat.intCast_lt_intCast.mp h1
  have a2 : n < ((2 ^ N : Nat) : Int) := Rat.intCast_lt_intCast.mp h2
  omega
/-- magnitudes -/
structure Mag (c a q : Rat) : Prop where
  a1 : a ≤ 2 ^ 100
  a2 : -a ≤ 2 ^ 100
  q1 : q ≤ 2 ^ 100
  q2 : -q ≤ 2 ^ 100
  c1 : c ≤ 2 ^ 100
theorem sq_le {q B : Rat} (h1 : q ≤ B) (h2 : -q ≤ B) : q * q ≤ B * B := by
  have : 0 ≤ (B - q) * (B + q) := Rat.mul_nonneg (by grind) (by grind)
  grind
theorem pw_add (n m : Nat) : (2 : Rat) ^ (n + m) = 2 ^ n * 2 ^ m := by
  induction m with
  | zero => rw [Nat.add_zero, Rat.pow_zero]; grind
  | succ m ih => rw [← Nat.add_assoc, Rat.pow_succ, Rat.pow_succ, ih]; grind
theorem pw_mono {n m : Nat} (h : n ≤ m) : (2 : Rat) ^ n ≤ 2 ^ m := by
  have e : m = n + (m - n) := by omega
  rw [e, pw_add]
  have h1 := pw_one (m - n)
  have : (2 : Rat) ^ n * 1 ≤ 2 ^ n * 2 ^ (m - n) := Rat.mul_le_mul_of_nonneg_left h1 (Rat.le_of_lt (pw_pos n))
  grind
theorem flr_mag {c a q : Rat} (g : Good c) (M : Mag c a q) (k : Nat) : (flr c (a * 2 ^ k) (q * 2 ^ k)).natAbs < 2 ^ (2 * k + 210) := by
  obtain ⟨h1, h2⟩ := Fl_rng g (flr_ok g (a * 2 ^ k) (q * 2 ^ k))
  have hk := pw_pos k
  have hk1 := pw_one k
  have s1 := sq_le (q := q) (B := 2 ^ 100) M.q1 M.q2
  have m1 := M.a1
  have m2 := M.a2
  have m3 := M.c1
  have e200 : (2 : Rat) ^ 100 * 2 ^ 100 = 2 ^ 200 := (pw_add 100 100).symm
  have e2 : (2 : Rat) ^ (2 * k + 210) = 2 ^ 200 * 1024 * (2 ^ k * 2 ^ k) := by
    have e : 2 * k + 210 = 200 + 10 + (k + k) := by omega
    have e10 : (2 : Rat) ^ 10 = 1024 := by decide +kernel
    rw [e, pw_add, pw_add, pw_add, e10]
  have e3 : (2 : Rat) ^ 100 ≤ 2 ^ 200 := pw_mono (by decide)
  have e4 : (1 : Rat) ≤ 2 ^ 200 := pw_one 200
  rw [e200] at s1
  refine natAbs_lt ?_ ?_
  all_goals
    rw [e2]
    revert h1 h2 hk hk1 s1 m1 m2 m3 e3 e4
    generalize ((flr c (a * 2 ^ k) (q * 2 ^ k) : Int) : Rat) = F
    generalize (2 : Rat) ^ k = u
    generalize (2 : Rat) ^ 200 = Z
    generalize (2 : Rat) ^ 100 = Y
    intro h1 h2 hk hk1 s1 m1 m2 m3 e3 e4
    have u2 : u * 1 ≤ u * u := Rat.mul_le_mul_of_nonneg_left hk1 (Rat.le_of_lt hk)
    have up : 0 < u * u := Rat.mul_pos hk hk
    have b1 : q * q * (u * u) ≤ Z * (u * u) := Rat.mul_le_mul_of_nonneg_right s1 (Rat.le_of_lt up)
    have b2 : a * u ≤ Z * u := Rat.mul_le_mul_of_nonneg_right (by grind) (Rat.le_of_lt hk)
    have b3 : -a * u ≤ Z * u := Rat.mul_le_mul_of_nonneg_right (by grind) (Rat.le_of_lt hk)
    have b4 : Z * u ≤ Z * (u * u) := Rat.mul_le_mul_of_nonneg_left (by grind) (by grind)
    have b5 : Z * 1 ≤ Z * (u * u) := Rat.mul_le_mul_of_nonneg_left (by grind) (by grind)
    grind
/-! the first of the halves -/
theorem least {p : Nat → Prop} : ∀ (K : Nat), p K → ∃ k, k ≤ K ∧ p k ∧ ∀ j < k, ¬ p j := fun K => by
  induction K using Nat.strongRecOn with
  | _ K ih =>
    intro h
    by_cases z : ∃ j, j < K ∧ p j
    · obtain ⟨j, hj, pj⟩ := z
      obtain ⟨k, h1, h2, h3⟩ := ih j hj pj
      exact ⟨k, by omega, h2, h3⟩
    · exact ⟨K, Nat.le_refl _, h, fun j hj pj => z ⟨j, hj, pj⟩⟩
/-- the number tried at the k-th half -/
noncomputable def tri (c a q : Rat) (k : Nat) : Rat := Rat.divInt (flr c (a * 2 ^ k) (q * 2 ^ k) + 1) ((2 ^ k : Nat) : Int)
theorem pwI (k : Nat) : (((2 ^ k : Nat) : Int) : Rat) = 2 ^ k := by rw [Rat.intCast_natCast, Rat.natCast_pow]; rfl
theorem pwI0 (k : Nat) : ((2 ^ k : Nat) : Int) ≠ 0 := by have := Nat.two_pow_pos k; omega
theorem tri_mul (c a q : Rat) (k : Nat) : tri c a q k * 2 ^ k = ((flr c (a * 2 ^ k) (q * 2 ^ k) + 1 : Int) : Rat) := by
  have := dmul (n := flr c (a * 2 ^ k) (q * 2 ^ k) + 1) (pwI0 k)
  rw [pwI] at this
  exact this
theorem tri_end {c a q a2 q2 ε : Rat} (g : Good c) {k : Nat} (he : ε * 2 ^ k = 1) (hp : P c (a2 - a - ε) (q2 - q)) : S c (tri c a q k - a2) (0 - q2) < 0 := Btw_end g he hp (flr_ok g _ _) (tri_mul c a q k)
/-- f is the first that is below -/
def Fst (c a q a2 q2 f : Rat) (k : Nat) : Prop := f = tri c a q k ∧ S c (f - a2) (0 - q2) < 0 ∧ ∀ j < k, ¬ S c (tri c a q j - a2) (0 - q2) < 0
theorem Fst_uniq {c a q a2 q2 f f' : Rat} {k k' : Nat} (h : Fst c a q a2 q2 f k) (h' : Fst c a q a2 q2 f' k') : f = f' := by
  obtain ⟨e, s, l⟩ := h
  obtain ⟨e', s', l'⟩ := h'
  rcases Nat.lt_trichotomy k k' with z | z | z
  · exact absurd (e ▸ s) (l' k z)
  · subst z
    rw [e, e']
  · exact absurd (e' ▸ s') (l k' z)
theorem Fst_lt {c a q a2 q2 f : Rat} {k : Nat} (g : Good c) (h : Fst c a q a2 q2 f k) : S c (a - f) (q - 0) < 0 ∧ S c (f - a2) (0 - q2) < 0 := by
  obtain ⟨e, s, l⟩ := h
  refine ⟨?_, s⟩
  have e1 := S_scale g (a := a - f) (b := q) (pw_pos k)
  have fl := flr_ok g (a * 2 ^ k) (q * 2 ^ k)
  have e2 : (a - f) * 2 ^ k = a * 2 ^ k - ((flr c (a * 2 ^ k) (q * 2 ^ k) + 1 : Int) : Rat) := by
    rw [← tri_mul, ← e]
    grind
  rw [e2] at e1
  have e3 : q - 0 = q := by grind
  rw [e3, ← e1]
  exact fl.2
open Classical in
noncomputable def btw (c a q a2 q2 : Rat) : Rat := if h : ∃ f k, Fst c a q a2 q2 f k then Classical.choose h else 0
theorem btw_of {c a q a2 q2 f : Rat} {k : Nat} (h : Fst c a q a2 q2 f k) : f = btw c a q a2 q2 := by
  have h' : ∃ f k, Fst c a q a2 q2 f k := ⟨f, k, h⟩
  unfold btw
  rw [dif_pos h']
  obtain ⟨k', h2⟩ := Classical.choose_spec h'
  exact Fst_uniq h h2
theorem btw_ok {c a q a2 q2 ε : Rat} (g : Good c) {K : Nat} (he : ε * 2 ^ K = 1) (hp : P c (a2 - a - ε) (q2 - q)) : ∃ k, k ≤ K ∧ Fst c a q a2 q2 (btw c a q a2 q2) k := by
  obtain ⟨k, h1, h2, h3⟩ := least (p := fun k => S c (tri c a q k - a2) (0 - q2) < 0) K (tri_end g he hp)
  have f : Fst c a q a2 q2 (tri c a q k) k := ⟨rfl, h2, h3⟩
  refine ⟨k, h1, ?_⟩
  rw [← btw_of f]
  exact f
end QM
end
section
set_option Elab.async false
set_option linter.all false
set_option maxRecDepth 100000
set_option maxHeartbeats 4000000
set_option exponentiation.threshold 20000
namespace K65
open PySem PySem.Spec PyProof.Rows L2 DL
section
variable {X : Cx} {W : Wd} {ρ : En} {a b c e : Expr} {pos : Pos} {R Ra Rb : D → Prop}
theorem e_atT {n : Nat} {k p2} (ha : EDr X W ρ a Ra) (h : ∀ d, Ra d → ∃ ds x, d = .tuple ds ∧ ds[n]? = some x ∧ R x) : EDr X W ρ (.Subscript a (.Constant (.int n) k p2) pos) R :=
  e_ixR ix_tup ha e_int (fun x y e1 e2 => by
    obtain ⟨ds, x', rfl, h1, h2⟩ := h x e1
    subst e2
    exact fun v1 v2 H Q B p1 p2 q => od_ixT h1 v1 v2 H Q B p1 p2 fun d v H' r => q d v H' (by subst r; exact h2)) (fun _ _ => rfl)
end
variable {K : PySem.W.Frag} {mg : Str → Option Value} {P : Program} {w : World} {base : Heap}
open QM
theorem add0z (z : Rat) : 0 + z = z := Rat.zero_add z
theorem S_sw {c a x q : Rat} (g : Good c) : S c (x - a) (0 - q) = - S c (a - x) q := by
  rw [← S_flip g]
  congr 1 <;> grind
theorem S_strict {c u v b : Rat} (g : Good c) (h : u < v) (h' : S c v b ≤ 0) : S c u b < 0 := by
  have m := S_mono g (b := b) (Rat.le_of_lt h)
  rcases S_cases g v b with ⟨p, e⟩ | ⟨p, e⟩ | ⟨rfl, rfl, e⟩
  · omega
  · omega
  · rw [S_rat g, sgn_neg h]
    decide
/-! the bounds of a root -/
noncomputable def rN (c : Rat) (m : Nat) : Nat := isq (c.num.natAbs * c.den * 4 ^ m)
noncomputable def rLo (c : Rat) (m : Nat) : Rat := Rat.divInt (rN c m : Int) ((c.den * 2 ^ m : Nat) : Int)
noncomputable def rHi (c : Rat) (m : Nat) : Rat := Rat.divInt ((rN c m : Int) + 1) ((c.den * 2 ^ m : Nat) : Int)
noncomputable def rW (b c : Rat) (m : Nat) : Rat := Rat.divInt (b.num.natAbs : Int) (b.den : Int) * Rat.divInt 1 ((c.den * 2 ^ m : Nat) : Int)
noncomputable def half (k : Nat) : Rat := Rat.divInt 1 ((2 ^ k : Nat) : Int)
theorem dn0 (c : Rat) (m : Nat) : ((c.den * 2 ^ m : Nat) : Int) ≠ 0 := by
  have h1 := Nat.pos_of_ne_zero c.den_nz
  have h2 := Nat.mul_pos h1 (Nat.two_pow_pos m)
  omega
theorem castN (n : Nat) : ((n : Int) : Rat) = (n : Rat) := Rat.intCast_natCast n
theorem natR {n m : Nat} (h : n ≤ m) : (n : Rat) ≤ (m : Rat) := Rat.natCast_le_natCast.mpr h
theorem den_mulR (q : Rat) : q * (q.den : Rat) = (q.num : Rat) := by
  have e := dmul (n := q.num) (d := (q.den : Int)) (by have := q.den_nz; omega)
  rw [Rat.num_divInt_den] at e
  exact e
theorem den_posR (q : Rat) : (0 : Rat) < (q.den : Rat) := by
  have : ((0 : Nat) : Rat) < (q.den : Rat) := Rat.natCast_lt_natCast.mpr (Nat.pos_of_ne_zero q.den_nz)
  simpa using this
theorem rLo_mul (c : Rat) (m : Nat) : rLo c m * ((c.den : Rat) * 2 ^ m) = (rN c m : Rat) := by
  have h := dmul (n := (rN c m : Int)) (dn0 c m)
  rw [castN, castN, Rat.natCast_mul, Rat.natCast_pow] at h
  exact h
theorem rHi_mul (c : Rat) (m : Nat) : rHi c m * ((c.den : Rat) * 2 ^ m) = (rN c m : Rat) + 1 := by
  have h := dmul (n := (rN c m : Int) + 1) (dn0 c m)
  rw [castN, Rat.intCast_add, castN, Rat.natCast_mul, Rat.natCast_pow] at h
  exact h
theorem num_absR {c : Rat} (h0 : 0 ≤ c) : (c.num : Rat) = (c.num.natAbs : Rat) := by
  have e : c.num = (c.num.natAbs : Int) := (Int.natAbs_of_nonneg (Rat.num_nonneg.mpr h0)).symm
  rw [e, castN, Int.natAbs_natCast]
theorem four_pw (m : Nat) : ((4 ^ m : Nat) : Rat) = 2 ^ m * 2 ^ m := by
  have e : 4 ^ m = 2 ^ m * 2 ^ m := by rw [← Nat.mul_pow]
  rw [e, Rat.natCast_mul, Rat.natCast_pow]
  rfl
theorem bounds_ok {c : Rat} (h0 : 0 < c) (m : Nat) : rLo c m * rLo c m ≤ c ∧ 0 < rHi c m ∧ c < rHi c m * rHi c m := by
  have hd : 0 < (c.den : Rat) * 2 ^ m := Rat.mul_pos (den_posR c) (pw_pos m)
  have hdd := Rat.mul_pos hd hd
  have hN : c * (((c.den : Rat) * 2 ^ m) * ((c.den : Rat) * 2 ^ m)) = ((c.num.natAbs * c.den * 4 ^ m : Nat) : Rat) := by
    rw [Rat.natCast_mul, Rat.natCast_mul, four_pw, ← num_absR (Rat.le_of_lt h0), ← den_mulR c]
    grind
  have h1 : (rN c m : Rat) * (rN c m : Rat) ≤ ((c.num.natAbs * c.den * 4 ^ m : Nat) : Rat) := by
    have := natR (isq_le (c.num.natAbs * c.den * 4 ^ m))
    rw [Rat.natCast_mul] at this
    exact this
  have h2 : ((c.num.natAbs * c.den * 4 ^ m : Nat) : Rat) < ((rN c m : Rat) + 1) * ((rN c m : Rat) + 1) := by
    have := Rat.natCast_lt_natCast.mpr (isq_lt (c.num.natAbs * c.den * 4 ^ m))
    rw [Rat.natCast_mul (isq (c.num.natAbs * c.den * 4 ^ m) + 1), Rat.natCast_add] at this
    exact this
  have h3 : (0 : Rat) ≤ (rN c m : Rat) := by
    have := natR (Nat.zero_le (rN c m))
    simpa using this
  have eL := rLo_mul c m
  have eH := rHi_mul c m
  revert hd hdd hN h1 h2 h3 eL eH
  generalize (c.den : Rat) * 2 ^ m = u
  generalize ((c.num.natAbs * c.den * 4 ^ m : Nat) : Rat) = N
  generalize (rN c m : Rat) = r
  generalize rLo c m = l
  generalize rHi c m = h
  intro hd hdd hN h1 h2 h3 eL eH
  refine ⟨?_, ?_, ?_⟩
  · refine Rat.le_of_mul_le_mul_right (c := u * u) ?_ hdd
    have : l * l * (u * u) = r * r := by rw [← eL]; grind
    grind
  · refine Rat.not_le.mp fun z => ?_
    have : h * u ≤ 0 * u := Rat.mul_le_mul_of_nonneg_right z (Rat.le_of_lt hd)
    grind
  · refine Rat.lt_of_mul_lt_mul_right (c := u * u) ?_ (Rat.le_of_lt hdd)
    have : h * h * (u * u) = (r + 1) * (r + 1) := by rw [← eH]; grind
    grind
theorem half_mul (k : Nat) : half k * 2 ^ k = 1 := by
  have h := dmul (n := 1) (pwI0 k)
  rw [pwI] at h
  exact h
theorem wid_mul (c : Rat) (m : Nat) : Rat.divInt 1 ((c.den * 2 ^ m : Nat) : Int) * ((c.den : Rat) * 2 ^ m) = 1 := by
  have h := dmul (n := 1) (dn0 c m)
  rw [castN, Rat.natCast_mul, Rat.natCast_pow] at h
  exact h
theorem abs_mul (b : Rat) : Rat.divInt (b.num.natAbs : Int) (b.den : Int) * (b.den : Rat) = (b.num.natAbs : Rat) := by
  have h := dmul (n := (b.num.natAbs : Int)) (d := (b.den : Int)) (by have := b.den_nz; omega)
  rw [castN, castN] at h
  exact h
theorem abs_eq (b : Rat) : (0 ≤ b → Rat.divInt (b.num.natAbs : Int) (b.den : Int) = b) ∧ (b ≤ 0 → Rat.divInt (b.num.natAbs : Int) (b.den : Int) = -b) := by
  constructor
  · intro h
    rw [Int.natAbs_of_nonneg (Rat.num_nonneg.mpr h)]
    exact Rat.num_divInt_den b
  · intro h
    have : b.num ≤ 0 := by
      have := Rat.num_nonneg (q := -b)
      rw [Rat.neg_num] at this
      have := this.mpr (by grind)
      omega
    rw [Int.ofNat_natAbs_of_nonpos this, ← Rat.neg_divInt, Rat.num_divInt_den]
/-- the ends of the bounds lie so far apart -/
theorem rW_eq (b c : Rat) (m : Nat) : (0 ≤ b → b * rHi c m - b * rLo c m = rW b c m) ∧ (b ≤ 0 → b * rLo c m - b * rHi c m = rW b c m) := by
  have hd : 0 < (c.den : Rat) * 2 ^ m := Rat.mul_pos (den_posR c) (pw_pos m)
  have eL := rLo_mul c m
  have eH := rHi_mul c m
  have eW := wid_mul c m
  have e : rHi c m - rLo c m = Rat.divInt 1 ((c.den * 2 ^ m : Nat) : Int) := by
    have : (rHi c m - rLo c m) * ((c.den : Rat) * 2 ^ m) = Rat.divInt 1 ((c.den * 2 ^ m : Nat) : Int) * ((c.den : Rat) * 2 ^ m) := by grind
    have i := Rat.mul_inv_cancel ((c.den : Rat) * 2 ^ m) (by grind)
    have h : (rHi c m - rLo c m) * (((c.den : Rat) * 2 ^ m) * ((c.den : Rat) * 2 ^ m)⁻¹) = Rat.divInt 1 ((c.den * 2 ^ m : Nat) : Int) * (((c.den : Rat) * 2 ^ m) * ((c.den : Rat) * 2 ^ m)⁻¹) := by rw [← Rat.mul_assoc, this, Rat.mul_assoc]
    rw [i] at h
    grind
  unfold rW
  constructor
  · intro h
    rw [(abs_eq b).1 h, ← e]
    grind
  · intro h
    rw [(abs_eq b).2 h, ← e]
    grind
theorem rW_small {b c : Rat} {m k β : Nat} (hb : b.num.natAbs < 2 ^ β) (h : β + k ≤ m) : rW b c m ≤ half k := by
  have eA := abs_mul b
  have eW := wid_mul c m
  have eZ := half_mul k
  have h1 : (b.num.natAbs : Rat) ≤ 2 ^ β := by
    have := natR (Nat.le_of_lt hb)
    rw [Rat.natCast_pow] at this
    exact this
  have hn : (0 : Rat) ≤ (b.num.natAbs : Rat) := by
    have := natR (Nat.zero_le b.num.natAbs)
    simpa using this
  have d1 : (1 : Rat) ≤ (b.den : Rat) := by
    have := natR (Nat.pos_of_ne_zero b.den_nz)
    simpa using this
  have d2 : (1 : Rat) ≤ (c.den : Rat) := by
    have := natR (Nat.pos_of_ne_zero c.den_nz)
    simpa using this
  have p := pw_pos m
  have hm : (2 : Rat) ^ β * 2 ^ k ≤ 2 ^ m := by rw [← pw_add]; exact pw_mono h
  have pk := pw_pos k
  unfold rW
  revert eA eW eZ h1 hn d1 d2 p hm pk
  generalize Rat.divInt (b.num.natAbs : Int) (b.den : Int) = x
  generalize Rat.divInt 1 ((c.den * 2 ^ m : Nat) : Int) = y
  generalize half k = z
  generalize (b.num.natAbs : Rat) = n
  generalize (b.den : Rat) = d
  generalize (c.den : Rat) = e
  generalize (2 : Rat) ^ β = B
  generalize (2 : Rat) ^ k = C
  generalize (2 : Rat) ^ m = M
  intro eA eW eZ h1 hn d1 d2 p hm pk
  have hx0 : 0 ≤ x := by
    refine Rat.not_lt.mp fun w => ?_
    have : 0 < (-x) * d := Rat.mul_pos (by grind) (by grind)
    grind
  have hx : x ≤ B := by
    have : x * 1 ≤ x * d := Rat.mul_le_mul_of_nonneg_left d1 hx0
    grind
  have hem : 0 < e * M := Rat.mul_pos (by grind) p
  have hy0 : 0 < y := by
    refine Rat.not_le.mp fun w => ?_
    have : 0 ≤ (-y) * (e * M) := Rat.mul_nonneg (by grind) (Rat.le_of_lt hem)
    grind
  have hy : y * M ≤ 1 := by
    have : (y * M) * 1 ≤ (y * M) * e := Rat.mul_le_mul_of_nonneg_left d2 (Rat.le_of_lt (Rat.mul_pos hy0 p))
    grind
  have hz0 : 0 < z := by
    refine Rat.not_le.mp fun w => ?_
    have : 0 ≤ (-z) * C := Rat.mul_nonneg (by grind) (Rat.le_of_lt pk)
    grind
  refine Rat.le_of_mul_le_mul_right (c := M) ?_ p
  have a1 : x * (y * M) ≤ x * 1 := Rat.mul_le_mul_of_nonneg_left hy hx0
  have a2 : z * (B * C) ≤ z * M := Rat.mul_le_mul_of_nonneg_left hm (Rat.le_of_lt hz0)
  have a3 : z * (B * C) = B := by
    have : z * (B * C) = B * (z * C) := by grind
    rw [this, eZ]
    grind
  grind
theorem sz_dn {c : Rat} {m : Nat} {dc : Nat} (h : c.den < 2 ^ dc) : ((c.den * 2 ^ m : Nat) : Int).natAbs < 2 ^ (dc + m) := by
  rw [Int.natAbs_natCast, Nat.pow_add]
  exact Nat.mul_lt_mul_of_pos_right h (Nat.two_pow_pos m)
theorem rN_lt {c : Rat} {m : Nat} (h : Sz c 100 60) : rN c m < 2 ^ (80 + m) := by
  refine sz_isq ?_
  have e : 2 * (80 + m) = 100 + 60 + 2 * m := by omega
  have e4 : 4 ^ m = 2 ^ (2 * m) := by rw [Nat.pow_mul]
  rw [e, Nat.pow_add, Nat.pow_add, e4]
  exact Nat.mul_lt_mul_of_pos_right (Nat.mul_lt_mul'' h.1 h.2) (Nat.two_pow_pos _)
theorem rLo_sz {c : Rat} {m : Nat} (h : Sz c 100 60) : Sz (rLo c m) (81 + m) (60 + m) := by
  refine sz_divInt (dn0 c m) ?_ (sz_dn h.2)
  rw [Int.natAbs_natCast]
  exact Nat.lt_of_lt_of_le (rN_lt h) (Nat.pow_le_pow_right (by decide) (by omega))
theorem rHi_sz {c : Rat} {m : Nat} (h : Sz c 100 60) : Sz (rHi c m) (81 + m) (60 + m) := by
  refine sz_divInt (dn0 c m) ?_ (sz_dn h.2)
  have := rN_lt (m := m) h
  have e : 2 ^ (81 + m) = 2 ^ (80 + m) * 2 := by rw [← Nat.pow_succ]; congr 1; omega
  omega
theorem half_bd {k : Nat} (h : k ≤ 1000) : Bd (half k) := by
  refine sz_divInt (pwI0 k) (by exact Nat.lt_of_lt_of_le (by decide : (1 : Int).natAbs < 2 ^ 1) (Nat.pow_le_pow_right (by decide) (by decide))) ?_
  rw [Int.natAbs_natCast]
  exact Nat.pow_lt_pow_right (by decide) (by omega)
theorem pw2I {k : Nat} {N : Nat} (h : k < N) : ((2 : Int) ^ k).natAbs < 2 ^ N := by
  rw [Int.natAbs_pow]
  exact Nat.pow_lt_pow_right (by decide) h
theorem pw2c (k : Nat) : (2 : Int) ^ k = ((2 ^ k : Nat) : Int) := by rw [Int.natCast_pow]; rfl
/-- a root number after a multiplication: how it stands to its value -/
theorem rt_co {c0 a b c q : Rat} (g : Good c0) (h : Co c0 b c q) : ∃ b' c', rtD a b c = encR a b' c' ∧ Co c0 b' c' q ∧ (b' = b ∨ b' = 0) ∧ (c' = c ∨ c' = 0) := by
  unfold rtD
  by_cases z : b = 0 ∨ c = 0
  · rw [if_pos z]
    have hq : q = 0 := by
      rcases z with z | z
      · exact h.z z
      · rcases h with ⟨_, _, h⟩ | ⟨t, ht, e, _⟩
        · exact h
        · have := Rat.mul_pos (Rat.mul_pos ht ht) g.pos
          grind
    subst hq
    exact ⟨0, 0, rfl, Co.zero, .inr rfl, .inr rfl⟩
  · rw [if_neg z]
    exact ⟨b, c, rfl, h, .inl rfl, .inl rfl⟩
theorem sz00 {a b : Nat} (ha : 1 ≤ a) (hb : 1 ≤ b) : Sz 0 a b := sz0.mono ha hb
theorem Sz.or0 {b b' : Rat} {m n : Nat} (h : Sz b m n) (hm : 1 ≤ m) (hn : 1 ≤ n) (e : b' = b ∨ b' = 0) : Sz b' m n := by
  rcases e with rfl | rfl
  · exact h
  · exact sz00 hm hn
/-- the pre of und -/
theorem co_und {c0 b c q f : Rat} (g : Good c0) (h : Co c0 b c q) (hs : Sz c 2000 2000) : Und (b * f) c := by
  rcases h with ⟨_, rfl, _⟩ | ⟨t, ht, rfl, _⟩
  · exact .inr (.inl rfl)
  · exact .inr (.inr ⟨good_t g ht, hs⟩)

def F_compare_signs : List D → (D → Prop) → Prop := fun ds R => ∃ c0 a b c q a2 b2 c2 q2 : Rat, Good c0 ∧ Co c0 b c q ∧ Co c0 b2 c2 q2 ∧ ds = [encR a b c, encR a2 b2 c2] ∧
  ((Sz a 3000 300 ∧ Sz b 3000 150 ∧ Sz c 100 60 ∧ Sz a2 3000 300 ∧ Sz b2 3000 150 ∧ Sz c2 100 60) ∨ (a = a2 ∧ b = b2 ∧ c = c2 ∧ Sz a 30000 1000 ∧ Sz b 30000 1000 ∧ Sz c 30000 400)) ∧ R (.int (S c0 (a - a2) (q - q2)))
theorem c_compare_signs (T : Tp K mg) : Cb P w K mg base 8 "compare_signs" F_compare_signs := by
  have sc : FnScope ["r", "s"] ["r", "s"] (defScope s_compare_signs) := ⟨rfl, rfl, rfl, by decide +kernel, rfl, by decide +kernel, by decide +kernel⟩
  have C_neg := c_neg (P := P) (w := w) (base := base) T
  have C_sign_three := c_sign_three (P := P) (w := w) (base := base) T
  have C_sub := c_sub (P := P) (w := w) (base := base) T
  refine T.cb 34 rfl rfl (st := s_compare_signs) sc (fun _ _ _ _ _ _ us hl => match us, hl with | [_, _], _ => rfl) (fun ds R hF => by obtain ⟨c0, a, b, c, q, a2, b2, c2, q2, g, o1, o2, rfl, hs, qq⟩ := hF; rfl) ?_
  intro f cdv A l s H E W ds R hr hG hF
  obtain ⟨c0, a, b, c, q, a2, b2, c2, q2, g, o1, o2, rfl, hs, qq⟩ := hF
  refine' (b_ret (e_call (d := .int (QM.sg3 (a - a2) b c (-b2) c2)) (C_sign_three.mono (by decide)) hr hG (a_cons (e_call (C_sub.mono (by decide)) hr hG (a_cons (e_at (e_var 0 rfl (pv 0)) rfl) (a_cons (e_at (e_var 1 rfl (pv 1)) rfl) a_nil)) ?h0) (a_cons (e_at (e_var 0 rfl (pv 0)) rfl) (a_cons (e_at (e_var 0 rfl (pv 0)) rfl) (a_cons (e_call (C_neg.mono (by decide)) hr hG (a_cons (e_at (e_var 1 rfl (pv 1)) rfl) a_nil) ?h1) (a_cons (e_at (e_var 1 rfl (pv 1)) rfl) a_nil))))) ?h2) ?h3)
  case h0 =>
    rcases hs with ⟨h1, _, _, h4, _, _⟩ | ⟨rfl, _, _, h4, _, _⟩
    · exact ⟨_, _, rfl, h1.bd (by decide) (by decide), h4.bd (by decide) (by decide), rfl⟩
    · exact ⟨_, _, rfl, h4.bd (by decide) (by decide), h4.bd (by decide) (by decide), rfl⟩
  case h1 =>
    exact ⟨_, rfl, rfl⟩
  case h2 =>
    rcases hs with ⟨h1, h2, h3, h4, h5, h6⟩ | ⟨rfl, rfl, rfl, h4, h5, h6⟩
    · have s1 := h1.sub h4
      have s2 := (s1.mul s1).add ((h2.mul h2).mul h3)
      have e5 : (-b2) * (-b2) = b2 * b2 := by grind
      have s3 := s2.sub ((h5.mul h5).mul h6)
      refine ⟨_, _, _, _, _, rfl, o1.nn g, o2.nn g, s1.mono (by decide) (by decide), h2.mono (by decide) (by decide), h3.mono (by decide) (by decide), h5.neg.mono (by decide) (by decide), h6.mono (by decide) (by decide), s2.bd (by decide) (by decide), ?_, ((s1.mul h2).mul sz2).mono (by decide) (by decide), rfl⟩
      rw [e5]
      exact s3.mono (by decide) (by decide)
    · have e0 : a - a = 0 := by grind
      rw [e0]
      have z0 : (0 : Rat) * 0 + b * b * c = b * b * c := by grind
      have z1 : b * b * c - -b * -b * c = 0 := by grind
      have z2 : 0 * b * 2 = (0 : Rat) := by grind
      refine ⟨_, _, _, _, _, rfl, o1.nn g, o2.nn g, sz00 (by decide) (by decide), h5.mono (by decide) (by decide), h6.mono (by decide) (by decide), h5.neg.mono (by decide) (by decide), h6.mono (by decide) (by decide), ?_, ?_, ?_, rfl⟩
      · rw [z0]
        exact ((h5.mul h5).mul h6).bd (by decide) (by decide)
      · rw [z0, z1]
        exact sz00 (by decide) (by decide)
      · rw [z2]
        exact sz00 (by decide) (by decide)
  case h3 =>
    have e := sg3_co (a := a - a2) g o1 o2.neg
    have e2 : q + -q2 = q - q2 := by grind
    rw [e2] at e
    rw [e]
    exact qq
def F_sum_of : List D → (D → Prop) → Prop := fun ds R => ∃ qs : List Rat, ds = [.tuple (qs.map encQ)] ∧ qs.length ≤ 5 ∧ (∀ z, z ∈ qs → Sz z 100 40) ∧ R (encQ (qs.foldl (· + ·) 0))
theorem c_sum_of (T : Tp K mg) : Cb P w K mg base 5 "sum_of" F_sum_of := by
  have sc : FnScope ["fractions", "found", "one"] ["fractions"] (defScope s_sum_of) := ⟨rfl, rfl, rfl, by decide +kernel, rfl, by decide +kernel, by decide +kernel⟩
  have C_add := c_add (P := P) (w := w) (base := base) T
  refine T.cb 15 rfl rfl (st := s_sum_of) sc (fun _ _ _ _ _ _ us hl => match us, hl with | [_], _ => rfl) (fun ds R hF => by obtain ⟨qs, rfl, hl, hz, q⟩ := hF; rfl) ?_
  intro f cdv A l s H E W ds R hr hG hF
  obtain ⟨qs, rfl, hl, hz, q⟩ := hF
  refine' (b_set 1 sc.nd rfl (.inl rfl) (e_tup (a_cons e_int (a_cons e_int a_nil))) ?h0)
  case h0 =>
    refine b_forT (I := fun j ρ' => ∃ (u : Rat) (x : Sl), u = (qs.take j).foldl (· + ·) 0 ∧ Sz u (1 + j * 500) (1 + j * 40) ∧ ρ' = [.d (.tuple (qs.map encQ)), .d (encQ u), x]) (Ω := fun ρ' => ∃ x, ρ' = [.d (.tuple (qs.map encQ)), .d (encQ (qs.foldl (· + ·) 0)), x]) PassesOwn.never rfl sc.nd (i := 2) rfl (.inl rfl) (e_var 0 rfl (pv 0)) ?_ ?_ ?_ ?_
    · exact ⟨0, .no, rfl, sz00 (by decide) (by decide), rfl⟩
    · rintro j d ρ' hd ⟨u, x, hu, hs, rfl⟩
      rw [List.getElem?_map] at hd
      obtain ⟨z, hz1, rfl⟩ := Option.map_eq_some_iff.mp hd
      have hj : j < qs.length := (List.getElem?_eq_some_iff.mp hz1).1
      have hzs := hz z (List.mem_of_getElem? hz1)
      have hj5 : j < 5 := by omega
      refine' (b_set 1 sc.nd rfl (.inl rfl) (e_call (C_add.mono (by decide)) hr hG (a_cons (e_var 1 rfl (pv 1)) (a_cons (e_var 2 rfl (pv 2)) a_nil)) ?b0_0) (b_nil ?b0_1))
      case b0_0 => exact ⟨u, z, rfl, hs.bd (by omega) (by omega), hzs.bd (by decide) (by decide), rfl⟩
      case b0_1 =>
        refine ⟨u + z, .d (encQ z), ?_, (hs.add hzs).mono (by omega) (by omega), rfl⟩
        have e : qs.take (j + 1) = qs.take j ++ [z] := by
          rw [List.take_succ, hz1]
          rfl
        rw [e, List.foldl_append, ← hu]
        rfl
    · rintro ρ' ⟨u, x, hu, hs, rfl⟩
      rw [List.length_map, List.take_length] at hu
      subst hu
      exact ⟨x, rfl⟩
    · rintro ρ' ⟨x, rfl⟩
      refine' (b_ret (e_var 1 rfl (pv 1)) ?r0_0)
      case r0_0 => exact q
def F_power : List D → (D → Prop) → Prop := fun ds R => ∃ (b : Int) (k : Nat), ds = [.int b, .int k] ∧ (b = 2 ∨ b = 4) ∧ k ≤ 4000 ∧ R (.int (b ^ k))
theorem c_power (T : Tp K mg) : Cb P w K mg base 1 "power" F_power := by
  have sc : FnScope ["base", "k", "found", "_time"] ["base", "k"] (defScope s_power) := ⟨rfl, rfl, rfl, by decide +kernel, rfl, by decide +kernel, by decide +kernel⟩
  refine T.cb 35 rfl rfl (st := s_power) sc (fun _ _ _ _ _ _ us hl => match us, hl with | [_, _], _ => rfl) (fun ds R hF => by obtain ⟨b, k, rfl, hb, hk, q⟩ := hF; rfl) ?_
  intro f cdv A l s H E W ds R hr hG hF
  obtain ⟨b, k, rfl, hb, hk, q⟩ := hF
  refine' (b_set 2 sc.nd rfl (.inl rfl) e_int ?h0)
  case h0 =>
    refine b_forR (I := fun j ρ' => ∃ x, ρ' = [.d (.int b), .d (.int k), .d (.int (b ^ j)), x]) (Ω := fun ρ' => ∃ x, ρ' = [.d (.int b), .d (.int k), .d (.int (b ^ k)), x]) PassesOwn.never rfl sc.nd (i := 3) rfl (.inl rfl) T.f_range (e_var 1 rfl (pv 1)) (by omega) (by omega) ?_ ?_ ?_ ?_
    · exact ⟨.no, by rw [Int.pow_zero]; rfl⟩
    · rintro j ρ' hj ⟨x, rfl⟩
      refine' (b_augMul 2 ?b0_0 sc.nd rfl (.inl rfl) rfl (e_var 0 rfl (pv 0)) (b_nil ?b0_1))
      case b0_0 => exact .inr (by rcases hb with rfl | rfl <;> decide)
      case b0_1 => exact ⟨_, by rw [Int.pow_succ]; rfl⟩
    · rintro ρ' ⟨x, rfl⟩
      exact ⟨x, by rw [Int.toNat_natCast]⟩
    · rintro ρ' ⟨x, rfl⟩
      refine' (b_ret (e_var 2 rfl (pv 2)) ?r0_0)
      case r0_0 => exact q
def F_root_bounds : List D → (D → Prop) → Prop := fun ds R => ∃ (c : Rat) (m : Nat), ds = [encQ c, .int m] ∧ 0 < c ∧ Sz c 100 60 ∧ m ≤ 1000 ∧ R (.tuple [encQ (rLo c m), encQ (rHi c m)])
theorem c_root_bounds (T : Tp K mg) : Cb P w K mg base 4 "root_bounds" F_root_bounds := by
  have sc : FnScope ["c", "m", "n"] ["c", "m"] (defScope s_root_bounds) := ⟨rfl, rfl, rfl, by decide +kernel, rfl, by decide +kernel, by decide +kernel⟩
  have C_fraction := c_fraction (P := P) (w := w) (base := base) T
  have C_power := c_power (P := P) (w := w) (base := base) T
  have C_whole_root := c_whole_root (P := P) (w := w) (base := base) T
  refine T.cb 36 rfl rfl (st := s_root_bounds) sc (fun _ _ _ _ _ _ us hl => match us, hl with | [_, _], _ => rfl) (fun ds R hF => by obtain ⟨c, m, rfl, h0, hs, hm, q⟩ := hF; rfl) ?_
  intro f cdv A l s H E W ds R hr hG hF
  obtain ⟨c, m, rfl, h0, hs, hm, q⟩ := hF
  refine' (b_set 2 sc.nd rfl (.inl rfl) (e_call (d := .int (rN c m : Nat)) (C_whole_root.mono (by decide)) hr hG (a_cons (e_mul ?h0 (e_mul ?h1 (e_at (e_var 0 rfl (pv 0)) rfl) (e_at (e_var 0 rfl (pv 0)) rfl)) (e_call (d := .int (4 ^ m)) (C_power.mono (by decide)) hr hG (a_cons e_int (a_cons (e_var 1 rfl (pv 1)) a_nil)) ?h2)) a_nil) ?h3) (b_ret (e_tup (a_cons (e_call (d := encQ (rLo c m)) (C_fraction.mono (by decide)) hr hG (a_cons (e_var 2 rfl (pv 2)) (a_cons (e_mul ?h4 (e_at (e_var 0 rfl (pv 0)) rfl) (e_call (d := .int (2 ^ m)) (C_power.mono (by decide)) hr hG (a_cons e_int (a_cons (e_var 1 rfl (pv 1)) a_nil)) ?h5)) a_nil)) ?h6) (a_cons (e_call (d := encQ (rHi c m)) (C_fraction.mono (by decide)) hr hG (a_cons (e_add (e_var 2 rfl (pv 2)) e_int) (a_cons (e_mul ?h7 (e_at (e_var 0 rfl (pv 0)) rfl) (e_call (d := .int (2 ^ m)) (C_power.mono (by decide)) hr hG (a_cons e_int (a_cons (e_var 1 rfl (pv 1)) a_nil)) ?h8)) a_nil)) ?h9) a_nil))) ?h10))
  case h0 =>
    refine mulW (a := 160) (b := 2001) (Nat.lt_of_lt_of_le (wide_lt hs.1 (show ((c.den : Int)).natAbs < 2 ^ 60 by rw [natAbs_den]; exact hs.2)) (by decide)) ?_ (by decide)
    rw [Int.natAbs_pow, show (4 : Int).natAbs = 2 ^ 2 from rfl, ← Nat.pow_mul]
    exact Nat.pow_lt_pow_right (by decide) (by omega)
  case h1 =>
    exact mulW (a := 100) (b := 60) hs.1 (by rw [natAbs_den]; exact hs.2) (by decide)
  case h2 =>
    exact ⟨4, m, rfl, .inr rfl, by omega, rfl⟩
  case h3 =>
    refine ⟨c.num.natAbs * c.den * 4 ^ m, ?_, ?_, rfl⟩
    · rw [Int.natCast_mul, Int.natCast_mul, Int.natCast_pow, Int.natAbs_of_nonneg (Rat.num_nonneg.mpr (Rat.le_of_lt h0))]
      rfl
    · have e4 : 4 ^ m = 2 ^ (2 * m) := by rw [Nat.pow_mul]
      rw [e4]
      have h1 : c.num.natAbs * c.den * 2 ^ (2 * m) < 2 ^ (100 + 60 + 2 * m) := by
        rw [Nat.pow_add, Nat.pow_add]
        exact Nat.mul_lt_mul_of_pos_right (Nat.mul_lt_mul'' hs.1 hs.2) (Nat.two_pow_pos _)
      exact Nat.lt_of_lt_of_le h1 (Nat.pow_le_pow_right (by decide) (by omega))
  case h4 =>
    exact mulW (a := 60) (b := 1001) (by rw [natAbs_den]; exact hs.2) (pw2I (by omega)) (by decide)
  case h5 =>
    exact ⟨2, m, rfl, .inl rfl, by omega, rfl⟩
  case h6 =>
    have e : (c.den : Int) * 2 ^ m = ((c.den * 2 ^ m : Nat) : Int) := by rw [Int.natCast_mul, Int.natCast_pow]; rfl
    rw [e]
    exact ⟨_, _, rfl, dn0 c m, Nat.lt_of_lt_of_le (sz_dn hs.2) (Nat.pow_le_pow_right (by decide) (by omega)), rfl⟩
  case h7 =>
    exact mulW (a := 60) (b := 1001) (by rw [natAbs_den]; exact hs.2) (pw2I (by omega)) (by decide)
  case h8 =>
    exact ⟨2, m, rfl, .inl rfl, by omega, rfl⟩
  case h9 =>
    have e : (c.den : Int) * 2 ^ m = ((c.den * 2 ^ m : Nat) : Int) := by rw [Int.natCast_mul, Int.natCast_pow]; rfl
    rw [e]
    exact ⟨_, _, rfl, dn0 c m, Nat.lt_of_lt_of_le (sz_dn hs.2) (Nat.pow_le_pow_right (by decide) (by omega)), rfl⟩
  case h10 =>
    exact q
def F_width_does : List D → (D → Prop) → Prop := fun ds R => ∃ (b c : Rat) (m k : Nat), ds = [encQ b, encQ c, .int m, .int k] ∧ Sz b 500 100 ∧ Sz c 100 60 ∧ m ≤ 1000 ∧ k ≤ 1000 ∧ R (.bool (decide (sgn (rW b c m - half k) ≤ 0)))
theorem c_width_does (T : Tp K mg) : Cb P w K mg base 6 "width_does" F_width_does := by
  have sc : FnScope ["b", "c", "m", "k", "size"] ["b", "c", "m", "k"] (defScope s_width_does) := ⟨rfl, rfl, rfl, by decide +kernel, rfl, by decide +kernel, by decide +kernel⟩
  have C_compare_fractions := c_compare_fractions (P := P) (w := w) (base := base) T
  have C_fraction := c_fraction (P := P) (w := w) (base := base) T
  have C_mul := c_mul (P := P) (w := w) (base := base) T
  have C_power := c_power (P := P) (w := w) (base := base) T
  refine T.cb 37 rfl rfl (st := s_width_does) sc (fun _ _ _ _ _ _ us hl => match us, hl with | [_, _, _, _], _ => rfl) (fun ds R hF => by obtain ⟨b, c, m, k, rfl, hb, hs, hm, hk, q⟩ := hF; rfl) ?_
  intro f cdv A l s H E W ds R hr hG hF
  obtain ⟨b, c, m, k, rfl, hb, hs, hm, hk, q⟩ := hF
  refine' (b_set 4 sc.nd rfl (.inl rfl) (e_call (d := encQ (rW b c m)) (C_mul.mono (by decide)) hr hG (a_cons (e_call (d := encQ (Rat.divInt (b.num.natAbs : Int) (b.den : Int))) (C_fraction.mono (by decide)) hr hG (a_cons (e_abs T.f_abs (e_at (e_var 0 rfl (pv 0)) rfl)) (a_cons (e_at (e_var 0 rfl (pv 0)) rfl) a_nil)) ?h0) (a_cons (e_call (d := encQ (Rat.divInt 1 ((c.den * 2 ^ m : Nat) : Int))) (C_fraction.mono (by decide)) hr hG (a_cons e_int (a_cons (e_mul ?h1 (e_at (e_var 1 rfl (pv 1)) rfl) (e_call (d := .int (2 ^ m)) (C_power.mono (by decide)) hr hG (a_cons e_int (a_cons (e_var 2 rfl (pv 2)) a_nil)) ?h2)) a_nil)) ?h3) a_nil)) ?h4) (b_ret (e_le (e_call (d := .int (sgn (rW b c m - half k))) (C_compare_fractions.mono (by decide)) hr hG (a_cons (e_var 4 rfl (pv 4)) (a_cons (e_call (d := encQ (half k)) (C_fraction.mono (by decide)) hr hG (a_cons e_int (a_cons (e_call (d := .int (2 ^ k)) (C_power.mono (by decide)) hr hG (a_cons e_int (a_cons (e_var 3 rfl (pv 3)) a_nil)) ?h5) a_nil)) ?h6) a_nil)) ?h7) e_int) ?h8))
  case h0 =>
    exact ⟨_, _, rfl, den_ne b, by rw [natAbs_den]; exact Nat.lt_of_lt_of_le hb.2 (Nat.pow_le_pow_right (by decide) (by decide)), rfl⟩
  case h1 =>
    exact mulW (a := 60) (b := 1001) (by rw [natAbs_den]; exact hs.2) (pw2I (by omega)) (by decide)
  case h2 =>
    exact ⟨2, m, rfl, .inl rfl, by omega, rfl⟩
  case h3 =>
    have e : (c.den : Int) * 2 ^ m = ((c.den * 2 ^ m : Nat) : Int) := by rw [Int.natCast_mul, Int.natCast_pow]; rfl
    rw [e]
    exact ⟨_, _, rfl, dn0 c m, Nat.lt_of_lt_of_le (sz_dn hs.2) (Nat.pow_le_pow_right (by decide) (by omega)), rfl⟩
  case h4 =>
    have s1 : Sz (Rat.divInt (b.num.natAbs : Int) (b.den : Int)) 500 100 := sz_divInt (den_ne b) (by rw [Int.natAbs_natCast]; exact hb.1) (by rw [natAbs_den]; exact hb.2)
    have s2 : Sz (Rat.divInt 1 ((c.den * 2 ^ m : Nat) : Int)) 1 (60 + m) := sz_divInt (dn0 c m) (by decide) (sz_dn hs.2)
    exact ⟨_, _, rfl, s1.bd (by decide) (by decide), s2.bd (by decide) (by omega), rfl⟩
  case h5 =>
    exact ⟨2, k, rfl, .inl rfl, by omega, rfl⟩
  case h6 =>
    rw [pw2c]
    exact ⟨_, _, rfl, pwI0 k, by rw [Int.natAbs_natCast]; exact Nat.pow_lt_pow_right (by decide) (by omega), rfl⟩
  case h7 =>
    have s1 : Sz (Rat.divInt (b.num.natAbs : Int) (b.den : Int)) 500 100 := sz_divInt (den_ne b) (by rw [Int.natAbs_natCast]; exact hb.1) (by rw [natAbs_den]; exact hb.2)
    have s2 : Sz (Rat.divInt 1 ((c.den * 2 ^ m : Nat) : Int)) 1 (60 + m) := sz_divInt (dn0 c m) (by decide) (sz_dn hs.2)
    exact ⟨_, _, rfl, (s1.mul s2).bd (by decide) (by omega), half_bd hk, rfl⟩
  case h8 =>
    exact q
def F_bounds : List D → (D → Prop) → Prop := fun ds R => ∃ (c0 a b c q : Rat) (k nb da db : Nat), Good c0 ∧ Co c0 b c q ∧ ds = [encR a b c, .int k] ∧ Sz a 500 da ∧ Sz b nb db ∧ Sz c 100 60 ∧ da ≤ 100 ∧ db ≤ 100 ∧ nb ≤ 500 ∧ nb + k ≤ 520 ∧
  (∀ lo hi : Rat, 0 ≤ S c0 (a - lo) q → S c0 (a - hi) q ≤ 0 → hi - lo ≤ half k → Sz lo 2400 (da + db + 60 + nb + k) → Sz hi 2400 (da + db + 60 + nb + k) → R (.tuple [encQ lo, encQ hi]))
theorem c_bounds (T : Tp K mg) : Cb P w K mg base 7 "bounds" F_bounds := by
  have sc : FnScope ["r", "k", "m", "low", "high", "ends"] ["r", "k"] (defScope s_bounds) := ⟨rfl, rfl, rfl, by decide +kernel, rfl, by decide +kernel, by decide +kernel⟩
  have C_add := c_add (P := P) (w := w) (base := base) T
  have C_is_index := c_is_index (P := P) (w := w) (base := base) T
  have C_mul := c_mul (P := P) (w := w) (base := base) T
  have C_root_bounds := c_root_bounds (P := P) (w := w) (base := base) T
  have C_sign := c_sign (P := P) (w := w) (base := base) T
  have C_width_does := c_width_does (P := P) (w := w) (base := base) T
  refine T.cb 38 rfl rfl (st := s_bounds) sc (fun _ _ _ _ _ _ us hl => match us, hl with | [_, _], _ => rfl) (fun ds R hF => by obtain ⟨c0, a, b, c, q, k, nb, da, db, g, o1, rfl, ha, hb, hs, hda, hdb, hnb, hk, qq⟩ := hF; rfl) ?_
  intro f cdv A l s H E W ds R hr hG hF
  obtain ⟨c0, a, b, c, q, k, nb, da, db, g, o1, rfl, ha, hb, hs, hda, hdb, hnb, hk, qq⟩ := hF
  refine' (b_if1 (t_not (t_val (e_call (C_is_index.mono (by decide)) hr hG (a_cons (e_var 1 rfl (pv 1)) a_nil) ?h0))) (fun hc => ?h1) (fun hc => (b_if1 (t_eq hr.units ?h2 ?h3 (e_at (e_var 0 rfl (pv 0)) rfl) (g_ZERO T)) (fun hc => (b_ret (e_tup (a_cons (e_at (e_var 0 rfl (pv 0)) rfl) (a_cons (e_at (e_var 0 rfl (pv 0)) rfl) a_nil))) ?h4)) (fun hc => (b_set 2 sc.nd rfl (.inl rfl) e_int ?h5)))))
  case h0 =>
    exact ⟨_, rfl, rfl⟩
  case h1 =>
    refine b_never ?_
    rw [Bool.not_eq_true', decide_eq_false_iff_not] at hc
    omega
  case h2 =>
    exact shQ _
  case h3 =>
    exact shQ _
  case h4 =>
    rw [eqvQ0, decide_eq_true_iff] at hc
    have e : q = 0 := o1.z hc
    subst e
    have e0 : a - a = 0 := by grind
    have sa : Sz a 2400 (da + db + 60 + nb + k) := ha.mono (by decide) (by omega)
    refine qq a a ?_ ?_ ?_ sa sa
    · rw [e0, S_zero]; exact Int.le_refl _
    · rw [e0, S_zero]; exact Int.le_refl _
    · rw [e0]
      have := half_mul k
      have := pw_pos k
      refine Rat.not_lt.mp fun z => ?_
      have : 0 ≤ (-half k) * 2 ^ k := Rat.mul_nonneg (by grind) (by grind)
      grind
  case h5 =>
    have hb0 : b ≠ 0 := by
      first
      | (rw [eqvQ0, decide_eq_false_iff_not] at hc; exact hc)
      | (rename_i hc1; rw [eqvQ0, decide_eq_false_iff_not] at hc1; exact hc1)
    obtain ⟨t, ht, hct, rfl⟩ : ∃ t, 0 < t ∧ c = t * t * c0 ∧ q = b * t := by
      rcases o1 with ⟨h, _, _⟩ | h
      · exact absurd h hb0
      · exact h
    have gc : Good c := by rw [hct]; exact good_t g ht
    have St : ∀ u, S c u b = S c0 u (b * t) := fun u => by rw [hct]; exact S_t ht
    refine b_while (I := fun μ ρ' => ∃ m : Nat, μ = nb + k - m ∧ m ≤ nb + k ∧ ρ' = [.d (encR a b c), .d (.int k), .d (.int m), .no, .no, .no]) (Ω := fun ρ' => ∃ m : Nat, m ≤ nb + k ∧ rW b c m ≤ half k ∧ ρ' = [.d (encR a b c), .d (.int k), .d (.int m), .no, .no, .no]) PassesOwn.never ⟨nb + k, 0, by omega, by omega, rfl⟩ ?_ ?_
    · rintro μ ρ' ⟨m, rfl, hm, rfl⟩
      refine' ⟨_, (t_not (t_val (e_call (d := .bool (decide (sgn (rW b c m - half k) ≤ 0))) (C_width_does.mono (by decide)) hr hG (a_cons (e_at (e_var 0 rfl (pv 0)) rfl) (a_cons (e_at (e_var 0 rfl (pv 0)) rfl) (a_cons (e_var 2 rfl (pv 2)) (a_cons (e_var 1 rfl (pv 1)) a_nil)))) ?t0_0))), fun hc => ?_, fun hc => ?_⟩
      case t0_0 => exact ⟨b, c, m, k, rfl, hb.mono (by omega) (by omega), hs, by omega, by omega, rfl⟩
      · have h1 : m < nb + k := by
          refine Nat.lt_of_not_le fun z => ?_
          have h2 := sgn_le.mpr (show rW b c m - half k ≤ 0 by have := rW_small (c := c) hb.1 z; grind)
          rw [decide_eq_true h2] at hc
          simp at hc
        refine' (b_augAdd 2 sc.nd rfl (.inl rfl) rfl e_int (b_nil ?b0_0))
        case b0_0 => exact ⟨nb + k - (m + 1), by omega, m + 1, rfl, by omega, rfl⟩
      · rw [Bool.not_eq_false', decide_eq_true_iff] at hc
        have := sgn_le.mp hc
        exact ⟨m, hm, by grind, rfl⟩
    · rintro ρ' ⟨m, hm, hw, rfl⟩
      obtain ⟨k1, k2, k3⟩ := bounds_ok gc.pos m
      have sl := rLo_sz (m := m) hs
      have sh := rHi_sz (m := m) hs
      have el : Sz (a + b * rLo c m) 2400 (da + db + 60 + nb + k) := (ha.add (hb.mul sl)).mono (by omega) (by omega)
      have eh : Sz (a + b * rHi c m) 2400 (da + db + 60 + nb + k) := (ha.add (hb.mul sh)).mono (by omega) (by omega)
      have w := rW_eq b c m
      refine' (b_un2 3 4 rfl sc.nd rfl rfl (.inl rfl) (.inl rfl) (e_call (d := .tuple [encQ (rLo c m), encQ (rHi c m)]) (C_root_bounds.mono (by decide)) hr hG (a_cons (e_at (e_var 0 rfl (pv 0)) rfl) (a_cons (e_var 2 rfl (pv 2)) a_nil)) ?r0_0) (b_set 5 sc.nd rfl (.inl rfl) (e_tup (a_cons (e_call (d := encQ (a + b * rLo c m)) (C_add.mono (by decide)) hr hG (a_cons (e_at (e_var 0 rfl (pv 0)) rfl) (a_cons (e_call (d := encQ (b * rLo c m)) (C_mul.mono (by decide)) hr hG (a_cons (e_at (e_var 0 rfl (pv 0)) rfl) (a_cons (e_var 3 rfl (pv 3)) a_nil)) ?r0_1) a_nil)) ?r0_2) (a_cons (e_call (d := encQ (a + b * rHi c m)) (C_add.mono (by decide)) hr hG (a_cons (e_at (e_var 0 rfl (pv 0)) rfl) (a_cons (e_call (d := encQ (b * rHi c m)) (C_mul.mono (by decide)) hr hG (a_cons (e_at (e_var 0 rfl (pv 0)) rfl) (a_cons (e_var 4 rfl (pv 4)) a_nil)) ?r0_3) a_nil)) ?r0_4) a_nil))) (b_ret (e_ifD (t_gt (e_call (d := .int (sgn b)) (C_sign.mono (by decide)) hr hG (a_cons (e_at (e_var 0 rfl (pv 0)) rfl) a_nil) ?r0_5) e_int) (fun hc => (e_var 5 rfl (pv 5))) (fun hc => (e_tup (a_cons (e_at (e_var 5 rfl (pv 5)) rfl) (a_cons (e_at (e_var 5 rfl (pv 5)) rfl) a_nil))))) ?r0_6)))
      case r0_0 => exact ⟨c, m, rfl, gc.pos, hs, by omega, rfl⟩
      case r0_1 => exact ⟨_, _, rfl, hb.bd (by omega) (by omega), sl.bd (by omega) (by omega), rfl⟩
      case r0_2 => exact ⟨_, _, rfl, ha.bd (by omega) (by omega), (hb.mul sl).bd (by omega) (by omega), rfl⟩
      case r0_3 => exact ⟨_, _, rfl, hb.bd (by omega) (by omega), sh.bd (by omega) (by omega), rfl⟩
      case r0_4 => exact ⟨_, _, rfl, ha.bd (by omega) (by omega), (hb.mul sh).bd (by omega) (by omega), rfl⟩
      case r0_5 => exact ⟨_, rfl, rfl⟩
      case r0_6 =>
        rcases sgn_cases b with ⟨h, e⟩ | ⟨h, e⟩ | ⟨h, e⟩
        · rw [e]
          have z := end_pos (a := a) gc k1 k2 k3 h
          rw [St, St] at z
          have w1 := w.1 (Rat.le_of_lt h)
          exact qq _ _ z.1 z.2 (by grind) el eh
        · rw [e]
          have z := end_neg (a := a) gc k1 k2 k3 h
          rw [St, St] at z
          have w2 := w.2 (Rat.le_of_lt h)
          exact qq _ _ z.1 z.2 (by grind) eh el
        · exact absurd h hb0
def F_floor_of : List D → (D → Prop) → Prop := fun ds R => ∃ (c0 a b c q : Rat), Good c0 ∧ Co c0 b c q ∧ ds = [encR a b c] ∧ Sz a 500 100 ∧ Sz b 500 100 ∧ Sz c 100 60 ∧ R (.int (flr c0 a q))
theorem c_floor_of (T : Tp K mg) : Cb P w K mg base 9 "floor_of" F_floor_of := by
  have sc : FnScope ["r", "low", "found"] ["r"] (defScope s_floor_of) := ⟨rfl, rfl, rfl, by decide +kernel, rfl, by decide +kernel, by decide +kernel⟩
  have C_bounds := c_bounds (P := P) (w := w) (base := base) T
  have C_compare_signs := c_compare_signs (P := P) (w := w) (base := base) T
  have C_of_fraction := c_of_fraction (P := P) (w := w) (base := base) T
  have C_whole := c_whole (P := P) (w := w) (base := base) T
  refine T.cb 39 rfl rfl (st := s_floor_of) sc (fun _ _ _ _ _ _ us hl => match us, hl with | [_], _ => rfl) (fun ds R hF => by obtain ⟨c0, a, b, c, q, g, o1, rfl, ha, hb, hs, qq⟩ := hF; rfl) ?_
  intro f cdv A l s H E W ds R hr hG hF
  obtain ⟨c0, a, b, c, q, g, o1, rfl, ha, hb, hs, qq⟩ := hF
  refine b_setR (i := 1) (R := fun d => ∃ lo hi : Rat, d = encQ lo ∧ 0 ≤ S c0 (a - lo) q ∧ S c0 (a - hi) q ≤ 0 ∧ hi - lo ≤ half 1 ∧ Sz lo 2400 1000) sc.nd rfl (.inl rfl) (e_atT (Ra := fun d => ∃ lo hi : Rat, d = .tuple [encQ lo, encQ hi] ∧ 0 ≤ S c0 (a - lo) q ∧ S c0 (a - hi) q ≤ 0 ∧ hi - lo ≤ half 1 ∧ Sz lo 2400 1000) (e_callR (C_bounds.mono (by decide)) hr hG (a_cons (e_var 0 rfl (pv 0)) (a_cons e_int a_nil)) (fun ds e => by subst e; exact ⟨c0, a, b, c, q, 1, 500, 100, 100, g, o1, rfl, ha, hb, hs, by decide, by decide, by decide, by decide, fun lo hi h1 h2 h3 h4 h5 => ⟨lo, hi, rfl, h1, h2, h3, h4.mono (by decide) (by decide)⟩⟩)) (fun d h => by
    obtain ⟨lo, hi, rfl, h⟩ := h
    exact ⟨_, _, rfl, rfl, lo, hi, rfl, h⟩)) (fun d h => ?_)
  obtain ⟨lo, hi, rfl, h1, h2, h3, h4⟩ := h
  refine b_set 2 sc.nd rfl (.inl rfl) (e_fdiv (wide_div (b := 1000) (den_pos lo) (by rw [natAbs_den]; exact h4.2) (by decide) (by decide)) (e_at (e_var 1 rfl (pv 1)) rfl) (e_at (e_var 1 rfl (pv 1)) rfl)) ?_
  have hF : (lo.num / (lo.den : Int)) = lo.floor := (Rat.floor_def lo).symm
  have hFb : lo.floor.natAbs < 2 ^ 2400 := by
    rw [← hF]
    exact Nat.lt_of_le_of_lt (natAbs_ediv_le _ _) h4.1
  rw [hF]
  have f1 := Rat.floor_le lo
  have f2 := Rat.lt_floor_add_one lo
  have hh : half 1 * 2 = 1 := half_mul 1
  have h2400 : (2 : Nat) ^ 2401 = 2 ^ 2400 * 2 := Nat.pow_succ ..
  have h24 : 16 ≤ (2 : Nat) ^ 2400 := Nat.pow_le_pow_right (n := 2) (by decide) (show 4 ≤ 2400 by decide)
  refine b_while (I := fun μ ρ' => ∃ n : Int, μ = (lo.floor + 1 - n).toNat ∧ lo.floor ≤ n ∧ n ≤ lo.floor + 1 ∧ 0 ≤ S c0 (a - (n : Rat)) q ∧ ρ' = [.d (encR a b c), .d (encQ lo), .d (.int n)]) (Ω := fun ρ' => ∃ n : Int, Fl c0 a q n ∧ ρ' = [.d (encR a b c), .d (encQ lo), .d (.int n)]) PassesOwn.never ⟨_, lo.floor, rfl, Int.le_refl _, by omega, ?_, rfl⟩ ?_ ?_
  · have := S_mono g (b := q) (u := a - lo) (v := a - (lo.floor : Rat)) (by grind)
    omega
  · rintro μ ρ' ⟨n, rfl, hn1, hn2, hn3, rfl⟩
    refine' ⟨_, (t_le (e_call (d := .int (S c0 (((n + 1 : Int) : Rat) - a) (0 - q))) (C_compare_signs.mono (by decide)) hr hG (a_cons (e_call (d := encR ((n + 1 : Int) : Rat) 0 0) (C_of_fraction.mono (by decide)) hr hG (a_cons (e_call (d := encQ ((n + 1 : Int) : Rat)) (C_whole.mono (by decide)) hr hG (a_cons (e_add (e_var 2 rfl (pv 2)) e_int) a_nil) ?t0_0) a_nil) ?t0_1) (a_cons (e_var 0 rfl (pv 0)) a_nil)) ?t0_2) e_int), fun hc => ?_, fun hc => ?_⟩
    case t0_0 => exact ⟨n + 1, rfl, rfl⟩
    case t0_1 => exact ⟨_, rfl, rfl⟩
    case t0_2 =>
      refine ⟨c0, ((n + 1 : Int) : Rat), 0, 0, 0, a, b, c, q, g, Co.zero, o1, rfl, .inl ⟨(sz_int (a := 2401) (by omega)).mono (by decide) (by decide), sz00 (by decide) (by decide), sz00 (by decide) (by decide), ha.mono (by decide) (by decide), hb.mono (by decide) (by decide), hs⟩, rfl⟩
    · have hc1 := of_decide_eq_true hc
      rw [S_sw g] at hc1
      have h1 : n + 1 ≤ lo.floor + 1 := by
        refine Int.not_lt.mp fun z => ?_
        have z2 : lo.floor + 2 ≤ n + 1 := by omega
        have z3 := Rat.intCast_le_intCast.mpr z2
        have e2 : ((lo.floor + 2 : Int) : Rat) = ((lo.floor + 1 : Int) : Rat) + 1 := by rw [Rat.intCast_add, Rat.intCast_add]; grind
        have := S_strict g (b := q) (u := a - ((n + 1 : Int) : Rat)) (v := a - hi) (by grind) h2
        omega
      refine' (b_augAdd 2 sc.nd rfl (.inl rfl) rfl e_int (b_nil ?b0_0))
      case b0_0 => exact ⟨(lo.floor + 1 - (n + 1)).toNat, by omega, n + 1, rfl, by omega, h1, by omega, rfl⟩
    · have hc1 := of_decide_eq_false hc
      rw [S_sw g] at hc1
      exact ⟨n, ⟨hn3, by omega⟩, rfl⟩
  · rintro ρ' ⟨n, fl, rfl⟩
    rw [← flr_of g fl] at qq
    refine' (b_ret (e_var 2 rfl (pv 2)) ?r0_0)
    case r0_0 => exact qq
def F_between : List D → (D → Prop) → Prop := fun ds R => ∃ (c0 a b c q a2 b2 c2 q2 ε : Rat) (K : Nat), Good c0 ∧ Co c0 b c q ∧ Co c0 b2 c2 q2 ∧ ds = [encR a b c, encR a2 b2 c2] ∧ Sz a 200 90 ∧ Sz b 200 90 ∧ Sz c 100 60 ∧ Sz a2 3000 300 ∧ Sz b2 3000 150 ∧ Sz c2 100 60 ∧
  Mag c0 a q ∧ K ≤ 260 ∧ ε * 2 ^ K = 1 ∧ QM.P c0 (a2 - a - ε) (q2 - q) ∧ S c0 (a - a2) (q - q2) < 0 ∧ R (encQ (btw c0 a q a2 q2))
theorem c_between (T : Tp K mg) : Cb P w K mg base 10 "between" F_between := by
  have sc : FnScope ["r", "s", "size", "n"] ["r", "s"] (defScope s_between) := ⟨rfl, rfl, rfl, by decide +kernel, rfl, by decide +kernel, by decide +kernel⟩
  have C_compare_signs := c_compare_signs (P := P) (w := w) (base := base) T
  have C_floor_of := c_floor_of (P := P) (w := w) (base := base) T
  have C_fraction := c_fraction (P := P) (w := w) (base := base) T
  have C_of_fraction := c_of_fraction (P := P) (w := w) (base := base) T
  have C_times := c_times (P := P) (w := w) (base := base) T
  have C_whole := c_whole (P := P) (w := w) (base := base) T
  refine T.cb 40 rfl rfl (st := s_between) sc (fun _ _ _ _ _ _ us hl => match us, hl with | [_, _], _ => rfl) (fun ds R hF => by obtain ⟨c0, a, b, c, q, a2, b2, c2, q2, ε, N, g, o1, o2, rfl, ha, hb, hs, ha2, hb2, hs2, mg0, hN, he, hp, hlt, qq⟩ := hF; rfl) ?_
  intro f cdv A l s H E W ds R hr hG hF
  obtain ⟨c0, a, b, c, q, a2, b2, c2, q2, ε, N, g, o1, o2, rfl, ha, hb, hs, ha2, hb2, hs2, mg0, hN, he, hp, hlt, qq⟩ := hF
  refine' (b_if1 (t_ge (e_call (d := .int (S c0 (a - a2) (q - q2))) (C_compare_signs.mono (by decide)) hr hG (a_cons (e_var 0 rfl (pv 0)) (a_cons (e_var 1 rfl (pv 1)) a_nil)) ?h0) e_int) (fun hc => ?h1) (fun hc => (b_set 2 sc.nd rfl (.inl rfl) e_int ?h2)))
  case h0 =>
    exact ⟨c0, a, b, c, q, a2, b2, c2, q2, g, o1, o2, rfl, .inl ⟨ha.mono (by decide) (by decide), hb.mono (by decide) (by decide), hs, ha2, hb2, hs2⟩, rfl⟩
  case h1 =>
    refine b_never ?_
    have := of_decide_eq_true hc
    omega
  case h2 =>
    refine b_while (I := fun μ ρ' => ∃ (k : Nat) (x : Sl), μ = N - k ∧ k ≤ N ∧ (∀ j < k, ¬ S c0 (tri c0 a q j - a2) (0 - q2) < 0) ∧ ρ' = [.d (encR a b c), .d (encR a2 b2 c2), .d (.int ((2 ^ k : Nat) : Int)), x]) (Ω := fun ρ' => False) PassesOwn.never ⟨N, 0, .no, rfl, by omega, fun j hj => absurd hj (by omega), rfl⟩ ?_ ?_
    · rintro μ ρ' ⟨k, x, rfl, hk, hl, rfl⟩
      refine' ⟨_, (t_val e_bl), fun hc => ?_, fun hc => absurd hc (by decide)⟩
      obtain ⟨b', c', e', o', hb', hc'⟩ := rt_co (a := a * ((2 ^ k : Nat) : Int)) g (o1.mul (((2 ^ k : Nat) : Int) : Rat))
      rw [pwI] at e' o'
      have p2 : ((2 ^ k : Nat) : Int).natAbs < 2 ^ (k + 1) := by
        rw [Int.natAbs_natCast]
        exact Nat.pow_lt_pow_right (by decide) (by omega)
      have szk : Sz (((2 ^ k : Nat) : Int) : Rat) (k + 1) 1 := sz_int p2
      have szb : Sz b' 500 100 := ((hb.mul szk).mono (by omega) (by omega)).or0 (by decide) (by decide) hb'
      have fm := flr_mag g mg0 k
      have e1 : (2 : Nat) ^ (2 * k + 211) = 2 ^ (2 * k + 210) * 2 := Nat.pow_succ ..
      have e16 : 16 ≤ (2 : Nat) ^ (2 * k + 210) := Nat.pow_le_pow_right (n := 2) (by decide) (show 4 ≤ 2 * k + 210 by omega)
      have szt : Sz (tri c0 a q k) 3000 300 := (sz_divInt (a := 2 * k + 211) (b := k + 1) (pwI0 k) (by omega) p2).mono (by omega) (by omega)
      refine' (b_set 3 sc.nd rfl (.inl rfl) (e_add (e_call (d := .int (flr c0 (a * 2 ^ k) (q * 2 ^ k))) (C_floor_of.mono (by decide)) hr hG (a_cons (e_call (d := encR (a * 2 ^ k) b' c') (C_times.mono (by decide)) hr hG (a_cons (e_var 0 rfl (pv 0)) (a_cons (e_call (d := encQ (((2 ^ k : Nat) : Int) : Rat)) (C_whole.mono (by decide)) hr hG (a_cons (e_var 2 rfl (pv 2)) a_nil) ?b0_0) a_nil)) ?b0_1) a_nil) ?b0_2) e_int) (b_if1 (t_lt (e_call (d := .int (S c0 (tri c0 a q k - a2) (0 - q2))) (C_compare_signs.mono (by decide)) hr hG (a_cons (e_call (d := encR (tri c0 a q k) 0 0) (C_of_fraction.mono (by decide)) hr hG (a_cons (e_call (d := encQ (tri c0 a q k)) (C_fraction.mono (by decide)) hr hG (a_cons (e_var 3 rfl (pv 3)) (a_cons (e_var 2 rfl (pv 2)) a_nil)) ?b0_3) a_nil) ?b0_4) (a_cons (e_var 1 rfl (pv 1)) a_nil)) ?b0_5) e_int) (fun hc => (b_ret (e_call (d := encQ (tri c0 a q k)) (C_fraction.mono (by decide)) hr hG (a_cons (e_var 3 rfl (pv 3)) (a_cons (e_var 2 rfl (pv 2)) a_nil)) ?b0_6) ?b0_7)) (fun hc => (b_augMul 2 ?b0_8 sc.nd rfl (.inl rfl) rfl e_int (b_nil ?b0_9)))))
      case b0_0 => exact ⟨_, rfl, rfl⟩
      case b0_1 => exact ⟨_, _, _, _, rfl, ha.bd (by decide) (by decide), hb.bd (by decide) (by decide), szk.bd (by omega) (by decide), co_und g o1 (hs.mono (by decide) (by decide)), by rw [pwI]; exact e'⟩
      case b0_2 =>
        refine ⟨c0, a * 2 ^ k, b', c', q * 2 ^ k, g, o', rfl, ?_, szb.mono (by decide) (by decide), hs.or0 (by decide) (by decide) hc', rfl⟩
        have := ha.mul szk
        rw [pwI] at this
        exact this.mono (by omega) (by omega)
      case b0_3 => exact ⟨_, _, rfl, pwI0 k, Nat.lt_of_lt_of_le p2 (Nat.pow_le_pow_right (by decide) (by omega)), rfl⟩
      case b0_4 => exact ⟨_, rfl, rfl⟩
      case b0_5 => exact ⟨c0, tri c0 a q k, 0, 0, 0, a2, b2, c2, q2, g, Co.zero, o2, rfl, .inl ⟨szt, sz00 (by decide) (by decide), sz00 (by decide) (by decide), ha2, hb2, hs2⟩, rfl⟩
      case b0_6 => exact ⟨_, _, rfl, pwI0 k, Nat.lt_of_lt_of_le p2 (Nat.pow_le_pow_right (by decide) (by omega)), rfl⟩
      case b0_7 =>
        have h1 := of_decide_eq_true hc
        rw [← btw_of (f := tri c0 a q k) (k := k) ⟨rfl, h1, hl⟩] at qq
        exact qq
      case b0_8 => exact .inr (by decide)
      case b0_9 =>
        have h1 := of_decide_eq_false hc
        have h2 : k < N := by
          refine Nat.lt_of_not_le fun z => ?_
          have : k = N := by omega
          subst this
          exact h1 (tri_end g he hp)
        refine ⟨N - (k + 1), by omega, k + 1, .d (.int (flr c0 (a * 2 ^ k) (q * 2 ^ k) + 1)), rfl, by omega, fun j hj => ?_, ?_⟩
        · by_cases z : j = k
          · subst z; exact h1
          · exact hl j (by omega)
        · rw [Nat.pow_succ, Int.natCast_mul]
          rfl
    · rintro ρ' hf
      exact hf.elim
def F_nearest : List D → (D → Prop) → Prop := fun ds R => ∃ (c0 a b c q : Rat) (s : Nat), Good c0 ∧ Co c0 b c q ∧ ds = [encR a b c, .int s] ∧ 0 < s ∧ s < 2 ^ 40 ∧ Sz a 200 90 ∧ Sz b 200 90 ∧ Sz c 100 60 ∧ R (.int (flr c0 (a * ((s : Int) : Rat) + 1 / 2) (q * ((s : Int) : Rat))))
theorem c_nearest (T : Tp K mg) : Cb P w K mg base 10 "nearest" F_nearest := by
  have sc : FnScope ["r", "s"] ["r", "s"] (defScope s_nearest) := ⟨rfl, rfl, rfl, by decide +kernel, rfl, by decide +kernel, by decide +kernel⟩
  have C_floor_of := c_floor_of (P := P) (w := w) (base := base) T
  have C_is_index := c_is_index (P := P) (w := w) (base := base) T
  have C_plus := c_plus (P := P) (w := w) (base := base) T
  have C_times := c_times (P := P) (w := w) (base := base) T
  have C_whole := c_whole (P := P) (w := w) (base := base) T
  refine T.cb 41 rfl rfl (st := s_nearest) sc (fun _ _ _ _ _ _ us hl => match us, hl with | [_, _], _ => rfl) (fun ds R hF => by obtain ⟨c0, a, b, c, q, s0, g, o1, rfl, h0, hs0, ha, hb, hs, qq⟩ := hF; rfl) ?_
  intro f cdv A l s H E W ds R hr hG hF
  obtain ⟨c0, a, b, c, q, s0, g, o1, rfl, h0, hs0, ha, hb, hs, qq⟩ := hF
  obtain ⟨b', c', e', o', hb', hc'⟩ := rt_co (a := a * ((s0 : Int) : Rat)) g (o1.mul ((s0 : Int) : Rat))
  have szs : Sz ((s0 : Int) : Rat) 40 1 := sz_int (by rw [Int.natAbs_natCast]; exact hs0)
  have sh : Sz (1 / 2) 1 2 := ⟨by decide +kernel, by decide +kernel⟩
  refine' (b_if1 (t_w (w_or (t_not (t_val (e_call (C_is_index.mono (by decide)) hr hG (a_cons (e_var 1 rfl (pv 1)) a_nil) ?h0))) (fun hc => (w_or1 (t_eqI (e_var 1 rfl (pv 1)) e_int))))) (fun hc => ?h1) (fun hc => (b_ret (e_call (C_floor_of.mono (by decide)) hr hG (a_cons (e_call (d := encR (a * ((s0 : Int) : Rat) + 1 / 2) b' c') (C_plus.mono (by decide)) hr hG (a_cons (e_call (d := encR (a * ((s0 : Int) : Rat)) b' c') (C_times.mono (by decide)) hr hG (a_cons (e_var 0 rfl (pv 0)) (a_cons (e_call (d := encQ ((s0 : Int) : Rat)) (C_whole.mono (by decide)) hr hG (a_cons (e_var 1 rfl (pv 1)) a_nil) ?h2) a_nil)) ?h3) (a_cons (g_HALF T) a_nil)) ?h4) a_nil) ?h5) ?h6)))
  case h0 =>
    exact ⟨_, rfl, rfl⟩
  case h1 =>
    refine b_never ?_
    simp at hc
    omega
  case h2 =>
    exact ⟨_, rfl, rfl⟩
  case h3 =>
    exact ⟨_, _, _, _, rfl, ha.bd (by decide) (by decide), hb.bd (by decide) (by decide), (sz_int (a := 40) (by rw [Int.natAbs_natCast]; exact hs0)).bd (by decide) (by decide), co_und g o1 (hs.mono (by decide) (by decide)), e'⟩
  case h4 =>
    exact ⟨_, _, _, _, rfl, (ha.mul szs).bd (by decide) (by decide), sh.bd (by decide) (by decide), rfl⟩
  case h5 =>
    exact ⟨c0, _, _, _, _, g, o', rfl, ((ha.mul szs).add sh).mono (by decide) (by decide), ((hb.mul szs).mono (by decide) (by decide)).or0 (by decide) (by decide) hb', hs.or0 (by decide) (by decide) hc', rfl⟩
  case h6 =>
    exact qq
end K65
end
section
set_option Elab.async false
set_option linter.all false
set_option maxRecDepth 100000
set_option maxHeartbeats 2000000
/-! DL5: texts over data: f-strings, comprehensions over a text. -/
namespace DL
open PySem PySem.Spec PyProof.Rows L2
section
variable {X : Cx} {W : Wd} {ρ : En} {a b c e elt : Expr} {pos pos' p1 p2 p3 : Pos} {R : D → Prop} {K : PySem.W.Frag} {x : Str} {i : Nat} {scope : Scope}
/-- f'{an int}' -/
theorem e_fstr1 {n : Int} (hz : n.natAbs.log2 < 1920) (ha : ED X W ρ a (.int n)) : ED X W ρ (.JoinedStr [.FormattedValue a (-1) none p1] pos) (.str (toString n)) :=
  pe_imp (pe_joined1 (pe_fmt ha)) fun σ H Q ⟨hB, hR, q⟩ => ⟨hB, hR, fun d v H' r B' l' p' => by
    subst r
    exact .inr ⟨n, dp_int p', hz, q _ _ H' rfl B' l' (.str _)⟩⟩
/-- f'{an int}text{an int}' -/
theorem e_fstr3 {n m : Int} {z : Str} {j : Nat} (hz : n.natAbs.log2 < 1920) (hz2 : m.natAbs.log2 < 1920) (ha : ED X W ρ a (.int n)) (hb : ED X W ρ b (.int m)) (h1 : (Str.empty ++ toString n : Str).length ≤ sizeLine) (h2 : (Str.empty ++ toString n ++ z : Str).length ≤ sizeLine) (h3 : (Str.empty ++ toString n ++ z ++ toString m : Str).length ≤ sizeLine) :
    ED X W ρ (.JoinedStr [.FormattedValue a (-1) none p1, .Constant (.str z) j p2, .FormattedValue b (-1) none p3] pos) (.str (Str.empty ++ toString n ++ z ++ toString m)) :=
  pe_imp (pe_joined (.cons (pe_fmt ha) (.cons (pe_str (x := z)) (.cons (pe_fmt hb) .nil)))) fun σ H Q ⟨hB, hR, q⟩ => ⟨hB, hR, fun d v H1 r B1 l1 q1 => by
    subst r
    refine .inr ⟨n, dp_int q1, hz, toString n, rfl, h1, z, rfl, h2, B1, hR.mono l1, fun d2 v2 H2 r2 B2 l2 q2 => ?_⟩
    subst r2
    exact .inr ⟨m, dp_int q2, hz2, toString m, rfl, h3, q _ _ H2 rfl B2 (l1.trans l2) (.str _)⟩⟩
/-- a block's turns over a text -/
theorem lc_txt {z : Str} {g : TG} {tt : TT} {te : TE} {vs : List Nat} {σ : L2.St} {H1 : Hp} {D : Addr} {Qd : Hp → Prop} (Pv : Nat → Hp → Prop) (h0 : Pv 0 (upd H1 D (.lst [])))
    (hs : ∀ i c H, z.cps[i]? = some c → Pv i H → g (.str ⟨#[c]⟩) (wipe σ vs) H fun σ2 H2 => wipe σ2 vs = wipe σ vs ∧ tt σ2 H2 fun b H3 =>
      if b = true then te σ2 H3 fun y H4 => ∃ acc, H4 D = some (.lst acc) ∧ acc.length < sizeLine ∧ Pv (i + 1) (upd H4 D (.lst (acc ++ [y]))) else Pv (i + 1) H3) (hd : ∀ H, Pv z.cps.size H → Qd H) :
    ∃ W : Nat → Nat → Hp → Prop, (∃ m, W 0 m (upd H1 D (.lst []))) ∧ ∀ i m H, W i m H →
      ((Its z).stop i H ∧ Qd H) ∨ ((Its z).go i H ∧ ∃ Nx : Hp → Prop, (∀ H', Nx H' → ∃ m', m' < m ∧ W (i + 1) m' H') ∧ ∀ x H', (Its z).yld i H x H' → g x (wipe σ vs) H' fun σ2 H2 => wipe σ2 vs = wipe σ vs ∧ tt σ2 H2 fun b H3 =>
        if b = true then te σ2 H3 fun y H4 => ∃ acc, H4 D = some (.lst acc) ∧ acc.length < sizeLine ∧ Nx (upd H4 D (.lst (acc ++ [y]))) else Nx H3) := by
  refine ⟨fun i m H => m = z.cps.size - i ∧ i ≤ z.cps.size ∧ Pv i H, ⟨z.cps.size, rfl, Nat.zero_le _, h0⟩, ?_⟩
  rintro i m H ⟨rfl, hi, p⟩
  rcases Nat.lt_or_ge i z.cps.size with lt | ge
  · refine .inr ⟨lt, Pv (i + 1), fun H' p' => ⟨z.cps.size - (i + 1), by omega, rfl, lt, p'⟩, fun x H' y => ?_⟩
    obtain ⟨rfl, c, hc, rfl⟩ := y
    exact hs i c _ hc p
  · have e : i = z.cps.size := by omega
    subst e
    exact .inl ⟨Nat.le_refl _, hd H p⟩
/-- [elt for x in e], e a text -/
theorem e_lcS {z : Str} {Rj : Nat → DL.D → Prop} (hc : X.calm = true) (nd : X.N.Nodup) (ok : blkC X.N X.env.scope scope [(x, i)] = true) (hi : X.N[i]? = some x) (he : ED X W ρ e (.str z)) (hz : z.cps.size ≤ 1000)
    (hx : BlkX X scope fun Y => Loc Y.env.scope x ∧ (Y.fn x = true ∨ Y.env.scope.names.lookup x = some .local))
    (hel : BlkX X scope fun Y => ∀ (D : Addr) (acc : List V) (j : Nat) (c : Nat), W.M D = false → z.cps[j]? = some c → EDr Y (W.push D acc) ((ρ.set i .no).set i (.d (.str ⟨#[c]⟩))) elt (Rj j))
    (hres : ∀ res : List DL.D, res.length = z.cps.size → (∀ (i : Nat) (r : DL.D), res[i]? = some r → Rj i r) → R (.list res))
    (hs : ∀ z, foldedSetIterable e X.env z = pure z := by intro _; rfl) : EDr X W ρ (.ListComp elt [⟨.Name x pos', e, [], 0⟩] scope pos) R := by
  have hte : BlkX X scope fun Y => PE Y elt (tEl X.K W ρ i (fun j d => ∃ c, z.cps[j]? = some c ∧ d = .str ⟨#[c]⟩) Rj) :=
    fun s H C cl fp => ⟨fun pins s' σ H' Q I ⟨D, acc, j, d, h1, h2, h3⟩ => by
      obtain ⟨c, h2, rfl⟩ := h2
      exact (hel s H C cl fp D acc j c h1 h2).run pins s' σ H' Q I h3⟩
  refine pe_imp (pe_lc (own := [(x, i)]) hc nd (pi_str he) (blkOk_by ok) (fun s H C cl fp => pg_name (i := i) nd hi (hx s H C cl fp).1 (hx s H C cl fp).2) (fun _ _ _ _ _ => pts_nil) hte hs) fun σ H Q ⟨hB, hR, q⟩ => ?_
  refine ⟨hB, hR, fun d v H1 r B1 l1 p1 => ?_⟩
  subst r
  refine ⟨z, dp_str p1, fun D hD => ?_⟩
  have hm : W.M D = false := (W.st H1 D (.lst []) B1 hD).1
  refine lc_txt (z := z) (g := gName i) (tt := tYes) (te := tEl X.K W ρ i (fun j d => ∃ c, z.cps[j]? = some c ∧ d = .str ⟨#[c]⟩) Rj) (vs := [i]) (σ := σ) (Qd := fun H2 => Q (.ref D) H2) (LcI X.K W H1 D Rj) (lcI_0 B1 hD) (fun j c H2 hj h => ?_) fun H2 h => ?_
  · have hjl : j < z.cps.size := (Array.getElem?_eq_some_iff.mp hj).1
    refine ⟨?_, ?_⟩
    · show ((σ.set i none).set i _).set i none = σ.set i none
      rw [List.set_set, List.set_set]
    · unfold tYes
      refine iteT ?_
      exact lcI_turn (te := fun _ => fun _ _ _ => True) (i := i) (n := z.cps.size) hD hm (hR.mono l1) hjl hz h (.str ⟨#[c]⟩) fun acc H3 σ3 Q3 z => ⟨D, acc, j, _, hm, ⟨c, hj, rfl⟩, z⟩
  · exact lcI_end hm h hres fun d v H' r B' l' p' => q d v H' r B' (l1.trans l') p'
end
end DL
end
section
set_option Elab.async false
set_option linter.all false
set_option maxRecDepth 100000
set_option maxHeartbeats 4000000
set_option exponentiation.threshold 20000
namespace K65
open PySem PySem.Spec PyProof.Rows L2 DL SX
open PySem.NumText (AllDigits digitsVal)
variable {K : PySem.W.Frag} {mg : Str → Option Value} {P : Program} {w : World} {base : Heap}
/-! numbers as texts -/
def dg (m : Nat) : List Nat := (Nat.toDigits 10 m).map Char.toNat
def tx (i : Int) : List Nat := if i < 0 then 45 :: dg i.natAbs else dg i.natAbs
theorem tl_ofString (s : String) : (Str.ofString s).cps.toList = s.toList.map Char.toNat := by
  exact PyProof.Rows.signs_ofString s
theorem toS (i : Int) : (Str.ofString (toString i)) = S (tx i) := by
  rw [← S_tl (Str.ofString (toString i))]
  congr 1
  cases i with
  | ofNat m =>
    rw [show (Int.ofNat m) = ((m : Nat) : Int) from rfl, PySem.W.KIN.signs_num]
    unfold tx
    rw [if_neg (by omega), Int.natAbs_natCast]
    rfl
  | negSucc m =>
    rw [tl_ofString]
    unfold tx
    rw [if_pos (by omega)]
    show ("-" ++ Nat.repr (m + 1)).toList.map Char.toNat = _
    rw [String.toList_append, List.map_append, Nat.toList_repr]
    rfl
theorem dg_all (m : Nat) : AllDigits (dg m) := by
  intro c hc
  obtain ⟨ch, hch, e⟩ := List.mem_map.mp hc
  have r := PyProof.Rows.digit_range (Nat.isDigit_of_mem_toDigits (by decide) (by decide) hch)
  rw [← e]
  exact r
theorem dg_ne (m : Nat) : dg m ≠ [] := by
  intro e
  have h := Nat.length_toDigits_pos (b := 10) (n := m)
  rw [List.map_eq_nil_iff.mp e] at h
  exact absurd h (by decide)
theorem dg_val (m : Nat) : digitsVal (dg m) = m := PySem.W.KIN.val_back m
theorem dg_len {m : Nat} (h : m < 2 ^ 300) : (dg m).length ≤ 100 := by
  unfold dg
  rw [List.length_map]
  exact (Nat.length_toDigits_le_iff (by decide) (by decide)).mpr (Nat.lt_of_lt_of_le h (by decide +kernel))
theorem dchar : ∀ m : Nat, m < 10 → 0 < m → (Nat.digitChar m).toNat ≠ 48 := by decide
theorem dg_first {m : Nat} (h : 0 < m) : ∃ c r, dg m = c :: r ∧ c ≠ 48 := by
  induction m using Nat.strongRecOn with
  | _ m ih =>
    by_cases hm : m < 10
    · refine ⟨(Nat.digitChar m).toNat, [], ?_, dchar m hm h⟩
      unfold dg
      rw [Nat.toDigits_of_lt_base hm]
      rfl
    · obtain ⟨c, r, e, hc⟩ := ih (m / 10) (by omega) (by omega)
      have t : Nat.toDigits 10 (m / 10) ++ Nat.toDigits 10 (m % 10) = Nat.toDigits 10 (10 * (m / 10) + m % 10) := Nat.toDigits_append_toDigits (by decide) (by omega) (Nat.mod_lt m (by decide))
      rw [Nat.div_add_mod] at t
      refine ⟨c, r ++ (Nat.toDigits 10 (m % 10)).map Char.toNat, ?_, hc⟩
      unfold dg
      rw [← t, List.map_append]
      show dg (m / 10) ++ _ = _
      rw [e]
      rfl
theorem dg_zero : dg 0 = [48] := by decide +kernel
theorem tx_reads (i : Int) (h : i.natAbs < 2 ^ 300) : PySem.intText? (S (tx i)) = some i := by
  have hl := dg_len h
  unfold tx
  by_cases hi : i < 0
  · rw [if_pos hi]
    have e := PySem.intText_neg (x := S (45 :: dg i.natAbs)) rfl (dg_all i.natAbs) (dg_ne _) (by rw [S_len, List.length_cons]; omega)
    rw [dg_val] at e
    rw [e]
    congr 1
    omega
  · rw [if_neg hi]
    have e := PySem.intText_digits (x := S (dg i.natAbs)) (dg_all i.natAbs) (dg_ne _) (by rw [S_len]; omega)
    have e2 : digitsVal (S (dg i.natAbs)).cps.toList = i.natAbs := dg_val _
    rw [e2] at e
    rw [e]
    congr 1
    omega
theorem tx_len {i : Int} (h : i.natAbs < 2 ^ 300) : (tx i).length ≤ 101 := by
  have hl := dg_len h
  unfold tx
  split
  · rw [List.length_cons]; omega
  · omega
theorem tx_signs (i : Int) : ∀ c ∈ tx i, c = 45 ∨ (48 ≤ c ∧ c ≤ 57) := by
  intro c hc
  unfold tx at hc
  split at hc
  · rcases List.mem_cons.mp hc with e | e
    · exact .inl e
    · exact .inr (dg_all _ c e)
  · exact .inr (dg_all _ c hc)
theorem tx_no {i : Int} {s : Nat} (h : s ≠ 45) (h2 : s < 48 ∨ 57 < s) : s ∉ tx i := fun z => by
  rcases tx_signs i s z with e | e <;> omega
theorem small_line {n : Nat} (h : n ≤ 10000) : n ≤ sizeLine := Nat.le_trans h (by decide)
theorem log1920 {n : Int} (h : n.natAbs < 2 ^ 300) : n.natAbs.log2 < 1920 := Nat.lt_of_lt_of_le (PySem.Flt.log2_lt_of (by decide) h) (by decide)
/-- a fraction's text -/
def fx (q : Rat) : List Nat := if q.den = 1 then tx q.num else TL.joinL [47] [tx q.num, tx (q.den : Int)]
theorem fx_mem {q : Rat} {c : Nat} (h : c ∈ fx q) : c = 45 ∨ c = 47 ∨ (48 ≤ c ∧ c ≤ 57) := by
  unfold fx at h
  split at h
  · rcases tx_signs _ c h with e | e
    · exact .inl e
    · exact .inr (.inr e)
  · have h : c ∈ tx q.num ++ ([47] ++ tx (q.den : Int)) := h
    rcases List.mem_append.mp h with h | h
    · rcases tx_signs _ c h with e | e
      · exact .inl e
      · exact .inr (.inr e)
    · rcases List.mem_append.mp h with h | h
      · exact .inr (.inl (List.mem_singleton.mp h))
      · rcases tx_signs _ c h with e | e
        · exact .inl e
        · exact .inr (.inr e)
theorem fx_no {q : Rat} {s : Nat} (h : s ≠ 45) (h1 : s ≠ 47) (h2 : s < 48 ∨ 57 < s) : s ∉ fx q := fun z => by
  rcases fx_mem z with e | e | e <;> omega
theorem fx_len {q : Rat} (h : Sz q 300 300) : (fx q).length ≤ 203 := by
  have h1 := tx_len (i := q.num) h.1
  have h2 := tx_len (i := (q.den : Int)) (by rw [natAbs_den]; exact h.2)
  unfold fx
  split
  · omega
  · show (tx q.num ++ ([47] ++ tx (q.den : Int))).length ≤ 203
    rw [List.length_append, List.length_append, List.length_singleton]
    omega
/-- a root number's text -/
def rx (a b c : Rat) : List Nat := if b = 0 then fx a else TL.joinL [58] [fx a, fx b, fx c]
theorem rx_mem {a b c : Rat} {s : Nat} (h : s ∈ rx a b c) : s = 45 ∨ s = 47 ∨ s = 58 ∨ (48 ≤ s ∧ s ≤ 57) := by
  have f : ∀ {q : Rat}, s ∈ fx q → s = 45 ∨ s = 47 ∨ s = 58 ∨ (48 ≤ s ∧ s ≤ 57) := fun h => by
    rcases fx_mem h with e | e | e
    · exact .inl e
    · exact .inr (.inl e)
    · exact .inr (.inr (.inr e))
  unfold rx at h
  split at h
  · exact f h
  · have h : s ∈ fx a ++ ([58] ++ (fx b ++ ([58] ++ fx c))) := h
    rcases List.mem_append.mp h with h | h
    · exact f h
    · rcases List.mem_append.mp h with h | h
      · exact .inr (.inr (.inl (List.mem_singleton.mp h)))
      · rcases List.mem_append.mp h with h | h
        · exact f h
        · rcases List.mem_append.mp h with h | h
          · exact .inr (.inr (.inl (List.mem_singleton.mp h)))
          · exact f h
theorem rx_no {a b c : Rat} {s : Nat} (h : s ≠ 45) (h1 : s ≠ 47) (h2 : s ≠ 58) (h3 : s < 48 ∨ 57 < s) : s ∉ rx a b c := fun z => by
  rcases rx_mem z with e | e | e | e <;> omega
theorem rx_len {a b c : Rat} (ha : Sz a 300 300) (hb : Sz b 300 300) (hc : Sz c 300 300) : (rx a b c).length ≤ 611 := by
  have h1 := fx_len ha
  have h2 := fx_len hb
  have h3 := fx_len hc
  unfold rx
  split
  · omega
  · show (fx a ++ ([58] ++ (fx b ++ ([58] ++ fx c)))).length ≤ 611
    rw [List.length_append, List.length_append, List.length_append, List.length_append, List.length_singleton]
    omega
/-- a text of parts falls into its parts -/
theorem split_parts {s : Nat} {parts : List (List Nat)} (hs : s < 256) (hne : parts ≠ []) (h : ∀ p ∈ parts, s ∉ p) : Txt.split (S (TL.joinL [s] parts)) (S [s]) = parts.map S := by
  rw [split_S (List.cons_ne_nil _ _) (by simp [hs]), spl_join hne h]
theorem cps_S (l : List Nat) : (S l).cps.size = l.length := by simp [S]
theorem get_S {l : List Nat} {j c : Nat} (h : (S l).cps[j]? = some c) : l[j]? = some c := by
  rw [List.getElem?_toArray] at h
  exact h
theorem res1 {R : Nat → D → Prop} {res : List D} (hl : res.length = 1) (h : ∀ (i : Nat) (r : D), res[i]? = some r → R i r) : ∃ a, res = [a] ∧ R 0 a := by
  match res, hl with
  | [a], _ => exact ⟨a, rfl, h 0 a rfl⟩
theorem res2 {R : Nat → D → Prop} {res : List D} (hl : res.length = 2) (h : ∀ (i : Nat) (r : D), res[i]? = some r → R i r) : ∃ a b, res = [a, b] ∧ R 0 a ∧ R 1 b := by
  match res, hl with
  | [a, b], _ => exact ⟨a, b, rfl, h 0 a rfl, h 1 b rfl⟩
theorem res3 {R : Nat → D → Prop} {res : List D} (hl : res.length = 3) (h : ∀ (i : Nat) (r : D), res[i]? = some r → R i r) : ∃ a b c, res = [a, b, c] ∧ R 0 a ∧ R 1 b ∧ R 2 c := by
  match res, hl with
  | [a, b, c], _ => exact ⟨a, b, c, rfl, h 0 a rfl, h 1 b rfl, h 2 c rfl⟩
theorem allT {res : List D} (h : ∀ (i : Nat) (r : D), res[i]? = some r → r = .bool true) : res = (List.replicate res.length true).map PyData.bool := by
  refine List.ext_getElem? fun i => ?_
  rw [List.getElem?_map, List.getElem?_replicate]
  by_cases hi : i < res.length
  · rw [if_pos hi, List.getElem?_eq_getElem hi]
    exact congrArg some (h i _ (List.getElem?_eq_getElem hi))
  · rw [if_neg hi, List.getElem?_eq_none (by omega)]
    rfl
theorem eqvS (a b : List Nat) : PyData.eqv (.str (S a)) (.str (S b)) = decide (a = b) := by
  have e : PyData.eqv (.str (S a)) (.str (S b)) = (S a == S b) := by simp only [PyData.eqv]
  rw [e, S_beq_eq]
theorem sh_S {l : List Nat} (h : ∀ c ∈ l, c < 1000) : SeqAt.shaped (.str (S l)) = true := by
  have e : PyData.strOk (S l) = true := by
    unfold PyData.strOk
    rw [← Array.all_toList, List.all_eq_true]
    intro c hc
    have := h c hc
    exact decide_eq_true (by omega)
  simp [SeqAt.shaped, PyData.canLay0, PyData.depth, e]
theorem eqv_none_int (i : Int) : PyData.eqv (.int i) .none = false := by simp [PyData.eqv]
theorem eqv_none_tup (ds : List D) : PyData.eqv (.tuple ds) .none = false := by simp [PyData.eqv]

def F_is_long : List D → (D → Prop) → Prop := fun ds R => ∃ i : Int, ds = [.int i] ∧ i.natAbs < 2 ^ 300 ∧ R (.bool false)
theorem c_is_long (T : Tp K mg) : Cb P w K mg base 1 "is_long" F_is_long := by
  have sc : FnScope ["number", "left", "_part"] ["number"] (defScope s_is_long) := ⟨rfl, rfl, rfl, by decide +kernel, rfl, by decide +kernel, by decide +kernel⟩
  refine T.cb 19 rfl rfl (st := s_is_long) sc (fun _ _ _ _ _ _ us hl => match us, hl with | [_], _ => rfl) (fun ds R hF => by obtain ⟨i, rfl, hi, q⟩ := hF; rfl) ?_
  intro f cdv A l s H E W ds R hr hG hF
  obtain ⟨i, rfl, hi, q⟩ := hF
  refine' (b_set 1 sc.nd rfl (.inl rfl) (e_abs T.f_abs (e_var 0 rfl (pv 0))) ?h0)
  case h0 =>
    have hp : (10 : Int) ^ (60 : Int).toNat = 10 ^ 60 := rfl
    have h300 : (2 : Nat) ^ 300 < 10 ^ 60 * 10 ^ 60 := by decide +kernel
    have h60 : (2 : Nat) ^ 300 ≤ 10 ^ 120 := by decide +kernel
    refine b_forR (n := 67) (I := fun j ρ' => ∃ (u : Nat) (x : Sl), u < 2 ^ 300 ∧ (1 ≤ j → u < 10 ^ 60) ∧ (2 ≤ j → u = 0) ∧ ρ' = [.d (.int i), .d (.int u), x]) (Ω := fun ρ' => ∃ (x : Sl), ρ' = [.d (.int i), .d (.int 0), x]) PassesOwn.never rfl sc.nd (i := 2) rfl (.inl rfl) T.f_range (e_fdiv (by exact ⟨by decide, by decide +kernel⟩) (g_MOST_TOLD T) e_int) (by decide) (by decide) ?_ ?_ ?_ ?_
    · exact ⟨i.natAbs, .no, hi, fun z => absurd z (by decide), fun z => absurd z (by decide), rfl⟩
    · rintro j ρ' hj ⟨u, x, h1, h2, h3, rfl⟩
      refine' (b_augDiv 1 ?b0_0 sc.nd rfl (.inl rfl) rfl (e_pow ?b0_1 e_int e_int) (b_nil ?b0_2))
      case b0_0 =>
        rw [hp]
        exact ⟨by decide +kernel, by decide +kernel⟩
      case b0_1 => exact ⟨by decide, by decide, by decide⟩
      case b0_2 =>
        rw [hp]
        have e : ((u : Int) / 10 ^ 60) = ((u / 10 ^ 60 : Nat) : Int) := by
          rw [Int.natCast_ediv]
          rfl
        rw [e]
        refine ⟨u / 10 ^ 60, _, Nat.lt_of_le_of_lt (Nat.div_le_self _ _) h1, fun _ => ?_, fun hj2 => ?_, rfl⟩
        · exact Nat.div_lt_of_lt_mul (Nat.lt_trans h1 h300)
        · rw [Nat.div_eq_of_lt (h2 (by omega))]
    · rintro ρ' ⟨u, x, h1, h2, h3, rfl⟩
      have : u = 0 := h3 (by decide)
      subst this
      exact ⟨x, rfl⟩
    · rintro ρ' ⟨x, rfl⟩
      refine' (b_ret (e_gt (e_var 1 rfl (pv 1)) e_int) ?r0_0)
      case r0_0 => exact q
def F_fraction_text : List D → (D → Prop) → Prop := fun ds R => ∃ f : Rat, ds = [encQ f] ∧ Sz f 300 300 ∧ R (.str (S (fx f)))
theorem c_fraction_text (T : Tp K mg) : Cb P w K mg base 2 "fraction_text" F_fraction_text := by
  have sc : FnScope ["f"] ["f"] (defScope s_fraction_text) := ⟨rfl, rfl, rfl, by decide +kernel, rfl, by decide +kernel, by decide +kernel⟩
  have C_is_long := c_is_long (P := P) (w := w) (base := base) T
  refine T.cb 20 rfl rfl (st := s_fraction_text) sc (fun _ _ _ _ _ _ us hl => match us, hl with | [_], _ => rfl) (fun ds R hF => by obtain ⟨f, rfl, hs, q⟩ := hF; rfl) ?_
  intro f cdv A l s H E W ds R hr hG hF
  obtain ⟨f, rfl, hs, q⟩ := hF
  refine' (b_if1 (t_w (w_or (t_val (e_call (C_is_long.mono (by decide)) hr hG (a_cons (e_at (e_var 0 rfl (pv 0)) rfl) a_nil) ?h0)) (fun hc => (w_or1 (t_val (e_call (C_is_long.mono (by decide)) hr hG (a_cons (e_at (e_var 0 rfl (pv 0)) rfl) a_nil) ?h1)))))) (fun hc => ?h2) (fun hc => (b_ret (e_ifD (t_eqI (e_at (e_var 0 rfl (pv 0)) rfl) e_int) (fun hc => (e_fstr1 ?h3 (e_at (e_var 0 rfl (pv 0)) rfl))) (fun hc => (e_fstr3 ?h4 ?h5 (e_at (e_var 0 rfl (pv 0)) rfl) (e_at (e_var 0 rfl (pv 0)) rfl) ?h6 ?h7 ?h8))) ?h9)))
  case h0 =>
    exact ⟨_, rfl, hs.1, rfl⟩
  case h1 =>
    exact ⟨_, rfl, by rw [natAbs_den]; exact hs.2, rfl⟩
  case h2 =>
    simp at hc
  case h3 =>
    exact log1920 hs.1
  case h4 =>
    exact log1920 hs.1
  case h5 =>
    exact log1920 (by rw [natAbs_den]; exact hs.2)
  case h6 =>
    show (Str.empty ++ Str.ofString (toString f.num)).length ≤ sizeLine
    rw [toS, PySem.Str.empty_append, S_len]
    exact small_line (Nat.le_trans (tx_len hs.1) (by decide))
  case h7 =>
    show (Str.empty ++ Str.ofString (toString f.num) ++ S [47]).length ≤ sizeLine
    rw [toS, PySem.Str.empty_append, S_cat, S_len, List.length_append]
    have := tx_len hs.1
    exact small_line (by rw [List.length_singleton]; omega)
  case h8 =>
    show (Str.empty ++ Str.ofString (toString f.num) ++ S [47] ++ Str.ofString (toString (f.den : Int))).length ≤ sizeLine
    rw [toS, toS, PySem.Str.empty_append, S_cat, S_cat, S_len, List.length_append, List.length_append]
    have := tx_len hs.1
    have := tx_len (i := (f.den : Int)) (by rw [natAbs_den]; exact hs.2)
    exact small_line (by rw [List.length_singleton]; omega)
  case h9 =>
    have e : (if decide ((f.den : Int) = 1) = true then (.str (Str.ofString (toString f.num)) : D) else .str (Str.empty ++ Str.ofString (toString f.num) ++ S [47] ++ Str.ofString (toString (f.den : Int)))) = .str (S (fx f)) := by
      unfold fx
      rw [toS, toS, PySem.Str.empty_append, S_cat, S_cat]
      by_cases h : f.den = 1
      · rw [if_pos h, decide_eq_true (by omega), if_pos rfl]
      · rw [if_neg h, decide_eq_false (by omega), if_neg Bool.false_ne_true]
        show (.str (S (tx f.num ++ [47] ++ tx (f.den : Int))) : D) = .str (S (tx f.num ++ ([47] ++ tx (f.den : Int))))
        rw [List.append_assoc]
    rw [← e] at q
    exact q
def F_root_text : List D → (D → Prop) → Prop := fun ds R => ∃ a b c : Rat, ds = [encR a b c] ∧ Sz a 300 300 ∧ Sz b 300 300 ∧ Sz c 300 300 ∧ R (.str (S (rx a b c)))
theorem c_root_text (T : Tp K mg) : Cb P w K mg base 3 "root_text" F_root_text := by
  have sc : FnScope ["r", "part"] ["r"] (defScope s_root_text) := ⟨rfl, rfl, rfl, by decide +kernel, rfl, by decide +kernel, by decide +kernel⟩
  have C_fraction_text := c_fraction_text (P := P) (w := w) (base := base) T
  refine T.cb 42 rfl rfl (st := s_root_text) sc (fun _ _ _ _ _ _ us hl => match us, hl with | [_], _ => rfl) (fun ds R hF => by obtain ⟨a, b, c, rfl, ha, hb, hg, q⟩ := hF; rfl) ?_
  intro f cdv A l s H E W ds R hr hG hF
  obtain ⟨a, b, c, rfl, ha, hb, hg, q⟩ := hF
  refine' (b_if1 (t_eqI (e_at (e_at (e_var 0 rfl (pv 0)) rfl) rfl) e_int) (fun hc => (b_ret (e_call (C_fraction_text.mono (by decide)) hr hG (a_cons (e_at (e_var 0 rfl (pv 0)) rfl) a_nil) ?h0) ?h1)) (fun hc => (b_ret (e_join ?h2 e_str ?h3) ?h4)))
  case h0 =>
    exact ⟨_, rfl, ha, rfl⟩
  case h1 =>
    have e : b = 0 := Rat.num_eq_zero.mp (of_decide_eq_true hc)
    unfold rx at q
    rw [if_pos e] at q
    exact q
  case h2 =>
    show ([S (fx a), S (fx b), S (fx c)].map (·.length)).sum + 3 * (S [58]).length ≤ 16777216
    have h1 := fx_len ha
    have h2 := fx_len hb
    have h3 := fx_len hg
    simp only [List.map_cons, List.map_nil, List.sum_cons, List.sum_nil, S_len, List.length_singleton]
    omega
  case h3 =>
    refine (e_lcT (i := 1) (x := "part") (Rj := fun j r => ∀ z, [a, b, c][j]? = some z → r = .str (S (fx z))) (R := fun z => z = .list ([S (fx a), S (fx b), S (fx c)].map PyData.str)) rfl sc.nd (show blkC ["r", "part"] (defScope s_root_text) _ [("part", 1)] = true by decide +kernel) rfl (e_var 0 rfl (pv 0)) (Nat.le_of_ble_eq_true rfl) (fun _ _ _ _ _ => ⟨.inl rfl, .inr rfl⟩) ?_ ?_)
    · intro s1 H1 C1 cl fp D1 acc j d hD hj
      match j, hj with
      | 0, hj => cases hj; exact e_callR (C_fraction_text.mono (by decide)) hr hG (a_cons (e_var 1 rfl (pv 1)) a_nil) (fun ds e => by subst e; exact ⟨a, rfl, ha, fun z hz => by cases hz; rfl⟩)
      | 1, hj => cases hj; exact e_callR (C_fraction_text.mono (by decide)) hr hG (a_cons (e_var 1 rfl (pv 1)) a_nil) (fun ds e => by subst e; exact ⟨b, rfl, hb, fun z hz => by cases hz; rfl⟩)
      | 2, hj => cases hj; exact e_callR (C_fraction_text.mono (by decide)) hr hG (a_cons (e_var 1 rfl (pv 1)) a_nil) (fun ds e => by subst e; exact ⟨c, rfl, hg, fun z hz => by cases hz; rfl⟩)
      | j + 3, hj => cases hj
    · intro res hl h
      obtain ⟨x, y, z, rfl, h1, h2, h3⟩ := res3 hl h
      rw [h1 a rfl, h2 b rfl, h3 c rfl]
      rfl
  case h4 =>
    have e : ¬ b = 0 := fun z => by
      have := of_decide_eq_false hc
      exact this (Rat.num_eq_zero.mpr z)
    unfold rx at q
    rw [if_neg e] at q
    have e2 : Txt.join (S [58]) [S (fx a), S (fx b), S (fx c)] = S (TL.joinL [58] [fx a, fx b, fx c]) := join_S [58] [fx a, fx b, fx c]
    show R (.str (Txt.join (S [58]) [S (fx a), S (fx b), S (fx c)]))
    rw [e2]
    exact q
end K65
end
section
set_option Elab.async false
set_option linter.all false
set_option maxRecDepth 100000
set_option maxHeartbeats 2000000
/-! DL6: comprehensions, as values and as what a name is set to. -/
namespace DL
open PySem PySem.Spec PyProof.Rows L2
/-- a comprehension that gives data of R, wherever it stands -/
inductive LC (X : Cx) (W : Wd) (ρ : En) : Expr → (DL.D → Prop) → Prop where
  | mk {elt tg iter : Expr} {ifs : List Expr} {scope : Scope} {own : List (Str × Nat)} {pos : Pos} {wi : TI} {g : TG} {tt : TT} {te : TE} {R : DL.D → Prop} (hc : X.calm = true) (hN : X.N.Nodup) (hi : PI X tg iter wi) (ok : BlkOk X.N X.env.scope scope own)
    (hg : BlkX X scope fun Y => PG Y tg g) (ht : BlkX X scope fun Y => PTs Y ifs tt) (he : BlkX X scope fun Y => PE Y elt te) (hs : ∀ x, foldedSetIterable iter X.env x = pure x)
    (h : ∀ σ H Q, tE X.K W ρ R σ H Q → tLc wi g tt te (own.map (·.2)) σ H Q) : LC X W ρ (.ListComp elt [⟨tg, iter, ifs, 0⟩] scope pos) R
section
variable {X : Cx} {W : Wd} {ρ : En} {a b c e elt : Expr} {pos pos' pr pc p1 p2 p3 : Pos} {R : D → Prop} {K : PySem.W.Frag} {x : Str} {i : Nat} {scope : Scope} {Rj : Nat → DL.D → Prop} {rest : List Stmt} {Φ : Oc → Prop}
theorem LC.ed (h : LC X W ρ e R) : EDr X W ρ e R := by
  cases h with
  | mk hc hN hi ok hg ht he hs h => exact pe_imp (pe_lc hc hN hi ok hg ht he hs) h
/-- name = [..] -/
theorem b_lcR {y : Str} {py : Pos} (i : Nat) (hy : X.N[i]? = some y) (hyl : X.env.scope.names.lookup y = some .local) (he : LC X W ρ e R) (h : ∀ d, R d → BD X W (ρ.set i (.d d)) rest Φ)
    (hsw : swapsWith e (some (.Name y py)) pos.line X.env = pure true := by rfl) : BD X W ρ (.Assign [.Name y py] e pos :: rest) Φ := by
  cases he with
  | mk hc hN hi ok hg ht hel hs hI =>
    refine b_cons (ps_imp (ps_setLc hc hN hy hyl hsw hi ok hg ht hel hs) fun G σ H ⟨hB, hR, q1, _⟩ => ?_)
    exact hI σ H _ ⟨hB, hR, fun d v H' r B' l' p' => q1 _ _ H' (h d r) B' l' ((hR.mono l').setD p')⟩
theorem b_lc {y : Str} {py : Pos} (i : Nat) {d : DL.D} (hy : X.N[i]? = some y) (hyl : X.env.scope.names.lookup y = some .local) (he : LC X W ρ e (fun z => z = d)) (h : BD X W (ρ.set i (.d d)) rest Φ)
    (hsw : swapsWith e (some (.Name y py)) pos.line X.env = pure true := by rfl) : BD X W ρ (.Assign [.Name y py] e pos :: rest) Φ :=
  b_lcR i hy hyl he (fun _ r => by subst r; exact h) hsw
/-- [elt for x in e], e a tuple | a list of data -/
theorem lcT {ds : List DL.D} (hc : X.calm = true) (nd : X.N.Nodup) (ok : blkC X.N X.env.scope scope [(x, i)] = true) (hi : X.N[i]? = some x) (he : ED X W ρ e (.tuple ds)) (hz : ds.length ≤ 1000)
    (hx : BlkX X scope fun Y => Loc Y.env.scope x ∧ (Y.fn x = true ∨ Y.env.scope.names.lookup x = some .local))
    (hel : BlkX X scope fun Y => ∀ (D : Addr) (acc : List V) (j : Nat) (d : DL.D), W.M D = false → ds[j]? = some d → EDr Y (W.push D acc) ((ρ.set i .no).set i (.d d)) elt (Rj j))
    (hres : ∀ res : List DL.D, res.length = ds.length → (∀ (i : Nat) (r : DL.D), res[i]? = some r → Rj i r) → R (.list res))
    (hs : ∀ z, foldedSetIterable e X.env z = pure z := by intro _; rfl) : LC X W ρ (.ListComp elt [⟨.Name x pos', e, [], 0⟩] scope pos) R := by
  have hte : BlkX X scope fun Y => PE Y elt (tEl X.K W ρ i (fun j d => ds[j]? = some d) Rj) :=
    fun s H C cl fp => ⟨fun pins s' σ H' Q I ⟨D, acc, j, d, h1, h2, h3⟩ => (hel s H C cl fp D acc j d h1 h2).run pins s' σ H' Q I h3⟩
  refine LC.mk (own := [(x, i)]) hc nd (pi_tup he) (blkOk_by ok) (fun s H C cl fp => pg_name (i := i) nd hi (hx s H C cl fp).1 (hx s H C cl fp).2) (fun _ _ _ _ _ => pts_nil) hte hs fun σ H Q ⟨hB, hR, q⟩ => ?_
  refine ⟨hB, hR, fun d v H1 r B1 l1 p1 => ?_⟩
  subst r
  obtain ⟨t, xs, e1, e2, e3⟩ := dp_tup p1
  have hlen := DpAll.len e3
  refine ⟨t, e1, ⟨xs, Same.tup mask_le e2⟩, fun D hD => ?_⟩
  have hm : W.M D = false := (W.new (o := .lst []) B1 hD).1 |> fun _ => (W.st H1 D (.lst []) B1 hD).1
  refine lc_tup (K := X.K) (a := t) (xs := xs) (g := gName i) (tt := tYes) (te := tEl X.K W ρ i (fun j d => ds[j]? = some d) Rj) (vs := [i]) (σ := σ) (Qd := fun H2 => Q (.ref D) H2) (LcI X.K W H1 D Rj) (lcI_0 B1 hD) (fun j H2 _ h => ?_) (fun j v2 H2 hj h => ?_) fun H2 h => ?_
  · obtain ⟨_, _, _, l, _⟩ := h
    exact Same.tup mask_le (Same.tup l e2)
  · obtain ⟨d, g1, g2⟩ := DpAll.getV e3 hj
    have hjl : j < ds.length := (List.getElem?_eq_some_iff.mp g1).1
    refine ⟨?_, ?_⟩
    · show ((σ.set i none).set i (some v2)).set i none = σ.set i none
      rw [List.set_set, List.set_set]
    · unfold tYes
      refine iteT ?_
      exact lcI_turn (te := fun _ => fun _ _ _ => True) (i := i) (n := ds.length) hD hm (hR.mono l1) hjl hz h g2 fun acc H3 σ3 Q3 z => ⟨D, acc, j, d, hm, g1, z⟩
  · rw [hlen] at h
    exact lcI_end hm h hres fun d v H' r B' l' p' => q d v H' r B' (l1.trans l') p'
theorem lcL {ds : List DL.D} (hc : X.calm = true) (nd : X.N.Nodup) (ok : blkC X.N X.env.scope scope [(x, i)] = true) (hi : X.N[i]? = some x) (he : ED X W ρ e (.list ds)) (hz : ds.length ≤ 1000)
    (hx : BlkX X scope fun Y => Loc Y.env.scope x ∧ (Y.fn x = true ∨ Y.env.scope.names.lookup x = some .local))
    (hel : BlkX X scope fun Y => ∀ (D : Addr) (acc : List V) (j : Nat) (d : DL.D), W.M D = false → ds[j]? = some d → EDr Y (W.push D acc) ((ρ.set i .no).set i (.d d)) elt (Rj j))
    (hres : ∀ res : List DL.D, res.length = ds.length → (∀ (i : Nat) (r : DL.D), res[i]? = some r → Rj i r) → R (.list res))
    (hs : ∀ z, foldedSetIterable e X.env z = pure z := by intro _; rfl) : LC X W ρ (.ListComp elt [⟨.Name x pos', e, [], 0⟩] scope pos) R := by
  have hte : BlkX X scope fun Y => PE Y elt (tEl X.K W ρ i (fun j d => ds[j]? = some d) Rj) :=
    fun s H C cl fp => ⟨fun pins s' σ H' Q I ⟨D, acc, j, d, h1, h2, h3⟩ => (hel s H C cl fp D acc j d h1 h2).run pins s' σ H' Q I h3⟩
  refine LC.mk (own := [(x, i)]) hc nd (pi_list he) (blkOk_by ok) (fun s H C cl fp => pg_name (i := i) nd hi (hx s H C cl fp).1 (hx s H C cl fp).2) (fun _ _ _ _ _ => pts_nil) hte hs fun σ H Q ⟨hB, hR, q⟩ => ?_
  refine ⟨hB, hR, fun d v H1 r B1 l1 p1 => ?_⟩
  subst r
  obtain ⟨t, xs, e1, e2, e3⟩ := dp_lst p1
  have hlen := DpAll.len e3
  refine ⟨t, e1, ⟨xs, Same.seq mask_le e2⟩, fun D hD => ?_⟩
  have hm : W.M D = false := (W.st H1 D (.lst []) B1 hD).1
  refine lc_list (K := X.K) (a := t) (xs := xs) (g := gName i) (tt := tYes) (te := tEl X.K W ρ i (fun j d => ds[j]? = some d) Rj) (vs := [i]) (σ := σ) (Qd := fun H2 => Q (.ref D) H2) (LcI X.K W H1 D Rj) (lcI_0 B1 hD) (fun j H2 _ h => ?_) (fun j v2 H2 hj h => ?_) fun H2 h => ?_
  · obtain ⟨_, _, _, l, _⟩ := h
    exact Same.seq mask_le (Same.seq l e2)
  · obtain ⟨d, g1, g2⟩ := DpAll.getV e3 hj
    have hjl : j < ds.length := (List.getElem?_eq_some_iff.mp g1).1
    refine ⟨?_, ?_⟩
    · show ((σ.set i none).set i (some v2)).set i none = σ.set i none
      rw [List.set_set, List.set_set]
    · unfold tYes
      refine iteT ?_
      exact lcI_turn (te := fun _ => fun _ _ _ => True) (i := i) (n := ds.length) hD hm (hR.mono l1) hjl hz h g2 fun acc H3 σ3 Q3 z => ⟨D, acc, j, d, hm, g1, z⟩
  · rw [hlen] at h
    exact lcI_end hm h hres fun d v H' r B' l' p' => q d v H' r B' (l1.trans l') p'
/-- [elt for x in range(n)] -/
theorem lcN {n : Nat} (hc : X.calm = true) (nd : X.N.Nodup) (ok : blkC X.N X.env.scope scope [(x, i)] = true) (hi : X.N[i]? = some x) (hmr : X.mg "range" = none) (he : ED X W ρ e (.int n)) (hz : n ≤ 1000)
    (hx : BlkX X scope fun Y => Loc Y.env.scope x ∧ (Y.fn x = true ∨ Y.env.scope.names.lookup x = some .local))
    (hel : BlkX X scope fun Y => ∀ (D : Addr) (acc : List V) (j : Nat), W.M D = false → j < n → EDr Y (W.push D acc) ((ρ.set i .no).set i (.d (.int (j : Nat)))) elt (Rj j))
    (hres : ∀ res : List DL.D, res.length = n → (∀ (i : Nat) (r : DL.D), res[i]? = some r → Rj i r) → R (.list res))
    (hg : Gl X "range" := by rfl) (hs1 : starEach [e] X.env = [(false, eval e X.env)] := by rfl)
    (hs : ∀ z, foldedSetIterable (.Call (.Name "range" pr) [e] [] pc) X.env z = pure z := by intro _; rfl) : LC X W ρ (.ListComp elt [⟨.Name x pos', .Call (.Name "range" pr) [e] [] pc, [], 0⟩] scope pos) R := by
  have hte : BlkX X scope fun Y => PE Y elt (tEl X.K W ρ i (fun j d => j < n ∧ d = .int (j : Nat)) Rj) :=
    fun s H C cl fp => ⟨fun pins s' σ H' Q I ⟨D, acc, j, d, h1, h2, h3⟩ => by obtain ⟨h2, rfl⟩ := h2; exact (hel s H C cl fp D acc j h1 h2).run pins s' σ H' Q I h3⟩
  have ha : AD X W ρ [e] [.int n] := a_cons he a_nil (by rw [hs1]; rfl)
  refine LC.mk (own := [(x, i)]) hc nd (pi_range1 hg hmr ha hs1) (blkOk_by ok) (fun s H C cl fp => pg_name (i := i) nd hi (hx s H C cl fp).1 (hx s H C cl fp).2) (fun _ _ _ _ _ => pts_nil) hte hs fun σ H Q ⟨hB, hR, q⟩ => ?_
  refine ⟨hB, hR, fun ds vs H1 r B1 l1 p1 => ?_⟩
  subst r
  obtain ⟨v, e1, e2⟩ := dps1 p1
  subst e1
  rw [dp_int e2]
  refine ⟨(n : Int), rfl, by omega, by omega, fun D hD => ?_⟩
  have hm : W.M D = false := (W.st H1 D (.lst []) B1 hD).1
  have hn : ((n : Int)).toNat = n := Int.toNat_natCast n
  rw [hn]
  refine lc_range (lo := 0) (n := n) (g := gName i) (tt := tYes) (te := tEl X.K W ρ i (fun j d => j < n ∧ d = .int (j : Nat)) Rj) (vs := [i]) (σ := σ) (Qd := fun H2 => Q (.ref D) H2) (LcI X.K W H1 D Rj) (lcI_0 B1 hD) (fun j H2 hj h => ?_) fun H2 h => ?_
  · refine ⟨?_, ?_⟩
    · show ((σ.set i none).set i _).set i none = σ.set i none
      rw [List.set_set, List.set_set]
    · unfold tYes
      refine iteT ?_
      have ez : (0 : Int) + (j : Int) = (j : Nat) := by omega
      rw [ez]
      exact lcI_turn (te := fun _ => fun _ _ _ => True) (i := i) (n := n) hD hm (hR.mono l1) hj hz h (.int (j : Nat)) fun acc H3 σ3 Q3 z => ⟨D, acc, j, _, hm, ⟨hj, rfl⟩, z⟩
  · exact lcI_end hm h hres fun d v H' r B' l' p' => q d v H' r B' (l1.trans l') p'
/-- [elt for x in e], e a text -/
theorem lcS {z : Str} (hc : X.calm = true) (nd : X.N.Nodup) (ok : blkC X.N X.env.scope scope [(x, i)] = true) (hi : X.N[i]? = some x) (he : ED X W ρ e (.str z)) (hz : z.cps.size ≤ 1000)
    (hx : BlkX X scope fun Y => Loc Y.env.scope x ∧ (Y.fn x = true ∨ Y.env.scope.names.lookup x = some .local))
    (hel : BlkX X scope fun Y => ∀ (D : Addr) (acc : List V) (j : Nat) (c : Nat), W.M D = false → z.cps[j]? = some c → EDr Y (W.push D acc) ((ρ.set i .no).set i (.d (.str ⟨#[c]⟩))) elt (Rj j))
    (hres : ∀ res : List DL.D, res.length = z.cps.size → (∀ (i : Nat) (r : DL.D), res[i]? = some r → Rj i r) → R (.list res))
    (hs : ∀ z, foldedSetIterable e X.env z = pure z := by intro _; rfl) : LC X W ρ (.ListComp elt [⟨.Name x pos', e, [], 0⟩] scope pos) R := by
  have hte : BlkX X scope fun Y => PE Y elt (tEl X.K W ρ i (fun j d => ∃ c, z.cps[j]? = some c ∧ d = .str ⟨#[c]⟩) Rj) :=
    fun s H C cl fp => ⟨fun pins s' σ H' Q I ⟨D, acc, j, d, h1, h2, h3⟩ => by
      obtain ⟨c, h2, rfl⟩ := h2
      exact (hel s H C cl fp D acc j c h1 h2).run pins s' σ H' Q I h3⟩
  refine LC.mk (own := [(x, i)]) hc nd (pi_str he) (blkOk_by ok) (fun s H C cl fp => pg_name (i := i) nd hi (hx s H C cl fp).1 (hx s H C cl fp).2) (fun _ _ _ _ _ => pts_nil) hte hs fun σ H Q ⟨hB, hR, q⟩ => ?_
  refine ⟨hB, hR, fun d v H1 r B1 l1 p1 => ?_⟩
  subst r
  refine ⟨z, dp_str p1, fun D hD => ?_⟩
  have hm : W.M D = false := (W.st H1 D (.lst []) B1 hD).1
  refine lc_txt (z := z) (g := gName i) (tt := tYes) (te := tEl X.K W ρ i (fun j d => ∃ c, z.cps[j]? = some c ∧ d = .str ⟨#[c]⟩) Rj) (vs := [i]) (σ := σ) (Qd := fun H2 => Q (.ref D) H2) (LcI X.K W H1 D Rj) (lcI_0 B1 hD) (fun j c H2 hj h => ?_) fun H2 h => ?_
  · have hjl : j < z.cps.size := (Array.getElem?_eq_some_iff.mp hj).1
    refine ⟨?_, ?_⟩
    · show ((σ.set i none).set i _).set i none = σ.set i none
      rw [List.set_set, List.set_set]
    · unfold tYes
      refine iteT ?_
      exact lcI_turn (te := fun _ => fun _ _ _ => True) (i := i) (n := z.cps.size) hD hm (hR.mono l1) hjl hz h (.str ⟨#[c]⟩) fun acc H3 σ3 Q3 z => ⟨D, acc, j, _, hm, ⟨c, hj, rfl⟩, z⟩
  · exact lcI_end hm h hres fun d v H' r B' l' p' => q d v H' r B' (l1.trans l') p'
end
end DL
end
section
set_option Elab.async false
set_option linter.all false
set_option maxRecDepth 100000
set_option maxHeartbeats 4000000
set_option exponentiation.threshold 20000
namespace K65
open PySem PySem.Spec PyProof.Rows L2 DL SX
variable {K : PySem.W.Frag} {mg : Str → Option Value} {P : Program} {w : World} {base : Heap}
theorem cut_head (l : List Nat) : cutS (S l) none (some ((1 : Nat) : Int)) = S (l.take 1) := by
  unfold cutS
  have e1 : HT.sIx (S l).length 0 none = 0 := rfl
  have e2 : HT.sIx (S l).length (S l).length (some ((1 : Nat) : Int)) = min 1 l.length := by
    unfold HT.sIx
    rw [S_len]
    simp only
    rw [if_neg (by omega)]
    omega
  rw [e1, e2]
  show S ((l.drop 0).take (min 1 l.length - 0)) = _
  rw [List.drop_zero, Nat.sub_zero]
  congr 1
  cases l with
  | nil => rfl
  | cons c r =>
    have : min 1 (c :: r).length = 1 := by rw [List.length_cons]; omega
    rw [this]
theorem cut_tail (l : List Nat) : cutS (S l) (some ((1 : Nat) : Int)) none = S (l.drop 1) := by
  unfold cutS
  have e1 : HT.sIx (S l).length (S l).length none = l.length := S_len l
  have e2 : HT.sIx (S l).length 0 (some ((1 : Nat) : Int)) = min 1 l.length := by
    unfold HT.sIx
    rw [S_len]
    simp only
    rw [if_neg (by omega)]
    omega
  rw [e1, e2]
  show S ((l.drop (min 1 l.length)).take (l.length - min 1 l.length)) = _
  congr 1
  cases l with
  | nil => rfl
  | cons c r =>
    have : min 1 (c :: r).length = 1 := by rw [List.length_cons]; omega
    rw [this, List.drop_one, List.tail_cons, List.length_cons, Nat.add_sub_cancel, List.take_length]
theorem tx_small (i : Int) : ∀ c ∈ tx i, c < 1000 := fun c h => by rcases tx_signs i c h with e | e <;> omega
theorem dg_small (m : Nat) : ∀ c ∈ dg m, c < 1000 := fun c h => by have := dg_all m c h; omega
theorem fx_small (q : Rat) : ∀ c ∈ fx q, c < 1000 := fun c h => by rcases fx_mem h with e | e | e <;> omega
theorem sh_int (i : Int) : SeqAt.shaped (.int i) = true := by simp [SeqAt.shaped, PyData.canLay0, PyData.depth]
theorem sh_none : SeqAt.shaped (.none) = true := by simp [SeqAt.shaped, PyData.canLay0, PyData.depth]
theorem digit_in {c : Nat} (h : 48 ≤ c ∧ c ≤ 57) : decide (c ∈ (Str.ofString "0123456789").cps.toList) = true := by
  have : c = 48 ∨ c = 49 ∨ c = 50 ∨ c = 51 ∨ c = 52 ∨ c = 53 ∨ c = 54 ∨ c = 55 ∨ c = 56 ∨ c = 57 := by omega
  rcases this with rfl | rfl | rfl | rfl | rfl | rfl | rfl | rfl | rfl | rfl <;> decide +kernel
theorem dg_head (i : Int) : ∃ c r, dg i.natAbs = c :: r ∧ (c = 48 → i = 0) := by
  by_cases h : i.natAbs = 0
  · rw [h]
    exact ⟨48, [], dg_zero, fun _ => by omega⟩
  · obtain ⟨c, r, e, hc⟩ := dg_first (m := i.natAbs) (by omega)
    exact ⟨c, r, e, fun z => absurd z hc⟩
theorem fx_parts {q : Rat} (h : q.den = 1) : Txt.split (S (fx q)) (S [47]) = [S (tx q.num)] := by
  unfold fx
  rw [if_pos h]
  exact split_parts (s := 47) (parts := [tx q.num]) (by decide) (List.cons_ne_nil _ _) (fun p hp => by
    rw [List.mem_singleton] at hp
    subst hp
    exact tx_no (by decide) (.inl (by decide)))
theorem fx_parts2 {q : Rat} (h : q.den ≠ 1) : Txt.split (S (fx q)) (S [47]) = [S (tx q.num), S (tx (q.den : Int))] := by
  unfold fx
  rw [if_neg h]
  exact split_parts (s := 47) (parts := [tx q.num, tx (q.den : Int)]) (by decide) (List.cons_ne_nil _ _) (fun p hp => by
    rcases List.mem_cons.mp hp with e | hp
    · subst e; exact tx_no (by decide) (.inl (by decide))
    · rw [List.mem_singleton] at hp
      subst hp
      exact tx_no (by decide) (.inl (by decide)))
theorem rx_parts {a b c : Rat} (h : b = 0) : Txt.split (S (rx a b c)) (S [58]) = [S (fx a)] := by
  unfold rx
  rw [if_pos h]
  exact split_parts (s := 58) (parts := [fx a]) (by decide) (List.cons_ne_nil _ _) (fun p hp => by
    rw [List.mem_singleton] at hp
    subst hp
    exact fx_no (by decide) (by decide) (.inr (by decide)))
theorem rx_parts2 {a b c : Rat} (h : b ≠ 0) : Txt.split (S (rx a b c)) (S [58]) = [S (fx a), S (fx b), S (fx c)] := by
  unfold rx
  rw [if_neg h]
  exact split_parts (s := 58) (parts := [fx a, fx b, fx c]) (by decide) (List.cons_ne_nil _ _) (fun p hp => by
    have no : ∀ q, 58 ∉ fx q := fun q => fx_no (by decide) (by decide) (.inr (by decide))
    rcases List.mem_cons.mp hp with e | hp
    · subst e; exact no _
    · rcases List.mem_cons.mp hp with e | hp
      · subst e; exact no _
      · rw [List.mem_singleton] at hp
        subst hp
        exact no _)

def F_number_in : List D → (D → Prop) → Prop := fun ds R => ∃ i : Int, ds = [.str (S (tx i))] ∧ i.natAbs < 2 ^ 300 ∧ R (.int i)
theorem c_number_in (T : Tp K mg) : Cb P w K mg base 1 "number_in" F_number_in := by
  have sc : FnScope ["word", "figures", "sign"] ["word"] (defScope s_number_in) := ⟨rfl, rfl, rfl, by decide +kernel, rfl, by decide +kernel, by decide +kernel⟩
  refine T.cb 43 rfl rfl (st := s_number_in) sc (fun _ _ _ _ _ _ us hl => match us, hl with | [_], _ => rfl) (fun ds R hF => by obtain ⟨i, rfl, hi, q⟩ := hF; rfl) ?_
  intro f cdv A l s H E W ds R hr hG hF
  obtain ⟨i, rfl, hi, q⟩ := hF
  have hl := tx_len hi
  have hl2 := dg_len hi
  obtain ⟨c0, r0, e0, h0⟩ := dg_head i
  have hc0 := dg_all i.natAbs c0 (by rw [e0]; exact List.mem_cons_self ..)
  refine' (b_set 1 sc.nd rfl (.inl rfl) (ED.to (d' := .str (S (dg i.natAbs))) (e_ifD (t_eq hr.units ?h0 ?h1 (e_headS (e_var 0 rfl (pv 0)) ?h2) e_str) (fun hc => (e_cutS (e_var 0 rfl (pv 0)) ?h3)) (fun hc => (e_var 0 rfl (pv 0)))) ?h4) (b_if1 (t_w (w_or (t_eq hr.units ?h5 ?h6 (e_var 1 rfl (pv 1)) e_str) (fun hc => (w_or (t_gt (e_len T.f_len (e_var 1 rfl (pv 1)) rfl ?h7) (g_MOST_FIGURES T)) (fun hc => (w_or1 (t_not (t_val (e_all rfl T.f_all ?h8))))))))) (fun hc => (b_ret e_non ?h9)) (fun hc => (b_ret (e_ifD (t_w (w_and (t_eq hr.units ?h10 ?h11 (e_signS (e_var 1 rfl (pv 1)) ?h12 ?h13) e_str) (fun hc => (w_and1 (t_ne hr.units ?h14 ?h15 (e_var 0 rfl (pv 0)) e_str))))) (fun hc => e_non) (fun hc => (e_intS T.f_int ?h16 ?h17 (e_var 0 rfl (pv 0))))) ?h18))))
  case h0 =>
    rw [cut_head]
    exact sh_S fun c h => tx_small i c (List.mem_of_mem_take h)
  case h1 =>
    exact sh_S (l := [45]) (by decide)
  case h2 =>
    rw [S_len]
    exact small_line (by omega)
  case h3 =>
    rw [S_len]
    exact small_line (by omega)
  case h4 =>
    rw [cut_head, cut_tail]
    have e := eqvS ((tx i).take 1) [45]
    show (if PyData.eqv (.str (S ((tx i).take 1))) (.str (S [45])) = true then _ else _) = _
    rw [e]
    unfold tx
    by_cases h : i < 0
    · rw [if_pos h]
      rfl
    · rw [if_neg h]
      obtain ⟨c, r, e1, _⟩ := dg_head i
      have hc := dg_all i.natAbs c (by rw [e1]; exact List.mem_cons_self ..)
      rw [e1]
      have : ¬ List.take 1 (c :: r) = [45] := by
        rw [List.take_succ_cons, List.take_zero]
        intro z
        have := (List.cons.inj z).1
        omega
      rw [decide_eq_false this, if_neg Bool.false_ne_true]
  case h5 =>
    exact sh_S (dg_small _)
  case h6 =>
    exact sh_S (l := []) (by decide)
  case h7 =>
    rw [S_len]
    exact small_line (by omega)
  case h8 =>
    refine (e_lcS (i := 2) (x := "sign") (Rj := fun j r => r = .bool true) (R := fun z => z = .list ((List.replicate (dg i.natAbs).length true).map PyData.bool)) rfl sc.nd (show blkC ["word", "figures", "sign"] (defScope s_number_in) _ [("sign", 2)] = true by decide +kernel) rfl (e_var 1 rfl (pv 1)) (by rw [cps_S]; omega) (fun _ _ _ _ _ => ⟨.inl rfl, .inr rfl⟩) ?_ ?_)
    · intro s1 H1 C1 cl fp D1 acc j c hD hj
      have hc := dg_all i.natAbs c (List.mem_of_getElem? (get_S hj))
      exact (e_inS (e_var 2 rfl (pv 2)) (g_DIGITS T)).to (by rw [digit_in hc])
    · intro res hl h
      have e := allT h
      rw [cps_S] at hl
      rw [hl] at e
      rw [e]
  case h9 =>
    exfalso
    have e1 := eqvS (dg i.natAbs) []
    have e2 : PyData.eqv (.str (S (dg i.natAbs))) (.str (S [])) = false := by rw [e1]; exact decide_eq_false (dg_ne _)
    have e3 : (List.replicate (dg i.natAbs).length true).all id = true := by
      rw [List.all_eq_true]
      intro x hx
      exact (List.mem_replicate.mp hx).2
    have e4 : decide ((4020 : Int) < ((S (dg i.natAbs)).length : Nat)) = false := by
      rw [S_len]
      exact decide_eq_false (by omega)
    have hc : (PyData.eqv (.str (S (dg i.natAbs))) (.str (S [])) || (decide ((4020 : Int) < ((S (dg i.natAbs)).length : Nat)) || !(List.replicate (dg i.natAbs).length true).all id)) = true := hc
    rw [e2, e3, e4] at hc
    exact absurd hc (by decide)
  case h10 =>
    exact sh_S (l := [c0]) (by intro z hz; rw [List.mem_singleton] at hz; subst hz; omega)
  case h11 =>
    exact sh_S (l := [48]) (by decide)
  case h12 =>
    rw [S_len]
    exact small_line (by omega)
  case h13 =>
    show (dg i.natAbs)[0]? = some c0
    rw [e0]
    rfl
  case h14 =>
    exact sh_S (tx_small i)
  case h15 =>
    exact sh_S (l := [48]) (by decide)
  case h16 =>
    exact tx_reads i hi
  case h17 =>
    rw [S_len]
    omega
  case h18 =>
    have e1 : (PyData.eqv (.str (S [c0])) (.str (S [48])) && !PyData.eqv (.str (S (tx i))) (.str (S [48]))) = false := by
      rw [eqvS, eqvS]
      by_cases h : c0 = 48
      · have : i = 0 := h0 h
        subst this
        have : tx 0 = [48] := by decide +kernel
        rw [this]
        simp
      · have : ¬ [c0] = [48] := fun z => h (List.cons.inj z).1
        rw [decide_eq_false this]
        rfl
    show R (if (PyData.eqv (.str (S [c0])) (.str (S [48])) && !PyData.eqv (.str (S (tx i))) (.str (S [48]))) = true then .none else .int i)
    rw [e1, if_neg Bool.false_ne_true]
    exact q
def F_fraction_in : List D → (D → Prop) → Prop := fun ds R => ∃ q : Rat, ds = [.str (S (fx q))] ∧ Sz q 300 300 ∧ R (encQ q)
theorem c_fraction_in (T : Tp K mg) : Cb P w K mg base 2 "fraction_in" F_fraction_in := by
  have sc : FnScope ["word", "parts", "part", "n", "d"] ["word"] (defScope s_fraction_in) := ⟨rfl, rfl, rfl, by decide +kernel, rfl, by decide +kernel, by decide +kernel⟩
  have C_divisor := c_divisor (P := P) (w := w) (base := base) T
  have C_number_in := c_number_in (P := P) (w := w) (base := base) T
  refine T.cb 44 rfl rfl (st := s_fraction_in) sc (fun _ _ _ _ _ _ us hl => match us, hl with | [_], _ => rfl) (fun ds R hF => by obtain ⟨q, rfl, hs, qq⟩ := hF; rfl) ?_
  intro f cdv A l s H E W ds R hr hG hF
  obtain ⟨q, rfl, hs, qq⟩ := hF
  have hl := fx_len hs
  have hd : ((q.den : Int)).natAbs < 2 ^ 300 := by rw [natAbs_den]; exact hs.2
  have hg : (Int.gcd q.num (q.den : Int) : Int) = 1 := by
    have := q.reduced
    show ((Nat.gcd q.num.natAbs (q.den : Int).natAbs : Nat) : Int) = 1
    rw [natAbs_den, this]
    rfl
  by_cases h1 : q.den = 1
  · refine' (b_lc 1 (d := .list [.int q.num]) rfl rfl ?hA0 (b_if1 (t_w (w_or (t_inL (hu65 hr) ?hA1 ?hA2 e_non (e_var 1 rfl (pv 1))) (fun hc => (w_or1 (t_gt (e_len T.f_len (e_var 1 rfl (pv 1)) rfl ?hA3) e_int))))) (fun hc => (b_ret e_non ?hA4)) (fun hc => (b_par 3 4 rfl sc.nd rfl rfl (by decide) rfl rfl (a_cons (e_atL (e_var 1 rfl (pv 1)) rfl) (a_cons (e_if (t_eqI (e_len T.f_len (e_var 1 rfl (pv 1)) rfl ?hA5) e_int) (fun hc => absurd hc (by first | decide | simp)) (fun hc => e_int)) a_nil)) rfl (b_if1 (t_w (w_and (t_eqI (e_len T.f_len (e_var 1 rfl (pv 1)) rfl ?hA6) e_int) (fun hc => (w_and1 (t_w (w_or (t_lt (e_var 4 rfl (pv 4)) e_int) (fun hc => (w_or1 (t_neI (e_call (C_divisor.mono (by decide)) hr hG (a_cons (e_var 3 rfl (pv 3)) (a_cons (e_var 4 rfl (pv 4)) a_nil)) ?hA7) e_int))))))))) (fun hc => (b_ret e_non ?hA8)) (fun hc => (b_ret (e_tup (a_cons (e_var 3 rfl (pv 3)) (a_cons (e_var 4 rfl (pv 4)) a_nil))) ?hA9)))))))
    case hA0 =>
      refine (lcL (i := 2) (x := "part") (ds := [.str (S (tx q.num))]) (Rj := fun j r => r = .int q.num) (R := fun z => z = .list [.int q.num]) rfl sc.nd (show blkC ["word", "parts", "part", "n", "d"] (defScope s_fraction_in) _ [("part", 2)] = true by decide +kernel) rfl (ED.to (e_split (by decide) (by rw [S_len]; exact small_line (by omega)) (e_var 0 rfl (pv 0)) e_str) (congrArg (fun z => PyData.list (List.map PyData.str z)) (fx_parts h1))) (Nat.le_of_ble_eq_true rfl) (fun _ _ _ _ _ => ⟨.inl rfl, .inr rfl⟩) ?_ ?_)
      · intro s1 H1 C1 cl fp D1 acc j d hD hj
        match j, hj with
        | 0, hj => cases hj; exact e_call (C_number_in.mono (by decide)) hr hG (a_cons (e_var 2 rfl (pv 2)) a_nil) ⟨q.num, rfl, hs.1, rfl⟩
        | j + 1, hj => cases hj
      · intro res hl h
        obtain ⟨a, rfl, h0⟩ := res1 hl h
        rw [h0]
    case hA1 => exact sh_none
    case hA2 => simp [SeqAt.shaped, PyData.canLay0, PyData.canLayAll0, PyData.depth, PyData.depthAll]
    case hA3 => exact small_line (Nat.le_of_ble_eq_true rfl)
    case hA4 =>
      exfalso
      simp [PyData.eqv] at hc
    case hA5 => exact small_line (Nat.le_of_ble_eq_true rfl)
    case hA6 => exact small_line (Nat.le_of_ble_eq_true rfl)
    case hA7 => exact ⟨_, _, rfl, rfl⟩
    case hA8 =>
      exfalso
      simp at hc
    case hA9 =>
      have e : (.tuple [.int q.num, .int 1] : D) = encQ q := by
        unfold encQ
        rw [h1]
        rfl
      rw [← e] at qq
      exact qq
  · refine' (b_lc 1 (d := .list [.int q.num, .int (q.den : Int)]) rfl rfl ?hB0 (b_if1 (t_w (w_or (t_inL (hu65 hr) ?hB1 ?hB2 e_non (e_var 1 rfl (pv 1))) (fun hc => (w_or1 (t_gt (e_len T.f_len (e_var 1 rfl (pv 1)) rfl ?hB3) e_int))))) (fun hc => (b_ret e_non ?hB4)) (fun hc => (b_par 3 4 rfl sc.nd rfl rfl (by decide) rfl rfl (a_cons (e_atL (e_var 1 rfl (pv 1)) rfl) (a_cons (e_ifI (t_eqI (e_len T.f_len (e_var 1 rfl (pv 1)) rfl ?hB5) e_int) (fun hc => (e_atL (e_var 1 rfl (pv 1)) rfl)) (fun hc => e_int)) a_nil)) rfl (b_if1 (t_w (w_and (t_eqI (e_len T.f_len (e_var 1 rfl (pv 1)) rfl ?hB6) e_int) (fun hc => (w_and1 (t_w (w_or (t_lt (e_var 4 rfl (pv 4)) e_int) (fun hc => (w_or1 (t_neI (e_call (C_divisor.mono (by decide)) hr hG (a_cons (e_var 3 rfl (pv 3)) (a_cons (e_var 4 rfl (pv 4)) a_nil)) ?hB7) e_int))))))))) (fun hc => (b_ret e_non ?hB8)) (fun hc => (b_ret (e_tup (a_cons (e_var 3 rfl (pv 3)) (a_cons (e_var 4 rfl (pv 4)) a_nil))) ?hB9)))))))
    case hB0 =>
      refine (lcL (i := 2) (x := "part") (ds := [.str (S (tx q.num)), .str (S (tx (q.den : Int)))]) (Rj := fun j r => ∀ z : Int, [q.num, (q.den : Int)][j]? = some z → r = .int z) (R := fun z => z = .list [.int q.num, .int (q.den : Int)]) rfl sc.nd (show blkC ["word", "parts", "part", "n", "d"] (defScope s_fraction_in) _ [("part", 2)] = true by decide +kernel) rfl (ED.to (e_split (by decide) (by rw [S_len]; exact small_line (by omega)) (e_var 0 rfl (pv 0)) e_str) (congrArg (fun z => PyData.list (List.map PyData.str z)) (fx_parts2 h1))) (Nat.le_of_ble_eq_true rfl) (fun _ _ _ _ _ => ⟨.inl rfl, .inr rfl⟩) ?_ ?_)
      · intro s1 H1 C1 cl fp D1 acc j d hD hj
        match j, hj with
        | 0, hj => cases hj; exact e_callR (C_number_in.mono (by decide)) hr hG (a_cons (e_var 2 rfl (pv 2)) a_nil) (fun ds e => by subst e; exact ⟨q.num, rfl, hs.1, fun z hz => by cases hz; rfl⟩)
        | 1, hj => cases hj; exact e_callR (C_number_in.mono (by decide)) hr hG (a_cons (e_var 2 rfl (pv 2)) a_nil) (fun ds e => by subst e; exact ⟨(q.den : Int), rfl, hd, fun z hz => by cases hz; rfl⟩)
        | j + 2, hj => cases hj
      · intro res hl h
        obtain ⟨a, b, rfl, h0, h1⟩ := res2 hl h
        rw [h0 _ rfl, h1 _ rfl]
    case hB1 => exact sh_none
    case hB2 => simp [SeqAt.shaped, PyData.canLay0, PyData.canLayAll0, PyData.depth, PyData.depthAll]
    case hB3 => exact small_line (Nat.le_of_ble_eq_true rfl)
    case hB4 =>
      exfalso
      simp [PyData.eqv] at hc
    case hB5 => exact small_line (Nat.le_of_ble_eq_true rfl)
    case hB6 => exact small_line (Nat.le_of_ble_eq_true rfl)
    case hB7 => exact ⟨_, _, rfl, rfl⟩
    case hB8 =>
      exfalso
      have h2 := den_pos q
      have hc : (decide ((2 : Int) = 2) && (decide ((q.den : Int) < 2) || !decide ((Int.gcd q.num (q.den : Int) : Int) = 1))) = true := hc
      rw [hg, decide_eq_false (show ¬ (q.den : Int) < 2 by omega)] at hc
      simp at hc
    case hB9 => exact qq
def F_root_in : List D → (D → Prop) → Prop := fun ds R => ∃ a b c : Rat, ds = [.str (S (rx a b c))] ∧ RootOk b c ∧ Sz a 300 300 ∧ Sz b 300 300 ∧ Sz c 300 300 ∧ R (encR a b c)
theorem c_root_in (T : Tp K mg) : Cb P w K mg base 6 "root_in" F_root_in := by
  have sc : FnScope ["word", "parts", "part", "found"] ["word"] (defScope s_root_in) := ⟨rfl, rfl, rfl, by decide +kernel, rfl, by decide +kernel, by decide +kernel⟩
  have C_fraction_in := c_fraction_in (P := P) (w := w) (base := base) T
  have C_is_root := c_is_root (P := P) (w := w) (base := base) T
  refine T.cb 45 rfl rfl (st := s_root_in) sc (fun _ _ _ _ _ _ us hl => match us, hl with | [_], _ => rfl) (fun ds R hF => by obtain ⟨a, b, c, rfl, ho, ha, hb, hg, qq⟩ := hF; rfl) ?_
  intro f cdv A l s H E W ds R hr hG hF
  obtain ⟨a, b, c, rfl, ho, ha, hb, hg, qq⟩ := hF
  have hl := rx_len ha hb hg
  by_cases h1 : b = 0
  · have h2 : c = 0 := by
      rcases ho with h | h
      · exact h.2
      · exact absurd h1 h.1
    subst h1 h2
    refine' (b_lc 1 (d := .list [encQ a]) rfl rfl ?hA0 (b_if1 (t_w (w_or (t_inL (hu65 hr) ?hA1 ?hA2 e_non (e_var 1 rfl (pv 1))) (fun hc => (w_or1 (t_notInT (hu65 hr) ?hA3 ?hA4 (e_len T.f_len (e_var 1 rfl (pv 1)) rfl ?hA5) (e_tup (a_cons e_int (a_cons e_int a_nil)))))))) (fun hc => (b_ret e_non ?hA6)) (fun hc => (b_set 3 sc.nd rfl (.inl rfl) (e_if (t_eqI (e_len T.f_len (e_var 1 rfl (pv 1)) rfl ?hA7) e_int) (fun hc => absurd hc (by first | decide | simp)) (fun hc => (e_tup (a_cons (e_atL (e_var 1 rfl (pv 1)) rfl) (a_cons (e_tup (a_cons e_int (a_cons e_int a_nil))) (a_cons (e_tup (a_cons e_int (a_cons e_int a_nil))) a_nil)))))) (b_ret (e_ifD (t_w (w_and (t_val (e_call (C_is_root.mono (by decide)) hr hG (a_cons (e_var 3 rfl (pv 3)) a_nil) ?hA8)) (fun hc => (w_and1 (t_w (w_or (t_eqI (e_len T.f_len (e_var 1 rfl (pv 1)) rfl ?hA9) e_int) (fun hc => (w_or1 (t_neI (e_at (e_at (e_var 3 rfl (pv 3)) rfl) rfl) e_int))))))))) (fun hc => (e_var 3 rfl (pv 3))) (fun hc => e_non)) ?hA10)))))
    case hA0 =>
      refine (lcL (i := 2) (x := "part") (ds := [.str (S (fx a))]) (Rj := fun j r => r = encQ a) (R := fun z => z = .list [encQ a]) rfl sc.nd (show blkC ["word", "parts", "part", "found"] (defScope s_root_in) _ [("part", 2)] = true by decide +kernel) rfl (ED.to (e_split (by decide) (by rw [S_len]; exact small_line (by omega)) (e_var 0 rfl (pv 0)) e_str) (congrArg (fun z => PyData.list (List.map PyData.str z)) (rx_parts rfl))) (Nat.le_of_ble_eq_true rfl) (fun _ _ _ _ _ => ⟨.inl rfl, .inr rfl⟩) ?_ ?_)
      · intro s1 H1 C1 cl fp D1 acc j d hD hj
        match j, hj with
        | 0, hj => cases hj; exact e_call (C_fraction_in.mono (by decide)) hr hG (a_cons (e_var 2 rfl (pv 2)) a_nil) ⟨a, rfl, ha, rfl⟩
        | j + 1, hj => cases hj
      · intro res hl h
        obtain ⟨a, rfl, h0⟩ := res1 hl h
        rw [h0]
    case hA1 => exact sh_none
    case hA2 => simp [encQ, SeqAt.shaped, PyData.canLay0, PyData.canLayAll0, PyData.depth, PyData.depthAll]
    case hA3 => exact sh_int _
    case hA4 => simp [SeqAt.shaped, PyData.canLay0, PyData.canLayAll0, PyData.depth, PyData.depthAll]
    case hA5 => exact small_line (Nat.le_of_ble_eq_true rfl)
    case hA6 =>
      exfalso
      simp [encQ, PyData.eqv] at hc
    case hA7 => exact small_line (Nat.le_of_ble_eq_true rfl)
    case hA8 => exact ⟨a, 0, 0, rfl, ho, rfl⟩
    case hA9 => exact small_line (Nat.le_of_ble_eq_true rfl)
    case hA10 => exact qq
  · refine' (b_lc 1 (d := .list [encQ a, encQ b, encQ c]) rfl rfl ?hB0 (b_if1 (t_w (w_or (t_inL (hu65 hr) ?hB1 ?hB2 e_non (e_var 1 rfl (pv 1))) (fun hc => (w_or1 (t_notInT (hu65 hr) ?hB3 ?hB4 (e_len T.f_len (e_var 1 rfl (pv 1)) rfl ?hB5) (e_tup (a_cons e_int (a_cons e_int a_nil)))))))) (fun hc => (b_ret e_non ?hB6)) (fun hc => (b_set 3 sc.nd rfl (.inl rfl) (e_if (t_eqI (e_len T.f_len (e_var 1 rfl (pv 1)) rfl ?hB7) e_int) (fun hc => (e_tupleL T.f_tuple (e_var 1 rfl (pv 1)))) (fun hc => absurd hc (by first | decide | simp))) (b_ret (e_ifD (t_w (w_and (t_val (e_call (C_is_root.mono (by decide)) hr hG (a_cons (e_var 3 rfl (pv 3)) a_nil) ?hB8)) (fun hc => (w_and1 (t_w (w_or (t_eqI (e_len T.f_len (e_var 1 rfl (pv 1)) rfl ?hB9) e_int) (fun hc => (w_or1 (t_neI (e_at (e_at (e_var 3 rfl (pv 3)) rfl) rfl) e_int))))))))) (fun hc => (e_var 3 rfl (pv 3))) (fun hc => e_non)) ?hB10)))))
    case hB0 =>
      refine (lcL (i := 2) (x := "part") (ds := [.str (S (fx a)), .str (S (fx b)), .str (S (fx c))]) (Rj := fun j r => ∀ z : Rat, [a, b, c][j]? = some z → r = encQ z) (R := fun z => z = .list [encQ a, encQ b, encQ c]) rfl sc.nd (show blkC ["word", "parts", "part", "found"] (defScope s_root_in) _ [("part", 2)] = true by decide +kernel) rfl (ED.to (e_split (by decide) (by rw [S_len]; exact small_line (by omega)) (e_var 0 rfl (pv 0)) e_str) (congrArg (fun z => PyData.list (List.map PyData.str z)) (rx_parts2 h1))) (Nat.le_of_ble_eq_true rfl) (fun _ _ _ _ _ => ⟨.inl rfl, .inr rfl⟩) ?_ ?_)
      · intro s1 H1 C1 cl fp D1 acc j d hD hj
        match j, hj with
        | 0, hj => cases hj; exact e_callR (C_fraction_in.mono (by decide)) hr hG (a_cons (e_var 2 rfl (pv 2)) a_nil) (fun ds e => by subst e; exact ⟨a, rfl, ha, fun z hz => by cases hz; rfl⟩)
        | 1, hj => cases hj; exact e_callR (C_fraction_in.mono (by decide)) hr hG (a_cons (e_var 2 rfl (pv 2)) a_nil) (fun ds e => by subst e; exact ⟨b, rfl, hb, fun z hz => by cases hz; rfl⟩)
        | 2, hj => cases hj; exact e_callR (C_fraction_in.mono (by decide)) hr hG (a_cons (e_var 2 rfl (pv 2)) a_nil) (fun ds e => by subst e; exact ⟨c, rfl, hg, fun z hz => by cases hz; rfl⟩)
        | j + 3, hj => cases hj
      · intro res hl h
        obtain ⟨x, y, z, rfl, h0, h1, h2⟩ := res3 hl h
        rw [h0 _ rfl, h1 _ rfl, h2 _ rfl]
    case hB1 => exact sh_none
    case hB2 => simp [encQ, SeqAt.shaped, PyData.canLay0, PyData.canLayAll0, PyData.depth, PyData.depthAll]
    case hB3 => exact sh_int _
    case hB4 => simp [SeqAt.shaped, PyData.canLay0, PyData.canLayAll0, PyData.depth, PyData.depthAll]
    case hB5 => exact small_line (Nat.le_of_ble_eq_true rfl)
    case hB6 =>
      exfalso
      simp [encQ, PyData.eqv] at hc
    case hB7 => exact small_line (Nat.le_of_ble_eq_true rfl)
    case hB8 => exact ⟨a, b, c, rfl, ho, rfl⟩
    case hB9 => exact small_line (Nat.le_of_ble_eq_true rfl)
    case hB10 =>
      have hn : ¬ b.num = 0 := fun z => h1 (Rat.num_eq_zero.mp z)
      have e : (true && (decide ((3 : Int) = 1) || !decide (b.num = 0))) = true := by
        rw [decide_eq_false hn]
        rfl
      show R (if (true && (decide ((3 : Int) = 1) || !decide (b.num = 0))) = true then encR a b c else .none)
      rw [e, if_pos rfl]
      exact qq
end K65
end
section
set_option Elab.async false
set_option linter.all false
set_option maxRecDepth 100000
set_option maxHeartbeats 2000000
/-! DL7: defs as values, contracts over raw values, zip. -/
namespace DL
open PySem PySem.Spec PyProof.Rows L2
/-! ### defs held at an address -/
structure Fn (P : Program) (w : World) (K : PySem.W.Frag) (mg : Str → Option Value) (base : Heap) (k : Nat) (f : Addr) (F : List D → (D → Prop) → Prop) : Prop where
  ex : ∃ (fd : FuncData) (ps : List Str), PySem.W.keepIn K (.ref f) = true ∧ FG P w K mg base CX0 k f fd ps (spD K F) ∧ Binds K fd ps []
section
variable {P : Program} {w : World} {K : PySem.W.Frag} {mg : Str → Option Value} {base : Heap} {k : Nat} {x : Str} {F : List D → (D → Prop) → Prop} {f : Addr}
theorem Cb.fn (C : Cb P w K mg base k x F) : ∃ f, mg x = some (.ref f) ∧ Fn P w K mg base k f F := by
  obtain ⟨f, fd, ps, h1, h2, h3, h4⟩ := C.ex
  exact ⟨f, h1, fd, ps, h2, h3, h4⟩
theorem Fn.mono {j : Nat} (C : Fn P w K mg base j f F) (h : j ≤ k) : Fn P w K mg base k f F := by
  obtain ⟨fd, ps, h2, h3, h4⟩ := C.ex
  exact ⟨fd, ps, h2, h3.mono h, h4⟩
end
/-- the i-th slot holds the def at f -/
def tCallLG (i : Nat) (f : Addr) (sp : Sp) (t : TA) : TE := fun σ H Q => σ[i]? = some (some (.ref f)) ∧ t σ H fun vs H1 => sp vs H1 Q (fun _ _ _ => False)
section
variable {X : Cx} {W : Wd} {ρ : En} {a b c e e1 e2 elt : Expr} {es : List Expr} {pos p px py pz pt pc : Pos} {R : D → Prop} {x y : Str} {i j k : Nat} {f : Addr} {fd : FuncData} {ps : List Str} {sp : Sp} {t : TA} {scope : Scope} {Rj : Nat → DL.D → Prop} {kt : Nat}
theorem pe_callLG {kk : Nat} (F : FG X.prog X.w X.K X.mg X.base CX0 kk f fd ps sp) (hr : Room kk X.A) (hG : X.A.guards = some []) (hv : PE X (.Name x p) (tVar i)) (hk : PySem.W.keepIn X.K (.ref f) = true) (hb : Binds X.K fd ps []) (ha : PA X (e :: es) t)
    (he : starEach (e :: es) X.env = (false, eval e X.env) :: starEach es X.env := by rfl) (hpl : (backTo pos (starEach es X.env)).any (·.1) = false := by rfl) : PE X (.Call (.Name x p) (e :: es) [] pos) (tCallLG i f sp t) := by
  refine ⟨fun pins s σ H Q I h => ?_⟩
  obtain ⟨hs, ht⟩ := h
  refine wpAny_Call_Name_kw (thn (hv.run pins s σ H (fun v H1 => v = .ref f ∧ H1 = H) I ⟨.ref f, hs, rfl, rfl⟩) fun u s1 ⟨v, H1, I1, r1, q1⟩ => ?_)
  obtain ⟨rfl, rfl⟩ := q1
  cases r1
  refine PySem.W.callWith_K (h₀ := X.base) I.ok.mod.kin hk (thn (ha.run pos pins s1 σ _ _ I1 ht) fun us s2 ⟨vs, H2, I2, r, q⟩ => ⟨I2.kIn, ?_⟩) he hpl
  exact run_fg F hr hG hb pass0 I2 r q
/-- a call of a name that holds a def -/
theorem e_callL {kk : Nat} {F : List D → (D → Prop) → Prop} {ds : List D} {d : D} (C : Fn X.prog X.w X.K X.mg X.base kk f F) (hr : Room kk X.A) (hG : X.A.guards = some []) (hv : PE X (.Name x p) (tVar i)) (hi : ρ[i]? = some (.v (.ref f))) (ha : AD X W ρ (e :: es) ds) (h : F ds (fun z => z = d))
    (he : starEach (e :: es) X.env = (false, eval e X.env) :: starEach es X.env := by rfl) (hpl : (backTo pos (starEach es X.env)).any (·.1) = false := by rfl) : ED X W ρ (.Call (.Name x p) (e :: es) [] pos) d := by
  obtain ⟨fd, ps, h2, h3, h4⟩ := C.ex
  exact pe_imp (pe_callLG h3 hr hG hv h2 h4 ha he hpl) fun σ H Q ⟨hB, hR, q⟩ => ⟨hR.2 i _ hi, hB, hR, fun ds' vs H1 rs B1 l1 p1 => by
    subst rs
    exact ⟨W, ds', _, B1, p1, h, fun d v H2 r2 B2 l2 p2 => q d v H2 r2 B2 (l1.trans l2) p2⟩⟩
/-! ### contracts over data and raw values -/
def BearV (K : PySem.W.Frag) (H : Hp) (v : V) : Sl → Prop
  | .no => True
  | .d x => Dp K H v x
  | .v x => v = x
inductive BearAll (K : PySem.W.Frag) (H : Hp) : List V → List Sl → Prop
  | nil : BearAll K H [] []
  | cons {v : V} {s : Sl} {vs : List V} {ss : List Sl} (h : BearV K H v s) (r : BearAll K H vs ss) : BearAll K H (v :: vs) (s :: ss)
theorem BearAll.len {K : PySem.W.Frag} {H : Hp} {vs : List V} {ss : List Sl} (h : BearAll K H vs ss) : vs.length = ss.length := by
  induction h with
  | nil => rfl
  | cons _ _ ih => rw [List.length_cons, List.length_cons, ih]
theorem BearV.mono {K : PySem.W.Frag} {H H' : Hp} (e : Same H H') {v : V} {s : Sl} (h : BearV K H v s) : BearV K H' v s := by
  cases s with
  | no => trivial
  | d x => exact dp_mono e _ _ h
  | v x => exact h
theorem BearAll.get {K : PySem.W.Frag} {H : Hp} {vs : List V} {ss : List Sl} (h : BearAll K H vs ss) : ∀ {i : Nat} {x : Sl}, ss[i]? = some x → Bear K H (vs[i]?.map some) x := by
  induction h with
  | nil => intro i x e; simp at e
  | @cons v s vs ss h r ih =>
    intro i x e
    cases i with
    | zero =>
      have e : s = x := by simpa using e
      subst e
      cases s with
      | no => trivial
      | d x => exact ⟨v, rfl, h⟩
      | v x => exact congrArg (fun z => some (some z)) h
    | succ i => exact ih (by simpa using e)
def startS (n : Nat) (ss : List Sl) : En := ss ++ List.replicate (n - ss.length) Sl.no
theorem re_startS {K : PySem.W.Frag} {H : Hp} {N : List Str} {vs : List V} {ss : List Sl} (h : BearAll K H vs ss) : RE K H (L2.start N vs) (startS N.length ss) := by
  have hl := h.len
  refine ⟨?_, fun i x e => ?_⟩
  · unfold L2.start startS
    rw [List.length_append, List.length_append, List.length_map, List.length_replicate, List.length_replicate, hl]
  · unfold startS at e
    unfold L2.start
    by_cases hi : i < ss.length
    · rw [List.getElem?_append_left hi] at e
      rw [List.getElem?_append_left (by rw [List.length_map, hl]; exact hi), List.getElem?_map]
      exact h.get e
    · rw [List.getElem?_append_right (by omega), List.getElem?_replicate] at e
      split at e
      · cases e
        trivial
      · cases e
def spS (K : PySem.W.Frag) (F : Wd → List Sl → (D → Prop) → Prop) : Sp := fun vs H Q _ => ∃ (W : Wd) (ss : List Sl) (R : D → Prop), W.B H ∧ BearAll K (mask W.M H) vs ss ∧ F W ss R ∧
  ∀ (d : D) (v : V) (H' : Hp), R d → W.B H' → Rel W.M H H' → Dp K (mask W.M H') v d → Q v H'
structure Cw (P : Program) (w : World) (K : PySem.W.Frag) (mg : Str → Option Value) (base : Heap) (k : Nat) (x : Str) (F : Wd → List Sl → (D → Prop) → Prop) : Prop where
  ex : ∃ (f : Addr) (fd : FuncData) (ps : List Str), mg x = some (.ref f) ∧ PySem.W.keepIn K (.ref f) = true ∧ FG P w K mg base CX0 k f fd ps (spS K F) ∧ Binds K fd ps []
theorem Cw.mono {P : Program} {w : World} {K : PySem.W.Frag} {mg : Str → Option Value} {base : Heap} {j k : Nat} {x : Str} {F : Wd → List Sl → (D → Prop) → Prop} (C : Cw P w K mg base j x F) (h : j ≤ k) : Cw P w K mg base k x F := by
  obtain ⟨f, fd, ps, h1, h2, h3, h4⟩ := C.ex
  exact ⟨f, fd, ps, h1, h2, h3.mono h, h4⟩
/-- arguments: data and raw values -/
def tAS (K : PySem.W.Frag) (W : Wd) (ρ : En) (ss : List Sl) : TA := fun σ H Q => W.B H ∧ RE K (mask W.M H) σ ρ ∧ ∀ (vs : List V) (H' : Hp), W.B H' → Rel W.M H H' → BearAll K (mask W.M H') vs ss → Q vs H'
abbrev AS (X : Cx) (W : Wd) (ρ : En) (es : List Expr) (ss : List Sl) : Prop := PA X es (tAS X.K W ρ ss)
variable {ss : List Sl} {d : D} {v : V}
theorem s_nil : AS X W ρ [] [] := pa_imp pa_nil fun σ H Q ⟨hB, hR, q⟩ => q [] H hB (Rel.refl H) .nil
theorem s_cons (ha : ED X W ρ e d) (hr : AS X W ρ es ss) (hs : starEach (e :: es) X.env = (false, eval e X.env) :: starEach es X.env := by rfl) : AS X W ρ (e :: es) (.d d :: ss) :=
  pa_imp (pa_cons ha hr hs) fun σ H Q ⟨hB, hR, q⟩ => ⟨hB, hR, fun d' v' H1 rd B1 l1 p1 => ⟨B1, hR.mono l1, fun vs H2 B2 l2 p2 => by
    subst rd
    exact q (v' :: vs) H2 B2 (l1.trans l2) (.cons (dp_mono l2 _ _ p1) p2)⟩⟩
theorem s_raw (hv : PE X e (tVar i)) (hi : ρ[i]? = some (.v v)) (hr : AS X W ρ es ss) (hs : starEach (e :: es) X.env = (false, eval e X.env) :: starEach es X.env := by rfl) : AS X W ρ (e :: es) (.v v :: ss) :=
  pa_imp (pa_cons hv hr hs) fun σ H Q ⟨hB, hR, q⟩ => ⟨v, hR.2 i _ hi, hB, hR, fun vs H2 B2 l2 p2 => q (v :: vs) H2 B2 l2 (.cons rfl p2)⟩
theorem s_k (hv : PE X e (tC v)) (hr : AS X W ρ es ss) (hs : starEach (e :: es) X.env = (false, eval e X.env) :: starEach es X.env := by rfl) : AS X W ρ (e :: es) (.v v :: ss) :=
  pa_imp (pa_cons hv hr hs) fun σ H Q ⟨hB, hR, q⟩ => ⟨hB, hR, fun vs H2 B2 l2 p2 => q (v :: vs) H2 B2 l2 (.cons rfl p2)⟩
theorem e_callW {kk : Nat} {F : Wd → List Sl → (D → Prop) → Prop} (C : Cw X.prog X.w X.K X.mg X.base kk x F) (hr : Room kk X.A) (hG : X.A.guards = some []) (ha : AS X W ρ (e :: es) ss) (h : F W ss R) (hg : Gl X x := by rfl) (hd : (x == ("__debug__" : Str)) = false := by decide)
    (he : starEach (e :: es) X.env = (false, eval e X.env) :: starEach es X.env := by rfl) (hpl : (backTo pos (starEach es X.env)).any (·.1) = false := by rfl) : EDr X W ρ (.Call (.Name x p) (e :: es) [] pos) R := by
  obtain ⟨f, fd, ps, h1, h2, h3, h4⟩ := C.ex
  exact pe_imp (pe_callG h3 hr hG hg h1 h2 h4 pass0 ha hd he hpl) fun σ H Q ⟨hB, hR, q⟩ => ⟨hB, hR, fun vs H1 B1 l1 p1 => ⟨W, ss, R, B1, p1, h, fun d v H2 r2 B2 l2 p2 => q d v H2 r2 B2 (l1.trans l2) p2⟩⟩
/-- a def of the text does F, by its body -/
theorem cw_of {P : Program} {w : World} {K : PySem.W.Frag} {mg : Str → Option Value} {base : Heap} {k : Nat} {x name qual : Str} {params : Arguments} {body : List Stmt} {scope : Scope} {f : Addr} {fd : FuncData} {N ps : List Str} {F : Wd → List Sl → (D → Prop) → Prop}
    (U : FunD K name qual params body scope [] [] f fd) (hm : mg x = some (.ref f)) (S : FnScope N ps scope) (hb : Binds K fd ps []) (hl : ∀ W ss R, F W ss R → ss.length = ps.length)
    (hbody : ∀ (cdv : Value) (A : Around) (l : List Env) (s : Shared) (H : Hp) (E : XK) (W : Wd) (ss : List Sl) (R : D → Prop), Room k (A.deeper (envOfC qual scope s.heap.objs.size f cdv)) → (A.deeper (envOfC qual scope s.heap.objs.size f cdv)).guards = some [] → F W ss R →
      BD (cxOf CX0 P w K mg base N qual scope f cdv A l s H E).nox W (startS N.length ss) body (fun o => match o with | .rt d => R d | .nx _ => R .none | _ => False)) : Cw P w K mg base (k + 1) x F := by
  refine ⟨f, fd, ps, hm, U.kp, FG.of U S (fun vs H Q E q => ?_) (fun cdv A l s H vs Q E hr hG q => ?_), hb⟩
  · obtain ⟨W, ss, R, _, p1, f1, _⟩ := q
    rw [p1.len]
    exact hl W ss R f1
  · obtain ⟨W, ss, R, hB, p1, f1, q1⟩ := q
    refine ⟨_, (hbody cdv A l s H E W ss R hr hG f1).nox, hB, re_startS p1, ?_, ?_, ?_, ?_⟩
    · exact fun ρ' σ' H' r' B' l' r2 => q1 .none .non H' r' B' l' .non
    · exact fun d v H' r' B' l' p' => q1 d v H' r' B' l' p'
    · exact fun ρ' σ' H' r' => r'.elim
    · exact fun ρ' σ' H' r' => r'.elim
/-! ### a list of raw values made for a call -/
theorem push_back {W : Wd} {H : Hp} {D : Addr} {acc : List V} : Same (mask (W.push D acc).M H) (mask W.M H) := fun a o e => by
  obtain ⟨m, e1⟩ := mask_of e
  rw [mask_at (push_M m).1]
  exact e1
def tCs (vs : List V) : TA := fun _ H Q => Q vs H
theorem k_nil : PA X [] (tCs []) := pa_imp pa_nil fun _ _ _ q => q
theorem k_cons {vs : List V} (hv : PE X e (tC v)) (hr : PA X es (tCs vs)) (hs : starEach (e :: es) X.env = (false, eval e X.env) :: starEach es X.env := by rfl) : PA X (e :: es) (tCs (v :: vs)) := pa_imp (pa_cons hv hr hs) fun _ _ _ q => q
theorem e_callP {kk : Nat} {F : Wd → List Sl → (D → Prop) → Prop} {vs : List V} (C : Cw X.prog X.w X.K X.mg X.base kk x F) (hr : Room kk X.A) (hG : X.A.guards = some []) (ha : ED X W ρ e d) (hl : PA X es (tCs vs)) (hz : vs.length ≤ 1000)
    (h : ∀ l, W.M l = false → F (W.push l vs) [.d d, .v (.ref l)] R) (hg : Gl X x := by rfl) (hd : (x == ("__debug__" : Str)) = false := by decide)
    (hs1 : starEach [.List es pt] X.env = (false, eval (.List es pt) X.env) :: starEach [] X.env := by rfl)
    (he : starEach [e, .List es pt] X.env = (false, eval e X.env) :: starEach [.List es pt] X.env := by rfl) (hpl : (backTo pos (starEach [.List es pt] X.env)).any (·.1) = false := by rfl) : EDr X W ρ (.Call (.Name x p) [e, .List es pt] [] pos) R := by
  obtain ⟨f, fd, ps, h1, h2, h3, h4⟩ := C.ex
  refine pe_imp (pe_callG h3 hr hG hg h1 h2 h4 pass0 (pa_cons ha (pa_cons (pe_lst hl) pa_nil hs1) he) hd he hpl) fun σ H Q ⟨hB, hR, q⟩ => ⟨hB, hR, fun d' v' H1 rd B1 l1 p1 => ?_⟩
  subst rd
  refine ⟨Nat.le_of_lt (small1000 hz), fun l hl1 => ?_⟩
  obtain ⟨hm, hB2⟩ := W.st H1 l (.lst vs) B1 hl1
  have hnew : Rel W.M H1 (upd H1 l (.lst vs)) := Rel.new hl1 hm
  have s1 : Same (mask W.M H1) (mask (W.push l vs).M (upd H1 l (.lst vs))) := push_same hl1 hnew
  refine ⟨W.push l vs, _, R, ⟨hB2, upd_same⟩, BearAll.cons (s := .d d') (dp_mono s1 _ _ p1) (BearAll.cons (s := .v (.ref l)) rfl .nil), h l hm, fun d2 v2 H2 r2 B2 l2 p2 => ?_⟩
  refine q d2 v2 H2 r2 B2.1 (l1.trans ?_) (dp_mono push_back _ _ p2)
  exact fun a o e => push_back a o (l2 a o (s1 a o e))
/-- len of a raw list -/
theorem e_lenV {l : Addr} {vs : List V} (hm : X.mg "len" = none) (hv : PE X e (tVar i)) (hi : ρ[i]? = some (.v (.ref l))) (hl : ∀ H, W.B H → H l = some (.lst vs)) (hg : Gl X "len" := by rfl) (he : starEach [e] X.env = (false, eval e X.env) :: starEach [] X.env := by rfl) :
    ED X W ρ (.Call (.Name "len" p) [e] [] pos) (.int vs.length) :=
  pe_imp (pe_callB call_len hg hm (by decide +kernel) (pa_cons hv pa_nil he) (by decide) (by decide) he) fun σ H Q ⟨hB, hR, q⟩ => ⟨.ref l, hR.2 i _ hi, ⟨.ref l, vs.length, rfl, .inl ⟨vs, SqL.of (hl H hB), rfl⟩, q _ _ H rfl hB (Rel.refl H) (.int _)⟩⟩
/-! ### [elt for x, y in zip(raw list, list)] -/
theorem RE.setNo {K : PySem.W.Frag} {H : Hp} {σ : L2.St} {ρ : En} {i : Nat} (h : RE K H σ ρ) {o : Option V} : RE K H (σ.set i o) (ρ.set i .no) := by
  refine ⟨by rw [List.length_set, List.length_set, h.1], fun j y e => ?_⟩
  by_cases hj : i = j
  · subst hj
    by_cases hl : i < ρ.length
    · rw [List.getElem?_set_self hl] at e
      cases e
      trivial
    · rw [List.getElem?_eq_none (by rw [List.length_set]; omega)] at e
      cases e
  · rw [List.getElem?_set_ne hj] at e
    rw [List.getElem?_set_ne hj]
    exact h.2 j y e
theorem lcI_new {K : PySem.W.Frag} {H1 H : Hp} {D T : Addr} {j : Nat} {o : HO} (h : LcI K W H1 D Rj j H) (hT : H T = none) : LcI K W H1 D Rj j (upd H T o) := by
  obtain ⟨vs, res, hB, l, hd, p, hl, hr⟩ := h
  obtain ⟨c1, c2, c3⟩ := W.new (o := o) hB hT
  have ne : D ≠ T := fun e => by rw [e, hT] at hd; cases hd
  refine ⟨vs, res, c1, l.trans c2, by rw [upd_ne ne]; exact hd, dps_mono (fun a u e => ?_) _ _ p, hl, hr⟩
  obtain ⟨m, e1⟩ := mask_of e
  rw [mask_at m, upd_ne (ne_of_none e1 hT)]
  exact e1
/-- one turn, whatever the slots -/
theorem lcI_turnG {K : PySem.W.Frag} {H1 H : Hp} {D : Addr} {n : Nat} {σ2 : L2.St} {ρ2 : En} {te0 : TE} (hD : H1 D = none) (hm : W.M D = false) (hR2 : RE K (mask W.M H1) σ2 ρ2) (hn : j < n) (hz : n ≤ 1000) (h : LcI K W H1 D Rj j H)
    (hte : ∀ (acc : List V) (H : Hp) (Q : VK), tE K (W.push D acc) ρ2 (Rj j) σ2 H Q → te0 σ2 H Q) :
    te0 σ2 H fun y H4 => ∃ acc, H4 D = some (.lst acc) ∧ acc.length < sizeLine ∧ LcI K W H1 D Rj (j + 1) (upd H4 D (.lst (acc ++ [y]))) := by
  obtain ⟨vs, res, hB, l, hd, p, hl, hr⟩ := h
  have s1 : Same (mask W.M H1) (mask (W.push D vs).M H) := push_same hD l
  refine hte vs H _ ⟨⟨hB, hd⟩, hR2.mono s1, fun r y H4 rr B4 l4 p4 => ?_⟩
  obtain ⟨hB4, hd4⟩ := B4
  have hvl : vs.length = j := by rw [DpAll.len p, hl]
  refine ⟨vs, hd4, small1000 (by omega), vs ++ [y], res ++ [r], W.off hB4 hm, ?_, upd_same, ?_, ?_, ?_⟩
  · intro a o e
    obtain ⟨m, e1⟩ := mask_of e
    have ne : a ≠ D := ne_of_none e1 hD
    have m2 : (W.push D vs).M a = false := push_Mi m ne
    have e2 := s1 a o e
    have e3 := l4 a o e2
    rw [mask_at m2] at e3
    rw [mask_at m, upd_ne ne]
    exact e3
  · have e : mask (W.push D []).M (upd H4 D (.lst (vs ++ [y]))) = mask (W.push D []).M H4 := mask_upd push_D
    rw [e]
    exact dps_app1 (dps_mono l4 _ _ p) p4
  · rw [List.length_append, hl]; rfl
  · intro k x e
    by_cases hk : k < res.length
    · rw [List.getElem?_append_left hk] at e
      exact hr k x e
    · rw [List.getElem?_append_right (by omega)] at e
      have hk0 : k - res.length = 0 := by
        cases q : k - res.length with
        | zero => rfl
        | succ m => rw [q] at e; simp at e
      rw [hk0] at e
      have e1 : r = x := by simpa using e
      have e2 : k = j := by omega
      rw [← e1, e2]
      exact rr
def ρz (ρ : En) (i k : Nat) (v : V) (d : D) : En := (((ρ.set k .no).set i .no).set i (.v v)).set k (.d d)
def tElZ (K : PySem.W.Frag) (W : Wd) (ρ : En) (i k : Nat) (C : Nat → V → PyData → Prop) (Rj : Nat → PyData → Prop) : TE := fun σ H Q => ∃ (L : Addr) (acc : List V) (j : Nat) (v : V) (d : PyData), W.M L = false ∧ C j v d ∧ tE K (W.push L acc) (ρz ρ i k v d) (Rj j) σ H Q
theorem lcZ {i1 : Nat} {l : Addr} {vs : List V} {ds : List D} (hc : X.calm = true) (nd : X.N.Nodup) (ok : blkC X.N X.env.scope scope [(x, i), (y, k)] = true) (hi : X.N[i]? = some x) (hk : X.N[k]? = some y) (hik : i ≠ k) (hm : X.mg "zip" = none)
    (h1 : PE X e1 (tVar i1)) (hi1 : ρ[i1]? = some (.v (.ref l))) (hl : ∀ H, W.B H → H l = some (.lst vs)) (he : ED X W ρ e2 (.list ds)) (hlen : vs.length = ds.length) (hz : ds.length ≤ 1000)
    (hx : BlkX X scope fun Y => Loc Y.env.scope x ∧ (Y.fn x = true ∨ Y.env.scope.names.lookup x = some .local)) (hy : BlkX X scope fun Y => Loc Y.env.scope y ∧ (Y.fn y = true ∨ Y.env.scope.names.lookup y = some .local))
    (hel : BlkX X scope fun Y => ∀ (D : Addr) (acc : List V) (j : Nat) (v : V) (d : DL.D), W.M D = false → vs[j]? = some v → ds[j]? = some d → EDr Y (W.push D acc) (ρz ρ i k v d) elt (Rj j))
    (hres : ∀ res : List DL.D, res.length = ds.length → (∀ (i : Nat) (r : DL.D), res[i]? = some r → Rj i r) → R (.list res))
    (hg : Gl X "zip" := by rfl) (hs1 : starEach [e1, e2] X.env = (false, eval e1 X.env) :: starEach [e2] X.env := by rfl) (hs2 : starEach [e2] X.env = (false, eval e2 X.env) :: starEach [] X.env := by rfl) (hpl : (backTo pc (starEach [e2] X.env)).any (·.1) = false := by rfl)
    (hs : ∀ z, foldedSetIterable (.Call (.Name "zip" pz) [e1, e2] [] pc) X.env z = pure z := by intro _; rfl)
    (hn : BlkX X scope fun Y => (assignEach [.Name x px, .Name y py] Y.env).length = 2 := by intro _ _ _ _ _; rfl) (hst : BlkX X scope fun Y => (assignEach [.Name x px, .Name y py] Y.env).findIdx? (·.1) = none := by intro _ _ _ _ _; rfl)
    (hc1 : BlkX X scope fun Y => (assignEach [.Name x px, .Name y py] Y.env).map (·.2) = assign (.Name x px) Y.env :: (assignEach [.Name y py] Y.env).map (·.2) := by intro _ _ _ _ _; rfl) (hc2 : BlkX X scope fun Y => (assignEach [.Name y py] Y.env).map (·.2) = assign (.Name y py) Y.env :: (assignEach [] Y.env).map (·.2) := by intro _ _ _ _ _; rfl) :
    LC X W ρ (.ListComp elt [⟨.Tuple [.Name x px, .Name y py] kt pt, .Call (.Name "zip" pz) [e1, e2] [] pc, [], 0⟩] scope pos) R := by
  have hte : BlkX X scope fun Y => PE Y elt (tElZ X.K W ρ i k (fun j v d => vs[j]? = some v ∧ ds[j]? = some d) Rj) :=
    fun s H C cl fp => ⟨fun pins s' σ H' Q I ⟨D, acc, j, v, d, h1, ⟨h2, h3⟩, h4⟩ => (hel s H C cl fp D acc j v d h1 h2 h3).run pins s' σ H' Q I h4⟩
  refine LC.mk (own := [(x, i), (y, k)]) (g := gTup X.K 2 (gCons (gName i) (gCons (gName k) gNil))) hc nd (pi_zip hg hm (pa_cons h1 (pa_cons he pa_nil hs2) hs1) hs1 hpl) (blkOk_by ok)
    (fun s H C cl fp => pg_tup (X := X.blk s H scope (compEnvC scope cl C X.env) fp) hc (pgs_cons (X := X.blk s H scope (compEnvC scope cl C X.env) fp) (pg_name (X := X.blk s H scope (compEnvC scope cl C X.env) fp) (i := i) nd hi (hx s H C cl fp).1 (hx s H C cl fp).2) (pgs_cons (X := X.blk s H scope (compEnvC scope cl C X.env) fp) (pg_name (X := X.blk s H scope (compEnvC scope cl C X.env) fp) (i := k) nd hk (hy s H C cl fp).1 (hy s H C cl fp).2) pgs_nil (hc2 s H C cl fp)) (hc1 s H C cl fp)) (hn s H C cl fp) (hst s H C cl fp))
    (fun _ _ _ _ _ => pts_nil) hte hs fun σ H Q ⟨hB, hR, q⟩ => ?_
  refine ⟨.ref l, hR.2 i1 _ hi1, hB, hR, fun d v H1 r B1 l1 p1 => ?_⟩
  subst r
  obtain ⟨t, xs, e1, e2, e3⟩ := dp_lst p1
  have hlen2 := DpAll.len e3
  refine ⟨l, t, vs, xs, by rw [e1], SqL.of (hl H1 B1), Same.seq mask_le e2, fun D hD => ?_⟩
  have hmD : W.M D = false := (W.st H1 D (.lst []) B1 hD).1
  have hR1 : RE X.K (mask W.M H1) ((σ.set k none).set i none) ((ρ.set k .no).set i .no) := ((hR.mono l1).setNo).setNo
  refine lc_it (walk_zip (K := X.K) (a := l) (b := t) (xs := vs) (ys := xs) (n := ds.length) (by omega)) (g := gTup X.K 2 (gCons (gName i) (gCons (gName k) gNil))) (tt := tYes) (te := tElZ X.K W ρ i k (fun j v d => vs[j]? = some v ∧ ds[j]? = some d) Rj) (vs := [i, k]) (σ := σ) (Qd := fun H2 => Q (.ref D) H2) (LcI X.K W H1 D Rj) (lcI_0 B1 hD) (fun j H2 _ h => ?_) (fun j v2 H2 H3 hj h hy3 => ?_) fun H2 h => ?_
  · obtain ⟨_, _, B2, l2, _⟩ := h
    exact ⟨SqL.of (hl H2 B2), Same.seq mask_le (Same.seq l2 e2)⟩
  · obtain ⟨T, u, z, rfl, hT, rfl, g1, g2⟩ := hy3
    obtain ⟨dd, g3, g4⟩ := DpAll.getV e3 g2
    refine ⟨T, [u, z], rfl, SqT.of upd_same, rfl, u, [z], rfl, z, [], rfl, rfl, ?_, ?_⟩
    · show (((((σ.set k none).set i none).set i (some u)).set k (some z)).set k none).set i none = (σ.set k none).set i none
      rw [List.set_set, List.set_set, List.set_comm _ _ hik, List.set_set, List.set_set]
    · unfold tYes
      refine iteT ?_
      have hR2 : RE X.K (mask W.M H1) ((((σ.set k none).set i none).set i (some u)).set k (some z)) (ρz ρ i k u dd) := (hR1.set (x := .v u) rfl).setD g4
      exact lcI_turnG (te0 := tElZ X.K W ρ i k (fun j v d => vs[j]? = some v ∧ ds[j]? = some d) Rj) hD hmD hR2 hj hz (lcI_new h hT) fun acc H4 Q4 z4 => ⟨D, acc, j, u, dd, hmD, ⟨g1, g3⟩, z4⟩
  · exact lcI_end hmD h hres fun d v H' r B' l' p' => q d v H' r B' (l1.trans l') p'
end
end DL
end
section
set_option Elab.async false
set_option linter.all false
set_option maxRecDepth 100000
set_option maxHeartbeats 4000000
set_option exponentiation.threshold 20000
namespace K65
open PySem PySem.Spec PyProof.Rows L2 DL SX
variable {K : PySem.W.Frag} {mg : Str → Option Value} {P : Program} {w : World} {base : Heap}
/-- a def of the text by its body over data and raw values -/
theorem Tp.cw (T : Tp K mg) (i : Nat) {x name qual : Str} {st : Stmt} {N ps : List Str} {k : Nat} {F : Wd → List Sl → (D → Prop) → Prop}
    (hd : fn[i]? = some ⟨(x, none), name, qual, defArgs st, defBody st, defScope st, [], []⟩) (hf : fa[i]? = some (.glo x)) (S : FnScope N ps (defScope st)) (hb : Binding name qual ps st) (hl : ∀ W ss R, F W ss R → ss.length = ps.length)
    (hbody : ∀ (f : Addr) (cdv : Value) (A : Around) (l : List Env) (s : Shared) (H : Hp) (E : XK) (W : Wd) (ss : List Sl) (R : D → Prop), Room k (A.deeper (envOfC qual (defScope st) s.heap.objs.size f cdv)) → (A.deeper (envOfC qual (defScope st) s.heap.objs.size f cdv)).guards = some [] → F W ss R →
      BD (cxOf CX0 P w K mg base N qual (defScope st) f cdv A l s H E).nox W (startS N.length ss) (defBody st) (fun o => match o with | .rt d => R d | .nx _ => R .none | _ => False)) : Cw P w K mg base (k + 1) x F := by
  obtain ⟨fd, U⟩ := T.c.def_ i hd
  exact cw_of U (T.glo i hf) S (U.bindsN hb) hl (hbody _)
/-! all_in -/
def F_all_in (G : Addr → Prop) : Wd → List Sl → (D → Prop) → Prop := fun W ss R => ∃ (l f : Addr) (d1 d2 : D) (a b c a2 b2 c2 : Rat), ss = [.d (.list [d1, d2]), .v (.ref l)] ∧ (∀ H, W.B H → H l = some (.lst [.ref f, .ref f])) ∧ G f ∧
  F_root_in [d1] (fun z => z = encR a b c) ∧ F_root_in [d2] (fun z => z = encR a2 b2 c2) ∧ R (.list [encR a b c, encR a2 b2 c2])
theorem c_all_in (T : Tp K mg) : Cw P w K mg base 7 "all_in" (F_all_in fun f => Fn P w K mg base 6 f F_root_in) := by
  have sc : FnScope ["words", "reads", "found", "read", "word"] ["words", "reads"] (defScope s_all_in) := ⟨rfl, rfl, rfl, by decide +kernel, rfl, by decide +kernel, by decide +kernel⟩
  refine T.cw 46 rfl rfl (st := s_all_in) sc (fun _ _ _ _ _ _ us hl => match us, hl with | [_, _], _ => rfl) (fun W ss R hF => by obtain ⟨_, _, _, _, _, _, _, _, _, _, rfl, _⟩ := hF; rfl) ?_
  intro f0 cdv A l0 s H E W ss R hr hG hF
  obtain ⟨l, f, d1, d2, a, b, c, a2, b2, c2, rfl, hl, hf, h1, h2, q⟩ := hF
  refine' (b_if1 (t_neI (e_len T.f_len (e_var 0 rfl (pv 0)) rfl ?h0) (e_lenV T.f_len (pv 1) rfl hl)) (fun hc => ?h1) (fun hc => (b_lc 2 (d := .list [encR a b c, encR a2 b2 c2]) rfl rfl ?h2 (b_ret (e_ifD (t_inL (hu65 hr) ?h3 ?h4 e_non (e_var 2 rfl (pv 2))) (fun hc => e_non) (fun hc => (e_var 2 rfl (pv 2)))) ?h5))))
  case h0 => exact small_line (Nat.le_of_ble_eq_true rfl)
  case h1 => simp at hc
  case h2 =>
    refine (lcZ (i := 3) (k := 4) (x := "read") (y := "word") (i1 := 1) (l := l) (vs := [.ref f, .ref f]) (ds := [d1, d2]) (Rj := fun j r => ∀ z, [encR a b c, encR a2 b2 c2][j]? = some z → r = z) (R := fun z => z = .list [encR a b c, encR a2 b2 c2]) rfl sc.nd (show blkC ["words", "reads", "found", "read", "word"] (defScope s_all_in) _ [("read", 3), ("word", 4)] = true by decide +kernel) rfl rfl (by decide) T.f_zip (pv 1) rfl hl (e_var 0 rfl (pv 0)) rfl (Nat.le_of_ble_eq_true rfl) (fun _ _ _ _ _ => ⟨.inl rfl, .inr rfl⟩) (fun _ _ _ _ _ => ⟨.inl rfl, .inr rfl⟩) ?_ ?_)
    · intro s1 H1 C1 cl fp D1 acc j v d hD hv hd
      match j, hv, hd with
      | 0, hv, hd =>
        cases hv
        cases hd
        exact EDr.weak (e_callL (hf.mono (by decide)) hr hG (pv 3) rfl (a_cons (e_var 4 rfl (pv 4)) a_nil) h1) (fun r e z hz => by cases hz; exact e)
      | 1, hv, hd =>
        cases hv
        cases hd
        exact EDr.weak (e_callL (hf.mono (by decide)) hr hG (pv 3) rfl (a_cons (e_var 4 rfl (pv 4)) a_nil) h2) (fun r e z hz => by cases hz; exact e)
      | j + 2, hv, hd => cases hv
    · intro res hl h
      obtain ⟨x, y, rfl, h0, h1⟩ := res2 hl h
      rw [h0 _ rfl, h1 _ rfl]
  case h3 => exact sh_none
  case h4 => simp [encR, encQ, SeqAt.shaped, PyData.canLay0, PyData.canLayAll0, PyData.depth, PyData.depthAll]
  case h5 =>
    have e : ([encR a b c, encR a2 b2 c2].any fun z => PyData.eqv z .none) = false := by simp [encR, PyData.eqv]
    show R (if ([encR a b c, encR a2 b2 c2].any fun z => PyData.eqv z .none) = true then .none else .list [encR a b c, encR a2 b2 c2])
    rw [e, if_neg Bool.false_ne_true]
    exact q
/-! vertex_in -/
def F_vertex_in : List D → (D → Prop) → Prop := fun ds R => ∃ a b c a2 b2 c2 : Rat, ds = [.str (S (TL.joinL [32] [rx a b c, rx a2 b2 c2]))] ∧ RootOk b c ∧ RootOk b2 c2 ∧ Sz a 300 300 ∧ Sz b 300 300 ∧ Sz c 300 300 ∧ Sz a2 300 300 ∧ Sz b2 300 300 ∧ Sz c2 300 300 ∧ R (.tuple [encR a b c, encR a2 b2 c2])
theorem row_len {a b c a2 b2 c2 : Rat} (ha : Sz a 300 300) (hb : Sz b 300 300) (hc : Sz c 300 300) (ha2 : Sz a2 300 300) (hb2 : Sz b2 300 300) (hc2 : Sz c2 300 300) : (TL.joinL [32] [rx a b c, rx a2 b2 c2]).length ≤ 1223 := by
  have h1 := rx_len ha hb hc
  have h2 := rx_len ha2 hb2 hc2
  show (rx a b c ++ ([32] ++ rx a2 b2 c2)).length ≤ 1223
  rw [List.length_append, List.length_append, List.length_singleton]
  omega
theorem c_vertex_in (T : Tp K mg) : Cb P w K mg base 8 "vertex_in" F_vertex_in := by
  have sc : FnScope ["row", "found"] ["row"] (defScope s_vertex_in) := ⟨rfl, rfl, rfl, by decide +kernel, rfl, by decide +kernel, by decide +kernel⟩
  have C_all_in := c_all_in (P := P) (w := w) (base := base) T
  obtain ⟨fr, hm, hfn⟩ := (c_root_in (P := P) (w := w) (base := base) T).fn
  refine T.cb 47 rfl rfl (st := s_vertex_in) sc (fun _ _ _ _ _ _ us hl => match us, hl with | [_], _ => rfl) (fun ds R hF => by obtain ⟨_, _, _, _, _, _, rfl, _⟩ := hF; rfl) ?_
  intro f cdv A l s H E W ds R hr hG hF
  obtain ⟨a, b, c, a2, b2, c2, rfl, o1, o2, ha, hb, hc, ha2, hb2, hc2, q⟩ := hF
  have hl := row_len ha hb hc ha2 hb2 hc2
  have spl : Txt.split (S (TL.joinL [32] [rx a b c, rx a2 b2 c2])) (S [32]) = [S (rx a b c), S (rx a2 b2 c2)] := split_parts (s := 32) (parts := [rx a b c, rx a2 b2 c2]) (by decide) (List.cons_ne_nil _ _) (fun p hp => by
    rcases List.mem_cons.mp hp with e | hp
    · subst e; exact rx_no (by decide) (by decide) (by decide) (.inl (by decide))
    · rw [List.mem_singleton] at hp
      subst hp
      exact rx_no (by decide) (by decide) (by decide) (.inl (by decide)))
  refine' (b_set 1 (d := .list [encR a b c, encR a2 b2 c2]) sc.nd rfl (.inl rfl) (e_callP (C_all_in.mono (by decide)) hr hG (ED.to (d' := .list [.str (S (rx a b c)), .str (S (rx a2 b2 c2))]) (e_split ?h0 ?h1 (e_var 0 rfl (pv 0)) e_str) ?h2) (k_cons (pe_glob (v := .ref fr) rfl hm rfl (by decide)) (k_cons (pe_glob (v := .ref fr) rfl hm rfl (by decide)) k_nil)) ?h3 ?h4) (b_ret (e_ifD (t_isN (e_var 1 rfl (pv 1))) (fun hc => e_non) (fun hc => (e_tupleL T.f_tuple (e_var 1 rfl (pv 1))))) ?h5))
  case h0 => decide
  case h1 =>
    rw [S_len]
    exact small_line (by omega)
  case h2 => exact congrArg (fun z => PyData.list (List.map PyData.str z)) spl
  case h3 => exact Nat.le_of_ble_eq_true rfl
  case h4 =>
    intro l hl
    exact ⟨l, fr, _, _, a, b, c, a2, b2, c2, rfl, fun H h => h.2, hfn, ⟨a, b, c, rfl, o1, ha, hb, hc, rfl⟩, ⟨a2, b2, c2, rfl, o2, ha2, hb2, hc2, rfl⟩, rfl⟩
  case h5 => exact q
/-! read_rows -/
def F_read_rows (G : Addr → (List D → (D → Prop) → Prop) → Prop) : Wd → List Sl → (D → Prop) → Prop := fun W ss R => ∃ (row : List Nat) (f : Addr) (Fv : List D → (D → Prop) → Prop) (ds : List D), ss = [.d (.str (S row)), .v (.ref f)] ∧ row ≠ [] ∧ (∀ c ∈ row, c < 1000) ∧ 10 ∉ row ∧ row.length ≤ 2000 ∧ G f Fv ∧ Fv [.str (S row)] (fun z => z = .tuple ds) ∧ R (.tuple [.tuple ds])
theorem split_one {s : Nat} {row : List Nat} (hs : s < 256) (h : s ∉ row) : Txt.split (S row) (S [s]) = [S row] := split_parts (parts := [row]) hs (List.cons_ne_nil _ _) (fun p hp => by
  rw [List.mem_singleton] at hp
  subst hp
  exact h)
theorem RE.weaken {K : PySem.W.Frag} {H : Hp} {σ : L2.St} {ρ ρ' : En} (h : RE K H σ ρ) (hl : ρ'.length = ρ.length) (hw : ∀ (i : Nat) (x : Sl), ρ'[i]? = some x → x = .no ∨ ρ[i]? = some x) : RE K H σ ρ' :=
  ⟨h.1.trans hl.symm, fun i x e => by
    rcases hw i x e with rfl | e2
    · trivial
    · exact h.2 i x e2⟩
section
variable {X : Cx} {W : Wd}
/-- an expression over data in some world with a list of its own -/
def tEx (K : PySem.W.Frag) (W : Wd) (ρ : Addr → En) (d : D) : TE := fun σ H Q => ∃ l, W.M l = false ∧ tE K (W.push l []) (ρ l) (fun z => z = d) σ H Q
theorem pe_ex {e : Expr} {ρ : Addr → En} {d : D} (h : ∀ l, W.M l = false → ED X (W.push l []) (ρ l) e d) : PE X e (tEx X.K W ρ d) := ⟨fun pins s σ H Q I ⟨l, hl, q⟩ => (h l hl).run pins s σ H Q I q⟩
def tTx (K : PySem.W.Frag) (W : Wd) (ρ : Addr → En) (b : Bool) : TT := fun σ H Q => ∃ l, W.M l = false ∧ tT K (W.push l []) (ρ l) b σ H Q
theorem pt_ex {e : Expr} {ρ : Addr → En} {b : Bool} (h : ∀ l, W.M l = false → TD X (W.push l []) (ρ l) e b) : PT X e (tTx X.K W ρ b) := ⟨fun pins s σ H Q I ⟨l, hl, q⟩ => (h l hl).run pins s σ H Q I q⟩
end
theorem c_read_rows (T : Tp K mg) : Cw P w K mg base 9 "read_rows" (F_read_rows fun f Fv => Fn P w K mg base 8 f Fv) := by
  have sc : FnScope ["text", "read", "found", "at", "row", "one"] ["text", "read"] (defScope s_read_rows) := ⟨rfl, rfl, rfl, by decide +kernel, rfl, by decide +kernel, by decide +kernel⟩
  obtain ⟨fd, U⟩ := T.c.def_ (K := K) (i := 48) (d := ⟨("read_rows", none), "read_rows", "read_rows", defArgs s_read_rows, defBody s_read_rows, defScope s_read_rows, [], []⟩) rfl
  have hb : Binding "read_rows" "read_rows" ["text", "read"] s_read_rows := fun _ _ _ _ _ _ us hl => match us, hl with | [_, _], _ => rfl
  refine ⟨_, fd, ["text", "read"], T.glo 48 rfl, U.kp, FG.of U sc (fun vs H Q E q => ?_) (fun cdv A l0 s H vs Q E hr hG q => ?_), U.bindsN hb⟩
  · obtain ⟨W, ss, R, _, p1, ⟨_, _, _, _, rfl, _⟩, _⟩ := q
    exact p1.len
  obtain ⟨W, ss, R, hB, p1, ⟨row, f, Fv, ds, rfl, hne, hsm, hnl, hlen, hf, hv, qR⟩, q1⟩ := q
  have hG' : (A.deeper (envOfC "read_rows" (defScope s_read_rows) s.heap.objs.size (He.ga K "read_rows") cdv)).guards = some [] := hG
  let ρ1 : Addr → En := fun l => [.d (.str (S row)), .v (.ref f), .v (.ref l), .no, .no, .no]
  let ρ2 : Addr → En := fun l => [.d (.str (S row)), .v (.ref f), .v (.ref l), .d (.int 0), .d (.str (S row)), .no]
  let ρ3 : Addr → En := fun l => [.d (.str (S row)), .v (.ref f), .v (.ref l), .d (.int 0), .d (.str (S row)), .d (.tuple ds)]
  let X : Cx := (cxOf CX0 P w K mg base ["text", "read", "found", "at", "row", "one"] "read_rows" (defScope s_read_rows) (He.ga K "read_rows") cdv A l0 s H E).nox
  have bd : PSs X (defBody s_read_rows) (tSeq (tAsg (tLst tNil) (gName 2)) (tSeq (tFor (iEnum K (tCons (tEx K W ρ1 (.list [.str (S row)])) tNil)) (gTup K 2 (gCons (gName 3) (gCons (gName 4) gNil)))
      (tSeq (tAsg (tEx K W ρ2 (.tuple ds)) (gName 5)) (tSeq (tIfS (tTx K W ρ3 false) (tSeq tNever tNext) tNext) (tSeq (tDrop (tBM K "list" rAppend (tVar 2) (tCons (tVar 5) tNil))) tNext))))
      (tSeq (tRet (tCB (fun xs H Q => ∃ p ys, xs = [.ref p] ∧ ((SqL K H p ys ∧ ∀ l, H l = none → Q (.ref l) (upd H l (.tup ys))) ∨ (SqT K H p ys ∧ Q (.ref p) H))) (tCons (tVar 2) tNil))) tNext))) := by
    refine pss_cons (ps_set (i := 2) sc.nd rfl (.inl rfl) (pe_lst pa_nil)) (pss_cons (ps_for PassesOwn.never rfl (pi_enum (X := X) rfl T.f_enumerate (pa_cons (pe_ex (X := X) (W := W) (ρ := ρ1) (d := .list [.str (S row)]) ?hi) pa_nil)) (pg_tup (X := X) rfl (pgs_cons (X := X) (pg_name (X := X) (i := 3) sc.nd rfl (.inl rfl)) (pgs_cons (X := X) (pg_name (X := X) (i := 4) sc.nd rfl (.inl rfl)) pgs_nil)))
      (pss_cons (ps_set (i := 5) sc.nd rfl (.inl rfl) (pe_ex (X := X) (W := W) (ρ := ρ2) (d := .tuple ds) ?hone)) (pss_cons (ps_if (pt_ex (X := X) (W := W) (ρ := ρ3) (b := false) ?hnone) (pss_cons ps_never pss_nil) pss_nil) (pss_cons (ps_expr (pe_bm (X := X) F.plainAttrs_list F.slot_list_append F.type_list_append mt_append (pv 2) (pa_cons (pv 5) pa_nil))) pss_nil)))) (pss_cons (ps_ret (pe_callTy (X := X) call_tuple_of rfl T.f_tuple (by decide +kernel) (pa_cons (pv 2) pa_nil) (by decide) (by decide))) pss_nil))
    case hi =>
      intro l hm
      have e1 : (!PyData.eqv (.str (S row)) (.str (S []))) = true := by
        rw [eqvS, decide_eq_false hne]
        rfl
      refine e_if (t_ne hr.units (sh_S hsm) (sh_S (l := []) (by decide)) (e_var 0 rfl (pv 0)) e_str) (fun hc => ED.to (e_split (by decide) (by rw [S_len]; exact small_line (by omega)) (e_var 0 rfl (pv 0)) e_str) (congrArg (fun z => PyData.list (List.map PyData.str z)) (split_one (s := 10) (by decide) hnl))) (fun hc => ?_)
      have hc : (!PyData.eqv (.str (S row)) (.str (S []))) = false := hc
      rw [e1] at hc
      cases hc
    case hone =>
      intro l hm
      exact e_callL hf hr hG' (pv 1) rfl (a_cons (e_var 4 rfl (pv 4)) a_nil) hv
    case hnone =>
      intro l hm
      exact TD.to (t_isN (X := X) (W := W.push l []) (ρ := ρ3 l) (ED.to (d := .tuple ds) (e_var 5 rfl (pv 5)) rfl)) rfl
  refine ⟨_, bd.nox, ?_⟩
  have hR0 := re_startS (N := ["text", "read", "found", "at", "row", "one"]) p1
  refine ⟨Nat.zero_le _, fun l hl => ?_⟩
  obtain ⟨hm, hBl⟩ := W.st H l (.lst []) hB hl
  have hnew : Rel W.M H (upd H l (.lst [])) := Rel.new hl hm
  have s1 : Same (mask W.M H) (mask (W.push l []).M (upd H l (.lst []))) := push_same hl hnew
  have hR1 : RE K (mask (W.push l []).M (upd H l (.lst []))) ((L2.start ["text", "read", "found", "at", "row", "one"] vs).set 2 (some (.ref l))) (ρ1 l) := (hR0.mono s1).set (x := .v (.ref l)) rfl
  refine ⟨l, hm, ⟨hBl, upd_same⟩, hR1, fun d v H2 r B2 l2 p2 => ?_⟩
  subst r
  obtain ⟨a, xs, e1, hsq, hall⟩ := dp_lst p2
  obtain ⟨v0, e2, hv0⟩ := dps1 hall
  have e3 := dp_str hv0
  subst e1 e2 e3
  refine ⟨a, [.str (S row)], rfl, Same.seq mask_le hsq, for_it (walk_enum (K := K) (a := a) (xs := [V.str (S row)]))
    (fun i σ' H' => W.B H' ∧ Rel (W.push l []).M H2 H' ∧ RE K (mask (W.push l []).M H') σ' (ρ1 l) ∧ ∃ acc, H' l = some (.lst acc) ∧ DpAll K (mask (W.push l []).M H') acc (List.replicate i (.tuple ds))) ⟨B2.1, Rel.refl _, hR1.mono l2, [], B2.2, .nil⟩ ?_ ?_ ?_⟩
  · rintro i σ' H' _ ⟨_, l3, _⟩
    exact Same.seq mask_le (Same.seq l3 hsq)
  · rintro i x σ' H' H'' hi ⟨hB', l', hR', acc, hacc, hda⟩ ⟨T0, xi, xr, rfl, hT, rfl, g1, g2⟩
    have i0 : i = 0 := by
      have : i < 1 := hi
      omega
    subst i0
    have acc0 : acc = [] := by
      have := DpAll.len hda
      exact List.eq_nil_of_length_eq_zero (by rw [this]; rfl)
    subst acc0
    have e4 : xr = .str (S row) := by simpa using g2.symm
    have e5 : xi = .int ((0 : Nat) : Int) := by simpa using g1.symm
    subst e4 e5
    obtain ⟨c1, c2, c3⟩ := (W.push l []).new (o := .tup [.int ((0 : Nat) : Int), .str (S row)]) ⟨hB', hacc⟩ hT
    have hR2 : RE K (mask (W.push l []).M (upd H' T0 (.tup [.int ((0 : Nat) : Int), .str (S row)]))) ((σ'.set 3 (some (.int ((0 : Nat) : Int)))).set 4 (some (.str (S row)))) (ρ2 l) :=
      ((hR'.mono c2).setD (i := 3) (x := .int 0) (.int 0)).setD (i := 4) (x := .str (S row)) (.str _)
    refine ⟨T0, [.int ((0 : Nat) : Int), .str (S row)], rfl, SqT.of upd_same, rfl, _, _, rfl, _, _, rfl, rfl, ?_⟩
    refine ⟨l, hm, c1, hR2, fun d v H3 r B3 l3 p3 => ?_⟩
    subst r
    have hR3 := (hR2.mono l3).setD (i := 5) p3
    refine ⟨l, hm, B3, hR3, fun H4 B4 l4 => iteF ?_⟩
    have hR4 := hR3.mono l4
    have h5 := hR4.1
    have hv5 : (((σ'.set 3 (some (.int ((0 : Nat) : Int)))).set 4 (some (.str (S row)))).set 5 (some v))[5]? = some (some v) := by
      rw [List.getElem?_set_self]
      rw [List.length_set] at h5
      rw [h5]
      exact Nat.le_of_ble_eq_true rfl
    refine ⟨.ref l, hR4.2 2 (.v (.ref l)) rfl, .inl ⟨rfl, [], SqL.of B4.2⟩, v, hv5, l, [], v, rfl, rfl, B4.2, by decide, ?_⟩
    have me : mask (W.push l []).M (upd H4 l (.lst ([] ++ [v]))) = mask (W.push l []).M H4 := mask_upd push_D
    refine ⟨W.off B4.1 hm, ?_, ?_, [v], upd_same, ?_⟩
    · show Same _ (mask (W.push l []).M (upd H4 l (.lst ([] ++ [v]))))
      rw [me]
      exact ((l'.trans c2).trans l3).trans l4
    · rw [me]
      exact RE.weaken hR4 rfl (fun i x e => by
        match i, e with
        | 0, e => exact .inr e
        | 1, e => exact .inr e
        | 2, e => exact .inr e
        | 3, e => cases e; exact .inl rfl
        | 4, e => cases e; exact .inl rfl
        | 5, e => cases e; exact .inl rfl
        | i + 6, e => cases e)
    · show DpAll K (mask (W.push l []).M (upd H4 l (.lst ([] ++ [v])))) [v] [.tuple ds]
      rw [me]
      exact .cons (dp_mono l4 _ _ p3) .nil
  · rintro σ' H' ⟨hB', l', hR', acc, hacc, hda⟩
    refine ⟨.ref l, hR'.2 2 (.v (.ref l)) rfl, l, acc, rfl, .inl ⟨SqL.of hacc, fun pp hp => ?_⟩⟩
    obtain ⟨c1, c2, c3⟩ := W.new (o := .tup acc) hB' hp
    have back : Rel W.M H H' := fun a o e => push_back a o (l' a o (l2 a o (s1 a o e)))
    exact q1 _ _ _ qR c1 (back.trans c2) (dp_newT hB' hp (dps_mono push_back _ _ hda))
/-! read_vertices -/
def F_read_vertices : List D → (D → Prop) → Prop := fun ds R => ∃ a b c a2 b2 c2 : Rat, ds = [.str (S (TL.joinL [32] [rx a b c, rx a2 b2 c2]))] ∧ RootOk b c ∧ RootOk b2 c2 ∧ Sz a 300 300 ∧ Sz b 300 300 ∧ Sz c 300 300 ∧ Sz a2 300 300 ∧ Sz b2 300 300 ∧ Sz c2 300 300 ∧ R (.tuple [.tuple [encR a b c, encR a2 b2 c2]])
theorem c_read_vertices (T : Tp K mg) : Cb P w K mg base 10 "read_vertices" F_read_vertices := by
  have sc : FnScope ["text"] ["text"] (defScope s_read_vertices) := ⟨rfl, rfl, rfl, by decide +kernel, rfl, by decide +kernel, by decide +kernel⟩
  have C_read_rows := c_read_rows (P := P) (w := w) (base := base) T
  obtain ⟨fr, hm, hfn⟩ := (c_vertex_in (P := P) (w := w) (base := base) T).fn
  refine T.cb 49 rfl rfl (st := s_read_vertices) sc (fun _ _ _ _ _ _ us hl => match us, hl with | [_], _ => rfl) (fun ds R hF => by obtain ⟨_, _, _, _, _, _, rfl, _⟩ := hF; rfl) ?_
  intro f cdv A l s H E W ds R hr hG hF
  obtain ⟨a, b, c, a2, b2, c2, rfl, o1, o2, ha, hb, hc, ha2, hb2, hc2, q⟩ := hF
  have hl := row_len ha hb hc ha2 hb2 hc2
  have mem : ∀ z ∈ TL.joinL [32] [rx a b c, rx a2 b2 c2], z = 32 ∨ z = 45 ∨ z = 47 ∨ z = 58 ∨ (48 ≤ z ∧ z ≤ 57) := fun z hz => by
    have hz : z ∈ rx a b c ++ ([32] ++ rx a2 b2 c2) := hz
    rcases List.mem_append.mp hz with hz | hz
    · exact .inr (rx_mem hz)
    · rcases List.mem_append.mp hz with hz | hz
      · exact .inl (List.mem_singleton.mp hz)
      · exact .inr (rx_mem hz)
  refine b_retR (R := R) (e_callW (C_read_rows.mono (by decide)) hr hG (s_cons (e_var 0 rfl (pv 0)) (s_k (pe_glob (v := .ref fr) rfl hm rfl (by decide)) s_nil)) ⟨_, fr, F_vertex_in, [encR a b c, encR a2 b2 c2], rfl, ?_, ?_, ?_, by omega, hfn, ⟨a, b, c, a2, b2, c2, rfl, o1, o2, ha, hb, hc, ha2, hb2, hc2, rfl⟩, q⟩) (fun _ z => z)
  · intro e
    have e : rx a b c ++ ([32] ++ rx a2 b2 c2) = [] := e
    have := (List.append_eq_nil_iff.mp e).2
    cases this
  · intro z hz
    rcases mem z hz with e | e | e | e | e <;> omega
  · intro hz
    rcases mem 10 hz with e | e | e | e | e <;> omega
end K65
end
section
set_option Elab.async false
set_option linter.all false
set_option maxRecDepth 100000
set_option maxHeartbeats 2000000
/-! DL8: blocks that change the world, loops over a number that is not known, a list unpacked. -/
namespace DL
open PySem PySem.Spec PyProof.Rows L2
inductive O3 where
  | nx (W : Wd) (ρ : En)
  | rt (W : Wd) (d : D)
def tB3 (K : PySem.W.Frag) (W : Wd) (ρ : En) (Φ : O3 → Prop) : TS := fun G σ H => W.B H ∧ RE K (mask W.M H) σ ρ ∧
  (∀ (W' : Wd) ρ' σ' H', Φ (.nx W' ρ') → W'.M = W.M → W'.B H' → Rel W.M H H' → RE K (mask W.M H') σ' ρ' → G.nx σ' H') ∧
  (∀ (W' : Wd) d v H', Φ (.rt W' d) → W'.M = W.M → W'.B H' → Rel W.M H H' → Dp K (mask W.M H') v d → G.rt v H')
abbrev BD3 (X : Cx) (W : Wd) (ρ : En) (sts : List Stmt) (Φ : O3 → Prop) : Prop := PSs X sts (tB3 X.K W ρ Φ)
def Thn3 (X : Cx) (rest : List Stmt) (Φ : O3 → Prop) : O3 → Prop
  | .nx W ρ => BD3 X W ρ rest Φ
  | .rt W d => Φ (.rt W d)
section
variable {X : Cx} {W W' : Wd} {ρ : En} {a b c e o : Expr} {st : Stmt} {sts rest : List Stmt} {pos p1 p2 p3 tpos : Pos} {Φ : O3 → Prop} {R : D → Prop} {x : Str} {i j : Nat} {K : PySem.W.Frag}
theorem c_nil (h : Φ (.nx W ρ)) : BD3 X W ρ [] Φ := pss_imp pss_nil fun G σ H ⟨hB, hR, q, _⟩ => q W ρ σ H h rfl hB (Rel.refl H) hR
theorem c_cons (h : PS X st (tB3 X.K W ρ (Thn3 X rest Φ))) : BD3 X W ρ (st :: rest) Φ := by
  refine ⟨fun pins s σ H G I q => ?_⟩
  obtain ⟨hB, hR, q1, q2⟩ := q
  refine wpAny_execs_cons (thn (h.run pins s σ H ⟨fun σ' H' => ∃ (W' : Wd) (ρ' : En), BD3 X W' ρ' rest Φ ∧ W'.M = W.M ∧ W'.B H' ∧ Rel W.M H H' ∧ RE X.K (mask W.M H') σ' ρ', G.rt, G.bk, G.ct⟩ I
    ⟨hB, hR, fun W' ρ' σ' H' f m' B' l' r' => ⟨W', ρ', f, m', B', l', r'⟩, fun W' d v H' f => q2 W' d v H' f⟩) fun fl s1 z => ?_)
  cases fl with
  | next =>
    obtain ⟨σ', H', I', W', ρ', f, m', B', l', r'⟩ := z
    refine f.run pins s1 σ' H' G I' ⟨B', by rw [m']; exact r', fun W2 ρ2 σ2 H2 g m2 B2 l2 r2 => ?_, fun W2 d v H2 g m2 B2 l2 p2 => ?_⟩
    · rw [m'] at m2 l2 r2
      exact q1 W2 ρ2 σ2 H2 g m2 B2 (l'.trans l2) r2
    · rw [m'] at m2 l2 p2
      exact q2 W2 d v H2 g m2 B2 (l'.trans l2) p2
  | ret v => exact z
  | brk => exact z
  | cont => exact z
theorem c_retR (he : EDr X W ρ e R) (h : ∀ d, R d → Φ (.rt W d)) : BD3 X W ρ (.Return (some e) pos :: rest) Φ :=
  c_cons (ps_imp (ps_ret he) fun G σ H ⟨hB, hR, q1, q2⟩ => ⟨hB, hR, fun d v H' r B' l' p' => q2 W d v H' (h d r) rfl B' l' p'⟩)
theorem c_setR {pos' : Pos} (nd : X.N.Nodup) (hi : X.N[i]? = some x) (hx : Loc X.env.scope x) (he : EDr X W ρ e R) (h : ∀ d, R d → BD3 X W (ρ.set i (.d d)) rest Φ)
    (hs : swapsWith e (some (.Name x pos')) pos.line X.env = pure false := by rfl) (hf : X.fn x = true ∨ X.env.scope.names.lookup x = some .local := by first | exact .inl rfl | exact .inr rfl | assumption) : BD3 X W ρ (.Assign [.Name x pos'] e pos :: rest) Φ :=
  c_cons (ps_imp (ps_set nd hi hx he hs hf) fun G σ H ⟨hB, hR, q1, _⟩ => ⟨hB, hR, fun d v H' r B' l' p' => q1 W _ _ H' (h d r) rfl B' l' ((hR.mono l').setD p')⟩)
theorem c_if1 {k : Bool} {sa : List Stmt} (hc : TD X W ρ c k) (ha : k = true → BD3 X W ρ sa (Thn3 X rest Φ)) (hb : k = false → BD3 X W ρ rest Φ) : BD3 X W ρ (.If c sa [] pos :: rest) Φ := by
  refine c_cons ?_
  cases k with
  | true =>
    refine ps_imp (ps_if hc (ha rfl) pss_never) fun G σ H ⟨hB, hR, q1, q2⟩ => ⟨hB, hR, fun H' B' l' => ?_⟩
    refine iteT ?_
    exact ⟨B', hR.mono l', fun W' ρ' σ' H2 f m B2 l2 => q1 W' ρ' σ' H2 f m B2 (l'.trans l2), fun W' d v H2 f m B2 l2 => q2 W' d v H2 f m B2 (l'.trans l2)⟩
  | false =>
    refine ps_imp (ps_if hc pss_never pss_nil) fun G σ H ⟨hB, hR, q1, q2⟩ => ⟨hB, hR, fun H' B' l' => ?_⟩
    refine iteF ?_
    exact q1 W ρ σ H' (hb rfl) rfl B' l' (hR.mono l')
/-- xs[i] = e, xs a list of raw values of this world -/
theorem c_item {bl : Addr} {xs : List V} {d : D} {v0 : V} {ii : Int} {jj : Nat} {kk : Nat} (he : ED X W ρ e d) (hd : ∀ H v, Dp X.K H v d → v = v0) (hv : PE X o (tVar j)) (hj : ρ[j]? = some (.v (.ref bl))) (hb : ∀ H, W.B H → H bl = some (.lst xs)) (hn : ixN xs.length ii = some jj)
    (hM : W.M bl = true) (hW : W'.M = W.M) (hup : ∀ H, W.B H → W'.B (upd H bl (.lst (xs.set jj v0)))) (h : BD3 X W' ρ rest Φ)
    (ha : ∀ v, assign (.Subscript o (.Constant (.int ii) kk p2) tpos) X.env v = (do
      let ov ← holding [v] (eval o X.env)
      let iv ← holding [v, ov] (eval (.Constant (.int ii) kk p2) X.env)
      standAt tpos
      holding [v, ov, iv] (setItem ov iv v)
      release [v, ov, iv] []) := by intro _; rfl)
    (hs : swapsWithSole [.Subscript o (.Constant (.int ii) kk p2) tpos] e pos.line X.env = pure false := by rfl) (hw : swappedStores [.Subscript o (.Constant (.int ii) kk p2) tpos] e X.env = pure none := by rfl)
    (h1 : (assignEach [.Subscript o (.Constant (.int ii) kk p2) tpos] X.env).map (·.2) = [assign (.Subscript o (.Constant (.int ii) kk p2) tpos) X.env] := by rfl) : BD3 X W ρ (.Assign [.Subscript o (.Constant (.int ii) kk p2) tpos] e pos :: rest) Φ :=
  c_cons (ps_imp (ps_asg he (pg_sub hv pe_int set_list ha) hs hw h1) fun G σ H ⟨hB, hR, q1, _⟩ => ⟨hB, hR, fun d' v H' r B' l' p' => by
    subst r
    have ev := hd _ _ p'
    subst ev
    refine ⟨.ref bl, (hR.mono l').2 j _ hj, bl, xs, ii, jj, rfl, rfl, hb H' B', hn, ?_⟩
    have me : mask W.M (upd H' bl (.lst (xs.set jj v))) = mask W.M H' := mask_upd hM
    refine q1 W' ρ σ _ h hW (hup H' B') ?_ (by rw [me]; exact hR.mono l')
    show Same _ (mask W.M (upd H' bl (.lst (xs.set jj v))))
    rw [me]
    exact l'⟩)
theorem pget_list : PGet X (rIxL X.K) := by
  intro pins s σ H x y v u Q I rx ry h
  obtain ⟨p, xs, i, z, rfl, rfl, hq, he, q⟩ := h
  cases rx
  obtain ⟨t, rfl⟩ := ry
  obtain ⟨its, r, pl, hz⟩ := I.list hq
  obtain ⟨j, h1, h2, h3, h4, h5⟩ := atI_get he
  obtain ⟨w, ew, rw'⟩ := r.get h2
  have hl := r.length
  have hn := line63
  have fin : EP X pins σ Q w s := ⟨z, H, I, rw', q⟩
  by_cases h0 : 0 ≤ i
  · have hj : i.toNat = j := by
      rw [seqIndex_of h0 h5] at h1
      exact Option.some.inj h1
    exact wpAny_getItem_list pl.isList h0 (by omega) (by rw [hj]; simpa using ew) fin
  · have hj : (i + (its.toArray.size : Int)).toNat = j := by
      rw [seqIndex_neg (by omega) h4] at h1
      rw [List.size_toArray, ← hl]
      exact Option.some.inj h1
    exact wpAny_getItem_list_neg pl.isList (by omega) (by rw [List.size_toArray] <;> omega) (by omega) (by rw [hj]; simpa using ew) fin
/-- xs[i] += n -/
theorem c_aug {bl : Addr} {xs : List V} {n m : Int} {ii : Nat} {kk k2 : Nat} (hv : PE X o (tVar j)) (hj : ρ[j]? = some (.v (.ref bl))) (hb : ∀ H, W.B H → H bl = some (.lst xs)) (hx : xs[ii]? = some (.int n))
    (hM : W.M bl = true) (hW : W'.M = W.M) (hup : ∀ H, W.B H → W'.B (upd H bl (.lst (xs.set ii (.int (n + m)))))) (h : BD3 X W' ρ rest Φ)
    (ha : ∀ ov iv new, augStore (.Constant (.int ii) kk p2) ov iv new = (do holding [new, ov, iv] (setItem ov iv new); release [new, ov, iv] []; pure .next) := by intros; rfl) :
    BD3 X W ρ (.AugAssign (.Subscript o (.Constant (.int ii) kk p2) tpos) .Add (.Constant (.int m) k2 p3) pos :: rest) Φ :=
  c_cons (ps_imp (ps_augS hv (pe_int (i := ii)) pget_list (pe_int (i := m)) ip_add set_list ha) fun G σ H ⟨hB, hR, q1, _⟩ => by
    have hlen : ii < xs.length := (List.getElem?_eq_some_iff.mp hx).1
    have hn : ixN xs.length (ii : Int) = some ii := by
      unfold ixN
      rw [if_pos (by omega), if_pos (by omega), Int.toNat_natCast]
    refine ⟨.ref bl, hR.2 j _ hj, bl, xs, ii, .int n, rfl, rfl, SqL.of (hb H hB), atI_nat hx, n, m, rfl, rfl, bl, xs, ii, ii, rfl, rfl, hb H hB, hn, ?_⟩
    have me : mask W.M (upd H bl (.lst (xs.set ii (.int (n + m))))) = mask W.M H := mask_upd hM
    refine q1 W' ρ σ _ h hW (hup H hB) ?_ (by rw [me]; exact hR)
    show Same _ (mask W.M (upd H bl (.lst (xs.set ii (.int (n + m))))))
    rw [me]
    exact Same.refl _)
/-- xs[i], read -/
theorem e_itm {bl : Addr} {xs : List V} {n : Int} {ii : Nat} {kk : Nat} (hv : PE X o (tVar j)) (hj : ρ[j]? = some (.v (.ref bl))) (hb : ∀ H, W.B H → H bl = some (.lst xs)) (hx : xs[ii]? = some (.int n)) : ED X W ρ (.Subscript o (.Constant (.int ii) kk p2) pos) (.int n) :=
  pe_imp (pe_ix ix_list hv (pe_int (i := ii)) (fun _ _ => rfl)) fun σ H Q ⟨hB, hR, q⟩ => ⟨.ref bl, hR.2 j _ hj, bl, xs, ii, .int n, rfl, rfl, SqL.of (hb H hB), atI_nat hx, q _ _ H rfl hB (Rel.refl H) (.int _)⟩
/-- from one of some worlds on -/
theorem bd_ex {ι : Type} {Φ : Oc → Prop} (Wx : ι → Wd) (hM : ∀ i, (Wx i).M = W.M) (hex : ∀ H, W.B H → ∃ i, (Wx i).B H) (h : ∀ i, BD3 X (Wx i) ρ sts (fun z => match z with | .nx W' ρ' => Φ (.nx ρ') ∧ ∀ H, W'.B H → W.B H | .rt W' d => Φ (.rt d) ∧ ∀ H, W'.B H → W.B H)) : BD X W ρ sts Φ := by
  refine ⟨fun pins s σ H G I q => ?_⟩
  obtain ⟨hB, hR, q1, q2, q3, q4⟩ := q
  obtain ⟨i, hi⟩ := hex H hB
  refine (h i).run pins s σ H G I ⟨hi, by rw [hM]; exact hR, fun W' ρ' σ' H' f m B' l' r' => ?_, fun W' d v H' f m B' l' p' => ?_⟩
  · rw [hM] at l' r'
    exact q1 ρ' σ' H' f.1 (f.2 H' B') l' r'
  · rw [hM] at l' p'
    exact q2 d v H' f.1 (f.2 H' B') l' p'
end
/-! ### ints that are not known -/
section
variable {X : Cx} {W : Wd} {ρ : En} {a b c e : Expr} {pos : Pos} {R : D → Prop} {A B : Int → Prop} {rest : List Stmt} {Φ : Oc → Prop}
/-- an int of A -/
def Is (A : Int → Prop) : D → Prop := fun d => ∃ n, d = .int n ∧ A n
theorem od_weak {K : PySem.W.Frag} {r : R2} {x y : D} {R' : D → Prop} (h : OpD K W r x y R') (i : ∀ d, R' d → R d) : OpD K W r x y R := fun v1 v2 H Q B p1 p2 q => h v1 v2 H Q B p1 p2 fun d v H' r => q d v H' (i d r)
theorem e_addR {C : Int → Prop} (ha : EDr X W ρ a (Is A)) (hb : EDr X W ρ b (Is B)) (h : ∀ i j, A i → B j → C (i + j)) : EDr X W ρ (.BinOp a .Add b pos) (Is C) :=
  e_opR op_add ha hb fun x y ⟨i, e1, h1⟩ ⟨j, e2, h2⟩ => by
    subst e1 e2
    exact od_weak (od_I0 (gd := fun i j => .int (i + j)) (fun _ _ _ => .int _) i j) fun d r => by subst r; exact ⟨_, rfl, h i j h1 h2⟩
theorem e_subR {C : Int → Prop} (ha : EDr X W ρ a (Is A)) (hb : EDr X W ρ b (Is B)) (h : ∀ i j, A i → B j → C (i - j)) : EDr X W ρ (.BinOp a .Sub b pos) (Is C) :=
  e_opR op_sub ha hb fun x y ⟨i, e1, h1⟩ ⟨j, e2, h2⟩ => by
    subst e1 e2
    exact od_weak (od_I0 (gd := fun i j => .int (i - j)) (fun _ _ _ => .int _) i j) fun d r => by subst r; exact ⟨_, rfl, h i j h1 h2⟩
theorem ED.is {n : Int} (h : ED X W ρ e (.int n)) (k : A n) : EDr X W ρ e (Is A) := EDr.weak h fun d r => by subst r; exact ⟨n, rfl, k⟩
/-- for x in range(n), n not known -/
theorem b_forN {x : Str} {pos' pr pc : Pos} {i : Nat} {body : List Stmt} (I : Nat → En → Prop) (Ω : En → Prop) (hp : PassesOwn (model X.prog X.w) X.A X.env X.xe) (hc : X.calm = true) (nd : X.N.Nodup) (hi : X.N[i]? = some x) (hx : Loc X.env.scope x)
    (hm : X.mg "range" = none) (he : EDr X W ρ e (Is A)) (hA : ∀ n, A n → -(2 ^ 62) ≤ n ∧ n < 2 ^ 62) (h0 : I 0 ρ)
    (ht : ∀ n, A n → ∀ (j : Nat) ρ', j < n.toNat → I j ρ' → BD X W (ρ'.set i (.d (.int (j : Nat)))) body (NextI I Ω Φ j))
    (hd : ∀ n, A n → ∀ ρ', I n.toNat ρ' → Ω ρ') (hn : ∀ ρ', Ω ρ' → BD X W ρ' rest Φ)
    (hg : Gl X "range" := by rfl) (hs1 : starEach [e] X.env = [(false, eval e X.env)] := by rfl) (hs : ∀ z, foldedSetIterable (.Call (.Name "range" pr) [e] [] pc) X.env z = pure z := by intro _; rfl)
    (hf : X.fn x = true ∨ X.env.scope.names.lookup x = some .local := by first | exact .inl rfl | exact .inr rfl | assumption) :
    BD X W ρ (.For (.Name x pos') (.Call (.Name "range" pr) [e] [] pc) body [] pos :: rest) Φ := by
  refine b_cons ?_
  have ha : ADr X W ρ [e] (fun ds => ∃ n, ds = [.int n] ∧ A n) := a_consR he a_nil (fun d ds ⟨n, e1, h1⟩ e2 => by subst e1 e2; exact ⟨n, rfl, h1⟩) (by rw [hs1]; rfl)
  refine ps_imp (ps_for hp hc (pi_range1 hg hm ha hs1) (pg_name nd hi hx hf) (pss_j (W := W) (Ξ := NextI I Ω Φ)) hs) fun G σ H ⟨hB, hR, q1, q2, q3, q4⟩ => ?_
  refine ⟨hB, hR, fun ds vs H1 r1 B1 l1 p1 => ?_⟩
  obtain ⟨n, r1, hn1⟩ := r1
  subst r1
  obtain ⟨v, e1, e2⟩ := dps1 p1
  subst e1
  rw [dp_int e2]
  refine ⟨n, rfl, (hA n hn1).1, (hA n hn1).2, for_range (lo := 0) (n := n.toNat) (g := gName i) (tb := tJ X W body (NextI I Ω Φ)) (D := G) (fun j σ' H' => ∃ ρ', I j ρ' ∧ W.B H' ∧ Rel W.M H H' ∧ RE X.K (mask W.M H') σ' ρ') ⟨ρ, h0, B1, l1, hR.mono l1⟩ ?_ ?_⟩
  · rintro j σ' H' hj ⟨ρ', i', B', l', r'⟩
    have ez : (0 : Int) + (j : Int) = (j : Nat) := by omega
    refine ⟨j, ρ'.set i (.d (.int (j : Nat))), ht n hn1 j ρ' hj i', B', ?_, ?_, ?_, ?_, ?_⟩
    · rw [ez]
      exact r'.setD (.int _)
    · exact fun ρ3 σ3 H3 f B3 l3 r3 => ⟨ρ3, f, B3, l'.trans l3, r3⟩
    · exact fun d v H3 f B3 l3 p3 => q2 d v H3 f B3 (l'.trans l3) p3
    · exact fun ρ3 σ3 H3 f B3 l3 r3 => q1 ρ3 σ3 H3 (hn _ f) B3 (l'.trans l3) r3
    · exact fun ρ3 σ3 H3 f B3 l3 r3 => ⟨ρ3, f, B3, l'.trans l3, r3⟩
  · rintro σ' H' ⟨ρ', i', B', l', r'⟩
    exact q1 ρ' σ' H' (hn _ (hd n hn1 _ i')) B' l' r'
/-- x, y = e, e a list of two; x, y, z = e, e a list of three -/
theorem dps3 {K : PySem.W.Frag} {H : Hp} {vs : List V} {d d' d2 : D} (h : DpAll K H vs [d, d', d2]) : ∃ v v' v2, vs = [v, v', v2] ∧ Dp K H v d ∧ Dp K H v' d' ∧ Dp K H v2 d2 := by
  cases h with
  | cons h1 h2 =>
    obtain ⟨v, v', e1, e2, e3⟩ := dps2 h2
    subst e1
    exact ⟨_, _, _, rfl, h1, e2, e3⟩
theorem b_unL2 (i j : Nat) {x y : Str} {px py pt : Pos} {kt} (hc : X.calm = true) (nd : X.N.Nodup) (hi : X.N[i]? = some x) (hj : X.N[j]? = some y) (hx : Loc X.env.scope x) (hy : Loc X.env.scope y)
    (he : EDr X W ρ e R) (h : ∀ d, R d → ∃ d1 d2, d = .list [d1, d2] ∧ BD X W ((ρ.set i (.d d1)).set j (.d d2)) rest Φ)
    (hs : swapsWithSole [.Tuple [.Name x px, .Name y py] kt pt] e pos.line X.env = pure false := by rfl) (hw : swappedStores [.Tuple [.Name x px, .Name y py] kt pt] e X.env = pure none := by rfl)
    (h1 : (assignEach [.Tuple [.Name x px, .Name y py] kt pt] X.env).map (·.2) = [assign (.Tuple [.Name x px, .Name y py] kt pt) X.env] := by rfl)
    (hn : (assignEach [.Name x px, .Name y py] X.env).length = 2 := by rfl) (hst : (assignEach [.Name x px, .Name y py] X.env).findIdx? (·.1) = none := by rfl)
    (hc1 : (assignEach [.Name x px, .Name y py] X.env).map (·.2) = assign (.Name x px) X.env :: (assignEach [.Name y py] X.env).map (·.2) := by rfl) (hc2 : (assignEach [.Name y py] X.env).map (·.2) = assign (.Name y py) X.env :: (assignEach [] X.env).map (·.2) := by rfl)
    (hf : X.fn x = true ∨ X.env.scope.names.lookup x = some .local := by first | exact .inl rfl | exact .inr rfl | assumption) (hf2 : X.fn y = true ∨ X.env.scope.names.lookup y = some .local := by first | exact .inl rfl | exact .inr rfl | assumption) :
    BD X W ρ (.Assign [.Tuple [.Name x px, .Name y py] kt pt] e pos :: rest) Φ :=
  b_cons (ps_imp (ps_asg he (pg_unl hc (pgs_cons (pg_name nd hi hx hf) (pgs_cons (pg_name nd hj hy hf2) pgs_nil hc2) hc1) hn hst) hs hw h1) fun G σ H ⟨hB, hR, q1, _⟩ => ⟨hB, hR, fun d v H' r B' l' p' => by
    obtain ⟨d1, d2, e1, e2⟩ := h d r
    subst e1
    obtain ⟨t, xs, f1, f2, f3⟩ := dp_lst p'
    obtain ⟨v1, v2, g1, g2, g3⟩ := dps2 f3
    subst g1
    exact ⟨t, _, f1, Same.seq mask_le f2, rfl, v1, [v2], rfl, v2, [], rfl, rfl, q1 _ _ H' e2 B' l' (((hR.mono l').setD g2).setD g3)⟩⟩)
theorem b_unL3 (i j k : Nat) {x y z : Str} {px py pz pt : Pos} {kt} (hc : X.calm = true) (nd : X.N.Nodup) (hi : X.N[i]? = some x) (hj : X.N[j]? = some y) (hk : X.N[k]? = some z) (hx : Loc X.env.scope x) (hy : Loc X.env.scope y) (hz : Loc X.env.scope z)
    (he : EDr X W ρ e R) (h : ∀ d, R d → ∃ d1 d2 d3, d = .list [d1, d2, d3] ∧ BD X W (((ρ.set i (.d d1)).set j (.d d2)).set k (.d d3)) rest Φ)
    (hs : swapsWithSole [.Tuple [.Name x px, .Name y py, .Name z pz] kt pt] e pos.line X.env = pure false := by rfl) (hw : swappedStores [.Tuple [.Name x px, .Name y py, .Name z pz] kt pt] e X.env = pure none := by rfl)
    (h1 : (assignEach [.Tuple [.Name x px, .Name y py, .Name z pz] kt pt] X.env).map (·.2) = [assign (.Tuple [.Name x px, .Name y py, .Name z pz] kt pt) X.env] := by rfl)
    (hn : (assignEach [.Name x px, .Name y py, .Name z pz] X.env).length = 3 := by rfl) (hst : (assignEach [.Name x px, .Name y py, .Name z pz] X.env).findIdx? (·.1) = none := by rfl)
    (hc1 : (assignEach [.Name x px, .Name y py, .Name z pz] X.env).map (·.2) = assign (.Name x px) X.env :: (assignEach [.Name y py, .Name z pz] X.env).map (·.2) := by rfl) (hc2 : (assignEach [.Name y py, .Name z pz] X.env).map (·.2) = assign (.Name y py) X.env :: (assignEach [.Name z pz] X.env).map (·.2) := by rfl)
    (hc3 : (assignEach [.Name z pz] X.env).map (·.2) = assign (.Name z pz) X.env :: (assignEach [] X.env).map (·.2) := by rfl)
    (hf : X.fn x = true ∨ X.env.scope.names.lookup x = some .local := by first | exact .inl rfl | exact .inr rfl | assumption) (hf2 : X.fn y = true ∨ X.env.scope.names.lookup y = some .local := by first | exact .inl rfl | exact .inr rfl | assumption) (hf3 : X.fn z = true ∨ X.env.scope.names.lookup z = some .local := by first | exact .inl rfl | exact .inr rfl | assumption) :
    BD X W ρ (.Assign [.Tuple [.Name x px, .Name y py, .Name z pz] kt pt] e pos :: rest) Φ :=
  b_cons (ps_imp (ps_asg he (pg_unl hc (pgs_cons (pg_name nd hi hx hf) (pgs_cons (pg_name nd hj hy hf2) (pgs_cons (pg_name nd hk hz hf3) pgs_nil hc3) hc2) hc1) hn hst) hs hw h1) fun G σ H ⟨hB, hR, q1, _⟩ => ⟨hB, hR, fun d v H' r B' l' p' => by
    obtain ⟨d1, d2, d3, e1, e2⟩ := h d r
    subst e1
    obtain ⟨t, xs, f1, f2, f3⟩ := dp_lst p'
    obtain ⟨v1, v2, v3, g1, g2, g3, g4⟩ := dps3 f3
    subst g1
    exact ⟨t, _, f1, Same.seq mask_le f2, rfl, v1, [v2, v3], rfl, v2, [v3], rfl, v3, [], rfl, rfl, q1 _ _ H' e2 B' l' ((((hR.mono l').setD g2).setD g3).setD g4)⟩⟩)
end
end DL
end
section
set_option Elab.async false
set_option linter.all false
set_option maxRecDepth 100000
set_option maxHeartbeats 4000000
namespace K65
open PySem PySem.Spec PyProof.Rows L2 DL
variable {K : PySem.W.Frag} {mg : Str → Option Value} {P : Program} {w : World} {base : Heap}
/-! ### the bag of choices -/
def BagAt (b l : Addr) (H : Hp) : Prop := b ≠ l ∧ ∃ (n0 n1 n2 : Int) (cs : List Int), H b = some (.lst [.int n0, .int n1, .int n2, .ref l]) ∧ H l = some (.lst (cs.map V.int)) ∧ 0 ≤ n0 ∧ (0 ≤ n1 ∧ n1 < 2147483647) ∧ 0 ≤ n2 ∧ (∀ c ∈ cs, 0 ≤ c) ∧ cs.length ≤ 63
/-- this world bears the bag -/
structure HB (W : Wd) (b l : Addr) : Prop where
  mb : W.M b = true
  ml : W.M l = true
  get : ∀ H, W.B H → BagAt b l H
  up : ∀ H xs, W.B H → BagAt b l (upd H b (.lst xs)) → W.B (upd H b (.lst xs))
theorem HB.push {W : Wd} {b l D : Addr} {acc : List V} (h : HB W b l) (hD : W.M D = false) : HB (W.push D acc) b l where
  mb := by show (W.M b || decide (b = D)) = true; rw [h.mb]; rfl
  ml := by show (W.M l || decide (l = D)) = true; rw [h.ml]; rfl
  get := fun H hB => h.get H hB.1
  up := fun H xs hB hb => ⟨h.up H xs hB.1 hb, by
    have : D ≠ b := fun e => by rw [e, h.mb] at hD; cases hD
    rw [upd_ne this]
    exact hB.2⟩
/-- the world of nothing but the bag -/
def bagW (b l : Addr) : Wd where
  M := fun a => decide (a = b) || decide (a = l)
  B := BagAt b l
  loc := fun H H' h ⟨hne, n0, n1, n2, cs, h1, h2, h3⟩ => ⟨hne, n0, n1, n2, cs, by rw [h b (by simp)]; exact h1, by rw [h l (by simp)]; exact h2, h3⟩
  there := fun H a ⟨hne, n0, n1, n2, cs, h1, h2, h3⟩ z => by
    rcases Bool.or_eq_true_iff.mp z with z | z
    · rw [of_decide_eq_true z, h1]
      exact fun y => by cases y
    · rw [of_decide_eq_true z, h2]
      exact fun y => by cases y
theorem hb_bagW (b l : Addr) : HB (bagW b l) b l where
  mb := by show (decide (b = b) || decide (b = l)) = true; simp
  ml := by show (decide (l = b) || decide (l = l)) = true; simp
  get := fun _ h => h
  up := fun _ _ _ h => h
/-- what stands in the bag -/
structure BI where
  n0 : Int
  n1 : Int
  n2 : Int
  cs : List Int
  h0 : 0 ≤ n0
  h1 : 0 ≤ n1
  h1' : n1 < 2147483647
  h2 : 0 ≤ n2
  hc : ∀ c ∈ cs, 0 ≤ c
  hl : cs.length ≤ 63
def BI.xs (i : BI) (l : Addr) : List V := [.int i.n0, .int i.n1, .int i.n2, .ref l]
def bagX {W : Wd} {b l : Addr} (h : HB W b l) (i : BI) : Wd where
  M := W.M
  B := fun H => W.B H ∧ H b = some (.lst (i.xs l)) ∧ H l = some (.lst (i.cs.map V.int))
  loc := fun H H' e ⟨h1, h2, h3⟩ => ⟨W.loc H H' e h1, by rw [e b h.mb]; exact h2, by rw [e l h.ml]; exact h3⟩
  there := fun H a hB z => W.there H a hB.1 z
theorem bagX_ex {W : Wd} {b l : Addr} (h : HB W b l) (H : Hp) (hB : W.B H) : ∃ i, (bagX h i).B H := by
  obtain ⟨hne, n0, n1, n2, cs, h1, h2, h3, ⟨h4, h4'⟩, h5, h6, h7⟩ := h.get H hB
  exact ⟨⟨n0, n1, n2, cs, h3, h4, h4', h5, h6, h7⟩, hB, h1, h2⟩
theorem bagX_up {W : Wd} {b l : Addr} (h : HB W b l) {i i' : BI} (hc : i'.cs = i.cs) {ys : List V} (hy : ys = i'.xs l) (H : Hp) (hB : (bagX h i).B H) : (bagX h i').B (upd H b (.lst ys)) := by
  obtain ⟨h1, h2, h3⟩ := hB
  have hne := (h.get H h1).1
  subst hy
  have e : (upd H b (.lst (i'.xs l))) l = some (.lst (i'.cs.map V.int)) := by rw [upd_ne (Ne.symm hne), hc]; exact h3
  exact ⟨h.up H _ h1 ⟨hne, i'.n0, i'.n1, i'.n2, i'.cs, upd_same, e, i'.h0, ⟨i'.h1, i'.h1'⟩, i'.h2, i'.hc, i'.hl⟩, upd_same, e⟩
section
variable {X : Cx} {W : Wd} {ρ : En} {a b c e o : Expr} {pos p1 p2 p3 p4 p5 p6 pl : Pos} {i j : Int}
theorem e_mulC (hc : CMul i j) (ha : ED X W ρ a (.int i)) (hb : ED X W ρ b (.int j)) : ED X W ρ (.BinOp a .Mult b pos) (.int (i * j)) := e_op op_mul ha hb (od_I (gd := fun i j => .int (i * j)) (fun _ _ _ => .int _) i j hc)
/-- (xs[n:] + [0])[0] of a raw list within a raw list -/
theorem e_cell {bl l : Addr} {xs : List V} {cs : List Int} {n : Int} {ia ib k1 k2 k3 k4 : Nat} {jj : Nat} {p7 p8 p9 : Pos} (hv : PE X o (tVar jj)) (hv2 : PE X e (tVar jj)) (hj : ρ[jj]? = some (.v (.ref bl))) (hb : ∀ H, W.B H → H bl = some (.lst xs)) (hl : ∀ H, W.B H → H l = some (.lst (cs.map V.int)))
    (hx : xs[ia]? = some (.ref l)) (hx2 : xs[ib]? = some (.int n)) (h0 : ∀ c ∈ cs, 0 ≤ c) (hz : cs.length ≤ 1000) :
    EDr X W ρ (.Subscript (.BinOp (.Subscript (.Subscript o (.Constant (.int ia) k1 p1) p2) (.Slice (some (.Subscript e (.Constant (.int ib) k2 p3) p4)) none none p5) p6) .Add (.List [.Constant (.int 0) k3 p7] p8) p9) (.Constant (.int 0) k4 pl) pos) (Is fun c => 0 ≤ c) := by
  refine pe_imp (pe_ix ix_list (pe_op op_cat (pe_slice sl_list (pe_ix ix_list hv (pe_int (i := ia)) (fun _ _ => rfl)) (po_some (pe_ix ix_list hv2 (pe_int (i := ib)) (fun _ _ => rfl))) po_none) (pe_lst (pa_cons pe_int pa_nil))) (pe_int (i := ((0 : Nat) : Int))) (fun _ _ => rfl)) fun σ H Q ⟨hB, hR, q⟩ => ?_
  have hσ : σ[jj]? = some (some (.ref bl)) := hR.2 jj _ hj
  refine ⟨.ref bl, hσ, bl, xs, ia, .ref l, rfl, rfl, SqL.of (hb H hB), atI_nat hx, .ref bl, hσ, bl, xs, ib, .int n, rfl, rfl, SqL.of (hb H hB), atI_nat hx2, n, rfl, l, cs.map V.int, rfl, SqL.of (hl H hB), fun p hp => ?_⟩
  obtain ⟨c1, c2, c3⟩ := W.new (o := .lst (cutV (cs.map V.int) (some n) none)) hB hp
  refine ⟨by show 1 ≤ sizeLine; decide, fun p' hp' => ?_⟩
  obtain ⟨c4, c5, c6⟩ := W.new (o := .lst [.int 0]) c1 hp'
  have ne : p ≠ p' := fun z => by
    subst z
    rw [upd_same] at hp'
    cases hp'
  have hlen := cutV_length (cs.map V.int) (some n) none
  rw [List.length_map] at hlen
  refine ⟨p, p', _, [.int 0], rfl, rfl, by rw [upd_ne ne]; exact upd_same, upd_same, ?_, fun p2 hp2 => ?_⟩
  · have : (1001 : Nat) ≤ sizeLine := by decide
    rw [List.length_singleton]
    omega
  obtain ⟨c7, c8, c9⟩ := W.new (o := .lst (cutV (cs.map V.int) (some n) none ++ [.int 0])) c4 hp2
  have key : ∃ c : Int, 0 ≤ c ∧ (cutV (cs.map V.int) (some n) none ++ [V.int 0])[0]? = some (.int c) := by
    cases hcut : cutV (cs.map V.int) (some n) none with
    | nil => exact ⟨0, Int.le_refl _, rfl⟩
    | cons v r =>
      have hm : v ∈ cutV (cs.map V.int) (some n) none := by rw [hcut]; exact List.mem_cons_self ..
      have hm2 : v ∈ cs.map V.int := List.mem_of_mem_drop (List.mem_of_mem_take hm)
      obtain ⟨c, hc, rfl⟩ := List.mem_map.mp hm2
      exact ⟨c, h0 c hc, rfl⟩
  obtain ⟨c, hc, hg⟩ := key
  exact ⟨p2, _, ((0 : Nat) : Int), .int c, rfl, rfl, SqL.of upd_same, atI_nat hg, q (.int c) _ _ ⟨c, rfl, hc⟩ c7 ((c2.trans c5).trans c8) (.int _)⟩
end
/-! ### _law_take -/
def ifBody : List Stmt → List Stmt
  | .If _ z _ _ :: _ => z
  | _ => []
def F_take : Wd → List Sl → (D → Prop) → Prop := fun W ss R => ∃ (b l : Addr) (many : Int), HB W b l ∧ ss = [.v (.ref b), .d (.int many)] ∧ 0 < many ∧ many < 2 ^ 40 ∧ ∀ v, 0 ≤ v → v < many → R (.int v)
theorem c__law_take (T : Tp K mg) : Cw P w K mg base 1 "_law_take" F_take := by
  have sc : FnScope ["bag", "many", "cell", "stirred", "value", "begin", "second"] ["bag", "many"] (defScope s__law_take) := ⟨rfl, rfl, rfl, by decide +kernel, rfl, by decide +kernel, by decide +kernel⟩
  refine T.cw 51 rfl rfl (st := s__law_take) sc (fun _ _ _ _ _ _ us hl => match us, hl with | [_, _], _ => rfl) (fun W ss R hF => by obtain ⟨_, _, _, _, rfl, _⟩ := hF; rfl) ?_
  intro f cdv A l0 s H E W ss R hr hG hF
  obtain ⟨b, l, many, hb, rfl, hm0, hm1, hR⟩ := hF
  have dvm : ∀ n : Int, CDivW n many := fun n => wide_div (b := 41) hm0 (by omega) (by decide) (by decide)
  refine bd_ex (Wx := bagX hb) (fun _ => rfl) (bagX_ex hb) (fun i => ?_)
  have B1 : ∀ (i : BI) H, (bagX hb i).B H → H b = some (.lst (i.xs l)) := fun i H h => h.2.1
  have B2 : ∀ (i : BI) H, (bagX hb i).B H → H l = some (.lst (i.cs.map V.int)) := fun i H h => h.2.2
  have fin : ∀ (i : BI) (v : Int), 0 ≤ v → v < many → R (.int v) ∧ ∀ H, (bagX hb i).B H → W.B H := fun i v h1 h2 => ⟨hR v h1 h2, fun H h => h.1⟩
  have two : ∀ (i : BI) (s2 s3 : Sl), BD3 (cxOf CX0 P w K mg base ["bag", "many", "cell", "stirred", "value", "begin", "second"] "_law_take" (defScope s__law_take) f cdv A l0 s H E).nox (bagX hb i) [.v (.ref b), .d (.int many), s2, s3, .no, .no, .no] ((defBody s__law_take).drop 1)
      (fun z => match z with | .nx W' ρ' => (match Oc.nx ρ' with | .rt d => R d | .nx _ => R .none | _ => False) ∧ ∀ H, W'.B H → W.B H | .rt W' d => (match Oc.rt d with | .rt d => R d | .nx _ => R .none | _ => False) ∧ ∀ H, W'.B H → W.B H) := by
    intro i s2 s3
    refine c_if1 (t_gt (e_itm (pv 0) rfl (B1 i) (n := i.n0) rfl) e_int) (fun hc => ?_) (fun hc => ?_)
    · refine c_setR (i := 4) sc.nd rfl (.inl rfl) (e_mod hm0 (e_intI T.f_int (e_itm (pv 0) rfl (B1 i) (n := i.n0) rfl)) (e_var 1 rfl (pv 1))) (fun d r => ?_)
      subst r
      let i' : BI := { i with n0 := i.n0 / many, h0 := Int.ediv_nonneg i.h0 (by omega) }
      refine c_item (W' := bagX hb i') (d := .int (i.n0 / many)) (v0 := .int (i.n0 / many)) (jj := 0) (e_fdiv (dvm _) (e_intI T.f_int (e_itm (pv 0) rfl (B1 i) (n := i.n0) rfl)) (e_var 1 rfl (pv 1))) (fun H v p => dp_int p) (pv 0) rfl (B1 i) rfl hb.mb rfl (fun H h => bagX_up hb (i := i) (i' := i') rfl rfl H h) ?_
      refine c_retR (e_var 4 rfl (pv 4)) (fun d r => ?_)
      subst r
      exact fin i' _ (Int.emod_nonneg _ (by omega)) (Int.emod_lt_of_pos _ hm0)
    · refine c_setR (i := 5) sc.nd rfl (.inl rfl) (e_mod (by decide) (e_intI T.f_int (e_mul (mulW (a := 40) (b := 20) ?_ (by decide) (by decide)) (e_add (e_itm (pv 0) rfl (B1 i) (n := i.n1) rfl) e_int) e_int)) e_int) (fun d r => ?_)
      · have := i.h1
        have := i.h1'
        omega
      subst r
      have z1 := Int.emod_nonneg ((i.n1 + 1) * 39373) (b := 1000000007) (by decide)
      have z2 := Int.emod_lt_of_pos ((i.n1 + 1) * 39373) (b := 1000000007) (by decide)
      revert z1 z2
      generalize (i.n1 + 1) * 39373 % 1000000007 = g
      intro z1 z2
      refine c_setR (i := 6) sc.nd rfl (.inl rfl) (e_mod (by decide) (e_intI T.f_int (e_mul (mulW (a := 40) (b := 20) ?_ (by decide) (by decide)) (e_mod (by decide) (e_intI T.f_int (e_mul (mulW (a := 40) (b := 40) (by omega) (by omega) (by decide)) (e_var 5 rfl (pv 5)) (e_var 5 rfl (pv 5)))) e_int) e_int)) e_int) (fun d r => ?_)
      · have := Int.emod_nonneg (g * g) (b := 998244353) (by decide)
        have := Int.emod_lt_of_pos (g * g) (b := 998244353) (by decide)
        omega
      subst r
      refine c_retR (e_mod hm0 (e_intI T.f_int (e_fdiv (by exact ⟨by decide, by decide⟩) (e_var 6 rfl (pv 6)) e_int)) (e_var 1 rfl (pv 1))) (fun d r => ?_)
      subst r
      exact fin i _ (Int.emod_nonneg _ (by omega)) (Int.emod_lt_of_pos _ hm0)
  refine c_if1 (t_eqI (e_itm (pv 0) rfl (B1 i) (n := i.n0) rfl) e_int) (fun hc => ?_) (fun hc => two i .no .no)
  refine c_setR (i := 2) sc.nd rfl (.inl rfl) (e_cell (ia := 3) (ib := 2) (pv 0) (pv 0) rfl (B1 i) (B2 i) rfl (n := i.n2) rfl i.hc (Nat.le_trans i.hl (by decide))) (fun d r => ?_)
  obtain ⟨cell, rfl, hcell⟩ := r
  let i1 : BI := { i with n2 := i.n2 + 1, h2 := by have := i.h2; omega }
  refine c_aug (W' := bagX hb i1) (ii := 2) (n := i.n2) (pv 0) rfl (B1 i) rfl hb.mb rfl (fun H h => bagX_up hb (i := i) (i' := i1) rfl rfl H h) ?_
  have rest : ∀ (i : BI), BD3 (cxOf CX0 P w K mg base ["bag", "many", "cell", "stirred", "value", "begin", "second"] "_law_take" (defScope s__law_take) f cdv A l0 s H E).nox (bagX hb i) [.v (.ref b), .d (.int many), .d (.int cell), .no, .no, .no, .no] ((ifBody (defBody s__law_take)).drop 3)
      (Thn3 (cxOf CX0 P w K mg base ["bag", "many", "cell", "stirred", "value", "begin", "second"] "_law_take" (defScope s__law_take) f cdv A l0 s H E).nox ((defBody s__law_take).drop 1) (fun z => match z with | .nx W' ρ' => (match Oc.nx ρ' with | .rt d => R d | .nx _ => R .none | _ => False) ∧ ∀ H, W'.B H → W.B H | .rt W' d => (match Oc.rt d with | .rt d => R d | .nx _ => R .none | _ => False) ∧ ∀ H, W'.B H → W.B H)) := by
    intro i
    refine c_setR (i := 3) sc.nd rfl (.inl rfl) (e_add (e_add (e_mul (mulW (a := 40) (b := 20) ?_ (by decide) (by decide)) (e_itm (pv 0) rfl (B1 i) (n := i.n1) rfl) e_int) (e_mod (by decide) (e_intI T.f_int (e_var 2 rfl (pv 2))) e_int)) (e_mulC (.inl ⟨by decide, by decide⟩) e_int (e_itm (pv 0) rfl (B1 i) (n := i.n2) rfl))) (fun d r => ?_)
    · have := i.h1
      have := i.h1'
      omega
    subst r
    generalize i.n1 * 48271 + cell % 2147483647 + 7919 * i.n2 = g
    let i' : BI := { i with n1 := g % 2147483647, h1 := Int.emod_nonneg _ (by decide), h1' := Int.emod_lt_of_pos _ (by decide) }
    refine c_item (W' := bagX hb i') (d := .int (g % 2147483647)) (v0 := .int (g % 2147483647)) (jj := 1) (e_mod (by decide) (e_intI T.f_int (e_var 3 rfl (pv 3))) e_int) (fun H v p => dp_int p) (pv 0) rfl (B1 i) rfl hb.mb rfl (fun H h => bagX_up hb (i := i) (i' := i') rfl rfl H h) ?_
    exact c_nil (two i' _ _)
  refine c_if1 (t_ge (e_var 2 rfl (pv 2)) (e_pow (by exact ⟨by decide, by decide, by decide⟩) e_int e_int)) (fun hc => ?_) (fun hc => rest i1)
  let i2 : BI := { i1 with n0 := cell, h0 := hcell }
  refine c_item (W' := bagX hb i2) (d := .int cell) (v0 := .int cell) (jj := 0) (e_var 2 rfl (pv 2)) (fun H v p => dp_int p) (pv 0) rfl (B1 i1) rfl hb.mb rfl (fun H h => bagX_up hb (i := i1) (i' := i2) rfl rfl H h) ?_
  exact c_nil (rest i2)
end K65
end
section
set_option Elab.async false
set_option linter.all false
set_option maxRecDepth 100000
set_option maxHeartbeats 4000000
set_option exponentiation.threshold 20000
namespace K65
open PySem PySem.Spec PyProof.Rows L2 DL
variable {K : PySem.W.Frag} {mg : Str → Option Value} {P : Program} {w : World} {base : Heap}
section
variable {X : Cx} {W : Wd} {ρ : En} {a b : Expr} {pos : Pos}
theorem e_eqStr {y z : Str} (ha : ED X W ρ a (.str y)) (hb : ED X W ρ b (.str z)) : ED X W ρ (.Compare a [.Eq] [b] pos) (.bool (decide (V.str y = V.str z))) :=
  e_cmp op_eq ha hb (fun v1 v2 H Q hB p1 p2 q => by
    rw [dp_str p1, dp_str p2]
    exact ⟨rfl, q _ _ H rfl hB (Rel.refl H) (.bl _)⟩) (nomark _)
end
theorem half_step {a b j M : Nat} (h1 : b ≤ a) (hb : b ≠ 0) (h2 : a * b * 2 ^ (j - 1) < M) (hj : 1 ≤ j) : b * (a % b) * 2 ^ j < M := by
  have e1 := Nat.div_add_mod a b
  have e2 := Nat.mod_lt a (Nat.pos_of_ne_zero hb)
  have q1 : 1 ≤ a / b := Nat.div_pos h1 (Nat.pos_of_ne_zero hb)
  have q2 : b * 1 ≤ b * (a / b) := Nat.mul_le_mul_left b q1
  have ha : 2 * (a % b) ≤ a := by omega
  have h3 : b * (a % b) * 2 ≤ a * b := by
    have := Nat.mul_le_mul_left b ha
    have e : b * (a % b) * 2 = b * (2 * (a % b)) := by rw [Nat.mul_assoc, Nat.mul_comm (a % b) 2]
    rw [e, Nat.mul_comm a b]
    exact this
  have e : 2 ^ j = 2 * 2 ^ (j - 1) := by
    rw [← Nat.pow_succ']
    congr 1
    omega
  rw [e, ← Nat.mul_assoc]
  exact Nat.lt_of_le_of_lt (Nat.mul_le_mul_right _ h3) h2
theorem gcd_n {n d : Int} : Nat.gcd n.natAbs d.natAbs = Int.gcd n d := rfl

def F__law_fr : List D → (D → Prop) → Prop := fun ds R => ∃ n d : Int, ds = [.int n, .int d] ∧ d ≠ 0 ∧ n.natAbs < 2 ^ 1100 ∧ d.natAbs < 2 ^ 1100 ∧ R (encQ (Rat.divInt n d))
theorem c__law_fr (T : Tp K mg) : Cb P w K mg base 1 "_law_fr" F__law_fr := by
  have sc : FnScope ["n", "d", "a", "b", "lap"] ["n", "d"] (defScope s__law_fr) := ⟨rfl, rfl, rfl, by decide +kernel, rfl, by decide +kernel, by decide +kernel⟩
  refine T.cb 54 rfl rfl (st := s__law_fr) sc (fun _ _ _ _ _ _ us hl => match us, hl with | [_, _], _ => rfl) (fun ds R hF => by obtain ⟨n, d, rfl, h0, hn, hd, q⟩ := hF; rfl) ?_
  intro f cdv A l s H E W ds R hr hG hF
  obtain ⟨n, d, rfl, h0, hn, hd, q⟩ := hF
  have main : ∀ n d : Int, 0 < d → n.natAbs < 2 ^ 1100 → d.natAbs < 2 ^ 1100 → R (encQ (Rat.divInt n d)) → BD (cxOf CX0 P w K mg base ["n", "d", "a", "b", "lap"] "_law_fr" (defScope s__law_fr) f cdv A l s H E).nox W [.d (.int n), .d (.int d), .no, .no, .no] ((defBody s__law_fr).drop 1) (fun o => match o with | .rt d => R d | .nx _ => R .none | _ => False) := by
    intro n d h0 hn hd q
    have hg := gcd_pos_of (n := n) (d := d) (by omega)
    have hgl := gcd_le_of (n := n) (d := d) (by omega)
    refine b_par 2 3 rfl sc.nd rfl rfl (by decide) rfl rfl (a_cons (e_abs T.f_abs (e_var 0 rfl (pv 0))) (a_cons (e_var 1 rfl (pv 1)) a_nil)) rfl ?_
    have hM : n.natAbs * d.natAbs < 2 ^ 2200 := by
      have e : (2 : Nat) ^ 2200 = 2 ^ 1100 * 2 ^ 1100 := by rw [← Nat.pow_add]
      rw [e]
      exact Nat.mul_lt_mul'' hn hd
    have hM2 : (2 : Nat) ^ 2200 < 2 ^ 3999 := Nat.pow_lt_pow_right (by decide) (by decide)
    revert hM hM2
    generalize (2 : Nat) ^ 2200 = M
    intro hM hM2
    refine b_forR (n := 4000) (I := fun j ρ' => ∃ (a b : Nat) (x : Sl), Nat.gcd a b = Int.gcd n d ∧ a * b < M ∧ (1 ≤ j → b ≤ a ∧ a * b * 2 ^ (j - 1) < M) ∧ ρ' = [.d (.int n), .d (.int d), .d (.int a), .d (.int b), x]) (Ω := fun ρ' => ∃ x, ρ' = [.d (.int n), .d (.int d), .d (.int (Int.gcd n d : Nat)), .d (.int 0), x]) PassesOwn.never rfl sc.nd (i := 4) rfl (.inl rfl) T.f_range e_int (by decide) (by decide) ?_ ?_ ?_ ?_
    · have ed : d = (d.natAbs : Int) := by omega
      exact ⟨n.natAbs, d.natAbs, .no, gcd_n, hM, fun z => absurd z (by decide), by rw [← ed]; rfl⟩
    · rintro j ρ' hj ⟨a, b, x, h1, h2, h3, rfl⟩
      refine b_if1 (t_eqI (e_var 3 rfl (pv 3)) e_int) (fun hc => b_break ?_) (fun hc => ?_)
      · have hb : b = 0 := by
          have := of_decide_eq_true hc
          omega
        subst hb
        rw [Nat.gcd_zero_right] at h1
        exact ⟨_, by rw [← h1]; rfl⟩
      · have hb : b ≠ 0 := by
          have := of_decide_eq_false hc
          omega
        have em : ((a : Int) % (b : Int)) = ((a % b : Nat) : Int) := (Int.natCast_emod a b).symm
        refine b_par 2 3 rfl sc.nd rfl rfl (by decide) rfl rfl (a_cons (e_var 3 rfl (pv 3)) (a_cons (e_mod (by omega) (e_intI T.f_int (e_var 2 rfl (pv 2))) (e_var 3 rfl (pv 3))) a_nil)) rfl (b_nil ?_)
        have ml := Nat.mod_lt a (Nat.pos_of_ne_zero hb)
        have hlt : b * (a % b) < M := Nat.lt_of_le_of_lt (Nat.mul_le_mul_left b (Nat.mod_le a b)) (by rw [Nat.mul_comm]; exact h2)
        refine ⟨b, a % b, .d (.int (j : Nat)), ?_, hlt, fun _ => ⟨Nat.le_of_lt ml, ?_⟩, by rw [em]; rfl⟩
        · rw [← h1, Nat.gcd_comm a b]
          exact (Nat.gcd_rec b a).symm ▸ (Nat.gcd_comm _ _)
        · by_cases hj0 : j = 0
          · subst hj0
            simpa using hlt
          · obtain ⟨h4, h5⟩ := h3 (by omega)
            exact half_step h4 hb h5 (by omega)
    · rintro ρ' ⟨a, b, x, h1, h2, h3, rfl⟩
      obtain ⟨h4, h5⟩ := h3 (by decide)
      have hb : b = 0 := by
        refine Nat.eq_zero_of_not_pos fun z => ?_
        have h6 : 1 ≤ a * b := Nat.mul_pos (by omega) z
        have h7 : 1 * 2 ^ 3999 ≤ a * b * 2 ^ 3999 := Nat.mul_le_mul_right _ h6
        have h8 : a * b * 2 ^ 3999 < M := h5
        omega
      subst hb
      rw [Nat.gcd_zero_right] at h1
      exact ⟨x, by rw [← h1]; rfl⟩
    · rintro ρ' ⟨x, rfl⟩
      have dv : ∀ z : Int, CDivW z (Int.gcd n d : Nat) := fun z => wide_div (b := 1100) (by omega) (by rw [Int.natAbs_natCast]; exact Nat.lt_of_le_of_lt hgl hd) (by decide) (by decide)
      refine' (b_ret (e_ifD (t_gt (e_var 2 rfl (pv 2)) e_int) (fun hc => (e_tup (a_cons (e_fdiv ?r0_0 (e_var 0 rfl (pv 0)) (e_var 2 rfl (pv 2))) (a_cons (e_fdiv ?r0_1 (e_var 1 rfl (pv 1)) (e_var 2 rfl (pv 2))) a_nil)))) (fun hc => (e_tup (a_cons e_int (a_cons e_int a_nil))))) ?r0_2)
      case r0_0 => exact dv n
      case r0_1 => exact dv d
      case r0_2 =>
        have hp : decide ((0 : Int) < ((Int.gcd n d : Nat) : Int)) = true := decide_eq_true (by omega)
        rw [divInt_enc (by omega), decide_eq_true h0, if_pos rfl] at q
        show R (if decide ((0 : Int) < ((Int.gcd n d : Nat) : Int)) = true then _ else _)
        rw [hp, if_pos rfl]
        exact q
  refine b_if1 (t_lt (e_var 1 rfl (pv 1)) e_int) (fun hc => (b_par 0 1 rfl sc.nd rfl rfl (by decide) rfl rfl (a_cons (e_sub e_int (e_var 0 rfl (pv 0))) (a_cons (e_sub e_int (e_var 1 rfl (pv 1))) a_nil)) rfl (b_nil ?_))) (fun hc => main n d (by have := of_decide_eq_false hc; omega) hn hd q)
  have hlt := of_decide_eq_true hc
  refine main (0 - n) (0 - d) (by omega) ?_ ?_ ?_
  · rw [Int.zero_sub, Int.natAbs_neg]; exact hn
  · rw [Int.zero_sub, Int.natAbs_neg]; exact hd
  · rw [Int.zero_sub, Int.zero_sub, Rat.neg_divInt_neg]; exact q
def F__law_add : List D → (D → Prop) → Prop := fun ds R => ∃ p r : Rat, ds = [encQ p, encQ r] ∧ Sz p 500 500 ∧ Sz r 500 500 ∧ R (encQ (p + r))
theorem c__law_add (T : Tp K mg) : Cb P w K mg base 2 "_law_add" F__law_add := by
  have sc : FnScope ["f", "g"] ["f", "g"] (defScope s__law_add) := ⟨rfl, rfl, rfl, by decide +kernel, rfl, by decide +kernel, by decide +kernel⟩
  have C__law_fr := c__law_fr (P := P) (w := w) (base := base) T
  refine T.cb 55 rfl rfl (st := s__law_add) sc (fun _ _ _ _ _ _ us hl => match us, hl with | [_, _], _ => rfl) (fun ds R hF => by obtain ⟨p, r, rfl, hp, hq, q⟩ := hF; rfl) ?_
  intro f cdv A l s H E W ds R hr hG hF
  obtain ⟨p, r, rfl, hp, hq, q⟩ := hF
  have w1 : ∀ {i j : Int}, i.natAbs < 2 ^ 500 → j.natAbs < 2 ^ 500 → (i * j).natAbs < 2 ^ 1000 := fun h1 h2 => wide_lt (a := 500) (b := 500) h1 h2
  have dp : ((p.den : Int)).natAbs < 2 ^ 500 := by rw [natAbs_den]; exact hp.2
  have dr : ((r.den : Int)).natAbs < 2 ^ 500 := by rw [natAbs_den]; exact hq.2
  have up : ∀ {i : Int}, i.natAbs < 2 ^ 1000 → i.natAbs < 2 ^ 1100 := fun h => Nat.lt_of_lt_of_le h (Nat.pow_le_pow_right (by decide) (by decide))
  refine' (b_ret (e_call (C__law_fr.mono (by decide)) hr hG (a_cons (e_add (e_mul ?h0 (e_at (e_var 0 rfl (pv 0)) rfl) (e_at (e_var 1 rfl (pv 1)) rfl)) (e_mul ?h1 (e_at (e_var 1 rfl (pv 1)) rfl) (e_at (e_var 0 rfl (pv 0)) rfl))) (a_cons (e_mul ?h2 (e_at (e_var 0 rfl (pv 0)) rfl) (e_at (e_var 1 rfl (pv 1)) rfl)) a_nil)) ?h3) ?h4)
  case h0 =>
    exact mulW hp.1 (by rw [natAbs_den]; exact hq.2) (by decide)
  case h1 =>
    exact mulW hq.1 (by rw [natAbs_den]; exact hp.2) (by decide)
  case h2 =>
    exact mulW (a := 500) (b := 500) (by rw [natAbs_den]; exact hp.2) (by rw [natAbs_den]; exact hq.2) (by decide)
  case h3 =>
    refine ⟨_, _, rfl, ?_, ?_, up (w1 dp dr), rfl⟩
    · have h1 := Int.mul_pos (den_pos p) (den_pos r)
      omega
    · have e : (2 : Nat) ^ 1001 = 2 ^ 1000 * 2 := Nat.pow_succ ..
      have h1 := w1 hp.1 dr
      have h2 := w1 hq.1 dp
      exact Nat.lt_of_lt_of_le (show _ < 2 ^ 1001 by omega) (Nat.pow_le_pow_right (by decide) (by decide))
  case h4 =>
    have e : Rat.divInt (p.num * (r.den : Int) + r.num * (p.den : Int)) ((p.den : Int) * (r.den : Int)) = p + r := by
      rw [Rat.add_def', ← Rat.divInt_ofNat, Int.natCast_mul]
    rw [e]
    exact q
def F__law_sub : List D → (D → Prop) → Prop := fun ds R => ∃ p r : Rat, ds = [encQ p, encQ r] ∧ Sz p 500 500 ∧ Sz r 500 500 ∧ R (encQ (p - r))
theorem c__law_sub (T : Tp K mg) : Cb P w K mg base 2 "_law_sub" F__law_sub := by
  have sc : FnScope ["f", "g"] ["f", "g"] (defScope s__law_sub) := ⟨rfl, rfl, rfl, by decide +kernel, rfl, by decide +kernel, by decide +kernel⟩
  have C__law_fr := c__law_fr (P := P) (w := w) (base := base) T
  refine T.cb 56 rfl rfl (st := s__law_sub) sc (fun _ _ _ _ _ _ us hl => match us, hl with | [_, _], _ => rfl) (fun ds R hF => by obtain ⟨p, r, rfl, hp, hq, q⟩ := hF; rfl) ?_
  intro f cdv A l s H E W ds R hr hG hF
  obtain ⟨p, r, rfl, hp, hq, q⟩ := hF
  have w1 : ∀ {i j : Int}, i.natAbs < 2 ^ 500 → j.natAbs < 2 ^ 500 → (i * j).natAbs < 2 ^ 1000 := fun h1 h2 => wide_lt (a := 500) (b := 500) h1 h2
  have dp : ((p.den : Int)).natAbs < 2 ^ 500 := by rw [natAbs_den]; exact hp.2
  have dr : ((r.den : Int)).natAbs < 2 ^ 500 := by rw [natAbs_den]; exact hq.2
  have up : ∀ {i : Int}, i.natAbs < 2 ^ 1000 → i.natAbs < 2 ^ 1100 := fun h => Nat.lt_of_lt_of_le h (Nat.pow_le_pow_right (by decide) (by decide))
  refine' (b_ret (e_call (C__law_fr.mono (by decide)) hr hG (a_cons (e_sub (e_mul ?h0 (e_at (e_var 0 rfl (pv 0)) rfl) (e_at (e_var 1 rfl (pv 1)) rfl)) (e_mul ?h1 (e_at (e_var 1 rfl (pv 1)) rfl) (e_at (e_var 0 rfl (pv 0)) rfl))) (a_cons (e_mul ?h2 (e_at (e_var 0 rfl (pv 0)) rfl) (e_at (e_var 1 rfl (pv 1)) rfl)) a_nil)) ?h3) ?h4)
  case h0 =>
    exact mulW hp.1 (by rw [natAbs_den]; exact hq.2) (by decide)
  case h1 =>
    exact mulW hq.1 (by rw [natAbs_den]; exact hp.2) (by decide)
  case h2 =>
    exact mulW (a := 500) (b := 500) (by rw [natAbs_den]; exact hp.2) (by rw [natAbs_den]; exact hq.2) (by decide)
  case h3 =>
    refine ⟨_, _, rfl, ?_, ?_, up (w1 dp dr), rfl⟩
    · have h1 := Int.mul_pos (den_pos p) (den_pos r)
      omega
    · have e : (2 : Nat) ^ 1001 = 2 ^ 1000 * 2 := Nat.pow_succ ..
      have h1 := w1 hp.1 dr
      have h2 := w1 hq.1 dp
      exact Nat.lt_of_lt_of_le (show _ < 2 ^ 1001 by omega) (Nat.pow_le_pow_right (by decide) (by decide))
  case h4 =>
    have e : Rat.divInt (p.num * (r.den : Int) - r.num * (p.den : Int)) ((p.den : Int) * (r.den : Int)) = p - r := by
      rw [Rat.sub_def', ← Rat.divInt_ofNat, Int.natCast_mul]
    rw [e]
    exact q
def F__law_mul : List D → (D → Prop) → Prop := fun ds R => ∃ p r : Rat, ds = [encQ p, encQ r] ∧ Sz p 500 500 ∧ Sz r 500 500 ∧ R (encQ (p * r))
theorem c__law_mul (T : Tp K mg) : Cb P w K mg base 2 "_law_mul" F__law_mul := by
  have sc : FnScope ["f", "g"] ["f", "g"] (defScope s__law_mul) := ⟨rfl, rfl, rfl, by decide +kernel, rfl, by decide +kernel, by decide +kernel⟩
  have C__law_fr := c__law_fr (P := P) (w := w) (base := base) T
  refine T.cb 57 rfl rfl (st := s__law_mul) sc (fun _ _ _ _ _ _ us hl => match us, hl with | [_, _], _ => rfl) (fun ds R hF => by obtain ⟨p, r, rfl, hp, hq, q⟩ := hF; rfl) ?_
  intro f cdv A l s H E W ds R hr hG hF
  obtain ⟨p, r, rfl, hp, hq, q⟩ := hF
  have w1 : ∀ {i j : Int}, i.natAbs < 2 ^ 500 → j.natAbs < 2 ^ 500 → (i * j).natAbs < 2 ^ 1000 := fun h1 h2 => wide_lt (a := 500) (b := 500) h1 h2
  have dp : ((p.den : Int)).natAbs < 2 ^ 500 := by rw [natAbs_den]; exact hp.2
  have dr : ((r.den : Int)).natAbs < 2 ^ 500 := by rw [natAbs_den]; exact hq.2
  have up : ∀ {i : Int}, i.natAbs < 2 ^ 1000 → i.natAbs < 2 ^ 1100 := fun h => Nat.lt_of_lt_of_le h (Nat.pow_le_pow_right (by decide) (by decide))
  refine' (b_ret (e_call (C__law_fr.mono (by decide)) hr hG (a_cons (e_mul ?h0 (e_at (e_var 0 rfl (pv 0)) rfl) (e_at (e_var 1 rfl (pv 1)) rfl)) (a_cons (e_mul ?h1 (e_at (e_var 0 rfl (pv 0)) rfl) (e_at (e_var 1 rfl (pv 1)) rfl)) a_nil)) ?h2) ?h3)
  case h0 =>
    exact mulW hp.1 hq.1 (by decide)
  case h1 =>
    exact mulW (a := 500) (b := 500) (by rw [natAbs_den]; exact hp.2) (by rw [natAbs_den]; exact hq.2) (by decide)
  case h2 =>
    refine ⟨_, _, rfl, ?_, up (w1 hp.1 hq.1), up (w1 dp dr), rfl⟩
    have h1 := Int.mul_pos (den_pos p) (den_pos r)
    omega
  case h3 =>
    have e : Rat.divInt (p.num * r.num) ((p.den : Int) * (r.den : Int)) = p * r := by
      rw [Rat.mul_def', ← Rat.divInt_ofNat, Int.natCast_mul]
    rw [e]
    exact q
def F__law_div : List D → (D → Prop) → Prop := fun ds R => ∃ p r : Rat, ds = [encQ p, encQ r] ∧ Sz p 500 500 ∧ Sz r 500 500 ∧ r ≠ 0 ∧ R (encQ (p / r))
theorem c__law_div (T : Tp K mg) : Cb P w K mg base 2 "_law_div" F__law_div := by
  have sc : FnScope ["f", "g"] ["f", "g"] (defScope s__law_div) := ⟨rfl, rfl, rfl, by decide +kernel, rfl, by decide +kernel, by decide +kernel⟩
  have C__law_fr := c__law_fr (P := P) (w := w) (base := base) T
  refine T.cb 58 rfl rfl (st := s__law_div) sc (fun _ _ _ _ _ _ us hl => match us, hl with | [_, _], _ => rfl) (fun ds R hF => by obtain ⟨p, r, rfl, hp, hq, h0, q⟩ := hF; rfl) ?_
  intro f cdv A l s H E W ds R hr hG hF
  obtain ⟨p, r, rfl, hp, hq, h0, q⟩ := hF
  have w1 : ∀ {i j : Int}, i.natAbs < 2 ^ 500 → j.natAbs < 2 ^ 500 → (i * j).natAbs < 2 ^ 1000 := fun h1 h2 => wide_lt (a := 500) (b := 500) h1 h2
  have dp : ((p.den : Int)).natAbs < 2 ^ 500 := by rw [natAbs_den]; exact hp.2
  have dr : ((r.den : Int)).natAbs < 2 ^ 500 := by rw [natAbs_den]; exact hq.2
  have up : ∀ {i : Int}, i.natAbs < 2 ^ 1000 → i.natAbs < 2 ^ 1100 := fun h => Nat.lt_of_lt_of_le h (Nat.pow_le_pow_right (by decide) (by decide))
  refine' (b_ret (e_call (C__law_fr.mono (by decide)) hr hG (a_cons (e_mul ?h0 (e_at (e_var 0 rfl (pv 0)) rfl) (e_at (e_var 1 rfl (pv 1)) rfl)) (a_cons (e_mul ?h1 (e_at (e_var 0 rfl (pv 0)) rfl) (e_at (e_var 1 rfl (pv 1)) rfl)) a_nil)) ?h2) ?h3)
  case h0 =>
    exact mulW hp.1 (by rw [natAbs_den]; exact hq.2) (by decide)
  case h1 =>
    exact mulW (a := 500) (b := 500) (by rw [natAbs_den]; exact hp.2) hq.1 (by decide)
  case h2 =>
    refine ⟨_, _, rfl, ?_, up (w1 hp.1 dr), up (w1 dp hq.1), rfl⟩
    have h1 := den_pos p
    exact Int.mul_ne_zero (by omega) (fun z => h0 (Rat.num_eq_zero.mp z))
  case h3 =>
    have e : Rat.divInt (p.num * (r.den : Int)) ((p.den : Int) * r.num) = p / r := by
      rw [Rat.div_def, Rat.inv_def]
      have h1 : p = Rat.divInt p.num (p.den : Int) := (Rat.num_divInt_den p).symm
      rw [← Rat.divInt_mul_divInt, ← h1]
    rw [e]
    exact q
def F__law_sign : List D → (D → Prop) → Prop := fun ds R => ∃ p : Rat, ds = [encQ p] ∧ R (.int (QM.sgn p))
theorem c__law_sign (T : Tp K mg) : Cb P w K mg base 1 "_law_sign" F__law_sign := by
  have sc : FnScope ["f"] ["f"] (defScope s__law_sign) := ⟨rfl, rfl, rfl, by decide +kernel, rfl, by decide +kernel, by decide +kernel⟩
  refine T.cb 59 rfl rfl (st := s__law_sign) sc (fun _ _ _ _ _ _ us hl => match us, hl with | [_], _ => rfl) (fun ds R hF => by obtain ⟨p, rfl, q⟩ := hF; rfl) ?_
  intro f cdv A l s H E W ds R hr hG hF
  obtain ⟨p, rfl, q⟩ := hF
  refine' (b_ret (e_sub (e_intB T.f_int (e_gt (e_at (e_var 0 rfl (pv 0)) rfl) e_int)) (e_intB T.f_int (e_lt (e_at (e_var 0 rfl (pv 0)) rfl) e_int))) ?h0)
  case h0 =>
    rw [← sgn_num] at q
    exact q
def F__law_is : List D → (D → Prop) → Prop := fun ds R => ∃ c0 a b c q a2 b2 c2 q2 : Rat, QM.Good c0 ∧ QM.Co c0 b c q ∧ QM.Co c0 b2 c2 q2 ∧ ds = [encR a b c, encR a2 b2 c2] ∧
  ((Sz a 3000 300 ∧ Sz b 3000 150 ∧ Sz c 100 60 ∧ Sz a2 3000 300 ∧ Sz b2 3000 150 ∧ Sz c2 100 60) ∨ (a = a2 ∧ b = b2 ∧ c = c2 ∧ Sz a 30000 1000 ∧ Sz b 30000 1000 ∧ Sz c 30000 400)) ∧ R (.bool (decide (QM.S c0 (a - a2) (q - q2) = 0)))
theorem c__law_is (T : Tp K mg) : Cb P w K mg base 9 "_law_is" F__law_is := by
  have sc : FnScope ["r", "s"] ["r", "s"] (defScope s__law_is) := ⟨rfl, rfl, rfl, by decide +kernel, rfl, by decide +kernel, by decide +kernel⟩
  have C_compare_signs := c_compare_signs (P := P) (w := w) (base := base) T
  refine T.cb 62 rfl rfl (st := s__law_is) sc (fun _ _ _ _ _ _ us hl => match us, hl with | [_, _], _ => rfl) (fun ds R hF => by obtain ⟨c0, a, b, c, q, a2, b2, c2, q2, g, o1, o2, rfl, hs, qq⟩ := hF; rfl) ?_
  intro f cdv A l s H E W ds R hr hG hF
  obtain ⟨c0, a, b, c, q, a2, b2, c2, q2, g, o1, o2, rfl, hs, qq⟩ := hF
  refine' (b_ret (e_eqI (e_call (d := .int (QM.S c0 (a - a2) (q - q2))) (C_compare_signs.mono (by decide)) hr hG (a_cons (e_var 0 rfl (pv 0)) (a_cons (e_var 1 rfl (pv 1)) a_nil)) ?h0) e_int) ?h1)
  case h0 =>
    exact ⟨c0, a, b, c, q, a2, b2, c2, q2, g, o1, o2, rfl, hs, rfl⟩
  case h1 =>
    exact qq
def F__law_alike : List D → (D → Prop) → Prop := fun ds R => ∃ d : D, ds = [d, d] ∧ isRef d = true ∧ d.showable = true ∧ d.hasDict = false ∧ d.depth ≤ 20 ∧ d.shown.length ≤ 100000 ∧ SeqAt.shaped d = true ∧ PyData.eqv d d = true ∧ R (.bool true)
theorem c__law_alike (T : Tp K mg) : Cb P w K mg base 1 "_law_alike" F__law_alike := by
  have sc : FnScope ["found", "due"] ["found", "due"] (defScope s__law_alike) := ⟨rfl, rfl, rfl, by decide +kernel, rfl, by decide +kernel, by decide +kernel⟩
  refine T.cb 53 rfl rfl (st := s__law_alike) sc (fun _ _ _ _ _ _ us hl => match us, hl with | [_, _], _ => rfl) (fun ds R hF => by obtain ⟨d, rfl, h1, h2, h3, h4, h5, h6, h7, q⟩ := hF; rfl) ?_
  intro f cdv A l s H E W ds R hr hG hF
  obtain ⟨d, rfl, h1, h2, h3, h4, h5, h6, h7, q⟩ := hF
  have rp : ∀ i, i < 2 → (([.d d, .d d] : En)[i]? = some (.d d)) := fun i hi => by
    match i, hi with
    | 0, _ => rfl
    | 1, _ => rfl
  have hu : (A.deeper (envOfC "_law_alike" (defScope s__law_alike) s.heap.objs.size f cdv)).units + 200 < cLine := by have := hr.un; omega
  have fit1 := Nat.lt_of_le_of_lt (Nat.add_le_add_left (show d.depth + 1 ≤ 200 by omega) (A.deeper (envOfC "_law_alike" (defScope s__law_alike) s.heap.objs.size f cdv)).units) hu
  have fits : d.shown.length ≤ sizeLine := Nat.le_trans h5 (by decide)
  refine b_ret (e_and (e_eqStr (e_repr hG T.f_repr h1 h2 h3 fit1 fits (e_var 0 rfl (pv 0))) (e_repr hG T.f_repr h1 h2 h3 fit1 fits (e_var 1 rfl (pv 1)))) (fun hc => e_one (e_eq hr.units h6 h6 (e_var 0 rfl (pv 0)) (e_var 1 rfl (pv 1))))) ?_
  have e : (decide (V.str d.shown = V.str d.shown) && PyData.eqv d d) = true := by
    rw [decide_eq_true rfl, h7]
    rfl
  rw [e]
  exact q
end K65
end
section
set_option Elab.async false
set_option linter.all false
set_option maxRecDepth 100000
set_option maxHeartbeats 4000000
set_option exponentiation.threshold 20000
namespace K65
open PySem PySem.Spec PyProof.Rows L2 DL
variable {K : PySem.W.Frag} {mg : Str → Option Value} {P : Program} {w : World} {base : Heap}
/-! ### _law_some -/
def F_some : Wd → List Sl → (D → Prop) → Prop := fun W ss R => ∃ (b l : Addr) (ds : List D), HB W b l ∧ ss = [.v (.ref b), .d (.list ds)] ∧ ds ≠ [] ∧ ds.length ≤ 1000 ∧ ∀ d ∈ ds, R d
theorem c__law_some (T : Tp K mg) : Cw P w K mg base 2 "_law_some" F_some := by
  have sc : FnScope ["bag", "things"] ["bag", "things"] (defScope s__law_some) := ⟨rfl, rfl, rfl, by decide +kernel, rfl, by decide +kernel, by decide +kernel⟩
  have C_take := c__law_take (P := P) (w := w) (base := base) T
  refine T.cw 52 rfl rfl (st := s__law_some) sc (fun _ _ _ _ _ _ us hl => match us, hl with | [_, _], _ => rfl) (fun W ss R hF => by obtain ⟨_, _, _, _, rfl, _⟩ := hF; rfl) ?_
  intro f cdv A l0 s H E W ss R hr hG hF
  obtain ⟨b, l, ds, hb, rfl, hne, hl, hR⟩ := hF
  have hpos : 0 < ds.length := List.length_pos_iff.mpr hne
  refine b_retR (R := R) (e_ixR (Ra := fun z => z = .list ds) (Rb := Is fun v => 0 ≤ v ∧ v < (ds.length : Int)) ix_list (e_var 1 rfl (pv 1)) (e_callW (C_take.mono (by decide)) hr hG (s_raw (pv 0) rfl (s_cons (e_len T.f_len (e_var 1 rfl (pv 1)) rfl (Nat.le_of_lt (small1000 hl))) s_nil)) ⟨b, l, ds.length, hb, rfl, by omega, by omega, fun v h1 h2 => ⟨v, rfl, h1, h2⟩⟩) (fun x y e1 e2 => ?_) (fun _ _ => rfl)) (fun _ z => z)
  obtain ⟨v, rfl, h1, h2⟩ := e2
  subst e1
  obtain ⟨n, rfl⟩ := Int.eq_ofNat_of_zero_le h1
  have hn : n < ds.length := by omega
  exact od_weak (od_ixL (List.getElem?_eq_getElem hn)) fun d r => by subst r; exact hR _ (List.getElem_mem hn)
/-! ### _law_number -/
def F_number : Wd → List Sl → (D → Prop) → Prop := fun W ss R => ∃ (b l : Addr), HB W b l ∧ ss = [.v (.ref b)] ∧ ∀ q : Rat, Sz q 50 20 → R (encQ q)
theorem c__law_number (T : Tp K mg) : Cw P w K mg base 3 "_law_number" F_number := by
  have sc : FnScope ["bag", "n", "lap"] ["bag"] (defScope s__law_number) := ⟨rfl, rfl, rfl, by decide +kernel, rfl, by decide +kernel, by decide +kernel⟩
  have C_take := c__law_take (P := P) (w := w) (base := base) T
  have C_some := c__law_some (P := P) (w := w) (base := base) T
  have C_fr := c__law_fr (P := P) (w := w) (base := base) T
  refine T.cw 60 rfl rfl (st := s__law_number) sc (fun _ _ _ _ _ _ us hl => match us, hl with | [_], _ => rfl) (fun W ss R hF => by obtain ⟨_, _, _, rfl, _⟩ := hF; rfl) ?_
  intro f cdv A l0 s H E W ss R hr hG hF
  obtain ⟨b, l, hb, rfl, hR⟩ := hF
  refine b_setR (i := 1) (R := Is fun n => n.natAbs < 1001 * 1000003 ^ 0) sc.nd rfl (.inl rfl) (e_subR (A := fun v => 0 ≤ v ∧ v < 2001) (B := fun v => v = 1000) (e_callW (C_take.mono (by decide)) hr hG (s_raw (pv 0) rfl (s_cons e_int s_nil)) ⟨b, l, 2001, hb, rfl, by decide, by decide, fun v h1 h2 => ⟨v, rfl, h1, h2⟩⟩) (ED.is e_int rfl) (fun i j h1 h2 => by omega)) (fun d hd => ?_)
  obtain ⟨n0, rfl, hn0⟩ := hd
  refine b_forN (i := 2) (A := fun v => 0 ≤ v ∧ v < 3) (I := fun j ρ' => ∃ (n : Int) (x : Sl), n.natAbs < 1001 * 1000003 ^ j ∧ ρ' = [.v (.ref b), .d (.int n), x]) (Ω := fun ρ' => ∃ (n : Int) (x : Sl), n.natAbs < 2 ^ 50 ∧ ρ' = [.v (.ref b), .d (.int n), x]) PassesOwn.never rfl sc.nd rfl (.inl rfl) T.f_range
    (e_callW (C_take.mono (by decide)) hr hG (s_raw (pv 0) rfl (s_cons e_int s_nil)) ⟨b, l, 3, hb, rfl, by decide, by decide, fun v h1 h2 => ⟨v, rfl, h1, h2⟩⟩) (fun n h => by omega) ⟨n0, .no, hn0, rfl⟩ ?_ ?_ ?_
  · rintro k hk j ρ' hj ⟨n, x, hn, rfl⟩
    refine b_setR (i := 1) (R := Is fun m => m.natAbs < 1001 * 1000003 ^ (j + 1)) sc.nd rfl (.inl rfl) (e_addR (A := fun v => v = n * 1000003) (B := fun v => 0 ≤ v ∧ v < 1000003) (ED.is (e_mulC (.inr ⟨by decide, by decide⟩) (e_var 1 rfl (pv 1)) e_int) rfl) (e_callW (C_take.mono (by decide)) hr hG (s_raw (pv 0) rfl (s_cons e_int s_nil)) ⟨b, l, 1000003, hb, rfl, by decide, by decide, fun v h1 h2 => ⟨v, rfl, h1, h2⟩⟩) (fun i v h1 h2 => ?_)) (fun d hd => ?_)
    · subst h1
      rw [Nat.pow_succ]
      generalize 1000003 ^ j = z at hn
      omega
    · obtain ⟨m, rfl, hm⟩ := hd
      exact b_nil ⟨m, _, hm, rfl⟩
  · rintro k hk ρ' ⟨n, x, hn, rfl⟩
    refine ⟨n, x, ?_, rfl⟩
    have : k.toNat = 0 ∨ k.toNat = 1 ∨ k.toNat = 2 := by omega
    rcases this with e | e | e <;> rw [e] at hn <;> omega
  · rintro ρ' ⟨n, x, hn, rfl⟩
    refine b_retR (R := R) (e_callR (Rs := fun ds => ∃ d : Int, ds = [.int n, .int d] ∧ (d = 1 ∨ d = 2 ∨ d = 7 ∨ d = 1000 ∨ d = 999983)) (C_fr.mono (by decide)) hr hG (a_consR (Ra := fun z => z = .int n) (Rs := fun ds => ∃ d : Int, ds = [.int d] ∧ (d = 1 ∨ d = 2 ∨ d = 7 ∨ d = 1000 ∨ d = 999983)) (e_var 1 rfl (pv 1)) (a_consR (Ra := fun z => ∃ d : Int, z = .int d ∧ (d = 1 ∨ d = 2 ∨ d = 7 ∨ d = 1000 ∨ d = 999983)) (Rs := fun z => z = []) (e_callW (C_some.mono (by decide)) hr hG (s_raw (pv 0) rfl (s_cons (e_lst (a_cons e_int (a_cons e_int (a_cons e_int (a_cons e_int (a_cons e_int (a_cons e_int a_nil))))))) s_nil)) ⟨b, l, _, hb, rfl, List.cons_ne_nil _ _, Nat.le_of_ble_eq_true rfl, fun d hd => ?_⟩) a_nil (fun d ds h1 h2 => by subst h2; obtain ⟨d, rfl, h⟩ := h1; exact ⟨d, rfl, h⟩)) (fun d ds h1 h2 => by subst h1; obtain ⟨d, rfl, h⟩ := h2; exact ⟨d, rfl, h⟩)) (fun ds h => ?_)) (fun _ z => z)
    · simp only [List.mem_cons, List.not_mem_nil, or_false] at hd
      rcases hd with rfl | rfl | rfl | rfl | rfl | rfl <;> exact ⟨_, rfl, by decide⟩
    · obtain ⟨d, rfl, h⟩ := h
      have h0 : d ≠ 0 := by omega
      have hd : d.natAbs < 2 ^ 20 := by omega
      exact ⟨n, d, rfl, h0, Nat.lt_of_lt_of_le hn (Nat.pow_le_pow_right (by decide) (by decide)), Nat.lt_of_lt_of_le hd (Nat.pow_le_pow_right (by decide) (by decide)), hR _ (sz_divInt h0 hn hd)⟩
/-! ### _law_told_by -/
theorem encQ_of {p : Rat} {n : Int} {d : Nat} (h1 : p.num = n) (h2 : p.den = d) : (.tuple [.int n, .int (d : Int)] : D) = encQ p := by
  unfold encQ
  rw [h1, h2]
def F_told : Wd → List Sl → (D → Prop) → Prop := fun W ss R => ∃ (b0 l : Addr) (a b c : Rat), HB W b0 l ∧ ss = [.v (.ref b0), .d (encQ a), .d (encQ b), .d (encQ c)] ∧ Sz b 100 100 ∧ Sz c 100 100 ∧ QM.Good c ∧ ∀ s : Rat, (s = 1 ∨ s = 2 ∨ s = 1/3 ∨ s = 5/7) → R (rtD a (b / s) (c * (s * s)))
theorem c__law_told_by (T : Tp K mg) : Cw P w K mg base 6 "_law_told_by" F_told := by
  have sc : FnScope ["bag", "a", "b", "c", "s"] ["bag", "a", "b", "c"] (defScope s__law_told_by) := ⟨rfl, rfl, rfl, by decide +kernel, rfl, by decide +kernel, by decide +kernel⟩
  have C_some := c__law_some (P := P) (w := w) (base := base) T
  have C__law_div := c__law_div (P := P) (w := w) (base := base) T
  have C__law_mul := c__law_mul (P := P) (w := w) (base := base) T
  have C_rooted := c_rooted (P := P) (w := w) (base := base) T
  refine T.cw 61 rfl rfl (st := s__law_told_by) sc (fun _ _ _ _ _ _ us hl => match us, hl with | [_, _, _, _], _ => rfl) (fun W ss R hF => by obtain ⟨_, _, _, _, _, _, rfl, _⟩ := hF; rfl) ?_
  intro f cdv A l0 s H E W ss R hr hG hF
  obtain ⟨b0, l, a, b, c, hb0, rfl, hb, hc, g, hR⟩ := hF
  refine b_setR (i := 4) (R := fun z => ∃ s : Rat, z = encQ s ∧ (s = 1 ∨ s = 2 ∨ s = 1/3 ∨ s = 5/7)) sc.nd rfl (.inl rfl) (e_callW (C_some.mono (by decide)) hr hG (s_raw (pv 0) rfl (s_cons (e_lst (a_cons (e_tup (a_cons e_int (a_cons e_int a_nil))) (a_cons (e_tup (a_cons e_int (a_cons e_int a_nil))) (a_cons (e_tup (a_cons e_int (a_cons e_int a_nil))) (a_cons (e_tup (a_cons e_int (a_cons e_int a_nil))) a_nil))))) s_nil)) ⟨b0, l, _, hb0, rfl, List.cons_ne_nil _ _, Nat.le_of_ble_eq_true rfl, fun d hd => ?_⟩) (fun d hd => ?_)
  · simp only [List.mem_cons, List.not_mem_nil, or_false] at hd
    rcases hd with rfl | rfl | rfl | rfl
    · exact ⟨1, encQ_of (d := 1) (by decide +kernel) (by decide +kernel), .inl rfl⟩
    · exact ⟨2, encQ_of (d := 1) (by decide +kernel) (by decide +kernel), .inr (.inl rfl)⟩
    · exact ⟨1/3, encQ_of (d := 3) (by decide +kernel) (by decide +kernel), .inr (.inr (.inl rfl))⟩
    · exact ⟨5/7, encQ_of (d := 7) (by decide +kernel) (by decide +kernel), .inr (.inr (.inr rfl))⟩
  obtain ⟨s, rfl, hs⟩ := hd
  have s0 : 0 < s ∧ Sz s 3 3 ∧ s ≠ 0 := by
    rcases hs with rfl | rfl | rfl | rfl <;> exact ⟨by decide +kernel, ⟨by decide +kernel, by decide +kernel⟩, by decide +kernel⟩
  have ss := s0.2.1.mul s0.2.1
  have hcs := hc.mul ss
  have gc : QM.Good (c * (s * s)) := by
    have e : c * (s * s) = s * s * c := by grind
    rw [e]
    exact QM.good_t g s0.1
  refine' b_ret (e_call (C_rooted.mono (by decide)) hr hG (a_cons (e_var 1 rfl (pv 1)) (a_cons (e_call (C__law_div.mono (by decide)) hr hG (a_cons (e_var 2 rfl (pv 2)) (a_cons (e_var 4 rfl (pv 4)) a_nil)) ?h0) (a_cons (e_call (C__law_mul.mono (by decide)) hr hG (a_cons (e_var 3 rfl (pv 3)) (a_cons (e_call (C__law_mul.mono (by decide)) hr hG (a_cons (e_var 4 rfl (pv 4)) (a_cons (e_var 4 rfl (pv 4)) a_nil)) ?h1) a_nil)) ?h2) a_nil))) ?h3) ?h4
  case h0 => exact ⟨b, s, rfl, hb.mono (by decide) (by decide), s0.2.1.mono (by decide) (by decide), s0.2.2, rfl⟩
  case h1 => exact ⟨s, s, rfl, s0.2.1.mono (by decide) (by decide), s0.2.1.mono (by decide) (by decide), rfl⟩
  case h2 => exact ⟨c, s * s, rfl, hc.mono (by decide) (by decide), ss.mono (by decide) (by decide), rfl⟩
  case h3 => exact ⟨a, b / s, c * (s * s), rfl, .inr (.inr ⟨gc, hcs.mono (by decide) (by decide)⟩), rfl⟩
  case h4 => exact hR s hs
end K65
end
section
set_option Elab.async false
set_option linter.all false
set_option maxRecDepth 100000
set_option maxHeartbeats 4000000
set_option exponentiation.threshold 20000
namespace K65
open PySem PySem.Spec PyProof.Rows L2 DL QM
/-! ### root numbers of one c as the program keeps them, told by p + q root c -/
def cz (c q : Rat) : Rat := if q = 0 then 0 else c
def nf (c p q : Rat) : D := encR p q (cz c q)
theorem cz0 {c : Rat} : cz c 0 = 0 := if_pos rfl
theorem czn {c q : Rat} (h : q ≠ 0) : cz c q = c := if_neg h
theorem good_ne {c : Rat} (g : Good c) : c ≠ 0 := by have := g.pos; grind
theorem rt_nf {c p q : Rat} (h : c ≠ 0) : rtD p q c = nf c p q := by
  unfold rtD nf
  by_cases z : q = 0
  · subst z
    rw [if_pos (.inl rfl), cz0]
  · rw [if_neg (fun y => y.elim z h), czn z]
theorem nf0 {c f : Rat} : encR f 0 0 = nf c f 0 := by
  unfold nf
  rw [cz0]
theorem co_cz {c q : Rat} : Co c q (cz c q) q := by
  by_cases z : q = 0
  · subst z
    rw [cz0]
    exact Co.zero
  · rw [czn z]
    exact .inr ⟨1, by decide +kernel, by grind, by grind⟩
theorem sz_cz {c q : Rat} {n m : Nat} (h : Sz c n m) (hn : 1 ≤ n) (hm : 1 ≤ m) : Sz (cz c q) n m := by
  unfold cz
  split
  · exact sz00 hn hm
  · exact h
structure Lv (p q : Rat) (n d : Nat) : Prop where
  p : Sz p n d
  q : Sz q n d
theorem Lv.mono {p q : Rat} {n d n' d' : Nat} (h : Lv p q n d) (hn : n ≤ n') (hd : d ≤ d') : Lv p q n' d' := ⟨h.p.mono hn hd, h.q.mono hn hd⟩
section
variable {c p q p' q' f : Rat} {n d n' d' : Nat}
theorem Lv.add (h : Lv p q n d) (h' : Lv p' q' n' d') : Lv (p + p') (q + q') (n + n' + d + d' + 1) (d + d') := ⟨h.p.add h'.p, h.q.add h'.q⟩
theorem Lv.prod (hc : Sz c 40 30) (h : Lv p q n d) (h' : Lv p' q' n' d') : Lv (p * p' + q * q' * c) (p * q' + q * p') (2 * (n + n') + 2 * (d + d') + 71) (2 * (d + d') + 30) :=
  ⟨((h.p.mul h'.p).add ((h.q.mul h'.q).mul hc)).mono (by omega) (by omega), ((h.p.mul h'.q).add (h.q.mul h'.p)).mono (by omega) (by omega)⟩
theorem Lv.times (h : Lv p q n d) (hf : Sz f n' d') : Lv (p * f) (q * f) (n + n') (d + d') := ⟨h.p.mul hf, h.q.mul hf⟩
theorem Lv.plus (h : Lv p q n d) (hf : Sz f n' d') : Lv (p + f) q (n + n' + d + d' + 1) (d + d') := ⟨h.p.add hf, h.q.mono (by omega) (by omega)⟩
theorem Lv.neg (h : Lv p q n d) : Lv p (-q) n d := ⟨h.p, h.q.neg⟩
theorem Lv.rat (hf : Sz f n d) (hn : 1 ≤ n) (hd : 1 ≤ d) : Lv f 0 n d := ⟨hf, sz00 hn hd⟩
theorem Lv.bdp (h : Lv p q n d) (hn : n ≤ 30000) (hd : d ≤ 1000) : Bd p := h.p.bd (by omega) (by omega)
theorem Lv.bdq (h : Lv p q n d) (hn : n ≤ 30000) (hd : d ≤ 1000) : Bd q := h.q.bd (by omega) (by omega)
theorem cm_or : q = 0 ∨ q' = 0 ∨ cz c q = cz c q' := by
  by_cases z : q = 0
  · exact .inl z
  · by_cases z' : q' = 0
    · exact .inr (.inl z')
    · exact .inr (.inr (by rw [czn z, czn z']))
theorem cm_val : cmn q (cz c q) (cz c q') = if q = 0 ∧ q' = 0 then 0 else c := by
  unfold cmn
  by_cases z : q = 0
  · subst z
    rw [if_pos rfl]
    by_cases z' : q' = 0
    · subst z'
      rw [if_pos ⟨rfl, rfl⟩, cz0]
    · rw [if_neg (fun y => z' y.2), czn z']
  · rw [if_neg z, if_neg (fun y => z y.1), czn z]
theorem rt_cm {A B : Rat} (g : Good c) (hz : q = 0 → q' = 0 → B = 0) : rtD A B (cmn q (cz c q) (cz c q')) = nf c A B := by
  rw [cm_val]
  by_cases z : q = 0 ∧ q' = 0
  · rw [if_pos z]
    have := hz z.1 z.2
    subst this
    unfold rtD nf
    rw [if_pos (.inl rfl), cz0]
  · rw [if_neg z]
    exact rt_nf (good_ne g)
theorem und_cm {B : Rat} (g : Good c) (hc : Sz c 40 30) : Und B (cmn q (cz c q) (cz c q')) := by
  rw [cm_val]
  split
  · exact .inr (.inl rfl)
  · exact .inr (.inr ⟨g, hc.mono (by decide) (by decide)⟩)
theorem und_cz {B : Rat} (g : Good c) (hc : Sz c 100 60) : Und B (cz c q) := by
  unfold cz
  split
  · exact .inr (.inl rfl)
  · exact .inr (.inr ⟨g, hc.mono (by decide) (by decide)⟩)
theorem mul_cm : q * q' * cmn q (cz c q) (cz c q') = q * q' * c := by
  rw [cm_val]
  split
  · rename_i h
    rw [h.1]
    grind
  · rfl
theorem sz_cm (hc : Sz c 40 30) : Sz (cmn q (cz c q) (cz c q')) 40 30 := by
  rw [cm_val]
  split
  · exact sz00 (by decide) (by decide)
  · exact hc
theorem k_added (g : Good c) (hc : Sz c 40 30) (h : Lv p q n d) (h' : Lv p' q' n' d') (b : n ≤ 30000 ∧ d ≤ 1000 ∧ n' ≤ 30000 ∧ d' ≤ 1000) : F_added [nf c p q, nf c p' q'] (fun z => z = nf c (p + p') (q + q')) :=
  ⟨p, q, cz c q, p', q', cz c q', rfl, cm_or, h.bdp b.1 b.2.1, h'.bdp b.2.2.1 b.2.2.2, h.bdq b.1 b.2.1, h'.bdq b.2.2.1 b.2.2.2, und_cm g hc, rt_cm g (fun z z' => by subst z z'; grind)⟩
theorem k_product (g : Good c) (hc : Sz c 40 30) (h : Lv p q n d) (h' : Lv p' q' n' d') (b : n ≤ 20000 ∧ d ≤ 1000 ∧ n' ≤ 20000 ∧ d' ≤ 1000) : F_product [nf c p q, nf c p' q'] (fun z => z = nf c (p * p' + q * q' * c) (p * q' + q * p')) := by
  refine ⟨p, q, cz c q, p', q', cz c q', rfl, cm_or, h.bdp (by omega) b.2.1, h'.bdp (by omega) b.2.2.2, h.bdq (by omega) b.2.1, h'.bdq (by omega) b.2.2.2, (sz_cm hc).bd (by decide) (by decide), (h.p.mul h'.p).bd (by omega) (by omega), (h.q.mul h'.q).bd (by omega) (by omega), ?_, (h.p.mul h'.q).bd (by omega) (by omega), (h.q.mul h'.p).bd (by omega) (by omega), und_cm g hc, ?_⟩
  · rw [mul_cm]
    exact ((h.q.mul h'.q).mul hc).bd (by omega) (by omega)
  · rw [mul_cm]
    exact rt_cm g (fun z z' => by subst z z'; grind)
theorem k_times (g : Good c) (hc : Sz c 100 60) (h : Lv p q n d) (hf : Sz f n' d') (b : n ≤ 30000 ∧ d ≤ 1000 ∧ n' ≤ 30000 ∧ d' ≤ 1000) : F_times [nf c p q, encQ f] (fun z => z = nf c (p * f) (q * f)) := by
  refine ⟨p, q, cz c q, f, rfl, h.bdp b.1 b.2.1, h.bdq b.1 b.2.1, hf.bd (by omega) (by omega), und_cz g hc, ?_⟩
  by_cases z : q = 0
  · subst z
    have e : (0 : Rat) * f = 0 := by grind
    rw [e]
    unfold rtD nf
    rw [if_pos (.inl rfl), cz0]
  · rw [czn z]
    exact rt_nf (good_ne g)
theorem k_plus (h : Lv p q n d) (hf : Sz f n' d') (b : n ≤ 30000 ∧ d ≤ 1000 ∧ n' ≤ 30000 ∧ d' ≤ 1000) : F_plus [nf c p q, encQ f] (fun z => z = nf c (p + f) q) :=
  ⟨p, q, cz c q, f, rfl, h.bdp b.1 b.2.1, hf.bd (by omega) (by omega), rfl⟩
theorem k_off : F_of_fraction [encQ f] (fun z => z = nf c f 0) := ⟨f, rfl, nf0⟩
theorem k_is (g : Good c) (hc : Sz c 100 60) (h : Lv p q n d) (e1 : p = p') (e2 : q = q') (b : n ≤ 30000 ∧ d ≤ 1000) : F__law_is [nf c p q, nf c p' q'] (fun z => z = .bool true) := by
  subst e1 e2
  refine ⟨c, p, q, cz c q, q, p, q, cz c q, q, g, co_cz, co_cz, rfl, .inr ⟨rfl, rfl, rfl, h.p.mono b.1 b.2, h.q.mono b.1 b.2, (sz_cz hc (by decide) (by decide)).mono (by decide) (by decide)⟩, ?_⟩
  have e1 : p - p = 0 := by grind
  have e2 : q - q = 0 := by grind
  rw [e1, e2, S_zero]
  rfl
theorem k_cmp (g : Good c) (hc : Sz c 100 60) (h : Lv p q n d) (h' : Lv p' q' n' d') (b : n ≤ 3000 ∧ d ≤ 150 ∧ n' ≤ 3000 ∧ d' ≤ 150) : F_compare_signs [nf c p q, nf c p' q'] (fun z => z = .int (S c (p - p') (q - q'))) :=
  ⟨c, p, q, cz c q, q, p', q', cz c q', q', g, co_cz, co_cz, rfl, .inl ⟨h.p.mono b.1 (by omega), h.q.mono b.1 b.2.1, sz_cz hc (by decide) (by decide), h'.p.mono b.2.2.1 (by omega), h'.q.mono b.2.2.1 b.2.2.2, sz_cz hc (by decide) (by decide)⟩, rfl⟩
/-- the left one or the right one a fraction of many figures -/
theorem k_cmpL (g : Good c) (hc : Sz c 100 60) (hf : Sz f 3000 300) (h' : Lv p' q' n' d') (b : n' ≤ 3000 ∧ d' ≤ 150) : F_compare_signs [nf c f 0, nf c p' q'] (fun z => z = .int (S c (f - p') (0 - q'))) :=
  ⟨c, f, 0, cz c 0, 0, p', q', cz c q', q', g, co_cz, co_cz, rfl, .inl ⟨hf, sz00 (by decide) (by decide), sz_cz hc (by decide) (by decide), h'.p.mono b.1 (by omega), h'.q.mono b.1 b.2, sz_cz hc (by decide) (by decide)⟩, rfl⟩
theorem k_cmpR (g : Good c) (hc : Sz c 100 60) (h : Lv p q n d) (hf : Sz f 3000 300) (b : n ≤ 3000 ∧ d ≤ 150) : F_compare_signs [nf c p q, nf c f 0] (fun z => z = .int (S c (p - f) (q - 0))) :=
  ⟨c, p, q, cz c q, q, f, 0, cz c 0, 0, g, co_cz, co_cz, rfl, .inl ⟨h.p.mono b.1 (by omega), h.q.mono b.1 b.2, sz_cz hc (by decide) (by decide), hf, sz00 (by decide) (by decide), sz_cz hc (by decide) (by decide)⟩, rfl⟩
theorem k_sign (g : Good c) (hc : Sz c 100 60) (h : Lv p q n d) (b : n ≤ 30000 ∧ d ≤ 1000) : F_sign_of [nf c p q] (fun z => z = .int (S c p q)) :=
  ⟨p, q, cz c q, rfl, h.p.mono b.1 (by omega), h.q.mono b.1 (by omega), (sz_cz hc (by decide) (by decide)).mono (by decide) (by decide), by rw [sg2_co g co_cz]⟩
theorem root_ok (g : Good c) (hc : Sz c 100 60) : RootOk q (cz c q) := by
  by_cases z : q = 0
  · exact .inl ⟨z, by rw [z, cz0]⟩
  · exact .inr ⟨z, by rw [czn z]; exact g, by rw [czn z]; exact hc.mono (by decide) (by decide)⟩
theorem k_isroot (g : Good c) (hc : Sz c 100 60) : F_is_root [nf c p q] (fun z => z = .bool true) := ⟨p, q, cz c q, rfl, root_ok g hc, rfl⟩
theorem k_isplace (g : Good c) (hc : Sz c 100 60) : F_is_root_place [.tuple [nf c p q, nf c p' q']] (fun z => z = .bool true) := ⟨p, q, cz c q, p', q', cz c q', rfl, root_ok g hc, root_ok g hc, cm_or, rfl⟩
theorem k_floor (g : Good c) (hc : Sz c 100 60) (h : Lv p q n d) (b : n ≤ 500 ∧ d ≤ 100) : F_floor_of [nf c p q] (fun z => z = .int (flr c p q)) :=
  ⟨c, p, q, cz c q, q, g, co_cz, rfl, h.p.mono b.1 b.2, h.q.mono b.1 b.2, sz_cz hc (by decide) (by decide), rfl⟩
/-- rooted of numbers drawn -/
theorem k_rooted (g : Good c) (hc : Sz c 100 60) : F_rooted [encQ p, encQ q, encQ c] (fun z => z = nf c p q) := ⟨p, q, c, rfl, .inr (.inr ⟨g, hc.mono (by decide) (by decide)⟩), (rt_nf (good_ne g)).symm ▸ rfl⟩
/-! alike -/
theorem k_alike {x : D} (h1 : isRef x = true) (h2 : x.showable = true) (h3 : x.hasDict = false) (h4 : x.depth ≤ 20) (h5 : x.shown.length ≤ 100000) (h6 : SeqAt.shaped x = true) (h7 : PyData.eqv x x = true) : F__law_alike [x, x] (fun z => z = .bool true) := ⟨x, rfl, h1, h2, h3, h4, h5, h6, h7, rfl⟩
/-- small fractions: they can be shown -/
def SmQ (q : Rat) : Prop := q.num.natAbs < 2 ^ 1900 ∧ q.den < 2 ^ 1900
theorem dg_len2 {m : Nat} (h : m < 2 ^ 1900) : (dg m).length ≤ 600 := by
  unfold dg
  rw [List.length_map]
  exact (Nat.length_toDigits_le_iff (by decide) (by decide)).mpr (Nat.lt_of_lt_of_le h (by decide +kernel))
theorem show_int {i : Int} (h : i.natAbs < 2 ^ 1900) : (PyData.shown (.int i)).length ≤ 601 := by
  show (Str.ofString (toString i)).length ≤ 601
  rw [toS, SX.S_len]
  have := dg_len2 h
  unfold tx
  split
  · rw [List.length_cons]; omega
  · omega
theorem show_Q {q : Rat} (h : SmQ q) : (PyData.shown (encQ q)).length ≤ 1300 := by
  have h1 := show_int h.1
  have h2 := show_int (i := (q.den : Int)) (by rw [natAbs_den]; exact h.2)
  have e : PyData.shown (encQ q) = tupleText [PyData.shown (.int q.num), PyData.shown (.int (q.den : Int))] := by simp [encQ, PyData.shown, PyData.shownAll]
  rw [e]
  have := tupleText_len_le [PyData.shown (.int q.num), PyData.shown (.int (q.den : Int))]
  simp only [List.map_cons, List.map_nil, List.sum_cons, List.sum_nil, List.length_cons, List.length_nil] at this
  omega
theorem showable_int {i : Int} (h : i.natAbs < 2 ^ 1900) : PyData.showable (.int i) = true := by
  simp only [PyData.showable]
  exact decide_eq_true (Nat.lt_of_lt_of_le (PySem.Flt.log2_lt_of (by decide) h) (by decide))
theorem showable_Q {q : Rat} (h : SmQ q) : PyData.showable (encQ q) = true := by
  have h1 := showable_int h.1
  have h2 := showable_int (i := (q.den : Int)) (by rw [natAbs_den]; exact h.2)
  have e : PyData.showable (encQ q) = (PyData.showable (.int q.num) && (PyData.showable (.int (q.den : Int)) && true)) := by simp only [encQ, PyData.showable, PyData.showableAll]
  rw [e, h1, h2]
  rfl
theorem Sz.sm {q : Rat} {n d : Nat} (h : Sz q n d) (hn : n ≤ 1900) (hd : d ≤ 1900) : SmQ q := h.mono hn hd
theorem k_alikeQ {q : Rat} (h : SmQ q) : F__law_alike [encQ q, encQ q] (fun z => z = .bool true) :=
  k_alike rfl (showable_Q h) (by simp [encQ, PyData.hasDict, PyData.hasDictAll]) (by simp [encQ, PyData.depth, PyData.depthAll]) (Nat.le_trans (show_Q h) (by decide)) (shQ q) (by rw [eqvQ]; exact decide_eq_true rfl)
theorem eqvRR (a b c : Rat) : PyData.eqv (encR a b c) (encR a b c) = true := by
  have e : PyData.eqv (encR a b c) (encR a b c) = (PyData.eqv (encQ a) (encQ a) && (PyData.eqv (encQ b) (encQ b) && (PyData.eqv (encQ c) (encQ c) && true))) := by simp only [encR, PyData.eqv, PyData.eqvAll]
  rw [e, eqvQ, eqvQ, eqvQ]
  simp
theorem show_R {a b c : Rat} (ha : SmQ a) (hb : SmQ b) (hc : SmQ c) : (PyData.shown (encR a b c)).length ≤ 4000 := by
  have h1 := show_Q ha
  have h2 := show_Q hb
  have h3 := show_Q hc
  have e : PyData.shown (encR a b c) = tupleText [PyData.shown (encQ a), PyData.shown (encQ b), PyData.shown (encQ c)] := by simp only [encR, PyData.shown, PyData.shownAll]
  rw [e]
  have := tupleText_len_le [PyData.shown (encQ a), PyData.shown (encQ b), PyData.shown (encQ c)]
  simp only [List.map_cons, List.map_nil, List.sum_cons, List.sum_nil, List.length_cons, List.length_nil] at this
  omega
theorem showable_R {a b c : Rat} (ha : SmQ a) (hb : SmQ b) (hc : SmQ c) : PyData.showable (encR a b c) = true := by
  have e : PyData.showable (encR a b c) = (PyData.showable (encQ a) && (PyData.showable (encQ b) && (PyData.showable (encQ c) && true))) := by simp only [encR, PyData.showable, PyData.showableAll]
  rw [e, showable_Q ha, showable_Q hb, showable_Q hc]
  rfl
theorem k_alikeR {a b c : Rat} (ha : SmQ a) (hb : SmQ b) (hc : SmQ c) : F__law_alike [encR a b c, encR a b c] (fun z => z = .bool true) :=
  k_alike rfl (showable_R ha hb hc) (by simp [encR, encQ, PyData.hasDict, PyData.hasDictAll]) (by simp [encR, encQ, PyData.depth, PyData.depthAll]) (Nat.le_trans (show_R ha hb hc) (by decide)) (shR a b c) (eqvRR a b c)
theorem k_alikeL {a b c : Rat} (ha : SmQ a) (hb : SmQ b) (hc : SmQ c) : F__law_alike [.list [encQ a, encQ b, encQ c], .list [encQ a, encQ b, encQ c]] (fun z => z = .bool true) := by
  have h1 := show_Q ha
  have h2 := show_Q hb
  have h3 := show_Q hc
  refine k_alike rfl ?_ (by simp [encQ, PyData.hasDict, PyData.hasDictAll]) (by simp [encQ, PyData.depth, PyData.depthAll]) ?_ (by simp [encQ, SeqAt.shaped, PyData.canLay0, PyData.canLayAll0, PyData.depth, PyData.depthAll]) ?_
  · have e : PyData.showable (.list [encQ a, encQ b, encQ c]) = (PyData.showable (encQ a) && (PyData.showable (encQ b) && (PyData.showable (encQ c) && true))) := by simp only [PyData.showable, PyData.showableAll]
    rw [e, showable_Q ha, showable_Q hb, showable_Q hc]
    rfl
  · have e : PyData.shown (.list [encQ a, encQ b, encQ c]) = listText [PyData.shown (encQ a), PyData.shown (encQ b), PyData.shown (encQ c)] := by simp only [PyData.shown, PyData.shownAll]
    rw [e]
    have := listText_len_le [PyData.shown (encQ a), PyData.shown (encQ b), PyData.shown (encQ c)]
    simp only [List.map_cons, List.map_nil, List.sum_cons, List.sum_nil, List.length_cons, List.length_nil] at this
    omega
  · have e : PyData.eqv (.list [encQ a, encQ b, encQ c]) (.list [encQ a, encQ b, encQ c]) = (PyData.eqv (encQ a) (encQ a) && (PyData.eqv (encQ b) (encQ b) && (PyData.eqv (encQ c) (encQ c) && true))) := by simp only [PyData.eqv, PyData.eqvAll]
    rw [e, eqvQ, eqvQ, eqvQ]
    simp
theorem k_alikeP {a b c a2 b2 c2 : Rat} (ha : SmQ a) (hb : SmQ b) (hc : SmQ c) (ha2 : SmQ a2) (hb2 : SmQ b2) (hc2 : SmQ c2) : F__law_alike [.tuple [.tuple [encR a b c, encR a2 b2 c2]], .tuple [.tuple [encR a b c, encR a2 b2 c2]]] (fun z => z = .bool true) := by
  have h1 := show_R ha hb hc
  have h2 := show_R ha2 hb2 hc2
  refine k_alike rfl ?_ (by simp [encR, encQ, PyData.hasDict, PyData.hasDictAll]) (by simp [encR, encQ, PyData.depth, PyData.depthAll]) ?_ (by simp [encR, encQ, SeqAt.shaped, PyData.canLay0, PyData.canLayAll0, PyData.depth, PyData.depthAll]) ?_
  · have e : PyData.showable (.tuple [.tuple [encR a b c, encR a2 b2 c2]]) = ((PyData.showable (encR a b c) && (PyData.showable (encR a2 b2 c2) && true)) && true) := by simp only [PyData.showable, PyData.showableAll]
    rw [e, showable_R ha hb hc, showable_R ha2 hb2 hc2]
    rfl
  · have e : PyData.shown (.tuple [.tuple [encR a b c, encR a2 b2 c2]]) = tupleText [tupleText [PyData.shown (encR a b c), PyData.shown (encR a2 b2 c2)]] := by simp only [PyData.shown, PyData.shownAll]
    rw [e]
    have t1 := tupleText_len_le [tupleText [PyData.shown (encR a b c), PyData.shown (encR a2 b2 c2)]]
    have t2 := tupleText_len_le [PyData.shown (encR a b c), PyData.shown (encR a2 b2 c2)]
    simp only [List.map_cons, List.map_nil, List.sum_cons, List.sum_nil, List.length_cons, List.length_nil] at t1 t2
    omega
  · have e : PyData.eqv (.tuple [.tuple [encR a b c, encR a2 b2 c2]]) (.tuple [.tuple [encR a b c, encR a2 b2 c2]]) = ((PyData.eqv (encR a b c) (encR a b c) && (PyData.eqv (encR a2 b2 c2) (encR a2 b2 c2) && true)) && true) := by simp only [PyData.eqv, PyData.eqvAll]
    rw [e, eqvRR, eqvRR]
    rfl
end
end K65
end
section
set_option Elab.async false
set_option linter.all false
set_option maxRecDepth 100000
set_option maxHeartbeats 8000000
set_option exponentiation.threshold 20000
namespace K65
open PySem PySem.Spec PyProof.Rows L2 DL QM
variable {K : PySem.W.Frag} {mg : Str → Option Value} {P : Program} {w : World} {base : Heap}
theorem nf_neg {c p q : Rat} : (.tuple [encQ p, encQ (-q), encQ (cz c q)] : D) = nf c p (-q) := by
  have e : cz c (-q) = cz c q := by
    unfold cz
    by_cases z : q = 0
    · subst z; rfl
    · rw [if_neg z, if_neg (by grind)]
  show encR p (-q) (cz c q) = encR p (-q) (cz c (-q))
  rw [e]
theorem Sz.div {p q : Rat} {a b a' b' : Nat} (h : Sz p a b) (h' : Sz q a' b') : Sz (p / q) (a + b') (b + a') := by
  by_cases z : q = 0
  · subst z
    have e : p / 0 = 0 := by rw [Rat.div_def, Rat.inv_zero]; grind
    have ha : 1 ≤ a + b' := by
      have := h'.2
      have h1 : (0 : Rat).den = 1 := rfl
      rw [h1] at this
      cases b' with
      | zero => exact absurd this (by decide)
      | succ b' => omega
    have hb : 1 ≤ b + a' := by
      have := h.2
      have h1 := Nat.pos_of_ne_zero p.den_nz
      cases b with
      | zero => rw [Nat.pow_zero] at this; omega
      | succ b => omega
    rw [e]
    exact sz00 ha hb
  · rw [Rat.div_def, Rat.inv_def, sz_enc p, Rat.divInt_mul_divInt]
    have h0 : q.num ≠ 0 := fun y => z (Rat.num_eq_zero.mp y)
    refine sz_divInt (Int.mul_ne_zero (den_ne p) h0) ?_ ?_
    · exact wide_lt h.1 (show ((q.den : Int)).natAbs < 2 ^ b' by rw [natAbs_den]; exact h'.2)
    · exact wide_lt (show ((p.den : Int)).natAbs < 2 ^ b by rw [natAbs_den]; exact h.2) h'.1
theorem inv1 {n : Rat} (h : n ≠ 0) : n * (1 / n) = 1 := by
  rw [Rat.div_def]
  have := Rat.mul_inv_cancel n h
  grind
def F_rules : Wd → List Sl → (D → Prop) → Prop := fun W ss R => ∃ (b l : Addr) (c : Rat), HB W b l ∧ ss = [.v (.ref b), .d (encQ c)] ∧ Good c ∧ Sz c 40 30 ∧ R (.bool true)
theorem c__law_rules_so (T : Tp K mg) : Cw P w K mg base 11 "_law_rules_so" F_rules := by
  have sc : FnScope ["bag", "c", "r", "s", "t", "turn", "f", "square", "other", "both", "one"] ["bag", "c"] (defScope s__law_rules_so) := ⟨rfl, rfl, rfl, by decide +kernel, rfl, by decide +kernel, by decide +kernel⟩
  have C_number := c__law_number (P := P) (w := w) (base := base) T
  have C__law_alike := c__law_alike (P := P) (w := w) (base := base) T
  have C__law_is := c__law_is (P := P) (w := w) (base := base) T
  have C_added := c_added (P := P) (w := w) (base := base) T
  have C_div := c_div (P := P) (w := w) (base := base) T
  have C_is_root := c_is_root (P := P) (w := w) (base := base) T
  have C_is_root_place := c_is_root_place (P := P) (w := w) (base := base) T
  have C_mul := c_mul (P := P) (w := w) (base := base) T
  have C_neg := c_neg (P := P) (w := w) (base := base) T
  have C_of_fraction := c_of_fraction (P := P) (w := w) (base := base) T
  have C_plus := c_plus (P := P) (w := w) (base := base) T
  have C_product := c_product (P := P) (w := w) (base := base) T
  have C_rooted := c_rooted (P := P) (w := w) (base := base) T
  have C_sign_of := c_sign_of (P := P) (w := w) (base := base) T
  have C_times := c_times (P := P) (w := w) (base := base) T
  refine T.cw 63 rfl rfl (st := s__law_rules_so) sc (fun _ _ _ _ _ _ us hl => match us, hl with | [_, _], _ => rfl) (fun W ss R hF => by obtain ⟨_, _, _, _, rfl, _⟩ := hF; rfl) ?_
  intro f cdv A l0 s H E W ss R hr hG hF
  obtain ⟨b, l, c, hb, rfl, g, h40, hR⟩ := hF
  have hc100 : Sz c 100 60 := h40.mono (by decide) (by decide)
  refine b_unL3 2 3 4 (R := fun d => ∃ p1 q1 p2 q2 p3 q3, d = .list [nf c p1 q1, nf c p2 q2, nf c p3 q3] ∧ Lv p1 q1 50 20 ∧ Lv p2 q2 50 20 ∧ Lv p3 q3 50 20) rfl sc.nd rfl rfl rfl (.inl rfl) (.inl rfl) (.inl rfl) (lcN (i := 5) (x := "turn") (n := 3) (Rj := fun _ r => ∃ p q, r = nf c p q ∧ Lv p q 50 20) rfl sc.nd (show blkC ["bag", "c", "r", "s", "t", "turn", "f", "square", "other", "both", "one"] (defScope s__law_rules_so) _ [("turn", 5)] = true by decide +kernel) rfl T.f_range e_int (by decide) (fun _ _ _ _ _ => ⟨.inl rfl, .inr rfl⟩) ?draw ?three).ed (fun d hd => ?_)
  case draw =>
    intro s1 H1 C1 cl fp D1 acc j hD hj
    refine e_callR (Rs := fun ds => ∃ p q : Rat, ds = [encQ p, encQ q, encQ c] ∧ Lv p q 50 20) (C_rooted.mono (by decide)) hr hG (a_consR (Ra := fun z => ∃ p : Rat, z = encQ p ∧ Sz p 50 20) (Rs := fun ds => ∃ q : Rat, ds = [encQ q, encQ c] ∧ Sz q 50 20) (e_callW (C_number.mono (by decide)) hr hG (s_raw (pv 0) rfl s_nil) ⟨b, l, hb.push hD, rfl, fun q hq => ⟨q, rfl, hq⟩⟩) (a_consR (Ra := fun z => ∃ p : Rat, z = encQ p ∧ Sz p 50 20) (Rs := fun ds => ds = [encQ c]) (e_callW (C_number.mono (by decide)) hr hG (s_raw (pv 0) rfl s_nil) ⟨b, l, hb.push hD, rfl, fun q hq => ⟨q, rfl, hq⟩⟩) (a_cons (e_var 1 rfl (pv 1)) a_nil) (fun d ds h1 h2 => by obtain ⟨q, rfl, hq⟩ := h1; subst h2; exact ⟨q, rfl, hq⟩)) (fun d ds h1 h2 => by obtain ⟨p, rfl, hp⟩ := h1; obtain ⟨q, rfl, hq⟩ := h2; exact ⟨p, q, rfl, hp, hq⟩)) (fun ds h => by
      obtain ⟨p, q, rfl, hl⟩ := h
      obtain ⟨a1, a2, a3, e1, e2, e3⟩ := k_rooted (p := p) (q := q) g hc100
      exact ⟨a1, a2, a3, e1, e2, by rw [e3]; exact ⟨p, q, rfl, hl⟩⟩)
  case three =>
    intro res hl h
    obtain ⟨x, y, z, rfl, ⟨p1, q1, rfl, h1⟩, ⟨p2, q2, rfl, h2⟩, ⟨p3, q3, rfl, h3⟩⟩ := res3 hl h
    exact ⟨p1, q1, p2, q2, p3, q3, rfl, h1, h2, h3⟩
  obtain ⟨p1, q1, p2, q2, p3, q3, rfl, H1, H2, H3⟩ := hd
  refine ⟨_, _, _, rfl, ?_⟩
  refine b_setR (i := 6) (R := fun d => ∃ f : Rat, d = encQ f ∧ Sz f 50 20) sc.nd rfl (.inl rfl) (e_callW (C_number.mono (by decide)) hr hG (s_raw (pv 0) rfl s_nil) ⟨b, l, hb, rfl, fun q hq => ⟨q, rfl, hq⟩⟩) (fun d hd => ?_)
  obtain ⟨f0, rfl, Hf⟩ := hd
  have L1 := Lv.add H1 H2
  have L2 := Lv.add H2 H1
  have L3 := Lv.prod h40 H1 H2
  have L4 := Lv.prod h40 H2 H1
  refine b_if1 (t_w (w_or (t_not (t_val (e_call (d := .bool true) (C__law_alike.mono (by decide)) hr hG (a_cons (e_call (d := (nf c ((p1) + (p2)) ((q1) + (q2)))) (C_added.mono (by decide)) hr hG (a_cons (e_var 2 rfl (pv 2)) (a_cons (e_var 3 rfl (pv 3)) a_nil)) (k_added g h40 H1 H2 (by decide))) (a_cons (ED.to (d' := (nf c ((p1) + (p2)) ((q1) + (q2)))) (e_call (d := (nf c ((p2) + (p1)) ((q2) + (q1)))) (C_added.mono (by decide)) hr hG (a_cons (e_var 3 rfl (pv 3)) (a_cons (e_var 2 rfl (pv 2)) a_nil)) (k_added g h40 H2 H1 (by decide))) (by rw [show ((p2) + (p1) : Rat) = (p1) + (p2) by grind, show ((q2) + (q1) : Rat) = (q1) + (q2) by grind])) a_nil)) (k_alikeR (L1.p.sm (by decide) (by decide)) (L1.q.sm (by decide) (by decide)) ((sz_cz h40 (by decide) (by decide)).sm (by decide) (by decide)))))) (fun hc => (w_or1 (t_not (t_val (e_call (d := .bool true) (C__law_is.mono (by decide)) hr hG (a_cons (e_call (d := (nf c ((p1) * (p2) + (q1) * (q2) * c) ((p1) * (q2) + (q1) * (p2)))) (C_product.mono (by decide)) hr hG (a_cons (e_var 2 rfl (pv 2)) (a_cons (e_var 3 rfl (pv 3)) a_nil)) (k_product g h40 H1 H2 (by decide))) (a_cons (e_call (d := (nf c ((p2) * (p1) + (q2) * (q1) * c) ((p2) * (q1) + (q2) * (p1)))) (C_product.mono (by decide)) hr hG (a_cons (e_var 3 rfl (pv 3)) (a_cons (e_var 2 rfl (pv 2)) a_nil)) (k_product g h40 H2 H1 (by decide))) a_nil)) (k_is g hc100 L3 (by grind) (by grind) (by decide))))))))) (fun hc => b_ret e_bl (absurd hc (by simp))) (fun _ => ?_)
  have L5 := Lv.add L1 H3
  have L6 := Lv.add H2 H3
  have L7 := Lv.add H1 L6
  refine b_if1 (t_not (t_val (e_call (d := .bool true) (C__law_is.mono (by decide)) hr hG (a_cons (e_call (d := (nf c (((p1) + (p2)) + (p3)) (((q1) + (q2)) + (q3)))) (C_added.mono (by decide)) hr hG (a_cons (e_call (d := (nf c ((p1) + (p2)) ((q1) + (q2)))) (C_added.mono (by decide)) hr hG (a_cons (e_var 2 rfl (pv 2)) (a_cons (e_var 3 rfl (pv 3)) a_nil)) (k_added g h40 H1 H2 (by decide))) (a_cons (e_var 4 rfl (pv 4)) a_nil)) (k_added g h40 L1 H3 (by decide))) (a_cons (e_call (d := (nf c ((p1) + ((p2) + (p3))) ((q1) + ((q2) + (q3))))) (C_added.mono (by decide)) hr hG (a_cons (e_var 2 rfl (pv 2)) (a_cons (e_call (d := (nf c ((p2) + (p3)) ((q2) + (q3)))) (C_added.mono (by decide)) hr hG (a_cons (e_var 3 rfl (pv 3)) (a_cons (e_var 4 rfl (pv 4)) a_nil)) (k_added g h40 H2 H3 (by decide))) a_nil)) (k_added g h40 H1 L6 (by decide))) a_nil)) (k_is g hc100 L5 (by grind) (by grind) (by decide))))) (fun hc => b_ret e_bl (absurd hc (by simp))) (fun _ => ?_)
  have L8 := Lv.prod h40 L3 H3
  have L9 := Lv.prod h40 H2 H3
  have L10 := Lv.prod h40 H1 L9
  refine b_if1 (t_not (t_val (e_call (d := .bool true) (C__law_is.mono (by decide)) hr hG (a_cons (e_call (d := (nf c (((p1) * (p2) + (q1) * (q2) * c) * (p3) + ((p1) * (q2) + (q1) * (p2)) * (q3) * c) (((p1) * (p2) + (q1) * (q2) * c) * (q3) + ((p1) * (q2) + (q1) * (p2)) * (p3)))) (C_product.mono (by decide)) hr hG (a_cons (e_call (d := (nf c ((p1) * (p2) + (q1) * (q2) * c) ((p1) * (q2) + (q1) * (p2)))) (C_product.mono (by decide)) hr hG (a_cons (e_var 2 rfl (pv 2)) (a_cons (e_var 3 rfl (pv 3)) a_nil)) (k_product g h40 H1 H2 (by decide))) (a_cons (e_var 4 rfl (pv 4)) a_nil)) (k_product g h40 L3 H3 (by decide))) (a_cons (e_call (d := (nf c ((p1) * ((p2) * (p3) + (q2) * (q3) * c) + (q1) * ((p2) * (q3) + (q2) * (p3)) * c) ((p1) * ((p2) * (q3) + (q2) * (p3)) + (q1) * ((p2) * (p3) + (q2) * (q3) * c)))) (C_product.mono (by decide)) hr hG (a_cons (e_var 2 rfl (pv 2)) (a_cons (e_call (d := (nf c ((p2) * (p3) + (q2) * (q3) * c) ((p2) * (q3) + (q2) * (p3)))) (C_product.mono (by decide)) hr hG (a_cons (e_var 3 rfl (pv 3)) (a_cons (e_var 4 rfl (pv 4)) a_nil)) (k_product g h40 H2 H3 (by decide))) a_nil)) (k_product g h40 H1 L9 (by decide))) a_nil)) (k_is g hc100 L8 (by grind) (by grind) (by decide))))) (fun hc => b_ret e_bl (absurd hc (by simp))) (fun _ => ?_)
  have L11 := Lv.prod h40 H1 L6
  have L12 := Lv.prod h40 H1 H3
  have L13 := Lv.add L3 L12
  refine b_if1 (t_not (t_val (e_call (d := .bool true) (C__law_is.mono (by decide)) hr hG (a_cons (e_call (d := (nf c ((p1) * ((p2) + (p3)) + (q1) * ((q2) + (q3)) * c) ((p1) * ((q2) + (q3)) + (q1) * ((p2) + (p3))))) (C_product.mono (by decide)) hr hG (a_cons (e_var 2 rfl (pv 2)) (a_cons (e_call (d := (nf c ((p2) + (p3)) ((q2) + (q3)))) (C_added.mono (by decide)) hr hG (a_cons (e_var 3 rfl (pv 3)) (a_cons (e_var 4 rfl (pv 4)) a_nil)) (k_added g h40 H2 H3 (by decide))) a_nil)) (k_product g h40 H1 L6 (by decide))) (a_cons (e_call (d := (nf c (((p1) * (p2) + (q1) * (q2) * c) + ((p1) * (p3) + (q1) * (q3) * c)) (((p1) * (q2) + (q1) * (p2)) + ((p1) * (q3) + (q1) * (p3))))) (C_added.mono (by decide)) hr hG (a_cons (e_call (d := (nf c ((p1) * (p2) + (q1) * (q2) * c) ((p1) * (q2) + (q1) * (p2)))) (C_product.mono (by decide)) hr hG (a_cons (e_var 2 rfl (pv 2)) (a_cons (e_var 3 rfl (pv 3)) a_nil)) (k_product g h40 H1 H2 (by decide))) (a_cons (e_call (d := (nf c ((p1) * (p3) + (q1) * (q3) * c) ((p1) * (q3) + (q1) * (p3)))) (C_product.mono (by decide)) hr hG (a_cons (e_var 2 rfl (pv 2)) (a_cons (e_var 4 rfl (pv 4)) a_nil)) (k_product g h40 H1 H3 (by decide))) a_nil)) (k_added g h40 L3 L12 (by decide))) a_nil)) (k_is g hc100 L11 (by grind) (by grind) (by decide))))) (fun hc => b_ret e_bl (absurd hc (by simp))) (fun _ => ?_)
  have L14 := Lv.times H1 (show Sz (-1 : Rat) 4 3 from ⟨by decide +kernel, by decide +kernel⟩)
  have L15 := Lv.add H1 L14
  have L16 := Lv.rat (show Sz (0 : Rat) 4 3 from ⟨by decide +kernel, by decide +kernel⟩) (by decide) (by decide)
  refine b_if1 (t_not (t_val (e_call (d := .bool true) (C__law_is.mono (by decide)) hr hG (a_cons (e_call (d := (nf c ((p1) + ((p1) * (-1 : Rat))) ((q1) + ((q1) * (-1 : Rat))))) (C_added.mono (by decide)) hr hG (a_cons (e_var 2 rfl (pv 2)) (a_cons (e_call (d := (nf c ((p1) * (-1 : Rat)) ((q1) * (-1 : Rat)))) (C_times.mono (by decide)) hr hG (a_cons (e_var 2 rfl (pv 2)) (a_cons (ED.to (d' := encQ (-1 : Rat)) (e_tup (a_cons (e_neg e_int) (a_cons e_int a_nil))) (encQ_of (d := 1) (by decide +kernel) (by decide +kernel))) a_nil)) (k_times g hc100 H1 (show Sz (-1 : Rat) 4 3 from ⟨by decide +kernel, by decide +kernel⟩) (by decide))) a_nil)) (k_added g h40 H1 L14 (by decide))) (a_cons (e_call (d := (nf c ((0 : Rat)) (0))) (C_of_fraction.mono (by decide)) hr hG (a_cons (ED.to (d' := encQ (0 : Rat)) (e_tup (a_cons e_int (a_cons e_int a_nil))) (encQ_of (d := 1) (by decide +kernel) (by decide +kernel))) a_nil) (k_off)) a_nil)) (k_is g hc100 L15 (by grind) (by grind) (by decide))))) (fun hc => b_ret e_bl (absurd hc (by simp))) (fun _ => ?_)
  have L17 := Lv.rat Hf (by decide) (by decide)
  have L18 := Lv.prod h40 H1 L17
  have L19 := Lv.times H1 Hf
  refine b_if1 (t_not (t_val (e_call (d := .bool true) (C__law_is.mono (by decide)) hr hG (a_cons (e_call (d := (nf c ((p1) * (f0) + (q1) * (0) * c) ((p1) * (0) + (q1) * (f0)))) (C_product.mono (by decide)) hr hG (a_cons (e_var 2 rfl (pv 2)) (a_cons (e_call (d := (nf c (f0) (0))) (C_of_fraction.mono (by decide)) hr hG (a_cons (e_var 6 rfl (pv 6)) a_nil) (k_off)) a_nil)) (k_product g h40 H1 L17 (by decide))) (a_cons (e_call (d := (nf c ((p1) * f0) ((q1) * f0))) (C_times.mono (by decide)) hr hG (a_cons (e_var 2 rfl (pv 2)) (a_cons (e_var 6 rfl (pv 6)) a_nil)) (k_times g hc100 H1 Hf (by decide))) a_nil)) (k_is g hc100 L18 (by grind) (by grind) (by decide))))) (fun hc => b_ret e_bl (absurd hc (by simp))) (fun _ => ?_)
  have L20 := Lv.add H1 L17
  have L21 := Lv.plus H1 Hf
  refine b_if1 (t_not (t_val (e_call (d := .bool true) (C__law_is.mono (by decide)) hr hG (a_cons (e_call (d := (nf c ((p1) + (f0)) ((q1) + (0)))) (C_added.mono (by decide)) hr hG (a_cons (e_var 2 rfl (pv 2)) (a_cons (e_call (d := (nf c (f0) (0))) (C_of_fraction.mono (by decide)) hr hG (a_cons (e_var 6 rfl (pv 6)) a_nil) (k_off)) a_nil)) (k_added g h40 H1 L17 (by decide))) (a_cons (e_call (d := (nf c ((p1) + f0) (q1))) (C_plus.mono (by decide)) hr hG (a_cons (e_var 2 rfl (pv 2)) (a_cons (e_var 6 rfl (pv 6)) a_nil)) (k_plus H1 Hf (by decide))) a_nil)) (k_is g hc100 L20 (by grind) (by grind) (by decide))))) (fun hc => b_ret e_bl (absurd hc (by simp))) (fun _ => ?_)
  have L22 := Lv.times L21 Hf
  have L23 := Lv.plus L19 ((Hf).mul (Hf))
  refine b_if1 (t_not (t_val (e_call (d := .bool true) (C__law_is.mono (by decide)) hr hG (a_cons (e_call (d := (nf c (((p1) + f0) * f0) ((q1) * f0))) (C_times.mono (by decide)) hr hG (a_cons (e_call (d := (nf c ((p1) + f0) (q1))) (C_plus.mono (by decide)) hr hG (a_cons (e_var 2 rfl (pv 2)) (a_cons (e_var 6 rfl (pv 6)) a_nil)) (k_plus H1 Hf (by decide))) (a_cons (e_var 6 rfl (pv 6)) a_nil)) (k_times g hc100 L21 Hf (by decide))) (a_cons (e_call (d := (nf c (((p1) * f0) + (f0 * f0)) ((q1) * f0))) (C_plus.mono (by decide)) hr hG (a_cons (e_call (d := (nf c ((p1) * f0) ((q1) * f0))) (C_times.mono (by decide)) hr hG (a_cons (e_var 2 rfl (pv 2)) (a_cons (e_var 6 rfl (pv 6)) a_nil)) (k_times g hc100 H1 Hf (by decide))) (a_cons (e_call (d := encQ (f0 * f0)) (C_mul.mono (by decide)) hr hG (a_cons (e_var 6 rfl (pv 6)) (a_cons (e_var 6 rfl (pv 6)) a_nil)) (⟨_, _, rfl, (Hf).bd (by decide) (by decide), (Hf).bd (by decide) (by decide), rfl⟩)) a_nil)) (k_plus L19 ((Hf).mul (Hf)) (by decide))) a_nil)) (k_is g hc100 L22 (by grind) (by grind) (by decide))))) (fun hc => b_ret e_bl (absurd hc (by simp))) (fun _ => ?_)
  have L24 := Lv.times H2 (show Sz (-1 : Rat) 4 3 from ⟨by decide +kernel, by decide +kernel⟩)
  have L25 := Lv.add H1 L24
  have L26 := Lv.prod h40 L1 L25
  refine b_set 7 sc.nd rfl (.inl rfl) (e_call (d := (nf c (((p1) + (p2)) * ((p1) + ((p2) * (-1 : Rat))) + ((q1) + (q2)) * ((q1) + ((q2) * (-1 : Rat))) * c) (((p1) + (p2)) * ((q1) + ((q2) * (-1 : Rat))) + ((q1) + (q2)) * ((p1) + ((p2) * (-1 : Rat)))))) (C_product.mono (by decide)) hr hG (a_cons (e_call (d := (nf c ((p1) + (p2)) ((q1) + (q2)))) (C_added.mono (by decide)) hr hG (a_cons (e_var 2 rfl (pv 2)) (a_cons (e_var 3 rfl (pv 3)) a_nil)) (k_added g h40 H1 H2 (by decide))) (a_cons (e_call (d := (nf c ((p1) + ((p2) * (-1 : Rat))) ((q1) + ((q2) * (-1 : Rat))))) (C_added.mono (by decide)) hr hG (a_cons (e_var 2 rfl (pv 2)) (a_cons (e_call (d := (nf c ((p2) * (-1 : Rat)) ((q2) * (-1 : Rat)))) (C_times.mono (by decide)) hr hG (a_cons (e_var 3 rfl (pv 3)) (a_cons (ED.to (d' := encQ (-1 : Rat)) (e_tup (a_cons (e_neg e_int) (a_cons e_int a_nil))) (encQ_of (d := 1) (by decide +kernel) (by decide +kernel))) a_nil)) (k_times g hc100 H2 (show Sz (-1 : Rat) 4 3 from ⟨by decide +kernel, by decide +kernel⟩) (by decide))) a_nil)) (k_added g h40 H1 L24 (by decide))) a_nil)) (k_product g h40 L1 L25 (by decide))) ?_
  have L27 := Lv.prod h40 H1 H1
  have L28 := Lv.prod h40 H2 H2
  have L29 := Lv.times L28 (show Sz (-1 : Rat) 4 3 from ⟨by decide +kernel, by decide +kernel⟩)
  have L30 := Lv.add L27 L29
  refine b_if1 (t_not (t_val (e_call (d := .bool true) (C__law_is.mono (by decide)) hr hG (a_cons (e_var 7 rfl (pv 7)) (a_cons (e_call (d := (nf c (((p1) * (p1) + (q1) * (q1) * c) + (((p2) * (p2) + (q2) * (q2) * c) * (-1 : Rat))) (((p1) * (q1) + (q1) * (p1)) + (((p2) * (q2) + (q2) * (p2)) * (-1 : Rat))))) (C_added.mono (by decide)) hr hG (a_cons (e_call (d := (nf c ((p1) * (p1) + (q1) * (q1) * c) ((p1) * (q1) + (q1) * (p1)))) (C_product.mono (by decide)) hr hG (a_cons (e_var 2 rfl (pv 2)) (a_cons (e_var 2 rfl (pv 2)) a_nil)) (k_product g h40 H1 H1 (by decide))) (a_cons (e_call (d := (nf c (((p2) * (p2) + (q2) * (q2) * c) * (-1 : Rat)) (((p2) * (q2) + (q2) * (p2)) * (-1 : Rat)))) (C_times.mono (by decide)) hr hG (a_cons (e_call (d := (nf c ((p2) * (p2) + (q2) * (q2) * c) ((p2) * (q2) + (q2) * (p2)))) (C_product.mono (by decide)) hr hG (a_cons (e_var 3 rfl (pv 3)) (a_cons (e_var 3 rfl (pv 3)) a_nil)) (k_product g h40 H2 H2 (by decide))) (a_cons (ED.to (d' := encQ (-1 : Rat)) (e_tup (a_cons (e_neg e_int) (a_cons e_int a_nil))) (encQ_of (d := 1) (by decide +kernel) (by decide +kernel))) a_nil)) (k_times g hc100 L28 (show Sz (-1 : Rat) 4 3 from ⟨by decide +kernel, by decide +kernel⟩) (by decide))) a_nil)) (k_added g h40 L27 L29 (by decide))) a_nil)) (k_is g hc100 L26 (by grind) (by grind) (by decide))))) (fun hc => b_ret e_bl (absurd hc (by simp))) (fun _ => ?_)
  refine b_set 8 (d := nf c p1 (-q1)) sc.nd rfl (.inl rfl) (ED.to (e_tup (a_cons (e_at (e_var 2 rfl (pv 2)) rfl) (a_cons (e_call (d := encQ (-q1)) (C_neg.mono (by decide)) hr hG (a_cons (e_at (e_var 2 rfl (pv 2)) rfl) a_nil) ⟨_, rfl, rfl⟩) (a_cons (e_at (e_var 2 rfl (pv 2)) rfl) a_nil)))) nf_neg) ?_
  have L31 := Lv.prod h40 H1 H1.neg
  refine b_set 9 sc.nd rfl (.inl rfl) (e_call (d := (nf c ((p1) * (p1) + (q1) * (-q1) * c) ((p1) * (-q1) + (q1) * (p1)))) (C_product.mono (by decide)) hr hG (a_cons (e_var 2 rfl (pv 2)) (a_cons (e_var 8 rfl (pv 8)) a_nil)) (k_product g h40 H1 H1.neg (by decide))) ?_
  have hq0 : ((p1) * (-q1) + (q1) * (p1) : Rat) = 0 := by grind
  have hn0 : ((p1) * (p1) + (q1) * (-q1) * c : Rat) = 0 → p1 = 0 ∧ q1 = 0 := fun z => norm0 g (by grind)
  refine b_if1 (t_w (w_or (t_neI (e_at (e_at (e_var 9 rfl (pv 9)) rfl) rfl) e_int) (fun hc => (w_or1 (t_w (w_and (t_neI (e_call (d := .int (S c (p1) (q1))) (C_sign_of.mono (by decide)) hr hG (a_cons (e_var 2 rfl (pv 2)) a_nil) (k_sign g hc100 H1 (by decide))) e_int) (fun hc => (w_and1 (t_eqI (e_at (e_at (e_var 9 rfl (pv 9)) rfl) rfl) e_int))))))))) (fun hc => ?_) (fun _ => ?_)
  · exfalso
    have hc : (!decide (((p1) * (-q1) + (q1) * (p1) : Rat).num = 0) || (!decide (S c (p1) (q1) = 0) && decide (((p1) * (p1) + (q1) * (-q1) * c : Rat).num = 0))) = true := hc
    rw [hq0] at hc
    by_cases z : ((p1) * (p1) + (q1) * (-q1) * c : Rat) = 0
    · obtain ⟨h1, h2⟩ := hn0 z
      rw [h1, h2, S_zero] at hc
      simp at hc
    · rw [decide_eq_false (fun y => z (Rat.num_eq_zero.mp y))] at hc
      simp at hc
  have nz : (!decide (((p1) * (p1) + (q1) * (-q1) * c : Rat).num = 0)) = true → ((p1) * (p1) + (q1) * (-q1) * c : Rat) ≠ 0 := fun hc z => by
    rw [z] at hc
    exact absurd hc (by decide)
  refine b_if1 (t_w (w_and (t_neI (e_at (e_at (e_var 9 rfl (pv 9)) rfl) rfl) e_int) (fun hc => (w_and1 (t_not (t_val (e_call (d := .bool true) (C__law_is.mono (by decide)) hr hG (a_cons (e_call (d := nf c (p1 * (p1 * (1 / ((p1) * (p1) + (q1) * (-q1) * c : Rat))) + q1 * (-q1 * (1 / ((p1) * (p1) + (q1) * (-q1) * c : Rat))) * c) (p1 * (-q1 * (1 / ((p1) * (p1) + (q1) * (-q1) * c : Rat))) + q1 * (p1 * (1 / ((p1) * (p1) + (q1) * (-q1) * c : Rat))))) (C_product.mono (by decide)) hr hG (a_cons (e_var 2 rfl (pv 2)) (a_cons (e_call (d := nf c (p1 * (1 / ((p1) * (p1) + (q1) * (-q1) * c : Rat))) (-q1 * (1 / ((p1) * (p1) + (q1) * (-q1) * c : Rat)))) (C_times.mono (by decide)) hr hG (a_cons (e_var 8 rfl (pv 8)) (a_cons (e_call (d := encQ (1 / ((p1) * (p1) + (q1) * (-q1) * c : Rat))) (C_div.mono (by decide)) hr hG (a_cons (ED.to (d' := encQ (1 : Rat)) (e_tup (a_cons e_int (a_cons e_int a_nil))) (encQ_of (d := 1) (by decide +kernel) (by decide +kernel))) (a_cons (e_at (e_var 9 rfl (pv 9)) rfl) a_nil)) ⟨_, _, rfl, sz1.bd (by decide) (by decide), L31.p.mono (by decide) (by decide), nz hc, rfl⟩) a_nil)) (k_times g hc100 H1.neg (sz1.div L31.p) (by decide))) a_nil)) (k_product g h40 H1 (Lv.times H1.neg (sz1.div L31.p)) (by decide))) (a_cons (e_call (d := nf c 1 0) (C_of_fraction.mono (by decide)) hr hG (a_cons (ED.to (d' := encQ (1 : Rat)) (e_tup (a_cons e_int (a_cons e_int a_nil))) (encQ_of (d := 1) (by decide +kernel) (by decide +kernel))) a_nil) k_off) a_nil)) (k_is g hc100 (Lv.prod h40 H1 (Lv.times H1.neg (sz1.div L31.p))) (by have := inv1 (nz hc); grind) (by grind) (by decide))))))))) (fun hc => ?_) (fun _ => ?_)
  · exfalso
    simp at hc
  refine b_ret (e_and (e_eq hr.units (x := .list [.bool true, .bool true, .bool true, .bool true, .bool true]) ?sh1 ?sh2 ?lc (e_rep (k := 5) (a_cons e_bl a_nil) (Nat.le_of_ble_eq_true rfl) (Nat.le_of_ble_eq_true rfl) (by decide))) (fun hc => e_one (e_call (d := .bool true) (C_is_root_place.mono (by decide)) hr hG (a_cons (e_tup (a_cons (e_var 2 rfl (pv 2)) (a_cons (e_var 3 rfl (pv 3)) a_nil))) a_nil) (k_isplace g hc100)))) ?fin
  case sh1 => simp [SeqAt.shaped, PyData.canLay0, PyData.canLayAll0, PyData.depth, PyData.depthAll]
  case sh2 => simp [SeqAt.shaped, PyData.canLay0, PyData.canLayAll0, PyData.depth, PyData.depthAll]
  case lc =>
    refine (lcT (i := 10) (x := "one") (ds := [(nf c (p1) (q1)), (nf c (p2) (q2)), (nf c (p3) (q3)), (nf c (((p1) + (p2)) * ((p1) + ((p2) * (-1 : Rat))) + ((q1) + (q2)) * ((q1) + ((q2) * (-1 : Rat))) * c) (((p1) + (p2)) * ((q1) + ((q2) * (-1 : Rat))) + ((q1) + (q2)) * ((p1) + ((p2) * (-1 : Rat))))), (nf c ((p1) * (p1) + (q1) * (-q1) * c) ((p1) * (-q1) + (q1) * (p1)))]) (Rj := fun _ r => r = .bool true) (R := fun z => z = .list [.bool true, .bool true, .bool true, .bool true, .bool true]) rfl sc.nd (show blkC ["bag", "c", "r", "s", "t", "turn", "f", "square", "other", "both", "one"] (defScope s__law_rules_so) _ [("one", 10)] = true by decide +kernel) rfl (e_tup (a_cons (e_var 2 rfl (pv 2)) (a_cons (e_var 3 rfl (pv 3)) (a_cons (e_var 4 rfl (pv 4)) (a_cons (e_var 7 rfl (pv 7)) (a_cons (e_var 9 rfl (pv 9)) a_nil)))))) (Nat.le_of_ble_eq_true rfl) (fun _ _ _ _ _ => ⟨.inl rfl, .inr rfl⟩) ?_ ?_).ed
    · intro s1 H1 C1 cl fp D1 acc j d hD hj
      have hd : ∃ P Q, d = nf c P Q := by
        match j, hj with
        | 0, hj => cases hj; exact ⟨_, _, rfl⟩
        | 1, hj => cases hj; exact ⟨_, _, rfl⟩
        | 2, hj => cases hj; exact ⟨_, _, rfl⟩
        | 3, hj => cases hj; exact ⟨_, _, rfl⟩
        | 4, hj => cases hj; exact ⟨_, _, rfl⟩
        | j + 5, hj => cases hj
      obtain ⟨P, Q, rfl⟩ := hd
      exact e_call (d := .bool true) (C_is_root.mono (by decide)) hr hG (a_cons (e_var 10 rfl (pv 10)) a_nil) (k_isroot g hc100)
    · intro res hl h
      rw [allT h, hl]
      rfl
  case fin =>
    have e : PyData.eqv (.list [.bool true, .bool true, .bool true, .bool true, .bool true]) (.list (List.replicate 5 [PyData.bool true]).flatten) = true := by simp [PyData.eqv, PyData.eqvAll]
    show R (.bool (PyData.eqv (.list [.bool true, .bool true, .bool true, .bool true, .bool true]) (.list (List.replicate 5 [PyData.bool true]).flatten) && true))
    rw [e]
    exact hR
end K65
end
section
set_option Elab.async false
set_option linter.all false
set_option maxRecDepth 100000
set_option maxHeartbeats 8000000
set_option exponentiation.threshold 20000
namespace DL
open PySem PySem.Spec PyProof.Rows L2
theorem b_parR {X : Cx} {W : Wd} {ρ : En} {a b : Expr} {rest : List Stmt} {pos : Pos} {Φ : Oc → Prop} (i j : Nat) {Rs : List D → Prop} {x y : Str} {px py pt : Pos} {kt k2 pt2} (hc : X.calm = true) (nd : X.N.Nodup) (hi : X.N[i]? = some x) (hj : X.N[j]? = some y) (hij : i ≠ j)
    (hx : X.env.scope.names.lookup x = some .local) (hy : X.env.scope.names.lookup y = some .local) (ha : ADr X W ρ [a, b] Rs)
    (hw : swappedStores [.Tuple [.Name x px, .Name y py] kt pt] (.Tuple [a, b] k2 pt2) X.env = pure (some [x, y]))
    (h : ∀ ds, Rs ds → ∃ d1 d2, ds = [d1, d2] ∧ BD X W ((ρ.set i (.d d1)).set j (.d d2)) rest Φ)
    (hs : swapsWithSole [.Tuple [.Name x px, .Name y py] kt pt] (.Tuple [a, b] k2 pt2) pos.line X.env = pure false := by rfl) : BD X W ρ (.Assign [.Tuple [.Name x px, .Name y py] kt pt] (.Tuple [a, b] k2 pt2) pos :: rest) Φ :=
  b_cons (ps_imp (ps_par hc nd hi hj hij hx hy ha hw hs) fun G σ H ⟨hB, hR, q1, _⟩ => ⟨hB, hR, fun ds vs H' r B' l' p' => by
    obtain ⟨d1, d2, e, h⟩ := h ds r
    subst e
    obtain ⟨v, w, e1, p1, p2⟩ := dps2 p'
    exact ⟨v, w, e1, q1 _ _ H' h B' l' (((hR.mono l').setD p1).setD p2)⟩⟩)
end DL
namespace K65
open PySem PySem.Spec PyProof.Rows L2 DL QM
variable {K : PySem.W.Frag} {mg : Str → Option Value} {P : Program} {w : World} {base : Heap}
theorem S_n2 {c : Rat} (g : Good c) (a b : Rat) : (S c a b).natAbs < 2 ^ 2 := by
  rcases S_abs1 g a b with h | h | h <;> rw [h] <;> decide
theorem S_neg1 {c a b : Rat} (g : Good c) (h : S c a b < 0) : S c a b = -1 := by
  rcases S_abs1 g a b with e | e | e <;> omega
theorem sz_le {p : Rat} {n d : Nat} (h : Sz p n d) : p ≤ 2 ^ n ∧ -p ≤ 2 ^ n := by
  have e := den_mulR p
  have hd : (1 : Rat) ≤ (p.den : Rat) := by
    have := natR (Nat.pos_of_ne_zero p.den_nz)
    simpa using this
  have h1 : p.num < ((2 ^ n : Nat) : Int) := by have := h.1; omega
  have h2 : -((2 ^ n : Nat) : Int) < p.num := by have := h.1; omega
  have r1 : (p.num : Rat) ≤ 2 ^ n := by
    have := Rat.intCast_le_intCast.mpr (Int.le_of_lt h1)
    rw [pwI] at this
    exact this
  have r2 : -(2 ^ n : Rat) ≤ (p.num : Rat) := by
    have := Rat.intCast_le_intCast.mpr (Int.le_of_lt h2)
    rw [Rat.intCast_neg, pwI] at this
    exact this
  have hp := pw_pos n
  rw [← e] at r1 r2
  constructor
  · refine Rat.not_lt.mp fun z => ?_
    have : p * 1 ≤ p * (p.den : Rat) := Rat.mul_le_mul_of_nonneg_left hd (by grind)
    grind
  · refine Rat.not_lt.mp fun z => ?_
    have : (-p) * 1 ≤ (-p) * (p.den : Rat) := Rat.mul_le_mul_of_nonneg_left hd (by grind)
    grind
theorem mag_of {c p q : Rat} (hc : Sz c 40 30) (h : Lv p q 50 20) : Mag c p q := by
  have u : ∀ n, n ≤ 100 → (2 : Rat) ^ n ≤ 2 ^ 100 := fun n hn => pw_mono hn
  have a := sz_le h.p
  have b := sz_le h.q
  have d := sz_le hc
  have u1 := u 50 (by decide)
  have u2 := u 40 (by decide)
  exact ⟨by grind, by grind, by grind, by grind, by grind⟩
theorem flr_mag0 {c p q : Rat} (g : Good c) (M : Mag c p q) : (flr c p q).natAbs < 2 ^ 210 := by
  have h := flr_mag g M 0
  rw [Rat.pow_zero, show p * 1 = p by grind, show q * 1 = q by grind] at h
  exact h
theorem gap_ok {c pl ql ph qh : Rat} (g : Good c) (hc : Sz c 40 30) (Hl : Lv pl ql 50 20) (Hh : Lv ph qh 50 20) (h : QM.P c (ph - pl) (qh - ql)) : half 243 * 2 ^ 243 = 1 ∧ QM.P c (ph - pl - half 243) (qh - ql) := by
  have e := half_mul 243
  refine ⟨e, ?_⟩
  have a := Hh.p.sub Hl.p
  have b := Hh.q.sub Hl.q
  have s := (a.mul a).sub ((b.mul b).mul hc)
  have l1 := sz_le Hl.p
  have l2 := sz_le Hh.p
  have e51 : (2 : Rat) ^ 51 = 2 ^ 50 * 2 := Rat.pow_succ ..
  have e243 : (2 : Rat) ^ 243 = 2 ^ 190 * 2 ^ 51 * 4 := by
    have e4 : (2 : Rat) ^ 2 = 4 := by decide +kernel
    rw [← e4, ← pw_add, ← pw_add]
  refine gap g h (β := 190) (n := 51) ?_ ?_ ?_ ?_ ?_
  · exact Nat.lt_of_lt_of_le s.2 (Nat.pow_le_pow_right (by decide) (by decide))
  · rw [e51]; grind
  · rw [e51]; grind
  · refine Rat.not_le.mp fun z => ?_
    have := pw_pos 243
    have : 0 ≤ (-half 243) * 2 ^ 243 := Rat.mul_nonneg (by grind) (by grind)
    grind
  · rw [← e, e243]
    grind
theorem btw_sz {c pl ql ph qh : Rat} {k K : Nat} (g : Good c) (M : Mag c pl ql) (hk : k ≤ K) (hf : Fst c pl ql ph qh (btw c pl ql ph qh) k) (hK : K ≤ 250) : Sz (btw c pl ql ph qh) 3000 300 := by
  rw [hf.1]
  have fm := flr_mag g M k
  have e1 : (2 : Nat) ^ (2 * k + 211) = 2 ^ (2 * k + 210) * 2 := Nat.pow_succ ..
  have e16 : 16 ≤ (2 : Nat) ^ (2 * k + 210) := Nat.pow_le_pow_right (n := 2) (by decide) (show 4 ≤ 2 * k + 210 by omega)
  refine (sz_divInt (a := 2 * k + 211) (b := k + 1) (pwI0 k) (by omega) ?_).mono (by omega) (by omega)
  rw [Int.natAbs_natCast]
  exact Nat.pow_lt_pow_right (by decide) (by omega)
theorem flr_le {c pl ql ph qh : Rat} (g : Good c) (h : QM.P c (ph - pl) (qh - ql)) : flr c pl ql ≤ flr c ph qh := by
  have f1 := (flr_ok g pl ql).1
  have p := P_sub g f1 h
  rw [show pl - (flr c pl ql : Rat) + (ph - pl) = ph - (flr c pl ql : Rat) by grind, show ql + (qh - ql) = qh by grind] at p
  exact Fl_lt g (by rw [S_pos p]; decide) (flr_ok g ph qh).2
theorem fl_plus {c p q : Rat} {n : Int} (h : Fl c p q n) : Fl c (p + 7) q (n + 7) := by
  obtain ⟨h1, h2⟩ := h
  have e1 : p + 7 - ((n + 7 : Int) : Rat) = p - (n : Rat) := by rw [Rat.intCast_add]; grind
  have e2 : p + 7 - ((n + 7 + 1 : Int) : Rat) = p - ((n + 1 : Int) : Rat) := by rw [Rat.intCast_add, Rat.intCast_add, Rat.intCast_add]; grind
  exact ⟨by rw [e1]; exact h1, by rw [e2]; exact h2⟩
theorem near_one {c p q : Rat} {n : Int} (g : Good c) (h : Fl c p q n) : flr c (p * ((((1 : Nat) : Int)) : Rat) + 1 / 2) (q * ((((1 : Nat) : Int)) : Rat)) = n ∨ flr c (p * ((((1 : Nat) : Int)) : Rat) + 1 / 2) (q * ((((1 : Nat) : Int)) : Rat)) = n + 1 := by
  have e1 : ((((1 : Nat) : Int)) : Rat) = 1 := rfl
  rw [e1, show p * 1 = p by grind, show q * 1 = q by grind]
  have fm := flr_ok g (p + 1 / 2) q
  have c1 : ((n + 1 : Int) : Rat) = (n : Rat) + 1 := by rw [Rat.intCast_add]; rfl
  have c2 : ((n + 1 + 1 : Int) : Rat) = (n : Rat) + 1 + 1 := by rw [Rat.intCast_add, Rat.intCast_add]; rfl
  have l1 : n ≤ flr c (p + 1 / 2) q := Fl_lt g (by have := S_mono g (b := q) (u := p - (n : Rat)) (v := p + 1 / 2 - (n : Rat)) (by grind); have := h.1; omega) fm.2
  have l2 : flr c (p + 1 / 2) q ≤ n + 1 := Fl_lt g fm.1 (by have := S_mono g (b := q) (u := p + 1 / 2 - ((n + 1 + 1 : Int) : Rat)) (v := p - ((n + 1 : Int) : Rat)) (by rw [c1, c2]; grind); have := h.2; omega)
  omega
def F_order : Wd → List Sl → (D → Prop) → Prop := fun W ss R => ∃ (b l : Addr) (c : Rat), HB W b l ∧ ss = [.v (.ref b), .d (encQ c)] ∧ Good c ∧ Sz c 40 30 ∧ R (.bool true)
theorem c__law_order_so (T : Tp K mg) : Cw P w K mg base 11 "_law_order_so" F_order := by
  have sc : FnScope ["bag", "c", "r", "s", "turn", "f", "way", "less", "low", "high", "told", "n"] ["bag", "c"] (defScope s__law_order_so) := ⟨rfl, rfl, rfl, by decide +kernel, rfl, by decide +kernel, by decide +kernel⟩
  have C_number := c__law_number (P := P) (w := w) (base := base) T
  have C_added := c_added (P := P) (w := w) (base := base) T
  have C_between := c_between (P := P) (w := w) (base := base) T
  have C_compare_signs := c_compare_signs (P := P) (w := w) (base := base) T
  have C_floor_of := c_floor_of (P := P) (w := w) (base := base) T
  have C_nearest := c_nearest (P := P) (w := w) (base := base) T
  have C_neg := c_neg (P := P) (w := w) (base := base) T
  have C_of_fraction := c_of_fraction (P := P) (w := w) (base := base) T
  have C_plus := c_plus (P := P) (w := w) (base := base) T
  have C_product := c_product (P := P) (w := w) (base := base) T
  have C_rooted := c_rooted (P := P) (w := w) (base := base) T
  have C_sign_of := c_sign_of (P := P) (w := w) (base := base) T
  have C_sign_three := c_sign_three (P := P) (w := w) (base := base) T
  have C_sub := c_sub (P := P) (w := w) (base := base) T
  have C_times := c_times (P := P) (w := w) (base := base) T
  refine T.cw 64 rfl rfl (st := s__law_order_so) sc (fun _ _ _ _ _ _ us hl => match us, hl with | [_, _], _ => rfl) (fun W ss R hF => by obtain ⟨_, _, _, _, rfl, _⟩ := hF; rfl) ?_
  intro f cdv A l0 s H E W ss R hr hG hF
  obtain ⟨b, l, c, hb, rfl, g, h40, hR⟩ := hF
  have hc100 : Sz c 100 60 := h40.mono (by decide) (by decide)
  refine b_unL2 2 3 (R := fun d => ∃ p1 q1 p2 q2, d = .list [nf c p1 q1, nf c p2 q2] ∧ Lv p1 q1 50 20 ∧ Lv p2 q2 50 20) rfl sc.nd rfl rfl (.inl rfl) (.inl rfl) (lcN (i := 4) (x := "turn") (n := 2) (Rj := fun _ r => ∃ p q, r = nf c p q ∧ Lv p q 50 20) rfl sc.nd (show blkC ["bag", "c", "r", "s", "turn", "f", "way", "less", "low", "high", "told", "n"] (defScope s__law_order_so) _ [("turn", 4)] = true by decide +kernel) rfl T.f_range e_int (by decide) (fun _ _ _ _ _ => ⟨.inl rfl, .inr rfl⟩) ?draw ?two).ed (fun d hd => ?_)
  case draw =>
    intro s1 H1 C1 cl fp D1 acc j hD hj
    refine e_callR (Rs := fun ds => ∃ p q : Rat, ds = [encQ p, encQ q, encQ c] ∧ Lv p q 50 20) (C_rooted.mono (by decide)) hr hG (a_consR (Ra := fun z => ∃ p : Rat, z = encQ p ∧ Sz p 50 20) (Rs := fun ds => ∃ q : Rat, ds = [encQ q, encQ c] ∧ Sz q 50 20) (e_callW (C_number.mono (by decide)) hr hG (s_raw (pv 0) rfl s_nil) ⟨b, l, hb.push hD, rfl, fun q hq => ⟨q, rfl, hq⟩⟩) (a_consR (Ra := fun z => ∃ p : Rat, z = encQ p ∧ Sz p 50 20) (Rs := fun ds => ds = [encQ c]) (e_callW (C_number.mono (by decide)) hr hG (s_raw (pv 0) rfl s_nil) ⟨b, l, hb.push hD, rfl, fun q hq => ⟨q, rfl, hq⟩⟩) (a_cons (e_var 1 rfl (pv 1)) a_nil) (fun d ds h1 h2 => by obtain ⟨q, rfl, hq⟩ := h1; subst h2; exact ⟨q, rfl, hq⟩)) (fun d ds h1 h2 => by obtain ⟨p, rfl, hp⟩ := h1; obtain ⟨q, rfl, hq⟩ := h2; exact ⟨p, q, rfl, hp, hq⟩)) (fun ds h => by
      obtain ⟨p, q, rfl, hl⟩ := h
      obtain ⟨a1, a2, a3, e1, e2, e3⟩ := k_rooted (p := p) (q := q) g hc100
      exact ⟨a1, a2, a3, e1, e2, by rw [e3]; exact ⟨p, q, rfl, hl⟩⟩)
  case two =>
    intro res hl h
    obtain ⟨x, y, rfl, ⟨p1, q1, rfl, h1⟩, ⟨p2, q2, rfl, h2⟩⟩ := res2 hl h
    exact ⟨p1, q1, p2, q2, rfl, h1, h2⟩
  obtain ⟨p1, q1, p2, q2, rfl, H1, H2⟩ := hd
  refine ⟨_, _, rfl, ?_⟩
  have mg1 := mag_of h40 H1
  refine b_parR 5 6 (Rs := fun ds => ∃ f : Rat, ds = [encQ f, .int (S c (p1 - p2) (q1 - q2))] ∧ Sz f 50 20) rfl sc.nd rfl rfl (by decide) rfl rfl (a_consR (Ra := fun d => ∃ f : Rat, d = encQ f ∧ Sz f 50 20) (Rs := fun ds => ds = [.int (S c (p1 - p2) (q1 - q2))]) (e_callW (C_number.mono (by decide)) hr hG (s_raw (pv 0) rfl s_nil) ⟨b, l, hb, rfl, fun q hq => ⟨q, rfl, hq⟩⟩) (a_cons (e_call (d := .int (S c (p1 - p2) (q1 - q2))) (C_compare_signs.mono (by decide)) hr hG (a_cons (e_var 2 rfl (pv 2)) (a_cons (e_var 3 rfl (pv 3)) a_nil)) (k_cmp g hc100 H1 H2 (by decide))) a_nil) (fun d ds h1 h2 => by obtain ⟨f, rfl, hf⟩ := h1; subst h2; exact ⟨f, rfl, hf⟩)) rfl (fun ds h => ?_)
  obtain ⟨f0, rfl, Hf⟩ := h
  refine ⟨_, _, rfl, ?_⟩
  have L1 := Lv.times H2 (show Sz (-1 : Rat) 4 3 from ⟨by decide +kernel, by decide +kernel⟩)
  have L2 := Lv.add H1 L1
  refine b_set 7 sc.nd rfl (.inl rfl) (e_call (d := (nf c ((p1) + ((p2) * (-1 : Rat))) ((q1) + ((q2) * (-1 : Rat))))) (C_added.mono (by decide)) hr hG (a_cons (e_var 2 rfl (pv 2)) (a_cons (e_call (d := (nf c ((p2) * (-1 : Rat)) ((q2) * (-1 : Rat)))) (C_times.mono (by decide)) hr hG (a_cons (e_var 3 rfl (pv 3)) (a_cons (ED.to (d' := encQ (-1 : Rat)) (e_tup (a_cons (e_neg e_int) (a_cons e_int a_nil))) (encQ_of (d := 1) (by decide +kernel) (by decide +kernel))) a_nil)) (k_times g hc100 H2 (show Sz (-1 : Rat) 4 3 from ⟨by decide +kernel, by decide +kernel⟩) (by decide))) a_nil)) (k_added g h40 H1 L1 (by decide))) ?_
  have L3 := Lv.plus H1 Hf
  have L4 := Lv.plus H2 Hf
  have f1 : S c ((p1) + ((p2) * (-1 : Rat))) ((q1) + ((q2) * (-1 : Rat))) = S c ((p1) - (p2)) ((q1) - (q2)) := by congr 1 <;> grind
  have f2 : S c ((p2) - (p1)) ((q2) - (q1)) = 0 - S c ((p1) - (p2)) ((q1) - (q2)) := by
    have e := S_flip g (p1 - p2) (q1 - q2)
    have e2 : S c ((p2) - (p1)) ((q2) - (q1)) = S c (-(p1 - p2)) (-(q1 - q2)) := by congr 1 <;> grind
    rw [e2, e]; omega
  have f3 : S c (((p1) + f0) - ((p2) + f0)) ((q1) - (q2)) = S c ((p1) - (p2)) ((q1) - (q2)) := by congr 1 <;> grind
  refine b_if1 (t_w (w_or (t_neI (e_call (d := .int (S c ((p1) + ((p2) * (-1 : Rat))) ((q1) + ((q2) * (-1 : Rat))))) (C_sign_of.mono (by decide)) hr hG (a_cons (e_var 7 rfl (pv 7)) a_nil) (k_sign g hc100 L2 (by decide))) (e_var 6 rfl (pv 6))) (fun hc => (w_or (t_neI (e_call (d := .int (S c ((p2) - (p1)) ((q2) - (q1)))) (C_compare_signs.mono (by decide)) hr hG (a_cons (e_var 3 rfl (pv 3)) (a_cons (e_var 2 rfl (pv 2)) a_nil)) (k_cmp g hc100 H2 H1 (by decide))) (e_sub e_int (e_var 6 rfl (pv 6)))) (fun hc => (w_or1 (t_neI (e_call (d := .int (S c (((p1) + f0) - ((p2) + f0)) ((q1) - (q2)))) (C_compare_signs.mono (by decide)) hr hG (a_cons (e_call (d := (nf c ((p1) + f0) (q1))) (C_plus.mono (by decide)) hr hG (a_cons (e_var 2 rfl (pv 2)) (a_cons (e_var 5 rfl (pv 5)) a_nil)) (k_plus H1 Hf (by decide))) (a_cons (e_call (d := (nf c ((p2) + f0) (q2))) (C_plus.mono (by decide)) hr hG (a_cons (e_var 3 rfl (pv 3)) (a_cons (e_var 5 rfl (pv 5)) a_nil)) (k_plus H2 Hf (by decide))) a_nil)) (k_cmp g hc100 L3 L4 (by decide))) (e_var 6 rfl (pv 6))))))))) (fun hc => ?_) (fun _ => ?_)
  · rw [f1, f2, f3] at hc
    simp at hc
  have L5 := Lv.times H1 Hf
  have L6 := Lv.times H2 Hf
  have f4 : S c (((p1) * f0) - ((p2) * f0)) (((q1) * f0) - ((q2) * f0)) = S c ((p1) - (p2)) ((q1) - (q2)) * ((if decide ((0 : Int) < f0.num) = true then (1 : Int) else 0) - (if decide (f0.num < (0 : Int)) = true then (1 : Int) else 0)) := by
    rw [sgn_num]
    have e := S_mul g (p1 - p2) (q1 - q2) f0 0
    rw [S_rat g] at e
    rw [← e]
    congr 1 <;> grind
  refine b_if1 (t_neI (e_call (d := .int (S c (((p1) * f0) - ((p2) * f0)) (((q1) * f0) - ((q2) * f0)))) (C_compare_signs.mono (by decide)) hr hG (a_cons (e_call (d := (nf c ((p1) * f0) ((q1) * f0))) (C_times.mono (by decide)) hr hG (a_cons (e_var 2 rfl (pv 2)) (a_cons (e_var 5 rfl (pv 5)) a_nil)) (k_times g hc100 H1 Hf (by decide))) (a_cons (e_call (d := (nf c ((p2) * f0) ((q2) * f0))) (C_times.mono (by decide)) hr hG (a_cons (e_var 3 rfl (pv 3)) (a_cons (e_var 5 rfl (pv 5)) a_nil)) (k_times g hc100 H2 Hf (by decide))) a_nil)) (k_cmp g hc100 L5 L6 (by decide))) (e_mul (cmulN (S_n2 g _ _) (by rw [sgn_num]; exact sgn_abs _)) (e_var 6 rfl (pv 6)) (e_sub (e_intB T.f_int (e_gt (e_at (e_var 5 rfl (pv 5)) rfl) e_int)) (e_intB T.f_int (e_lt (e_at (e_var 5 rfl (pv 5)) rfl) e_int))))) (fun hc => ?_) (fun _ => ?_)
  · rw [f4] at hc
    simp at hc
  have L7 := Lv.prod h40 H1 H2
  have L8 := Lv.prod h40 H1 H1
  have f5 : S c ((p1) * (p2) + (q1) * (q2) * c) ((p1) * (q2) + (q1) * (p2)) = S c (p1) (q1) * S c (p2) (q2) := S_mul g p1 q1 p2 q2
  have f6 : S c ((p1) * (p1) + (q1) * (q1) * c) ((p1) * (q1) + (q1) * (p1)) = (if (!decide (S c (p1) (q1) = 0)) = true then 1 else 0) := by
    have e : S c ((p1) * (p1) + (q1) * (q1) * c) ((p1) * (q1) + (q1) * (p1)) = S c (p1) (q1) * S c (p1) (q1) := S_mul g p1 q1 p1 q1
    rw [e]
    rcases S_abs1 g p1 q1 with h | h | h <;> rw [h] <;> decide
  refine b_if1 (t_w (w_or (t_neI (e_call (d := .int (S c ((p1) * (p2) + (q1) * (q2) * c) ((p1) * (q2) + (q1) * (p2)))) (C_sign_of.mono (by decide)) hr hG (a_cons (e_call (d := (nf c ((p1) * (p2) + (q1) * (q2) * c) ((p1) * (q2) + (q1) * (p2)))) (C_product.mono (by decide)) hr hG (a_cons (e_var 2 rfl (pv 2)) (a_cons (e_var 3 rfl (pv 3)) a_nil)) (k_product g h40 H1 H2 (by decide))) a_nil) (k_sign g hc100 L7 (by decide))) (e_mul (cmulN (S_n2 g _ _) (S_n2 g _ _)) (e_call (d := .int (S c (p1) (q1))) (C_sign_of.mono (by decide)) hr hG (a_cons (e_var 2 rfl (pv 2)) a_nil) (k_sign g hc100 H1 (by decide))) (e_call (d := .int (S c (p2) (q2))) (C_sign_of.mono (by decide)) hr hG (a_cons (e_var 3 rfl (pv 3)) a_nil) (k_sign g hc100 H2 (by decide))))) (fun hc => (w_or1 (t_neI (e_call (d := .int (S c ((p1) * (p1) + (q1) * (q1) * c) ((p1) * (q1) + (q1) * (p1)))) (C_sign_of.mono (by decide)) hr hG (a_cons (e_call (d := (nf c ((p1) * (p1) + (q1) * (q1) * c) ((p1) * (q1) + (q1) * (p1)))) (C_product.mono (by decide)) hr hG (a_cons (e_var 2 rfl (pv 2)) (a_cons (e_var 2 rfl (pv 2)) a_nil)) (k_product g h40 H1 H1 (by decide))) a_nil) (k_sign g hc100 L8 (by decide))) (e_intB T.f_int (e_neI (e_call (d := .int (S c (p1) (q1))) (C_sign_of.mono (by decide)) hr hG (a_cons (e_var 2 rfl (pv 2)) a_nil) (k_sign g hc100 H1 (by decide))) e_int))))))) (fun hc => ?_) (fun _ => ?_)
  · rw [f5, f6] at hc
    simp at hc
  have rest : ∀ s1 s2 s3 : Sl, BD (cxOf CX0 P w K mg base ["bag", "c", "r", "s", "turn", "f", "way", "less", "low", "high", "told", "n"] "_law_order_so" (defScope s__law_order_so) f cdv A l0 s H E).nox W [.v (.ref b), .d (encQ c), .d (nf c p1 q1), .d (nf c p2 q2), .no, .d (encQ f0), .d (.int (S c ((p1) - (p2)) ((q1) - (q2)))), .d (nf c ((p1) + ((p2) * (-1 : Rat))) ((q1) + ((q2) * (-1 : Rat)))), s1, s2, s3, .no] ((defBody s__law_order_so).drop 8) (fun o => match o with | .rt d => R d | .nx _ => R .none | _ => False) := by
    intro s1 s2 s3
    refine b_set 11 (d := .int (flr c p1 q1)) sc.nd rfl (.inl rfl) (e_call (d := .int (flr c (p1) (q1))) (C_floor_of.mono (by decide)) hr hG (a_cons (e_var 2 rfl (pv 2)) a_nil) (k_floor g hc100 H1 (by decide))) ?_
    have fl := flr_ok g p1 q1
    have nb : (flr c p1 q1).natAbs < 2 ^ 210 := flr_mag0 g mg1
    revert fl nb
    generalize hn : flr c p1 q1 = n
    intro fl nb
    have nb1 : (n + 1).natAbs < 2 ^ 211 := by
      have e : (2 : Nat) ^ 211 = 2 ^ 210 * 2 := Nat.pow_succ ..
      have e2 : 2 ≤ (2 : Nat) ^ 210 := Nat.pow_le_pow_right (n := 2) (by decide) (show 1 ≤ 210 by decide)
      omega
    refine b_if1 (t_w (w_or (t_gt (e_call (d := .int (S c ((n : Rat) - p1) (0 - q1))) (C_compare_signs.mono (by decide)) hr hG (a_cons (e_call (d := nf c ((n : Int) : Rat) 0) (C_of_fraction.mono (by decide)) hr hG (a_cons (ED.to (d' := encQ ((n : Int) : Rat)) (e_tup (a_cons (e_var 11 rfl (pv 11)) (a_cons e_int a_nil))) (encQ_of (d := 1) (Rat.num_intCast _) (Rat.den_intCast _))) a_nil) k_off) (a_cons (e_var 2 rfl (pv 2)) a_nil)) (k_cmpL g hc100 ((sz_int nb).mono (by decide) (by decide)) H1 (by decide))) e_int) (fun hc => (w_or1 (t_ge (e_call (d := .int (S c (p1 - ((n + 1 : Int) : Rat)) (q1 - 0))) (C_compare_signs.mono (by decide)) hr hG (a_cons (e_var 2 rfl (pv 2)) (a_cons (e_call (d := nf c (((n + 1 : Int)) : Rat) 0) (C_of_fraction.mono (by decide)) hr hG (a_cons (ED.to (d' := encQ ((n + 1 : Int) : Rat)) (e_tup (a_cons (e_add (e_var 11 rfl (pv 11)) e_int) (a_cons e_int a_nil))) (encQ_of (d := 1) (Rat.num_intCast _) (Rat.den_intCast _))) a_nil) k_off) a_nil)) (k_cmpR g hc100 H1 ((sz_int nb1).mono (by decide) (by decide)) (by decide))) e_int))))) (fun hc => ?_) (fun _ => ?_)
    · exfalso
      have e1 : S c ((n : Rat) - p1) (0 - q1) ≤ 0 := by rw [S_sw g]; have := fl.1; omega
      have e2 : S c (p1 - ((n + 1 : Int) : Rat)) (q1 - 0) < 0 := by have := fl.2; rw [show q1 - 0 = q1 by grind]; exact this
      have hc : (decide (0 < S c ((n : Rat) - p1) (0 - q1)) || decide (0 ≤ S c (p1 - ((n + 1 : Int) : Rat)) (q1 - 0))) = true := hc
      rw [decide_eq_false (show ¬ 0 < S c ((n : Rat) - p1) (0 - q1) by omega), decide_eq_false (show ¬ 0 ≤ S c (p1 - ((n + 1 : Int) : Rat)) (q1 - 0) by omega)] at hc
      exact absurd hc (by decide)
    have L9 := Lv.plus H1 (show Sz (7 : Rat) 4 3 from ⟨by decide +kernel, by decide +kernel⟩)
    have f7 : flr c ((p1) + (7 : Rat)) (q1) = n + 7 := (flr_of g (fl_plus fl)).symm
    have f8 := near_one g fl
    refine b_if1 (t_w (w_or (t_neI (e_call (d := .int (flr c ((p1) + (7 : Rat)) (q1))) (C_floor_of.mono (by decide)) hr hG (a_cons (e_call (d := (nf c ((p1) + (7 : Rat)) (q1))) (C_plus.mono (by decide)) hr hG (a_cons (e_var 2 rfl (pv 2)) (a_cons (ED.to (d' := encQ (7 : Rat)) (e_tup (a_cons e_int (a_cons e_int a_nil))) (encQ_of (d := 1) (by decide +kernel) (by decide +kernel))) a_nil)) (k_plus H1 (show Sz (7 : Rat) 4 3 from ⟨by decide +kernel, by decide +kernel⟩) (by decide))) a_nil) (k_floor g hc100 L9 (by decide))) (e_add (e_var 11 rfl (pv 11)) e_int)) (fun hc => (w_or1 (t_notInT (hu65 hr) (sh_int _) (by simp [SeqAt.shaped, PyData.canLay0, PyData.canLayAll0, PyData.depth, PyData.depthAll]) (e_call (d := .int (flr c (p1 * ((((1 : Nat) : Int)) : Rat) + 1 / 2) (q1 * ((((1 : Nat) : Int)) : Rat)))) (C_nearest.mono (by decide)) hr hG (a_cons (e_var 2 rfl (pv 2)) (a_cons e_int a_nil)) ⟨c, p1, q1, cz c q1, q1, 1, g, co_cz, rfl, by decide, by decide, H1.p.mono (by decide) (by decide), H1.q.mono (by decide) (by decide), sz_cz hc100 (by decide) (by decide), rfl⟩) (e_tup (a_cons (e_var 11 rfl (pv 11)) (a_cons (e_add (e_var 11 rfl (pv 11)) e_int) a_nil)))))))) (fun hc => ?_) (fun _ => ?_)
    · exfalso
      rw [f7] at hc
      revert hc f8
      generalize flr c (p1 * ((((1 : Nat) : Int)) : Rat) + 1 / 2) (q1 * ((((1 : Nat) : Int)) : Rat)) = m
      intro f8 hc
      rcases f8 with rfl | rfl <;> simp [PyData.eqv] at hc
    refine b_ret (e_eqI (e_call (d := .int (sg3 (p1 - p2) q1 (cz c q1) (-q2) (cz c q2))) (C_sign_three.mono (by decide)) hr hG (a_cons (e_call (d := encQ (p1 - p2)) (C_sub.mono (by decide)) hr hG (a_cons (e_at (e_var 2 rfl (pv 2)) rfl) (a_cons (e_at (e_var 3 rfl (pv 3)) rfl) a_nil)) ⟨_, _, rfl, H1.p.bd (by decide) (by decide), H2.p.bd (by decide) (by decide), rfl⟩) (a_cons (e_at (e_var 2 rfl (pv 2)) rfl) (a_cons (e_at (e_var 2 rfl (pv 2)) rfl) (a_cons (e_call (d := encQ (-q2)) (C_neg.mono (by decide)) hr hG (a_cons (e_at (e_var 3 rfl (pv 3)) rfl) a_nil) ⟨_, rfl, rfl⟩) (a_cons (e_at (e_var 3 rfl (pv 3)) rfl) a_nil))))) ?s3) (e_var 6 rfl (pv 6))) ?fin
    case s3 =>
      have z1 := sz_cz (q := q1) h40 (by decide) (by decide)
      have z2 := sz_cz (q := q2) h40 (by decide) (by decide)
      have a1 := H1.p.sub H2.p
      have a2 := (a1.mul a1).add ((H1.q.mul H1.q).mul z1)
      have a3 := a2.sub ((H2.q.neg.mul H2.q.neg).mul z2)
      exact ⟨_, _, _, _, _, rfl, co_cz.nn g, co_cz.nn g, a1.mono (by decide) (by decide), H1.q.mono (by decide) (by decide), z1.mono (by decide) (by decide), H2.q.neg.mono (by decide) (by decide), z2.mono (by decide) (by decide), a2.bd (by decide) (by decide), a3.mono (by decide) (by decide), ((a1.mul H1.q).mul sz2).mono (by decide) (by decide), rfl⟩
    case fin =>
      have e := sg3_co (a := p1 - p2) g (co_cz (c := c) (q := q1)) (co_cz (c := c) (q := q2)).neg
      have e2 : q1 + -q2 = q1 - q2 := by grind
      rw [e2] at e
      show R (.bool (decide (sg3 (p1 - p2) q1 (cz c q1) (-q2) (cz c q2) = S c ((p1) - (p2)) ((q1) - (q2)))))
      rw [e, decide_eq_true rfl]
      exact hR
  have mid : ∀ pl ql ph qh : Rat, Lv pl ql 50 20 → Lv ph qh 50 20 → S c (pl - ph) (ql - qh) = -1 → BD (cxOf CX0 P w K mg base ["bag", "c", "r", "s", "turn", "f", "way", "less", "low", "high", "told", "n"] "_law_order_so" (defScope s__law_order_so) f cdv A l0 s H E).nox W [.v (.ref b), .d (encQ c), .d (nf c p1 q1), .d (nf c p2 q2), .no, .d (encQ f0), .d (.int (S c ((p1) - (p2)) ((q1) - (q2)))), .d (nf c ((p1) + ((p2) * (-1 : Rat))) ((q1) + ((q2) * (-1 : Rat)))), .d (nf c pl ql), .d (nf c ph qh), .no, .no] ((defBody s__law_order_so).drop 7) (fun o => match o with | .rt d => R d | .nx _ => R .none | _ => False) := by
    intro pl ql ph qh Hl Hh hs
    refine b_if1 (t_neI (e_var 6 rfl (pv 6)) e_int) (fun _ => ?_) (fun _ => rest _ _ _)
    have hp : QM.P c (ph - pl) (qh - ql) := by
      have := S_m g hs
      rw [show -(pl - ph) = ph - pl by grind, show -(ql - qh) = qh - ql by grind] at this
      exact this
    obtain ⟨hε, hgap⟩ := gap_ok g h40 Hl Hh hp
    have mgl := mag_of h40 Hl
    obtain ⟨k, hk, hf⟩ := btw_ok g hε hgap
    have hsz := btw_sz g mgl hk hf (by decide)
    obtain ⟨e1, e2⟩ := Fst_lt g hf
    refine b_set 10 (d := nf c (btw c pl ql ph qh) 0) sc.nd rfl (.inl rfl) (e_call (C_of_fraction.mono (by decide)) hr hG (a_cons (e_call (d := encQ (btw c pl ql ph qh)) (C_between.mono (by decide)) hr hG (a_cons (e_var 8 rfl (pv 8)) (a_cons (e_var 9 rfl (pv 9)) a_nil)) ⟨c, pl, ql, cz c ql, ql, ph, qh, cz c qh, qh, half 243, 243, g, co_cz, co_cz, rfl, Hl.p.mono (by decide) (by decide), Hl.q.mono (by decide) (by decide), sz_cz hc100 (by decide) (by decide), Hh.p.mono (by decide) (by decide), Hh.q.mono (by decide) (by decide), sz_cz hc100 (by decide) (by decide), mgl, by decide, hε, hgap, by rw [hs]; decide, rfl⟩) a_nil) k_off) ?_
    have m1 := S_neg1 g e1
    have m2 := S_neg1 g e2
    have m3 := flr_le g hp
    refine b_if1 (t_w (w_or (t_neI (e_call (d := .int (S c (pl - btw c pl ql ph qh) (ql - 0))) (C_compare_signs.mono (by decide)) hr hG (a_cons (e_var 8 rfl (pv 8)) (a_cons (e_var 10 rfl (pv 10)) a_nil)) (k_cmpR g hc100 Hl hsz (by decide))) (e_neg e_int)) (fun hc => (w_or (t_neI (e_call (d := .int (S c (btw c pl ql ph qh - ph) (0 - qh))) (C_compare_signs.mono (by decide)) hr hG (a_cons (e_var 10 rfl (pv 10)) (a_cons (e_var 9 rfl (pv 9)) a_nil)) (k_cmpL g hc100 hsz Hh (by decide))) (e_neg e_int)) (fun hc => (w_or1 (t_gt (e_call (d := .int (flr c pl ql)) (C_floor_of.mono (by decide)) hr hG (a_cons (e_var 8 rfl (pv 8)) a_nil) (k_floor g hc100 Hl (by decide))) (e_call (d := .int (flr c ph qh)) (C_floor_of.mono (by decide)) hr hG (a_cons (e_var 9 rfl (pv 9)) a_nil) (k_floor g hc100 Hh (by decide)))))))))) (fun hc => ?_) (fun _ => b_nil (rest _ _ _))
    exfalso
    rw [m1, m2, decide_eq_false (show ¬ flr c ph qh < flr c pl ql by omega)] at hc
    exact absurd hc (by decide)
  rcases S_abs1 g (p1 - p2) (q1 - q2) with h | h | h
  · refine b_un2 8 9 rfl sc.nd rfl rfl (.inl rfl) (.inl rfl) (ED.to (d' := .tuple [nf c p2 q2, nf c p1 q1]) (e_ifD (t_lt (e_var 6 rfl (pv 6)) e_int) (fun hc => (e_tup (a_cons (e_var 2 rfl (pv 2)) (a_cons (e_var 3 rfl (pv 3)) a_nil)))) (fun hc => (e_tup (a_cons (e_var 3 rfl (pv 3)) (a_cons (e_var 2 rfl (pv 2)) a_nil))))) (by rw [h]; rfl)) ?_
    refine mid p2 q2 p1 q1 H2 H1 ?_
    have e := S_flip g (p1 - p2) (q1 - q2)
    have e2 : S c (p2 - p1) (q2 - q1) = S c (-(p1 - p2)) (-(q1 - q2)) := by congr 1 <;> grind
    rw [e2, e, h]
  · refine b_un2 8 9 rfl sc.nd rfl rfl (.inl rfl) (.inl rfl) (ED.to (d' := .tuple [nf c p1 q1, nf c p2 q2]) (e_ifD (t_lt (e_var 6 rfl (pv 6)) e_int) (fun hc => (e_tup (a_cons (e_var 2 rfl (pv 2)) (a_cons (e_var 3 rfl (pv 3)) a_nil)))) (fun hc => (e_tup (a_cons (e_var 3 rfl (pv 3)) (a_cons (e_var 2 rfl (pv 2)) a_nil))))) (by rw [h]; rfl)) ?_
    exact mid p1 q1 p2 q2 H1 H2 h
  · refine b_un2 8 9 rfl sc.nd rfl rfl (.inl rfl) (.inl rfl) (ED.to (d' := .tuple [nf c p2 q2, nf c p1 q1]) (e_ifD (t_lt (e_var 6 rfl (pv 6)) e_int) (fun hc => (e_tup (a_cons (e_var 2 rfl (pv 2)) (a_cons (e_var 3 rfl (pv 3)) a_nil)))) (fun hc => (e_tup (a_cons (e_var 3 rfl (pv 3)) (a_cons (e_var 2 rfl (pv 2)) a_nil))))) (by rw [h]; rfl)) ?_
    refine b_if1 (t_neI (e_var 6 rfl (pv 6)) e_int) (fun hc => ?_) (fun _ => rest _ _ _)
    exfalso
    rw [h] at hc
    exact absurd hc (by decide)
end K65
end
section
set_option Elab.async false
set_option linter.all false
set_option maxRecDepth 100000
set_option maxHeartbeats 8000000
set_option exponentiation.threshold 20000
namespace K65
open PySem PySem.Spec PyProof.Rows L2 DL QM
variable {K : PySem.W.Frag} {mg : Str → Option Value} {P : Program} {w : World} {base : Heap}
/-- the number p + q root c as it is kept with another c -/
structure Tl (c c1 p b1 q : Rat) (n d : Nat) : Prop where
  g1 : Good c1
  hc : Sz c1 100 60
  co : Co c b1 (cz c1 b1) q
  lv : Lv p b1 n d
section
variable {c c1 c2 p b1 q p2 b2 q2 f : Rat} {n d n' d' : Nat}
theorem Tl.sc (h : Tl c c1 p b1 q n d) : Sz (cz c1 b1) 100 60 := sz_cz h.hc (by decide) (by decide)
theorem tl_self (g : Good c) (hc : Sz c 40 30) (h : Lv p q n d) : Tl c c p q q n d := ⟨g, hc.mono (by decide) (by decide), co_cz, h⟩
theorem tl_told (g : Good c) (hc : Sz c 40 30) (h : Lv p q 50 20) {s : Rat} (s0 : 0 < s) (hs : Sz s 3 3) : Tl c (c * (s * s)) p (q / s) q 60 25 := by
  have e : c * (s * s) = s * s * c := by grind
  have hn : s ≠ 0 := by grind
  have eq : q / s * s = q := Rat.div_mul_cancel hn
  refine ⟨by rw [e]; exact good_t g s0, (hc.mul (hs.mul hs)).mono (by decide) (by decide), ?_, h.p.mono (by decide) (by decide), (Sz.div h.q hs).mono (by decide) (by decide)⟩
  by_cases z : q / s = 0
  · rw [z, cz0]
    have : q = 0 := by rw [← eq, z]; grind
    rw [this]
    exact Co.zero
  · rw [czn z]
    exact .inr ⟨s, s0, e, eq.symm⟩
theorem Tl.times (h : Tl c c1 p b1 q n d) (hf : Sz f n' d') (f0 : f ≠ 0) : Tl c c1 (p * f) (b1 * f) (q * f) (n + n') (d + d') := by
  refine ⟨h.g1, h.hc, ?_, h.lv.times hf⟩
  have e : cz c1 (b1 * f) = cz c1 b1 := by
    unfold cz
    by_cases z : b1 = 0
    · subst z
      rw [if_pos (show (0 : Rat) * f = 0 by grind), if_pos rfl]
    · rw [if_neg z, if_neg (fun y => (Rat.mul_eq_zero.mp y).elim z f0)]
  rw [e]
  exact h.co.mul f
theorem Tl.plus (h : Tl c c1 p b1 q n d) (hf : Sz f n' d') : Tl c c1 (p + f) b1 q (n + n' + d + d' + 1) (d + d') := ⟨h.g1, h.hc, h.co, h.lv.plus hf⟩
theorem t_cmp2 (g : Good c) (h : Tl c c1 p b1 q n d) (h' : Tl c c2 p2 b2 q2 n' d') (b : n ≤ 3000 ∧ d ≤ 150 ∧ n' ≤ 3000 ∧ d' ≤ 150) : F_compare_signs [nf c1 p b1, nf c2 p2 b2] (fun z => z = .int (S c (p - p2) (q - q2))) :=
  ⟨c, p, b1, _, q, p2, b2, _, q2, g, h.co, h'.co, rfl, .inl ⟨h.lv.p.mono b.1 (by omega), h.lv.q.mono b.1 b.2.1, h.sc, h'.lv.p.mono b.2.2.1 (by omega), h'.lv.q.mono b.2.2.1 b.2.2.2, h'.sc⟩, rfl⟩
theorem t_sign2 (g : Good c) (h : Tl c c1 p b1 q n d) (b : n ≤ 30000 ∧ d ≤ 1000) : F_sign_of [nf c1 p b1] (fun z => z = .int (S c p q)) :=
  ⟨p, b1, _, rfl, h.lv.p.mono b.1 (by omega), h.lv.q.mono b.1 (by omega), h.sc.mono (by decide) (by decide), by rw [sg2_co g h.co]⟩
theorem t_floor2 (g : Good c) (h : Tl c c1 p b1 q n d) (b : n ≤ 500 ∧ d ≤ 100) : F_floor_of [nf c1 p b1] (fun z => z = .int (flr c p q)) :=
  ⟨c, p, b1, _, q, g, h.co, rfl, h.lv.p.mono b.1 b.2, h.lv.q.mono b.1 b.2, h.sc, rfl⟩
theorem gap3 (g : Good c) : half 2 * 2 ^ 2 = 1 ∧ QM.P c (p + 1 / 3 - p - half 2) (q - q) ∧ S c (p - (p + 1 / 3)) (q - q) < 0 := by
  have e := half_mul 2
  have e4 : (2 : Rat) ^ 2 = 4 := by decide +kernel
  have eh : half 2 = 1 / 4 := by rw [e4] at e; grind
  refine ⟨e, ?_, ?_⟩
  · rw [eh, show p + 1 / 3 - p - 1 / 4 = (1 / 12 : Rat) by grind, show q - q = 0 by grind]
    exact .inl ⟨by decide +kernel, by rw [show (0 : Rat) * 0 * c = 0 by grind]; decide +kernel⟩
  · rw [show p - (p + 1 / 3) = (-(1 / 3) : Rat) by grind, show q - q = 0 by grind, S_rat g]
    decide +kernel
theorem t_btw (g : Good c) (h : Tl c c1 p b1 q 60 25) (M : Mag c p q) : F_between [nf c1 p b1, nf c1 (p + 1 / 3) b1] (fun z => z = encQ (btw c p q (p + 1 / 3) q)) := by
  obtain ⟨h1, h2, h3⟩ := gap3 (p := p) (q := q) g
  have h13 : Sz (1 / 3) 1 2 := ⟨by decide +kernel, by decide +kernel⟩
  have lp := h.lv.p.add h13
  exact ⟨c, p, b1, _, q, p + 1 / 3, b1, _, q, half 2, 2, g, h.co, h.co, rfl, h.lv.p.mono (by decide) (by decide), h.lv.q.mono (by decide) (by decide), h.sc, lp.mono (by decide) (by decide), h.lv.q.mono (by decide) (by decide), h.sc, M, by decide, h1, h2, h3, rfl⟩
theorem btw_sm (g : Good c) (M : Mag c p q) : SmQ (btw c p q (p + 1 / 3) q) := by
  obtain ⟨h1, h2, h3⟩ := gap3 (p := p) (q := q) g
  obtain ⟨k, hk, hf⟩ := btw_ok g h1 h2
  rw [hf.1]
  have fm := flr_mag g M k
  have e1 : (2 : Nat) ^ (2 * k + 211) = 2 ^ (2 * k + 210) * 2 := Nat.pow_succ ..
  have e16 : 16 ≤ (2 : Nat) ^ (2 * k + 210) := Nat.pow_le_pow_right (n := 2) (by decide) (show 4 ≤ 2 * k + 210 by omega)
  exact (sz_divInt (a := 2 * k + 211) (b := k + 1) (pwI0 k) (by omega) (by rw [Int.natAbs_natCast]; exact Nat.pow_lt_pow_right (by decide) (by omega))).mono (by omega) (by omega)
theorem t_near (g : Good c) (h : Tl c c1 p b1 q 60 25) {s : Nat} (h0 : 0 < s) (h1 : s < 2 ^ 40) : F_nearest [nf c1 p b1, .int s] (fun z => z = .int (flr c (p * ((s : Int) : Rat) + 1 / 2) (q * ((s : Int) : Rat)))) :=
  ⟨c, p, b1, _, q, s, g, h.co, rfl, h0, h1, h.lv.p.mono (by decide) (by decide), h.lv.q.mono (by decide) (by decide), h.sc, rfl⟩
theorem half_nd (k : Nat) : (half k).num = 1 ∧ (half k).den = 2 ^ k := by
  unfold half
  have hp := Nat.two_pow_pos k
  rw [Rat.num_divInt, Rat.den_divInt, if_neg (pwI0 k), Int.sign_eq_one_of_pos (by omega)]
  have hg : Int.gcd ((2 ^ k : Nat) : Int) 1 = 1 := Int.gcd_one_right _
  rw [hg]
  exact ⟨rfl, by rw [Int.natAbs_natCast, Nat.div_one]⟩
theorem rat00 {a b : Nat} (ha : 1 ≤ a) (hb : 1 ≤ b) : Sz 0 a b := sz00 ha hb
end
def F_alike : Wd → List Sl → (D → Prop) → Prop := fun W ss R => ∃ (b l : Addr) (c : Rat), HB W b l ∧ ss = [.v (.ref b), .d (encQ c)] ∧ Good c ∧ Sz c 40 30 ∧ R (.bool true)
theorem c__law_alike_so (T : Tp K mg) : Cw P w K mg base 11 "_law_alike_so" F_alike := by
  have sc : FnScope ["bag", "c", "a", "b", "r", "s", "k", "one", "low", "high", "power_v", "lap", "other", "steps", "place"] ["bag", "c"] (defScope s__law_alike_so) := ⟨rfl, rfl, rfl, by decide +kernel, rfl, by decide +kernel, by decide +kernel⟩
  have C_number := c__law_number (P := P) (w := w) (base := base) T
  have C_take := c__law_take (P := P) (w := w) (base := base) T
  have C_told := c__law_told_by (P := P) (w := w) (base := base) T
  have C_rooted := c_rooted (P := P) (w := w) (base := base) T
  have C_compare_signs := c_compare_signs (P := P) (w := w) (base := base) T
  have C_sign_of := c_sign_of (P := P) (w := w) (base := base) T
  have C_floor_of := c_floor_of (P := P) (w := w) (base := base) T
  have C_bounds := c_bounds (P := P) (w := w) (base := base) T
  have C_of_fraction := c_of_fraction (P := P) (w := w) (base := base) T
  have C_compare_fractions := c_compare_fractions (P := P) (w := w) (base := base) T
  have C_sub := c_sub (P := P) (w := w) (base := base) T
  have C_plus := c_plus (P := P) (w := w) (base := base) T
  have C_between := c_between (P := P) (w := w) (base := base) T
  have C__law_alike := c__law_alike (P := P) (w := w) (base := base) T
  have C_nearest := c_nearest (P := P) (w := w) (base := base) T
  have C_times := c_times (P := P) (w := w) (base := base) T
  have C_root_text := c_root_text (P := P) (w := w) (base := base) T
  have C_read_vertices := c_read_vertices (P := P) (w := w) (base := base) T
  have C_is_root_place := c_is_root_place (P := P) (w := w) (base := base) T
  have C_root_place := c_root_place (P := P) (w := w) (base := base) T
  refine T.cw 65 rfl rfl (st := s__law_alike_so) sc (fun _ _ _ _ _ _ us hl => match us, hl with | [_, _], _ => rfl) (fun W ss R hF => by obtain ⟨_, _, _, _, rfl, _⟩ := hF; rfl) ?_
  intro f cdv A l0 s H E W ss R hr hG hF
  obtain ⟨b0, l, c, hb, rfl, g, h40, hR⟩ := hF
  have hc100 : Sz c 100 60 := h40.mono (by decide) (by decide)
  refine b_parR 2 3 (Rs := fun ds => ∃ p q : Rat, ds = [encQ p, encQ q] ∧ Lv p q 50 20) rfl sc.nd rfl rfl (by decide) rfl rfl (a_consR (Ra := fun d => ∃ f : Rat, d = encQ f ∧ Sz f 50 20) (Rs := fun ds => ∃ q : Rat, ds = [encQ q] ∧ Sz q 50 20) (e_callW (C_number.mono (by decide)) hr hG (s_raw (pv 0) rfl s_nil) ⟨b0, l, hb, rfl, fun q hq => ⟨q, rfl, hq⟩⟩) (a_consR (Ra := fun d => ∃ f : Rat, d = encQ f ∧ Sz f 50 20) (Rs := fun ds => ds = []) (e_callW (C_number.mono (by decide)) hr hG (s_raw (pv 0) rfl s_nil) ⟨b0, l, hb, rfl, fun q hq => ⟨q, rfl, hq⟩⟩) a_nil (fun d ds h1 h2 => by obtain ⟨f, rfl, hf⟩ := h1; subst h2; exact ⟨f, rfl, hf⟩)) (fun d ds h1 h2 => by obtain ⟨p, rfl, hp⟩ := h1; obtain ⟨q, rfl, hq⟩ := h2; exact ⟨p, q, rfl, hp, hq⟩)) rfl (fun ds h => ?_)
  obtain ⟨p, q, rfl, HL⟩ := h
  refine ⟨_, _, rfl, ?_⟩
  refine b_parR 4 5 (Rs := fun ds => ∃ s : Rat, ds = [nf c p q, nf (c * (s * s)) p (q / s)] ∧ 0 < s ∧ Sz s 3 3) rfl sc.nd rfl rfl (by decide) rfl rfl (a_consR (Ra := fun d => d = nf c p q) (Rs := fun ds => ∃ s : Rat, ds = [nf (c * (s * s)) p (q / s)] ∧ 0 < s ∧ Sz s 3 3) (e_call (d := nf c p q) (C_rooted.mono (by decide)) hr hG (a_cons (e_var 2 rfl (pv 2)) (a_cons (e_var 3 rfl (pv 3)) (a_cons (e_var 1 rfl (pv 1)) a_nil))) (k_rooted g hc100)) (a_consR (Ra := fun d => ∃ s : Rat, d = nf (c * (s * s)) p (q / s) ∧ 0 < s ∧ Sz s 3 3) (Rs := fun ds => ds = []) (e_callW (C_told.mono (by decide)) hr hG (s_raw (pv 0) rfl (s_cons (e_var 2 rfl (pv 2)) (s_cons (e_var 3 rfl (pv 3)) (s_cons (e_var 1 rfl (pv 1)) s_nil)))) ⟨b0, l, p, q, c, hb, rfl, HL.q.mono (by decide) (by decide), h40.mono (by decide) (by decide), g, fun s hs => ?told⟩) a_nil (fun d ds h1 h2 => by obtain ⟨f, rfl, hf⟩ := h1; subst h2; exact ⟨f, rfl, hf⟩)) (fun d ds h1 h2 => by subst h1; obtain ⟨q, rfl, hq⟩ := h2; exact ⟨q, rfl, hq⟩)) rfl (fun ds h => ?_)
  case told =>
    have s0 : 0 < s ∧ Sz s 3 3 := by
      rcases hs with rfl | rfl | rfl | rfl <;> exact ⟨by decide +kernel, ⟨by decide +kernel, by decide +kernel⟩⟩
    exact ⟨s, rt_nf (good_ne (tl_told g h40 HL s0.1 s0.2).g1), s0⟩
  obtain ⟨s1, rfl, hs0, hs1⟩ := h
  refine ⟨_, _, rfl, ?_⟩
  have mg1 := mag_of h40 HL
  have T1 : Tl c c p q q 60 25 := tl_self g h40 (HL.mono (by decide) (by decide))
  have T2 := tl_told g h40 HL hs0 hs1
  revert T2
  generalize c * (s1 * s1) = c1
  generalize q / s1 = q1
  intro T2
  have z0 : S c (p - p) (q - q) = 0 := by rw [show p - p = 0 by grind, show q - q = 0 by grind, S_zero]
  refine b_if1 (t_w (w_or (t_neI (e_call (d := .int (S c (p - p) (q - q))) (C_compare_signs.mono (by decide)) hr hG (a_cons (e_var 4 rfl (pv 4)) (a_cons (e_var 5 rfl (pv 5)) a_nil)) (t_cmp2 g T1 T2 (by decide))) e_int) (fun hc => (w_or (t_neI (e_call (d := .int (S c p q)) (C_sign_of.mono (by decide)) hr hG (a_cons (e_var 4 rfl (pv 4)) a_nil) (t_sign2 g T1 (by decide))) (e_call (d := .int (S c p q)) (C_sign_of.mono (by decide)) hr hG (a_cons (e_var 5 rfl (pv 5)) a_nil) (t_sign2 g T2 (by decide)))) (fun hc => (w_or1 (t_neI (e_call (d := .int (flr c p q)) (C_floor_of.mono (by decide)) hr hG (a_cons (e_var 4 rfl (pv 4)) a_nil) (t_floor2 g T1 (by decide))) (e_call (d := .int (flr c p q)) (C_floor_of.mono (by decide)) hr hG (a_cons (e_var 5 rfl (pv 5)) a_nil) (t_floor2 g T2 (by decide)))))))))) (fun hc => ?_) (fun _ => ?_)
  · rw [z0] at hc
    simp at hc
  refine b_setR (i := 6) (R := Is fun v => 0 ≤ v ∧ v < 20) sc.nd rfl (.inl rfl) (e_callW (C_take.mono (by decide)) hr hG (s_raw (pv 0) rfl (s_cons e_int s_nil)) ⟨b0, l, 20, hb, rfl, by decide, by decide, fun v h1 h2 => ⟨v, rfl, h1, h2⟩⟩) (fun d hd => ?_)
  obtain ⟨v, rfl, hv0, hv1⟩ := hd
  obtain ⟨k, rfl⟩ := Int.eq_ofNat_of_zero_le hv0
  have hk : k < 20 := by omega
  refine b_forT (i := 7) (ds := [nf c p q, nf c1 p q1]) (I := fun j ρ' => ∃ x1 x2 x3 x4 x5 : Sl, ρ' = [.v (.ref b0), .d (encQ c), .d (encQ p), .d (encQ q), .d (nf c p q), .d (nf c1 p q1), .d (.int (k : Nat)), x1, x2, x3, x4, x5, .no, .no, .no]) (Ω := fun ρ' => ∃ x1 x2 x3 x4 x5 : Sl, ρ' = [.v (.ref b0), .d (encQ c), .d (encQ p), .d (encQ q), .d (nf c p q), .d (nf c1 p q1), .d (.int (k : Nat)), x1, x2, x3, x4, x5, .no, .no, .no]) PassesOwn.never rfl sc.nd rfl (.inl rfl) (e_tup (a_cons (e_var 4 rfl (pv 4)) (a_cons (e_var 5 rfl (pv 5)) a_nil))) ⟨.no, .no, .no, .no, .no, rfl⟩ ?_ (fun ρ' h => h) ?_
  · rintro j d ρ' hd ⟨x1, x2, x3, x4, x5, rfl⟩
    have hT : ∃ c2 q2, d = nf c2 p q2 ∧ Tl c c2 p q2 q 60 25 := by
      match j, hd with
      | 0, hd => cases hd; exact ⟨_, _, rfl, T1⟩
      | 1, hd => cases hd; exact ⟨_, _, rfl, T2⟩
      | j + 2, hd => cases hd
    obtain ⟨c2, q2, rfl, T3⟩ := hT
    refine b_un2R 8 9 (R := fun d => ∃ lo hi : Rat, d = .tuple [encQ lo, encQ hi] ∧ 0 ≤ S c (p - lo) q ∧ S c (p - hi) q ≤ 0 ∧ hi - lo ≤ half k ∧ Sz lo 2400 190 ∧ Sz hi 2400 190) rfl sc.nd rfl rfl (.inl rfl) (.inl rfl) (e_callR (Rs := fun ds => ds = [nf c2 p q2, .int (k : Nat)]) (C_bounds.mono (by decide)) hr hG (a_cons (e_var 7 rfl (pv 7)) (a_cons (e_var 6 rfl (pv 6)) a_nil)) (fun ds e => by
      subst e
      exact ⟨c, p, q2, _, q, k, 60, 25, 25, g, T3.co, rfl, T3.lv.p.mono (by decide) (by decide), T3.lv.q, T3.sc, by decide, by decide, by decide, by omega, fun lo hi h1 h2 h3 h4 h5 => ⟨lo, hi, rfl, h1, h2, h3, h4.mono (by decide) (by omega), h5.mono (by decide) (by omega)⟩⟩)) (fun d h => ?_)
    obtain ⟨lo, hi, rfl, b1, b2, b3, b4, b5⟩ := h
    refine ⟨_, _, rfl, ?_⟩
    refine b_set 10 sc.nd rfl (.inl rfl) e_int ?_
    refine b_forR (n := (k : Nat)) (i := 11) (I := fun i ρ' => ∃ x5 : Sl, ρ' = [.v (.ref b0), .d (encQ c), .d (encQ p), .d (encQ q), .d (nf c p q), .d (nf c1 p q1), .d (.int (k : Nat)), .d (nf c2 p q2), .d (encQ lo), .d (encQ hi), .d (.int ((2 ^ i : Nat) : Int)), x5, .no, .no, .no]) (Ω := fun ρ' => ∃ x5 : Sl, ρ' = [.v (.ref b0), .d (encQ c), .d (encQ p), .d (encQ q), .d (nf c p q), .d (nf c1 p q1), .d (.int (k : Nat)), .d (nf c2 p q2), .d (encQ lo), .d (encQ hi), .d (.int ((2 ^ k : Nat) : Int)), x5, .no, .no, .no]) PassesOwn.never rfl sc.nd rfl (.inl rfl) T.f_range (e_var 6 rfl (pv 6)) (by omega) (by omega) ⟨x5, rfl⟩ ?_ ?_ ?_
    · rintro i ρ' hi ⟨x5, rfl⟩
      refine b_set 10 (d := .int ((2 ^ (i + 1) : Nat) : Int)) sc.nd rfl (.inl rfl) (ED.to (e_mulC (.inr ⟨by decide, by decide⟩) (e_var 10 rfl (pv 10)) e_int) (by rw [Nat.pow_succ, Int.natCast_mul]; rfl)) (b_nil ⟨_, rfl⟩)
    · rintro ρ' ⟨x5, rfl⟩
      exact ⟨x5, by rw [Int.toNat_natCast]⟩
    · rintro ρ' ⟨x5, rfl⟩
      refine b_if1 (t_w (w_or (t_gt (e_call (d := .int (S c (lo - p) (0 - q))) (C_compare_signs.mono (by decide)) hr hG (a_cons (e_call (d := nf c lo 0) (C_of_fraction.mono (by decide)) hr hG (a_cons (e_var 8 rfl (pv 8)) a_nil) (k_off)) (a_cons (e_var 4 rfl (pv 4)) a_nil)) (k_cmpL g hc100 (b4.mono (by decide) (by decide)) HL (by decide))) e_int) (fun hc => (w_or1 (t_gt (e_call (d := .int (S c (p - hi) (q - 0))) (C_compare_signs.mono (by decide)) hr hG (a_cons (e_var 4 rfl (pv 4)) (a_cons (e_call (d := nf c hi 0) (C_of_fraction.mono (by decide)) hr hG (a_cons (e_var 9 rfl (pv 9)) a_nil) (k_off)) a_nil)) (k_cmpR g hc100 HL (b5.mono (by decide) (by decide)) (by decide))) e_int))))) (fun hc => ?_) (fun _ => ?_)
      · exfalso
        have e1 : S c (lo - p) (0 - q) ≤ 0 := by rw [S_sw g]; omega
        have e2 : S c (p - hi) (q - 0) ≤ 0 := by rw [show q - 0 = q by grind]; exact b2
        have hc : (decide (0 < S c (lo - p) (0 - q)) || decide (0 < S c (p - hi) (q - 0))) = true := hc
        rw [decide_eq_false (by omega), decide_eq_false (by omega)] at hc
        exact absurd hc (by decide)
      refine b_if1 (t_gt (e_call (d := .int (sgn (hi - lo - half k))) (C_compare_fractions.mono (by decide)) hr hG (a_cons (e_call (d := encQ (hi - lo)) (C_sub.mono (by decide)) hr hG (a_cons (e_var 9 rfl (pv 9)) (a_cons (e_var 8 rfl (pv 8)) a_nil)) (⟨_, _, rfl, b5.bd (by decide) (by decide), b4.bd (by decide) (by decide), rfl⟩)) (a_cons (ED.to (d' := encQ (half k)) (e_tup (a_cons e_int (a_cons (e_var 10 rfl (pv 10)) a_nil))) (encQ_of (d := 2 ^ k) (half_nd k).1 (half_nd k).2)) a_nil)) (⟨_, _, rfl, (b5.sub b4).bd (by decide) (by decide), half_bd (by omega), rfl⟩)) e_int) (fun hc => ?_) (fun _ => b_nil ⟨_, _, _, _, _, rfl⟩)
      exfalso
      have e1 := sgn_le.mpr (show hi - lo - half k ≤ 0 by grind)
      have := of_decide_eq_true hc
      omega
  rintro ρ' ⟨x1, x2, x3, x4, x5, rfl⟩
  have h13 : Sz (1 / 3) 4 3 := ⟨by decide +kernel, by decide +kernel⟩
  have h37 : Sz (3 / 7) 4 3 := ⟨by decide +kernel, by decide +kernel⟩
  refine b_set 12 (d := nf c (p + 1 / 3) q) sc.nd rfl (.inl rfl) (e_call (d := nf c (p + 1 / 3) q) (C_plus.mono (by decide)) hr hG (a_cons (e_var 4 rfl (pv 4)) (a_cons (ED.to (d' := encQ (1 / 3)) (e_tup (a_cons e_int (a_cons e_int a_nil))) (encQ_of (d := 3) (by decide +kernel) (by decide +kernel))) a_nil)) (k_plus HL h13 (by decide))) ?_
  refine b_if1 (t_not (t_val (e_call (d := .bool true) (C__law_alike.mono (by decide)) hr hG (a_cons (e_call (d := encQ (btw c p q (p + 1 / 3) q)) (C_between.mono (by decide)) hr hG (a_cons (e_var 4 rfl (pv 4)) (a_cons (e_var 12 rfl (pv 12)) a_nil)) (t_btw g T1 mg1)) (a_cons (e_call (d := encQ (btw c p q (p + 1 / 3) q)) (C_between.mono (by decide)) hr hG (a_cons (e_var 5 rfl (pv 5)) (a_cons (e_call (d := nf c1 (p + 1 / 3) q1) (C_plus.mono (by decide)) hr hG (a_cons (e_var 5 rfl (pv 5)) (a_cons (ED.to (d' := encQ (1 / 3)) (e_tup (a_cons e_int (a_cons e_int a_nil))) (encQ_of (d := 3) (by decide +kernel) (by decide +kernel))) a_nil)) (k_plus T2.lv h13 (by decide))) a_nil)) (t_btw g T2 mg1)) a_nil)) (k_alikeQ (btw_sm g mg1))))) (fun hc => absurd hc (by decide)) (fun _ => ?_)
  refine b_setR (i := 13) (R := Is fun v => 1 ≤ v ∧ v < 1000001) sc.nd rfl (.inl rfl) (e_addR (A := fun v => v = 1) (B := fun v => 0 ≤ v ∧ v < 1000000) (ED.is e_int rfl) (e_callW (C_take.mono (by decide)) hr hG (s_raw (pv 0) rfl (s_cons (e_pow (by exact ⟨by decide, by decide, by decide⟩) e_int e_int) s_nil)) ⟨b0, l, 1000000, hb, rfl, by decide, by decide, fun v h1 h2 => ⟨v, rfl, h1, h2⟩⟩) (fun i j h1 h2 => by omega)) (fun d hd => ?_)
  obtain ⟨v2, rfl, hw0, hw1⟩ := hd
  obtain ⟨m, rfl⟩ := Int.eq_ofNat_of_zero_le (show 0 ≤ v2 by omega)
  have F1 : (3 / 7 : Rat) ≠ 0 := by decide +kernel
  have z1 : S c (p * (3 / 7) - p * (3 / 7)) (q * (3 / 7) - q * (3 / 7)) = 0 := by rw [show p * (3 / 7) - p * (3 / 7) = 0 by grind, show q * (3 / 7) - q * (3 / 7) = 0 by grind, S_zero]
  refine b_if1 (t_w (w_or (t_neI (e_call (d := .int (flr c (p * ((m : Int) : Rat) + 1 / 2) (q * ((m : Int) : Rat)))) (C_nearest.mono (by decide)) hr hG (a_cons (e_var 4 rfl (pv 4)) (a_cons (e_var 13 rfl (pv 13)) a_nil)) (t_near g T1 (by omega) (by omega))) (e_call (d := .int (flr c (p * ((m : Int) : Rat) + 1 / 2) (q * ((m : Int) : Rat)))) (C_nearest.mono (by decide)) hr hG (a_cons (e_var 5 rfl (pv 5)) (a_cons (e_var 13 rfl (pv 13)) a_nil)) (t_near g T2 (by omega) (by omega)))) (fun hc => (w_or1 (t_neI (e_call (d := .int (S c (p * (3 / 7) - p * (3 / 7)) (q * (3 / 7) - q * (3 / 7)))) (C_compare_signs.mono (by decide)) hr hG (a_cons (e_call (d := nf c (p * (3 / 7)) (q * (3 / 7))) (C_times.mono (by decide)) hr hG (a_cons (e_var 4 rfl (pv 4)) (a_cons (ED.to (d' := encQ (3 / 7)) (e_tup (a_cons e_int (a_cons e_int a_nil))) (encQ_of (d := 7) (by decide +kernel) (by decide +kernel))) a_nil)) (k_times g hc100 HL h37 (by decide))) (a_cons (e_call (d := nf c1 (p * (3 / 7)) (q1 * (3 / 7))) (C_times.mono (by decide)) hr hG (a_cons (e_var 5 rfl (pv 5)) (a_cons (ED.to (d' := encQ (3 / 7)) (e_tup (a_cons e_int (a_cons e_int a_nil))) (encQ_of (d := 7) (by decide +kernel) (by decide +kernel))) a_nil)) (k_times T2.g1 T2.hc T2.lv h37 (by decide))) a_nil)) (t_cmp2 g (T1.times h37 F1) (T2.times h37 F1) (by decide))) e_int))))) (fun hc => ?_) (fun _ => ?_)
  · rw [z1] at hc
    simp at hc
  have sp : Sz p 300 300 := HL.p.mono (by decide) (by decide)
  have sq : Sz q 300 300 := HL.q.mono (by decide) (by decide)
  have scc : Sz (cz c q) 300 300 := (sz_cz hc100 (by decide) (by decide)).mono (by decide) (by decide)
  have s00 : Sz 0 300 300 := sz00 (by decide) (by decide)
  have L1 := rx_len sp sq scc
  have L2 := rx_len sp s00 s00
  have e1 : SX.S (rx p q (cz c q)) ++ SX.S [32] = SX.S (rx p q (cz c q) ++ [32]) := SX.S_cat _ _
  have fit1 : (SX.S (rx p q (cz c q))).length + (SX.S [32]).length ≤ sizeLine := by
    rw [SX.S_len, SX.S_len]
    exact small_line (by rw [List.length_singleton]; omega)
  have fit2 : (SX.S (rx p q (cz c q)) ++ SX.S [32]).length + (SX.S (rx p 0 0)).length ≤ sizeLine := by
    rw [e1, SX.S_len, SX.S_len, List.length_append]
    exact small_line (by rw [List.length_singleton]; omega)
  have joined : (.str (SX.S (rx p q (cz c q)) ++ SX.S [32] ++ SX.S (rx p 0 0)) : D) = .str (SX.S (TL.joinL [32] [rx p q (cz c q), rx p 0 0])) := by
    rw [e1, SX.S_cat]
    show (.str (SX.S (rx p q (cz c q) ++ [32] ++ rx p 0 0)) : D) = .str (SX.S (rx p q (cz c q) ++ ([32] ++ rx p 0 0)))
    rw [List.append_assoc]
  refine b_set 14 (d := .tuple [encR p q (cz c q), encR p 0 0]) sc.nd rfl (.inl rfl) (e_tup (a_cons (e_var 4 rfl (pv 4)) (a_cons (e_call (d := encR p 0 0) (C_of_fraction.mono (by decide)) hr hG (a_cons (e_var 2 rfl (pv 2)) a_nil) (⟨_, rfl, rfl⟩)) a_nil))) ?_
  refine b_if1 (t_not (t_val (e_call (d := .bool true) (C__law_alike.mono (by decide)) hr hG (a_cons (e_call (d := .tuple [.tuple [encR p q (cz c q), encR p 0 0]]) (C_read_vertices.mono (by decide)) hr hG (a_cons (ED.to (d' := .str (SX.S (TL.joinL [32] [rx p q (cz c q), rx p 0 0]))) (e_addS fit2 (e_addS fit1 (e_call (d := .str (SX.S (rx p q (cz c q)))) (C_root_text.mono (by decide)) hr hG (a_cons (e_var 4 rfl (pv 4)) a_nil) (⟨_, _, _, rfl, sp, sq, scc, rfl⟩)) e_str) (e_call (d := .str (SX.S (rx p 0 0))) (C_root_text.mono (by decide)) hr hG (a_cons (e_call (d := encR p 0 0) (C_of_fraction.mono (by decide)) hr hG (a_cons (e_var 2 rfl (pv 2)) a_nil) (⟨_, rfl, rfl⟩)) a_nil) (⟨_, _, _, rfl, sp, s00, s00, rfl⟩))) joined) a_nil) (⟨_, _, _, _, _, _, rfl, root_ok g hc100, .inl ⟨rfl, rfl⟩, sp, sq, scc, sp, s00, s00, rfl⟩)) (a_cons (e_tup (a_cons (e_var 14 rfl (pv 14)) a_nil)) a_nil)) (k_alikeP (sp.sm (by decide) (by decide)) (sq.sm (by decide) (by decide)) (scc.sm (by decide) (by decide)) (sp.sm (by decide) (by decide)) (s00.sm (by decide) (by decide)) (s00.sm (by decide) (by decide)))))) (fun hc => absurd hc (by decide)) (fun _ => ?_)
  exact b_ret (e_call (d := .bool true) (C_is_root_place.mono (by decide)) hr hG (a_cons (e_call (d := .tuple [encR p 0 0, encR q 0 0]) (C_root_place.mono (by decide)) hr hG (a_cons (e_tup (a_cons (e_var 2 rfl (pv 2)) (a_cons (e_var 3 rfl (pv 3)) a_nil))) a_nil) (⟨_, _, rfl, rfl⟩)) a_nil) (⟨_, _, _, _, _, _, rfl, .inl ⟨rfl, rfl⟩, .inl ⟨rfl, rfl⟩, .inl rfl, rfl⟩)) hR
end K65
end
section
set_option Elab.async false
set_option linter.all false
set_option maxRecDepth 100000
set_option maxHeartbeats 8000000
set_option exponentiation.threshold 20000
namespace K65
open PySem PySem.Spec PyProof.Rows L2 DL
variable {K : PySem.W.Frag} {mg : Str → Option Value} {P : Program} {w : World} {base : Heap}
def F_fracs : Wd → List Sl → (D → Prop) → Prop := fun W ss R => ∃ (b l : Addr), HB W b l ∧ ss = [.v (.ref b)] ∧ R (.bool true)
theorem c__law_fractions_so (T : Tp K mg) : Cw P w K mg base 11 "_law_fractions_so" F_fracs := by
  have sc : FnScope ["bag", "f", "g", "h", "turn", "due"] ["bag"] (defScope s__law_fractions_so) := ⟨rfl, rfl, rfl, by decide +kernel, rfl, by decide +kernel, by decide +kernel⟩
  have C_number := c__law_number (P := P) (w := w) (base := base) T
  have C__law_add := c__law_add (P := P) (w := w) (base := base) T
  have C__law_alike := c__law_alike (P := P) (w := w) (base := base) T
  have C__law_div := c__law_div (P := P) (w := w) (base := base) T
  have C__law_mul := c__law_mul (P := P) (w := w) (base := base) T
  have C__law_sign := c__law_sign (P := P) (w := w) (base := base) T
  have C__law_sub := c__law_sub (P := P) (w := w) (base := base) T
  have C_add := c_add (P := P) (w := w) (base := base) T
  have C_compare_fractions := c_compare_fractions (P := P) (w := w) (base := base) T
  have C_div := c_div (P := P) (w := w) (base := base) T
  have C_floor := c_floor (P := P) (w := w) (base := base) T
  have C_middle := c_middle (P := P) (w := w) (base := base) T
  have C_mul := c_mul (P := P) (w := w) (base := base) T
  have C_sub := c_sub (P := P) (w := w) (base := base) T
  have C_sum_of := c_sum_of (P := P) (w := w) (base := base) T
  refine T.cw 66 rfl rfl (st := s__law_fractions_so) sc (fun _ _ _ _ _ _ us hl => match us, hl with | [_], _ => rfl) (fun W ss R hF => by obtain ⟨_, _, _, rfl, _⟩ := hF; rfl) ?_
  intro f cdv A l0 s H E W ss R hr hG hF
  obtain ⟨b, l, hb, rfl, hR⟩ := hF
  refine b_unL3 1 2 3 (R := fun d => ∃ f1 f2 f3, d = .list [encQ f1, encQ f2, encQ f3] ∧ Sz f1 50 20 ∧ Sz f2 50 20 ∧ Sz f3 50 20) rfl sc.nd rfl rfl rfl (.inl rfl) (.inl rfl) (.inl rfl) (lcN (i := 4) (x := "turn") (n := 3) (Rj := fun _ r => ∃ f, r = encQ f ∧ Sz f 50 20) rfl sc.nd (show blkC ["bag", "f", "g", "h", "turn", "due"] (defScope s__law_fractions_so) _ [("turn", 4)] = true by decide +kernel) rfl T.f_range e_int (by decide) (fun _ _ _ _ _ => ⟨.inl rfl, .inr rfl⟩) ?draw ?three).ed (fun d hd => ?_)
  case draw =>
    intro s1 H1 C1 cl fp D1 acc j hD hj
    exact e_callW (C_number.mono (by decide)) hr hG (s_raw (pv 0) rfl s_nil) ⟨b, l, hb.push hD, rfl, fun q hq => ⟨q, rfl, hq⟩⟩
  case three =>
    intro res hl h
    obtain ⟨x, y, z, rfl, ⟨f1, rfl, h1⟩, ⟨f2, rfl, h2⟩, ⟨f3, rfl, h3⟩⟩ := res3 hl h
    exact ⟨f1, f2, f3, rfl, h1, h2, h3⟩
  obtain ⟨f1, f2, f3, rfl, H1, H2, H3⟩ := hd
  refine ⟨_, _, _, rfl, ?_⟩
  refine b_set 5 (d := .list [encQ (f1 + f2), encQ ((f1 * f2) + (f1 * f3)), encQ (f1 - f2)]) sc.nd rfl (.inl rfl) (e_lst (a_cons (e_call (d := encQ (f1 + f2)) (C__law_add.mono (by decide)) hr hG (a_cons (e_var 1 rfl (pv 1)) (a_cons (e_var 2 rfl (pv 2)) a_nil)) (⟨_, _, rfl, (H1).mono (by decide) (by decide), (H2).mono (by decide) (by decide), rfl⟩)) (a_cons (e_call (d := encQ ((f1 * f2) + (f1 * f3))) (C__law_add.mono (by decide)) hr hG (a_cons (e_call (d := encQ (f1 * f2)) (C__law_mul.mono (by decide)) hr hG (a_cons (e_var 1 rfl (pv 1)) (a_cons (e_var 2 rfl (pv 2)) a_nil)) (⟨_, _, rfl, (H1).mono (by decide) (by decide), (H2).mono (by decide) (by decide), rfl⟩)) (a_cons (e_call (d := encQ (f1 * f3)) (C__law_mul.mono (by decide)) hr hG (a_cons (e_var 1 rfl (pv 1)) (a_cons (e_var 3 rfl (pv 3)) a_nil)) (⟨_, _, rfl, (H1).mono (by decide) (by decide), (H3).mono (by decide) (by decide), rfl⟩)) a_nil)) (⟨_, _, rfl, (((H1).mul (H2))).mono (by decide) (by decide), (((H1).mul (H3))).mono (by decide) (by decide), rfl⟩)) (a_cons (e_call (d := encQ (f1 - f2)) (C__law_sub.mono (by decide)) hr hG (a_cons (e_var 1 rfl (pv 1)) (a_cons (e_var 2 rfl (pv 2)) a_nil)) (⟨_, _, rfl, (H1).mono (by decide) (by decide), (H2).mono (by decide) (by decide), rfl⟩)) a_nil)))) ?_
  have q1 : (f1 * (f2 + f3)) = ((f1 * f2) + (f1 * f3)) := by grind
  refine b_if1 (t_not (t_val (e_call (d := .bool true) (C__law_alike.mono (by decide)) hr hG (a_cons (ED.to (d' := .list [encQ (f1 + f2), encQ ((f1 * f2) + (f1 * f3)), encQ (f1 - f2)]) (e_lst (a_cons (e_call (d := encQ (f1 + f2)) (C_add.mono (by decide)) hr hG (a_cons (e_var 1 rfl (pv 1)) (a_cons (e_var 2 rfl (pv 2)) a_nil)) (⟨_, _, rfl, (H1).bd (by decide) (by decide), (H2).bd (by decide) (by decide), rfl⟩)) (a_cons (e_call (d := encQ (f1 * (f2 + f3))) (C_mul.mono (by decide)) hr hG (a_cons (e_var 1 rfl (pv 1)) (a_cons (e_call (d := encQ (f2 + f3)) (C_add.mono (by decide)) hr hG (a_cons (e_var 2 rfl (pv 2)) (a_cons (e_var 3 rfl (pv 3)) a_nil)) (⟨_, _, rfl, (H2).bd (by decide) (by decide), (H3).bd (by decide) (by decide), rfl⟩)) a_nil)) (⟨_, _, rfl, (H1).bd (by decide) (by decide), (((H2).add (H3))).bd (by decide) (by decide), rfl⟩)) (a_cons (e_call (d := encQ (f1 - f2)) (C_sub.mono (by decide)) hr hG (a_cons (e_var 1 rfl (pv 1)) (a_cons (e_var 2 rfl (pv 2)) a_nil)) (⟨_, _, rfl, (H1).bd (by decide) (by decide), (H2).bd (by decide) (by decide), rfl⟩)) a_nil)))) (by rw [q1])) (a_cons (e_var 5 rfl (pv 5)) a_nil)) (k_alikeL ((((H1).add (H2))).sm (by decide) (by decide)) ((((((H1).mul (H2))).add (((H1).mul (H3))))).sm (by decide) (by decide)) ((((H1).sub (H2))).sm (by decide) (by decide)))))) (fun hc => absurd hc (by decide)) (fun _ => ?_)
  refine b_set 5 (d := .list [encQ ((f1 + f2) / 2), encQ ((f1 + f2) + f3), encQ 0]) sc.nd rfl (.inl rfl) (e_lst (a_cons (e_call (d := encQ ((f1 + f2) / 2)) (C__law_div.mono (by decide)) hr hG (a_cons (e_call (d := encQ (f1 + f2)) (C__law_add.mono (by decide)) hr hG (a_cons (e_var 1 rfl (pv 1)) (a_cons (e_var 2 rfl (pv 2)) a_nil)) (⟨_, _, rfl, (H1).mono (by decide) (by decide), (H2).mono (by decide) (by decide), rfl⟩)) (a_cons (ED.to (d' := encQ 2) (e_tup (a_cons e_int (a_cons e_int a_nil))) (encQ_of (d := 1) (by decide +kernel) (by decide +kernel))) a_nil)) (⟨_, _, rfl, (((H1).add (H2))).mono (by decide) (by decide), sz2.mono (by decide) (by decide), by decide +kernel, rfl⟩)) (a_cons (e_call (d := encQ ((f1 + f2) + f3)) (C__law_add.mono (by decide)) hr hG (a_cons (e_call (d := encQ (f1 + f2)) (C__law_add.mono (by decide)) hr hG (a_cons (e_var 1 rfl (pv 1)) (a_cons (e_var 2 rfl (pv 2)) a_nil)) (⟨_, _, rfl, (H1).mono (by decide) (by decide), (H2).mono (by decide) (by decide), rfl⟩)) (a_cons (e_var 3 rfl (pv 3)) a_nil)) (⟨_, _, rfl, (((H1).add (H2))).mono (by decide) (by decide), (H3).mono (by decide) (by decide), rfl⟩)) (a_cons (ED.to (d' := encQ 0) (e_tup (a_cons e_int (a_cons e_int a_nil))) (encQ_of (d := 1) (by decide +kernel) (by decide +kernel))) a_nil)))) ?_
  have q2 : 0 + f1 + f2 + f3 = ((f1 + f2) + f3) := by grind
  have sums : ∀ {z}, z ∈ [f1, f2, f3] → Sz z 100 40 := fun hz => by
    simp only [List.mem_cons, List.not_mem_nil, or_false] at hz
    rcases hz with rfl | rfl | rfl
    · exact H1.mono (by decide) (by decide)
    · exact H2.mono (by decide) (by decide)
    · exact H3.mono (by decide) (by decide)
  refine b_if1 (t_not (t_val (e_call (d := .bool true) (C__law_alike.mono (by decide)) hr hG (a_cons (ED.to (d' := .list [encQ ((f1 + f2) / 2), encQ ((f1 + f2) + f3), encQ 0]) (e_lst (a_cons (e_call (d := encQ ((f1 + f2) / 2)) (C_middle.mono (by decide)) hr hG (a_cons (e_var 1 rfl (pv 1)) (a_cons (e_var 2 rfl (pv 2)) a_nil)) (⟨_, _, rfl, H1.bd (by decide) (by decide), H2.bd (by decide) (by decide), (((H1).add (H2))).bd (by decide) (by decide), rfl⟩)) (a_cons (e_call (d := encQ (0 + f1 + f2 + f3)) (C_sum_of.mono (by decide)) hr hG (a_cons (e_tup (a_cons (e_var 1 rfl (pv 1)) (a_cons (e_var 2 rfl (pv 2)) (a_cons (e_var 3 rfl (pv 3)) a_nil)))) a_nil) (⟨[f1, f2, f3], rfl, Nat.le_of_ble_eq_true rfl, fun z hz => sums hz, rfl⟩)) (a_cons (e_call (d := encQ 0) (C_sum_of.mono (by decide)) hr hG (a_cons (e_tup a_nil) a_nil) (⟨[], rfl, Nat.le_of_ble_eq_true rfl, fun z hz => absurd hz List.not_mem_nil, rfl⟩)) a_nil)))) (by rw [q2])) (a_cons (e_var 5 rfl (pv 5)) a_nil)) (k_alikeL (((Sz.div ((H1).add (H2)) sz2)).sm (by decide) (by decide)) ((((((H1).add (H2))).add (H3))).sm (by decide) (by decide)) (sz0.sm (by decide) (by decide)))))) (fun hc => absurd hc (by decide)) (fun _ => ?_)
  have nz : (!decide (f2.num = 0)) = true → f2 ≠ 0 := fun hc z => by
    rw [z] at hc
    exact absurd hc (by decide)
  refine b_if1 (t_w (w_and (t_neI (e_at (e_var 2 rfl (pv 2)) rfl) e_int) (fun hc0 => (w_and1 (t_w (w_or (t_ne hr.units (shQ _) (shQ _) (e_call (d := encQ (f1 / f2)) (C_div.mono (by decide)) hr hG (a_cons (e_var 1 rfl (pv 1)) (a_cons (e_var 2 rfl (pv 2)) a_nil)) (⟨_, _, rfl, H1.bd (by decide) (by decide), H2.mono (by decide) (by decide), nz hc0, rfl⟩)) (e_call (d := encQ (f1 / f2)) (C__law_div.mono (by decide)) hr hG (a_cons (e_var 1 rfl (pv 1)) (a_cons (e_var 2 rfl (pv 2)) a_nil)) (⟨_, _, rfl, H1.mono (by decide) (by decide), H2.mono (by decide) (by decide), nz hc0, rfl⟩))) (fun _ => (w_or1 (t_neI (e_call (d := .int (f1 / f2 * f2).floor) (C_floor.mono (by decide)) hr hG (a_cons (e_call (d := encQ (f1 / f2 * f2)) (C_mul.mono (by decide)) hr hG (a_cons (e_call (d := encQ (f1 / f2)) (C_div.mono (by decide)) hr hG (a_cons (e_var 1 rfl (pv 1)) (a_cons (e_var 2 rfl (pv 2)) a_nil)) (⟨_, _, rfl, H1.bd (by decide) (by decide), H2.mono (by decide) (by decide), nz hc0, rfl⟩)) (a_cons (e_var 2 rfl (pv 2)) a_nil)) (⟨_, _, rfl, (Sz.div H1 H2).bd (by decide) (by decide), H2.bd (by decide) (by decide), rfl⟩)) a_nil) (⟨_, rfl, ((Sz.div H1 H2).mul H2).bd (by decide) (by decide), rfl⟩)) (e_call (d := .int f1.floor) (C_floor.mono (by decide)) hr hG (a_cons (e_var 1 rfl (pv 1)) a_nil) (⟨_, rfl, H1.bd (by decide) (by decide), rfl⟩))))))))))) (fun hc => ?_) (fun _ => ?_)
  · exfalso
    have hc : (!decide (f2.num = 0) && (!PyData.eqv (encQ (f1 / f2)) (encQ (f1 / f2)) || !decide ((f1 / f2 * f2).floor = f1.floor))) = true := hc
    rw [Bool.and_eq_true] at hc
    have e := Rat.div_mul_cancel (a := f1) (nz hc.1)
    have h2 := hc.2
    rw [eqvQ, e] at h2
    simp at h2
  refine b_ret (e_eqI (e_call (d := .int (QM.sgn (f1 - f2))) (C_compare_fractions.mono (by decide)) hr hG (a_cons (e_var 1 rfl (pv 1)) (a_cons (e_var 2 rfl (pv 2)) a_nil)) (⟨_, _, rfl, H1.bd (by decide) (by decide), H2.bd (by decide) (by decide), rfl⟩)) (e_call (d := .int (QM.sgn (f1 - f2))) (C__law_sign.mono (by decide)) hr hG (a_cons (e_call (d := encQ (f1 - f2)) (C__law_sub.mono (by decide)) hr hG (a_cons (e_var 1 rfl (pv 1)) (a_cons (e_var 2 rfl (pv 2)) a_nil)) (⟨_, _, rfl, (H1).mono (by decide) (by decide), (H2).mono (by decide) (by decide), rfl⟩)) a_nil) (⟨_, rfl, rfl⟩))) ?_
  show R (.bool (decide (QM.sgn (f1 - f2) = QM.sgn (f1 - f2))))
  rw [decide_eq_true rfl]
  exact hR
end K65
end
section
set_option Elab.async false
set_option linter.all false
set_option maxRecDepth 100000
set_option maxHeartbeats 2000000
/-! DL9: data where an exception is handled: two names set at once, calls of defs. -/
namespace DL
open PySem PySem.Spec PyProof.Rows L2 HotX L2H
section
variable {prog : Program} {w : World} {A : Around} {E : Value → Shared → Prop} {s : Shared}
/-- a tuple's iterator at its end, while an exception is handled -/
theorem tupEndHot {it t x1 : Addr} {i : Nat} {items : Array Value} {Q : Option Value → Shared → Prop} (hot : HotAt A x1 s.heap) (ne : x1 ≠ it) (hit : IsTupIter s.heap it t i) (ht : IsTup s.heap t items) (hx : items[i]? = none)
    (hQ : ∀ h', Heap.ExtBut it s.heap h' → Q none { s with heap := h' }) : wpAny (model prog w) A (pyNext (.ref it)) Q E s := by
  obtain ⟨o, ho, hc, hd⟩ := id hit
  obtain ⟨ol, hol, _, nl, hdl⟩ := ht
  obtain ⟨hh, o1, vs1, h1, d1, c1⟩ := hot
  unfold pyNext
  refine wpAny_bind (wpAny_attempt (wpAny_callSpecial?_slot (name := Str.ofString "__next__") hit.typeIs slot_tupleiter_next (wpAny_call_entry slot_tupleiter_next hit.typeIs entry_tupleiter_next ?_ (args_tupleiter_next _))))
  show wpAny _ _ (field (.ref it) 0 >>= _) _ _ s
  refine wpAny_bind (wpAny_field ho hd (x := .ref t) rfl ?_)
  show wpAny _ _ (if (Value.ref t == Value.none) = true then _ else _) _ _ s
  rw [if_neg (show ¬ ((Value.ref t == Value.none) = true) from Bool.false_ne_true)]
  show wpAny _ _ (field (.ref it) 1 >>= _) _ _ s
  refine wpAny_bind (wpAny_field ho hd (x := .int i 0) rfl ?_)
  show wpAny _ _ (seqItems? (.ref t) >>= _) _ _ s
  refine wpAny_bind (wpAny_seqItems hol hdl ?_)
  simp only [Int.toNat_natCast, hx]
  refine wpAny_bind (wpAny_rule (wpAny_bind (wpAny_setField ho hd (by simp) ?_)))
  show wpAny _ _ (newExc (.type "StopIteration") [] >>= _) _ _ _
  refine wpAny_bind ?_
  simp only [newExc, newTuple]
  refine wpAny_bind (wpAny_newObj_type ?_ (by size_fits))
  refine wpAny_bind (m := firstArgMember _ _) (wpAny_of_eq (a := Value.none) (by first | rfl | (simp only [firstArgMember]; rfl)) ?_)
  refine wpAny_newObj_type ?_ (by size_fits)
  have k1 : ∀ b, b ≠ it → ∀ o, s.heap.get? b = some o → (s.heap.update it (Obj.mapFields (·.setIfInBounds 0 .none))).get? b = some o := fun b hb o e => (Heap.get?_update_other _ _ (Ne.symm hb)).trans e
  refine raiseNew_hot (x1 := x1) ⟨hh, o1, vs1, Heap.get?_push_of_some _ (Heap.get?_push_of_some _ (k1 x1 ne _ h1)), d1, c1⟩ (Nat.ne_of_lt (Heap.lt_size (Heap.get?_push_of_some _ (k1 x1 ne _ h1)))) (Heap.get?_push_size _ rfl) rfl (by first | (simp; done) | (simp; omega) | (simp only [Array.size_append]; simp; omega)) ?_
  refine wpAny_bind (wpAny_isInstance (T := "StopIteration") (b := true) ⟨_, Heap.get?_update_self _ (Heap.get?_push_size _ rfl) rfl, rfl⟩ isSubtype_stop ?_)
  refine wpAny_pure (hQ _ fun b o hb e => ?_)
  have e2 := Heap.get?_push_of_some { cls := .type "tuple", data := .seq #[] } (k1 b hb o e)
  rw [Heap.get?_update_other _ _ (Nat.ne_of_gt (Heap.lt_size (Heap.get?_push_of_some _ (k1 b hb o e))))]
  exact Heap.get?_push_of_some _ (Heap.get?_push_of_some _ (k1 b hb o e))
/-- a tuple's items drawn, while an exception is handled -/
theorem unpackHot {t x1 : Addr} {items : Array Value} {Q : List Value → Shared → Prop} (hot : HotAt A x1 s.heap) (ht : IsTup s.heap t items) (hQ : ∀ h', Heap.ExtBut s.heap.objs.size s.heap h' → Q items.toList { s with heap := h' }) :
    wpAny (model prog w) A (unpackItems (.ref t) items.size none) Q E s := by
  have hlt : t ≠ s.heap.objs.size := by
    obtain ⟨o, ho, _⟩ := ht
    exact Nat.ne_of_lt (Heap.lt_size ho)
  obtain ⟨hh, o1, vs1, h1, d1, c1⟩ := hot
  have nx : x1 ≠ s.heap.objs.size := Nat.ne_of_lt (Heap.lt_size h1)
  unfold unpackItems
  refine wpAny_bind ?_
  unfold notIterableAtAll
  refine wpAny_bind (wpAny_specialOf ht.typeIs slot_tuple_iter.lookup (wpAny_pure ?_))
  simp only [Bool.false_eq_true, if_false]
  refine wpAny_bind (wpAny_holding (iter_tuple ht ?_))
  refine wpAny_bind (wpAny_holding (draw_tuple hlt items.size 0 _ _ ⟨_, Heap.get?_push_size _ rfl, rfl, rfl⟩ (ht.push _) (by omega) fun h₁ hit₁ hs₁ => ?_))
  have hall : List.take items.size (List.drop 0 items.toList) = items.toList := by rw [List.drop_zero]; exact List.take_of_length_le (by simp)
  rw [hall, if_neg (by simp)]
  have ht₁ : IsTup h₁ t items := (ht.push _).extBut hs₁.extBut hlt
  refine wpAny_bind (wpAny_holding (tupEndHot (x1 := x1) ⟨hh, o1, vs1, hs₁.extBut x1 _ nx (Heap.get?_push_of_some _ h1), d1, c1⟩ nx hit₁ ht₁ (by simp) fun h₂ he₂ => ?_))
  simp only [Option.isSome_none, Bool.false_eq_true, if_false]
  exact wpAny_pure (hQ h₂ fun b o hb e => he₂ b o hb (hs₁.extBut b o hb (Heap.get?_push_of_some _ e)))
end
section
variable {X : Cx} {W : Wd} {ρ : En} {a b e : Expr} {es : List Expr} {rest : List Stmt} {p pos : Pos} {Φ : Oc → Prop} {x y : Str} {i j : Nat}
theorem ps_parH {ta : TA} {px py pt : Pos} {kt k2 pt2} (hot : HotC X) (hN : X.N.Nodup) (hi : X.N[i]? = some x) (hj : X.N[j]? = some y) (hij : i ≠ j)
    (hx : X.env.scope.names.lookup x = some .local) (hy : X.env.scope.names.lookup y = some .local) (ha : PA X [a, b] ta)
    (hw : swappedStores [.Tuple [.Name x px, .Name y py] kt pt] (.Tuple [a, b] k2 pt2) X.env = pure (some [x, y]))
    (hs : swapsWithSole [.Tuple [.Name x px, .Name y py] kt pt] (.Tuple [a, b] k2 pt2) pos.line X.env = pure false) :
    PS X (.Assign [.Tuple [.Name x px, .Name y py] kt pt] (.Tuple [a, b] k2 pt2) pos) (tPar i j ta) := by
  refine ⟨fun pins s σ H D I h => ?_⟩
  rw [exec_Assign_arm]
  refine wpAny_bind (wpAny_standAt ?_)
  rw [hs]
  refine wpAny_bind (wpAny_pure ?_)
  rw [if_neg (by decide)]
  refine wpAny_bind (Tuple_ (thn (ha.run _ pins s σ H _ I h) fun us s1 ⟨vs, H1, I1, r1, q1⟩ => ?_))
  obtain ⟨v, v', e1, q1⟩ := q1
  subst e1
  obtain ⟨u1, u2, rfl, rv, rv'⟩ := Vals.two r1
  refine wpAny_newObj_type ?_ (by show 2 ≤ sizeLine; decide)
  have I2 : Inv X pins σ H1 { s1 with heap := s1.heap.push { cls := .type "tuple", data := .seq [u1, u2].toArray } } := I1.kept (t' := s1.toks) fun b o e => Heap.get?_push_of_some _ e
  rw [hw]
  refine wpAny_bind (wpAny_pure ?_)
  obtain ⟨x1, hx1⟩ := hot.at I2
  show wpAny (model X.prog X.w) X.A (do rule "assign.swapped-stores"; let items ← unpackItems (.ref s1.heap.objs.size) 2 none; assignInOrder [fun v => bindName X.env y v, fun v => bindName X.env x v] items.reverse; pure Flow.next) _ _ _
  refine wpAny_bind (wpAny_rule (wpAny_bind (unpackHot (items := #[u1, u2]) hx1 (IsTup.new s1.heap _) fun h' hx' => ?_)))
  have I3 := I2.kept (h' := h') (t' := s1.toks) fun b o e => hx' b o (Nat.ne_of_lt (Heap.lt_size e)) e
  show wpAny _ _ (assignInOrder [fun v => bindName X.env y v, fun v => bindName X.env x v] [u2, u1] >>= fun _ => pure Flow.next) _ _ _
  refine wpAny_bind (assignInOrder_cons (wpAny_bindName (store_ok I3 hN hj (.inl hy) rv' (fun s2 I4 => ?_) (.inr hy))))
  refine assignInOrder_cons (wpAny_bindName (store_ok I4 hN hi (.inl hx) rv (fun s3 I5 => assignInOrder_nil (wpAny_pure ?_)) (.inr hx)))
  rw [List.set_comm _ _ (Ne.symm hij)] at I5
  exact ⟨_, H1, I5, q1⟩
theorem b_parH (i j : Nat) {d1 d2 : D} {px py pt : Pos} {kt k2 pt2} (hot : HotC X) (nd : X.N.Nodup) (hi : X.N[i]? = some x) (hj : X.N[j]? = some y) (hij : i ≠ j)
    (hx : X.env.scope.names.lookup x = some .local) (hy : X.env.scope.names.lookup y = some .local) (ha : AD X W ρ [a, b] [d1, d2])
    (hw : swappedStores [.Tuple [.Name x px, .Name y py] kt pt] (.Tuple [a, b] k2 pt2) X.env = pure (some [x, y]))
    (h : BD X W ((ρ.set i (.d d1)).set j (.d d2)) rest Φ)
    (hs : swapsWithSole [.Tuple [.Name x px, .Name y py] kt pt] (.Tuple [a, b] k2 pt2) pos.line X.env = pure false := by rfl) : BD X W ρ (.Assign [.Tuple [.Name x px, .Name y py] kt pt] (.Tuple [a, b] k2 pt2) pos :: rest) Φ :=
  b_cons (ps_imp (ps_parH hot nd hi hj hij hx hy ha hw hs) fun G σ H ⟨hB, hR, q1, _⟩ => ⟨hB, hR, fun ds vs H' r B' l' p' => by
    subst r
    obtain ⟨v, w, e1, p1, p2⟩ := dps2 p'
    exact ⟨v, w, e1, q1 _ _ H' h B' l' (((hR.mono l').setD p1).setD p2)⟩⟩)
end
/-- a def that does F, called where an exception is handled -/
structure Hb (P : Program) (w : World) (K : PySem.W.Frag) (mg : Str → Option Value) (base : Heap) (k : Nat) (x : Str) (F : List D → (D → Prop) → Prop) : Prop where
  ex : ∃ (f : Addr) (fd : FuncData) (ps : List Str), mg x = some (.ref f) ∧ PySem.W.keepIn K (.ref f) = true ∧ FnH P w K mg base CX0 k f fd ps (spD K F) ∧ Binds K fd ps []
theorem Hb.mono {P : Program} {w : World} {K : PySem.W.Frag} {mg : Str → Option Value} {base : Heap} {j k : Nat} {x : Str} {F : List D → (D → Prop) → Prop} (C : Hb P w K mg base j x F) (h : j ≤ k) : Hb P w K mg base k x F := by
  obtain ⟨f, fd, ps, h1, h2, h3, h4⟩ := C.ex
  exact ⟨f, fd, ps, h1, h2, ⟨h3.len, fun A outer s H args us vs Q E p hr => h3.run A outer s H args us vs Q E p (hr.mono h)⟩, h4⟩
section
variable {X : Cx} {W : Wd} {ρ : En} {e : Expr} {es : List Expr} {p pos : Pos} {x : Str} {k : Nat} {F : List D → (D → Prop) → Prop} {R : D → Prop}
theorem e_callH {ds : List D} {d : D} (C : Hb X.prog X.w X.K X.mg X.base k x F) (hr : RoomH k X.A) (hot : HotC X) (ha : AD X W ρ (e :: es) ds) (h : F ds (fun z => z = d)) (hg : Gl X x := by rfl) (hd : (x == ("__debug__" : Str)) = false := by decide)
    (he : starEach (e :: es) X.env = (false, eval e X.env) :: starEach es X.env := by rfl) (hpl : (backTo pos (starEach es X.env)).any (·.1) = false := by rfl) : ED X W ρ (.Call (.Name x p) (e :: es) [] pos) d := by
  obtain ⟨f, fd, ps, h1, h2, h3, h4⟩ := C.ex
  exact pe_imp (pe_callH (E := fun _ _ _ _ => False) h3 hr hot hg h1 h2 h4 (fun _ _ _ _ _ _ _ z => z.elim) ha hd he hpl) fun σ H Q ⟨hB, hR, q⟩ => ⟨hB, hR, fun ds' vs H1 rs B1 l1 p1 => by
    subst rs
    exact ⟨W, ds', _, B1, p1, h, fun d v H2 r2 B2 l2 p2 => q d v H2 r2 B2 (l1.trans l2) p2⟩⟩
end
theorem unitsH {k : Nat} {A : Around} (hr : RoomH k A) : A.units + 200 < cLine := by have := hr.un; omega
theorem hb_of {P : Program} {w : World} {K : PySem.W.Frag} {mg : Str → Option Value} {base : Heap} {k : Nat} {x name qual : Str} {params : Arguments} {body : List Stmt} {scope : Scope} {f : Addr} {fd : FuncData} {N ps : List Str} {F : List D → (D → Prop) → Prop}
    (U : FunD K name qual params body scope [] [] f fd) (hm : mg x = some (.ref f)) (S : FnScope N ps scope) (hb : Binds K fd ps []) (hl : ∀ ds R, F ds R → ds.length = ps.length)
    (hbody : ∀ (cdv : Value) (A : Around) (l : List Env) (s : Shared) (H : Hp) (E : XK) (p : Addr × Obj) (hot : HotC (cxH CX0 P w K mg base N qual scope f cdv A l s H E p).nox) (W : Wd) (ds : List D) (R : D → Prop), RoomH k (A.deeper (envOfC qual scope s.heap.objs.size f cdv)) → F ds R →
      BD (cxH CX0 P w K mg base N qual scope f cdv A l s H E p).nox W (startE N.length ds) body (fun o => match o with | .rt d => R d | .nx _ => R .none | _ => False)) : Hb P w K mg base (k + 1) x F := by
  refine ⟨f, fd, ps, hm, U.kp, ?_, hb⟩
  obtain ⟨oc, od, dV, kV, doc, pm, an, cdv, ct, osl, rfl, lk, hcd, _, _⟩ := U.ex
  refine fn_ofH lk hcd S (fun vs H Q E q => ?_) (fun A l s H vs Q E p hot hr q => ?_)
  · obtain ⟨W, ds, R, _, p1, f1, _⟩ := q
    rw [DpAll.len p1]
    exact hl ds R f1
  · obtain ⟨W, ds, R, hB, p1, f1, q1⟩ := q
    have hot' : HotC (cxH CX0 P w K mg base N qual scope f cdv A l s H E p).nox := ⟨p, hot, List.mem_cons_self ..⟩
    refine ⟨_, (hbody cdv A l s H E p hot' W ds R hr f1).nox, hB, re_start p1, ?_, ?_, ?_, ?_⟩
    · exact fun ρ' σ' H' r' B' l' r2 => q1 .none .non H' r' B' l' .non
    · exact fun d v H' r' B' l' p' => q1 d v H' r' B' l' p'
    · exact fun ρ' σ' H' r' => r'.elim
    · exact fun ρ' σ' H' r' => r'.elim
end DL
end
section
set_option Elab.async false
set_option linter.all false
set_option maxRecDepth 100000
set_option maxHeartbeats 4000000
set_option exponentiation.threshold 20000
namespace K65
open PySem PySem.Spec PyProof.Rows L2 DL QM L2H
variable {K : PySem.W.Frag} {mg : Str → Option Value} {P : Program} {w : World} {base : Heap}
theorem unitsH {k : Nat} {A : Around} (hr : RoomH k A) : A.units + 64 < cLine := by have := hr.un; omega
theorem Tp.hb (T : Tp K mg) (i : Nat) {x name qual : Str} {st : Stmt} {N ps : List Str} {k : Nat} {F : List D → (D → Prop) → Prop}
    (hd : fn[i]? = some ⟨(x, none), name, qual, defArgs st, defBody st, defScope st, [], []⟩) (hf : fa[i]? = some (.glo x)) (S : FnScope N ps (defScope st)) (hb : Binding name qual ps st) (hl : ∀ ds R, F ds R → ds.length = ps.length)
    (hbody : ∀ (f : Addr) (cdv : Value) (A : Around) (l : List Env) (s : Shared) (H : Hp) (E : XK) (p : Addr × Obj) (hot : HotC (cxH CX0 P w K mg base N qual (defScope st) f cdv A l s H E p).nox) (W : Wd) (ds : List D) (R : D → Prop), RoomH k (A.deeper (envOfC qual (defScope st) s.heap.objs.size f cdv)) → F ds R →
      BD (cxH CX0 P w K mg base N qual (defScope st) f cdv A l s H E p).nox W (startE N.length ds) (defBody st) (fun o => match o with | .rt d => R d | .nx _ => R .none | _ => False)) : Hb P w K mg base (k + 1) x F := by
  obtain ⟨fd, U⟩ := T.c.def_ i hd
  exact hb_of U (T.glo i hf) S (U.bindsN hb) hl (hbody _)

theorem h_is_number (T : Tp K mg) : Hb P w K mg base 1 "is_number" F_is_number := by
  have sc : FnScope ["thing"] ["thing"] (defScope s_is_number) := ⟨rfl, rfl, rfl, by decide +kernel, rfl, by decide +kernel, by decide +kernel⟩
  refine T.hb 0 rfl rfl (st := s_is_number) sc (fun _ _ _ _ _ _ us hl => match us, hl with | [_], _ => rfl) (fun ds R hF => by obtain ⟨i, rfl, q⟩ := hF; rfl) ?_
  intro f cdv A l s H E p hot W ds R hr hF
  obtain ⟨i, rfl, q⟩ := hF
  refine' (b_ret (e_and (e_isi (T := "int") T.f_isinstance T.f_int (e_var 0 rfl (pv 0)) (by decide +kernel) ?h0) (fun hc => (e_one (e_not (e_isi (T := "bool") T.f_isinstance T.f_bool (e_var 0 rfl (pv 0)) (by decide +kernel) ?h1))))) ?h2)
  case h0 =>
    exact k_ty "int" "int" (r := true) (by decide +kernel)
  case h1 =>
    exact k_ty "int" "bool" (r := false) (by decide +kernel)
  case h2 =>
    exact q

theorem h_is_index (T : Tp K mg) : Hb P w K mg base 2 "is_index" F_is_index := by
  have sc : FnScope ["thing"] ["thing"] (defScope s_is_index) := ⟨rfl, rfl, rfl, by decide +kernel, rfl, by decide +kernel, by decide +kernel⟩
  have C_is_number := h_is_number (P := P) (w := w) (base := base) T
  refine T.hb 1 rfl rfl (st := s_is_index) sc (fun _ _ _ _ _ _ us hl => match us, hl with | [_], _ => rfl) (fun ds R hF => by obtain ⟨i, rfl, q⟩ := hF; rfl) ?_
  intro f cdv A l s H E p hot W ds R hr hF
  obtain ⟨i, rfl, q⟩ := hF
  refine' (b_ret (e_and (e_callH (C_is_number.mono (by decide)) hr hot (a_cons (e_var 0 rfl (pv 0)) a_nil) ?h0) (fun hc => (e_one (e_ge (e_var 0 rfl (pv 0)) e_int)))) ?h1)
  case h0 =>
    exact ⟨i, rfl, rfl⟩
  case h1 =>
    exact q

theorem h_divisor (T : Tp K mg) : Hb P w K mg base 1 "divisor" F_divisor := by
  have sc : FnScope ["n", "d", "one", "other"] ["n", "d"] (defScope s_divisor) := ⟨rfl, rfl, rfl, by decide +kernel, rfl, by decide +kernel, by decide +kernel⟩
  refine T.hb 3 rfl rfl (st := s_divisor) sc (fun _ _ _ _ _ _ us hl => match us, hl with | [_, _], _ => rfl) (fun ds R hF => by obtain ⟨n, d, rfl, q⟩ := hF; rfl) ?_
  intro f cdv A l s H E p hot W ds R hr hF
  obtain ⟨n, d, rfl, q⟩ := hF
  refine' (b_parH 2 3 hot sc.nd rfl rfl (by decide) rfl rfl (a_cons (e_abs T.f_abs (e_var 0 rfl (pv 0))) (a_cons (e_abs T.f_abs (e_var 1 rfl (pv 1))) a_nil)) rfl ?h0)
  case h0 =>
    refine b_while (I := fun m ρ' => ∃ a : Nat, Nat.gcd a m = Int.gcd n d ∧ ρ' = [.d (.int n), .d (.int d), .d (.int a), .d (.int m)]) (Ω := fun ρ' => ρ' = [.d (.int n), .d (.int d), .d (.int (Int.gcd n d : Int)), .d (.int 0)]) PassesOwn.never ⟨d.natAbs, n.natAbs, rfl, rfl⟩ ?_ ?_
    · rintro b ρ' ⟨a, hg, rfl⟩
      refine ⟨_, t_neI (e_var 3 rfl (pv 3)) e_int, fun hc => ?_, fun hc => ?_⟩
      · have hb : b ≠ 0 := by
          rintro rfl
          simp at hc
        refine b_parH 2 3 hot sc.nd rfl rfl (by decide) rfl rfl (a_cons (e_var 3 rfl (pv 3)) (a_cons (e_mod (by omega) (e_var 2 rfl (pv 2)) (e_var 3 rfl (pv 3))) a_nil)) rfl (b_nil ?_)
        refine ⟨a % b, Nat.mod_lt _ (Nat.pos_of_ne_zero hb), b, ?_, ?_⟩
        · rw [← hg, Nat.gcd_comm a b, Nat.gcd_rec b a, Nat.gcd_comm]
        · show [Sl.d (.int n), Sl.d (.int d), Sl.d (.int (b : Int)), Sl.d (.int ((a : Int) % (b : Int)))] = _
          rw [Int.natCast_emod]
      · have hb : b = 0 := by
          have h1 := hc
          simp at h1
          exact h1
        subst hb
        rw [Nat.gcd_zero_right] at hg
        rw [← hg]
        rfl
    · rintro ρ' rfl
      exact b_ret (e_var 2 rfl (pv 2)) q

theorem h_fraction (T : Tp K mg) : Hb P w K mg base 3 "fraction" F_fraction := by
  have sc : FnScope ["n", "d", "by"] ["n", "d"] (defScope s_fraction) := ⟨rfl, rfl, rfl, by decide +kernel, rfl, by decide +kernel, by decide +kernel⟩
  have C_divisor := h_divisor (P := P) (w := w) (base := base) T
  have C_is_number := h_is_number (P := P) (w := w) (base := base) T
  refine T.hb 5 rfl rfl (st := s_fraction) sc (fun _ _ _ _ _ _ us hl => match us, hl with | [_, _], _ => rfl) (fun ds R hF => by obtain ⟨n, d, rfl, h0, hd, q⟩ := hF; rfl) ?_
  intro f cdv A l s H E p hot W ds R hr hF
  obtain ⟨n, d, rfl, h0, hd, q⟩ := hF
  refine' (b_if1 (t_w (w_or (t_not (t_val (e_callH (C_is_number.mono (by decide)) hr hot (a_cons (e_var 0 rfl (pv 0)) a_nil) ?h0))) (fun hc => (w_or (t_not (t_val (e_callH (C_is_number.mono (by decide)) hr hot (a_cons (e_var 1 rfl (pv 1)) a_nil) ?h1))) (fun hc => (w_or1 (t_eqI (e_var 1 rfl (pv 1)) e_int))))))) (fun hc => ?h2) (fun hc => (b_set 2 sc.nd rfl (.inl rfl) (e_callH (C_divisor.mono (by decide)) hr hot (a_cons (e_var 0 rfl (pv 0)) (a_cons (e_var 1 rfl (pv 1)) a_nil)) ?h3) (b_ret (e_ifD (t_gt (e_var 1 rfl (pv 1)) e_int) (fun hc => (e_tup (a_cons (e_fdiv ?h4 (e_var 0 rfl (pv 0)) (e_var 2 rfl (pv 2))) (a_cons (e_fdiv ?h5 (e_var 1 rfl (pv 1)) (e_var 2 rfl (pv 2))) a_nil)))) (fun hc => (e_tup (a_cons (e_fdiv ?h6 (e_neg (e_var 0 rfl (pv 0))) (e_var 2 rfl (pv 2))) (a_cons (e_fdiv ?h7 (e_neg (e_var 1 rfl (pv 1))) (e_var 2 rfl (pv 2))) a_nil))))) ?h8))))
  case h0 =>
    exact ⟨_, rfl, rfl⟩
  case h1 =>
    exact ⟨_, rfl, rfl⟩
  case h2 =>
    refine b_never ?_
    simp [h0] at hc
  case h3 =>
    exact ⟨_, _, rfl, rfl⟩
  case h4 =>
    exact wide_div (b := 9000) (Int.natCast_pos.mpr (gcd_pos_of h0)) (by rw [Int.natAbs_natCast]; exact Nat.lt_of_le_of_lt (gcd_le_of h0) hd) (by decide) (by decide)
  case h5 =>
    exact wide_div (b := 9000) (Int.natCast_pos.mpr (gcd_pos_of h0)) (by rw [Int.natAbs_natCast]; exact Nat.lt_of_le_of_lt (gcd_le_of h0) hd) (by decide) (by decide)
  case h6 =>
    exact wide_div (b := 9000) (Int.natCast_pos.mpr (gcd_pos_of h0)) (by rw [Int.natAbs_natCast]; exact Nat.lt_of_le_of_lt (gcd_le_of h0) hd) (by decide) (by decide)
  case h7 =>
    exact wide_div (b := 9000) (Int.natCast_pos.mpr (gcd_pos_of h0)) (by rw [Int.natAbs_natCast]; exact Nat.lt_of_le_of_lt (gcd_le_of h0) hd) (by decide) (by decide)
  case h8 =>
    rw [divInt_enc h0] at q
    exact q

theorem h_whole (T : Tp K mg) : Hb P w K mg base 4 "whole" F_whole := by
  have sc : FnScope ["n"] ["n"] (defScope s_whole) := ⟨rfl, rfl, rfl, by decide +kernel, rfl, by decide +kernel, by decide +kernel⟩
  have C_fraction := h_fraction (P := P) (w := w) (base := base) T
  refine T.hb 6 rfl rfl (st := s_whole) sc (fun _ _ _ _ _ _ us hl => match us, hl with | [_], _ => rfl) (fun ds R hF => by obtain ⟨n, rfl, q⟩ := hF; rfl) ?_
  intro f cdv A l s H E p hot W ds R hr hF
  obtain ⟨n, rfl, q⟩ := hF
  refine' (b_ret (e_callH (C_fraction.mono (by decide)) hr hot (a_cons (e_var 0 rfl (pv 0)) (a_cons e_int a_nil)) ?h0) ?h1)
  case h0 =>
    exact ⟨n, 1, rfl, by decide, by decide +kernel, rfl⟩
  case h1 =>
    have e : Rat.divInt n 1 = (n : Rat) := by
      have h := Rat.num_divInt_den (n : Rat)
      rw [Rat.num_intCast, Rat.den_intCast] at h
      exact h
    rw [e]
    exact q

theorem h_add (T : Tp K mg) : Hb P w K mg base 4 "add" F_add := by
  have sc : FnScope ["f", "g"] ["f", "g"] (defScope s_add) := ⟨rfl, rfl, rfl, by decide +kernel, rfl, by decide +kernel, by decide +kernel⟩
  have C_fraction := h_fraction (P := P) (w := w) (base := base) T
  refine T.hb 7 rfl rfl (st := s_add) sc (fun _ _ _ _ _ _ us hl => match us, hl with | [_, _], _ => rfl) (fun ds R hF => by obtain ⟨p, r, rfl, hp, hq, q⟩ := hF; rfl) ?_
  intro f cdv A l s H E p hot W ds R hr hF
  obtain ⟨p, r, rfl, hp, hq, q⟩ := hF
  refine' (b_ret (e_callH (C_fraction.mono (by decide)) hr hot (a_cons (e_add (e_mul ?h0 (e_at (e_var 0 rfl (pv 0)) rfl) (e_at (e_var 1 rfl (pv 1)) rfl)) (e_mul ?h1 (e_at (e_var 1 rfl (pv 1)) rfl) (e_at (e_var 0 rfl (pv 0)) rfl))) (a_cons (e_mul ?h2 (e_at (e_var 0 rfl (pv 0)) rfl) (e_at (e_var 1 rfl (pv 1)) rfl)) a_nil)) ?h3) ?h4)
  case h0 =>
    exact mulW hp.n hq.d (by decide)
  case h1 =>
    exact mulW hq.n hp.d (by decide)
  case h2 =>
    exact mulW hp.d hq.d (by decide)
  case h3 =>
    refine ⟨_, _, rfl, ?_, ?_, rfl⟩
    · have h1 := Int.mul_pos (den_pos p) (den_pos r)
      omega
    · exact wide_lt hp.d hq.d
  case h4 =>
    have e : Rat.divInt (p.num * (r.den : Int) + r.num * (p.den : Int)) ((p.den : Int) * (r.den : Int)) = p + r := by
      rw [Rat.add_def', ← Rat.divInt_ofNat, Int.natCast_mul]
    rw [e]
    exact q

theorem h_sub (T : Tp K mg) : Hb P w K mg base 4 "sub" F_sub := by
  have sc : FnScope ["f", "g"] ["f", "g"] (defScope s_sub) := ⟨rfl, rfl, rfl, by decide +kernel, rfl, by decide +kernel, by decide +kernel⟩
  have C_fraction := h_fraction (P := P) (w := w) (base := base) T
  refine T.hb 8 rfl rfl (st := s_sub) sc (fun _ _ _ _ _ _ us hl => match us, hl with | [_, _], _ => rfl) (fun ds R hF => by obtain ⟨p, r, rfl, hp, hq, q⟩ := hF; rfl) ?_
  intro f cdv A l s H E p hot W ds R hr hF
  obtain ⟨p, r, rfl, hp, hq, q⟩ := hF
  refine' (b_ret (e_callH (C_fraction.mono (by decide)) hr hot (a_cons (e_sub (e_mul ?h0 (e_at (e_var 0 rfl (pv 0)) rfl) (e_at (e_var 1 rfl (pv 1)) rfl)) (e_mul ?h1 (e_at (e_var 1 rfl (pv 1)) rfl) (e_at (e_var 0 rfl (pv 0)) rfl))) (a_cons (e_mul ?h2 (e_at (e_var 0 rfl (pv 0)) rfl) (e_at (e_var 1 rfl (pv 1)) rfl)) a_nil)) ?h3) ?h4)
  case h0 =>
    exact mulW hp.n hq.d (by decide)
  case h1 =>
    exact mulW hq.n hp.d (by decide)
  case h2 =>
    exact mulW hp.d hq.d (by decide)
  case h3 =>
    refine ⟨_, _, rfl, ?_, ?_, rfl⟩
    · have h1 := Int.mul_pos (den_pos p) (den_pos r)
      omega
    · exact wide_lt hp.d hq.d
  case h4 =>
    have e : Rat.divInt (p.num * (r.den : Int) - r.num * (p.den : Int)) ((p.den : Int) * (r.den : Int)) = p - r := by
      rw [Rat.sub_def', ← Rat.divInt_ofNat, Int.natCast_mul]
    rw [e]
    exact q

theorem h_mul (T : Tp K mg) : Hb P w K mg base 4 "mul" F_mul := by
  have sc : FnScope ["f", "g"] ["f", "g"] (defScope s_mul) := ⟨rfl, rfl, rfl, by decide +kernel, rfl, by decide +kernel, by decide +kernel⟩
  have C_fraction := h_fraction (P := P) (w := w) (base := base) T
  refine T.hb 9 rfl rfl (st := s_mul) sc (fun _ _ _ _ _ _ us hl => match us, hl with | [_, _], _ => rfl) (fun ds R hF => by obtain ⟨p, r, rfl, hp, hq, q⟩ := hF; rfl) ?_
  intro f cdv A l s H E p hot W ds R hr hF
  obtain ⟨p, r, rfl, hp, hq, q⟩ := hF
  refine' (b_ret (e_callH (C_fraction.mono (by decide)) hr hot (a_cons (e_mul ?h0 (e_at (e_var 0 rfl (pv 0)) rfl) (e_at (e_var 1 rfl (pv 1)) rfl)) (a_cons (e_mul ?h1 (e_at (e_var 0 rfl (pv 0)) rfl) (e_at (e_var 1 rfl (pv 1)) rfl)) a_nil)) ?h2) ?h3)
  case h0 =>
    exact mulW hp.n hq.n (by decide)
  case h1 =>
    exact mulW hp.d hq.d (by decide)
  case h2 =>
    refine ⟨_, _, rfl, ?_, ?_, rfl⟩
    · have h1 := Int.mul_pos (den_pos p) (den_pos r)
      omega
    · exact wide_lt hp.d hq.d
  case h3 =>
    have e : Rat.divInt (p.num * r.num) ((p.den : Int) * (r.den : Int)) = p * r := by
      rw [Rat.mul_def', ← Rat.divInt_ofNat, Int.natCast_mul]
    rw [e]
    exact q

theorem h_neg (T : Tp K mg) : Hb P w K mg base 1 "neg" F_neg := by
  have sc : FnScope ["f"] ["f"] (defScope s_neg) := ⟨rfl, rfl, rfl, by decide +kernel, rfl, by decide +kernel, by decide +kernel⟩
  refine T.hb 11 rfl rfl (st := s_neg) sc (fun _ _ _ _ _ _ us hl => match us, hl with | [_], _ => rfl) (fun ds R hF => by obtain ⟨p, rfl, q⟩ := hF; rfl) ?_
  intro f cdv A l s H E p hot W ds R hr hF
  obtain ⟨p, rfl, q⟩ := hF
  refine' (b_ret (e_tup (a_cons (e_neg (e_at (e_var 0 rfl (pv 0)) rfl)) (a_cons (e_at (e_var 0 rfl (pv 0)) rfl) a_nil))) ?h0)
  case h0 =>
    exact q

theorem h_sign (T : Tp K mg) : Hb P w K mg base 1 "sign" F_sign := by
  have sc : FnScope ["f"] ["f"] (defScope s_sign) := ⟨rfl, rfl, rfl, by decide +kernel, rfl, by decide +kernel, by decide +kernel⟩
  refine T.hb 12 rfl rfl (st := s_sign) sc (fun _ _ _ _ _ _ us hl => match us, hl with | [_], _ => rfl) (fun ds R hF => by obtain ⟨p, rfl, q⟩ := hF; rfl) ?_
  intro f cdv A l s H E p hot W ds R hr hF
  obtain ⟨p, rfl, q⟩ := hF
  refine' (b_ret (e_sub (e_intB T.f_int (e_gt (e_at (e_var 0 rfl (pv 0)) rfl) e_int)) (e_intB T.f_int (e_lt (e_at (e_var 0 rfl (pv 0)) rfl) e_int))) ?h0)
  case h0 =>
    rw [← sgn_num] at q
    exact q

theorem h_compare_fractions (T : Tp K mg) : Hb P w K mg base 5 "compare_fractions" F_compare_fractions := by
  have sc : FnScope ["f", "g"] ["f", "g"] (defScope s_compare_fractions) := ⟨rfl, rfl, rfl, by decide +kernel, rfl, by decide +kernel, by decide +kernel⟩
  have C_sign := h_sign (P := P) (w := w) (base := base) T
  have C_sub := h_sub (P := P) (w := w) (base := base) T
  refine T.hb 13 rfl rfl (st := s_compare_fractions) sc (fun _ _ _ _ _ _ us hl => match us, hl with | [_, _], _ => rfl) (fun ds R hF => by obtain ⟨p, r, rfl, hp, hq, q⟩ := hF; rfl) ?_
  intro f cdv A l s H E p hot W ds R hr hF
  obtain ⟨p, r, rfl, hp, hq, q⟩ := hF
  refine' (b_ret (e_callH (C_sign.mono (by decide)) hr hot (a_cons (e_callH (C_sub.mono (by decide)) hr hot (a_cons (e_var 0 rfl (pv 0)) (a_cons (e_var 1 rfl (pv 1)) a_nil)) ?h0) a_nil) ?h1) ?h2)
  case h0 =>
    exact ⟨p, r, rfl, hp, hq, rfl⟩
  case h1 =>
    exact ⟨_, rfl, rfl⟩
  case h2 =>
    exact q

theorem h_whole_root (T : Tp K mg) : Hb P w K mg base 3 "whole_root" F_whole_root := by
  have sc : FnScope ["n", "found", "later"] ["n"] (defScope s_whole_root) := ⟨rfl, rfl, rfl, by decide +kernel, rfl, by decide +kernel, by decide +kernel⟩
  have C_is_index := h_is_index (P := P) (w := w) (base := base) T
  refine T.hb 16 rfl rfl (st := s_whole_root) sc (fun _ _ _ _ _ _ us hl => match us, hl with | [_], _ => rfl) (fun ds R hF => by obtain ⟨n, rfl, hn, q⟩ := hF; rfl) ?_
  intro f cdv A l s H E p hot W ds R hr hF
  obtain ⟨n, rfl, hn, q⟩ := hF
  refine' (b_if1 (t_not (t_val (e_callH (C_is_index.mono (by decide)) hr hot (a_cons (e_var 0 rfl (pv 0)) a_nil) ?h0))) (fun hc => ?h1) (fun hc => (b_if1 (t_lt (e_var 0 rfl (pv 0)) e_int) (fun hc => (b_ret (e_var 0 rfl (pv 0)) ?h2)) (fun hc => (b_set 1 sc.nd rfl (.inl rfl) e_int ?h3)))))
  case h0 =>
    exact ⟨_, rfl, rfl⟩
  case h1 =>
    refine b_never ?_
    simp at hc
  case h2 =>
    have e : isq n = n := by
      have h2 : n < 2 := by
        have := of_decide_eq_true hc
        omega
      refine isq_of ?_ ?_
      · have : n = 0 ∨ n = 1 := by omega
        rcases this with rfl | rfl <;> decide
      · have : n = 0 ∨ n = 1 := by omega
        rcases this with rfl | rfl <;> decide
    rw [e] at q
    exact q
  case h3 =>
    rename_i hc
    have h2 : 2 ≤ n := by
      have := of_decide_eq_false hc
      omega
    refine b_while (I := fun m ρ' => ∃ x : Nat, 0 < x ∧ m = 2 * n + 1 - x ∧ x ≤ 2 * n ∧ ρ' = [.d (.int n), .d (.int x), .no]) (Ω := fun ρ' => ∃ x : Nat, 0 < x ∧ n < x * x ∧ x ≤ 2 * n ∧ ρ' = [.d (.int n), .d (.int x), .no]) PassesOwn.never ⟨2 * n + 1 - 1, 1, by decide, rfl, by omega, rfl⟩ ?_ ?_
    · rintro m ρ' ⟨x, hx, rfl, hle, rfl⟩
      have hxb : x < 2 ^ 8002 := by
        have := pw8002
        omega
      refine ⟨_, t_le (e_mul (cmulN (a := 8002) (b := 8002) (by rw [Int.natAbs_natCast]; exact hxb) (by rw [Int.natAbs_natCast]; exact hxb)) (e_var 1 rfl (pv 1)) (e_var 1 rfl (pv 1))) (e_var 0 rfl (pv 0)), fun hc => ?_, fun hc => ?_⟩
      · have hxx : x * x ≤ n := by
          have h := of_decide_eq_true hc
          rw [← Int.natCast_mul] at h
          omega
        have hxn : x ≤ n := Nat.le_trans (Nat.le_mul_of_pos_left x hx) hxx
        refine b_augMul 1 (.inr (by decide)) sc.nd rfl (.inl rfl) rfl e_int (b_nil ?_)
        exact ⟨2 * n + 1 - x * 2, by omega, x * 2, by omega, rfl, by omega, rfl⟩
      · have h := of_decide_eq_false hc
        rw [← Int.natCast_mul] at h
        exact ⟨x, hx, by omega, hle, rfl⟩
    · rintro ρ' ⟨x, hx, hxx, hle, rfl⟩
      have dv : ∀ y : Nat, 0 < y → y ≤ 2 * n → CDivW (n : Int) (y : Int) := fun y h1 h2 => wide_div (b := 8002) (by omega) (by
        rw [Int.natAbs_natCast]
        have := pw8002
        omega) (by decide) (by decide)
      have ed : ∀ y : Nat, (((y : Int) + (n : Int) / (y : Int)) / 2 : Int) = (((y + n / y) / 2 : Nat) : Int) := fun y => by
        rw [← Int.natCast_ediv, ← Int.natCast_add]
        generalize y + n / y = z
        omega
      refine b_set 2 sc.nd rfl (.inl rfl) (e_fdiv (by exact ⟨by decide, by decide⟩) (e_add (e_var 1 rfl (pv 1)) (e_fdiv (dv x hx hle) (e_var 0 rfl (pv 0)) (e_var 1 rfl (pv 1)))) e_int) ?_
      rw [ed x]
      have hroot : isq n ≤ x := by
        refine Nat.le_of_not_lt fun z => ?_
        have := isq_le n
        have : x * x ≤ isq n * isq n := Nat.mul_le_mul (Nat.le_of_lt z) (Nat.le_of_lt z)
        omega
      refine b_while (I := fun m ρ' => m ≤ 2 * n ∧ 0 < m ∧ isq n ≤ m ∧ ρ' = [.d (.int n), .d (.int m), .d (.int ((m + n / m) / 2 : Nat))]) (Ω := fun ρ' => ∃ y, ρ' = [.d (.int n), .d (.int (isq n : Nat)), y]) PassesOwn.never ⟨x, hle, hx, hroot, rfl⟩ ?_ ?_
      · rintro m ρ' ⟨h1, h3, h4, rfl⟩
        refine ⟨_, t_lt (e_var 2 rfl (pv 2)) (e_var 1 rfl (pv 1)), fun hc => ?_, fun hc => ?_⟩
        · have hlt : (m + n / m) / 2 < m := by
            have h := of_decide_eq_true hc
            omega
          have hnw := newton (n := n) h3
          have hpos : 0 < (m + n / m) / 2 := by
            have h5 : 1 ≤ isq n := by
              refine Nat.le_of_not_lt fun z => ?_
              have h6 := isq_lt n
              have h7 : isq n = 0 := by omega
              rw [h7] at h6
              omega
            omega
          refine b_parH 1 2 hot sc.nd rfl rfl (by decide) rfl rfl (a_cons (e_var 2 rfl (pv 2)) (a_cons (e_fdiv (by exact ⟨by decide, by decide⟩) (e_add (e_var 2 rfl (pv 2)) (e_fdiv (dv _ hpos (by omega)) (e_var 0 rfl (pv 0)) (e_var 2 rfl (pv 2)))) e_int) a_nil)) rfl (b_nil ?_)
          refine ⟨(m + n / m) / 2, hlt, by omega, hpos, hnw, ?_⟩
          rw [ed]
          rfl
        · have hge : ¬ (m + n / m) / 2 < m := by
            have h := of_decide_eq_false hc
            omega
          rw [newton_end h3 h4 hge]
          exact ⟨_, rfl⟩
      · rintro ρ' ⟨y, rfl⟩
        exact b_ret (e_var 1 rfl (pv 1)) q

theorem h_root_of (T : Tp K mg) : Hb P w K mg base 4 "root_of" F_root_of := by
  have sc : FnScope ["f", "top", "bottom"] ["f"] (defScope s_root_of) := ⟨rfl, rfl, rfl, by decide +kernel, rfl, by decide +kernel, by decide +kernel⟩
  have C_whole_root := h_whole_root (P := P) (w := w) (base := base) T
  refine T.hb 17 rfl rfl (st := s_root_of) sc (fun _ _ _ _ _ _ us hl => match us, hl with | [_], _ => rfl) (fun ds R hF => by obtain ⟨c, rfl, h0, g, hs, q⟩ := hF; rfl) ?_
  intro f cdv A l s H E p hot W ds R hr hF
  obtain ⟨c, rfl, h0, g, hs, q⟩ := hF
  refine' (b_if1 (t_lt (e_at (e_var 0 rfl (pv 0)) rfl) e_int) (fun hc => (b_ret e_non ?h0)) (fun hc => (b_parH 1 2 hot sc.nd rfl rfl (by decide) rfl rfl (a_cons (e_callH (C_whole_root.mono (by decide)) hr hot (a_cons (e_at (e_var 0 rfl (pv 0)) rfl) a_nil) ?h1) (a_cons (e_callH (C_whole_root.mono (by decide)) hr hot (a_cons (e_at (e_var 0 rfl (pv 0)) rfl) a_nil) ?h2) a_nil)) rfl (b_ret (e_ifD (t_w (w_and (t_eqI (e_mul ?h3 (e_var 1 rfl (pv 1)) (e_var 1 rfl (pv 1))) (e_at (e_var 0 rfl (pv 0)) rfl)) (fun hc => (w_and1 (t_eqI (e_mul ?h4 (e_var 2 rfl (pv 2)) (e_var 2 rfl (pv 2))) (e_at (e_var 0 rfl (pv 0)) rfl)))))) (fun hc => (e_tup (a_cons (e_var 1 rfl (pv 1)) (a_cons (e_var 2 rfl (pv 2)) a_nil)))) (fun hc => e_non)) ?h5))))
  case h0 =>
    exact q
  case h1 =>
    exact ⟨c.num.natAbs, by rw [Int.natAbs_of_nonneg (Rat.num_nonneg.mpr (Rat.le_of_lt h0))], Nat.lt_of_lt_of_le hs.1 (Nat.pow_le_pow_right (by decide) (by decide)), rfl⟩
  case h2 =>
    exact ⟨c.den, rfl, Nat.lt_of_lt_of_le hs.2 (Nat.pow_le_pow_right (by decide) (by decide)), rfl⟩
  case h3 =>
    exact cmulN (a := 1000) (b := 1000) (by rw [Int.natAbs_natCast]; exact sz_isq hs.1) (by rw [Int.natAbs_natCast]; exact sz_isq hs.1)
  case h4 =>
    exact cmulN (a := 1000) (b := 1000) (by rw [Int.natAbs_natCast]; exact sz_isq hs.2) (by rw [Int.natAbs_natCast]; exact sz_isq hs.2)
  case h5 =>
    have e : (decide ((isq c.num.natAbs : Int) * (isq c.num.natAbs : Int) = c.num) && decide ((isq c.den : Int) * (isq c.den : Int) = (c.den : Int))) = false := by
      rw [Bool.and_eq_false_iff]
      have h1 := no_root g h0
      have hn : 0 ≤ c.num := Rat.num_nonneg.mpr (Rat.le_of_lt h0)
      by_cases z : (isq c.num.natAbs : Int) * (isq c.num.natAbs : Int) = c.num
      · right
        refine decide_eq_false fun y => h1 ⟨?_, ?_⟩
        · rw [← Int.natCast_mul] at z
          omega
        · rw [← Int.natCast_mul] at y
          omega
      · exact .inl (decide_eq_false z)
    rw [e, if_neg Bool.false_ne_true]
    exact q

theorem h_rooted (T : Tp K mg) : Hb P w K mg base 5 "rooted" F_rooted := by
  have sc : FnScope ["a", "b", "c", "root"] ["a", "b", "c"] (defScope s_rooted) := ⟨rfl, rfl, rfl, by decide +kernel, rfl, by decide +kernel, by decide +kernel⟩
  have C_add := h_add (P := P) (w := w) (base := base) T
  have C_mul := h_mul (P := P) (w := w) (base := base) T
  have C_root_of := h_root_of (P := P) (w := w) (base := base) T
  have C_sign := h_sign (P := P) (w := w) (base := base) T
  refine T.hb 21 rfl rfl (st := s_rooted) sc (fun _ _ _ _ _ _ us hl => match us, hl with | [_, _, _], _ => rfl) (fun ds R hF => by obtain ⟨a, b, c, rfl, hu, q⟩ := hF; rfl) ?_
  intro f cdv A l s H E p hot W ds R hr hF
  obtain ⟨a, b, c, rfl, hu, q⟩ := hF
  refine' (b_if1 (t_w (w_or (t_eq (unitsH hr) ?h0 ?h1 (e_var 1 rfl (pv 1)) (g_ZERO T)) (fun hc => (w_or1 (t_eq (unitsH hr) ?h2 ?h3 (e_var 2 rfl (pv 2)) (g_ZERO T)))))) (fun hc => (b_ret (e_tup (a_cons (e_var 0 rfl (pv 0)) (a_cons (g_ZERO T) (a_cons (g_ZERO T) a_nil)))) ?h4)) (fun hc => (b_if1 (t_lt (e_callH (C_sign.mono (by decide)) hr hot (a_cons (e_var 2 rfl (pv 2)) a_nil) ?h5) e_int) (fun hc => ?h6) (fun hc => (b_set 3 sc.nd rfl (.inl rfl) (e_callH (d := .none) (C_root_of.mono (by decide)) hr hot (a_cons (e_var 2 rfl (pv 2)) a_nil) ?h7) (b_ret (e_if (t_isN (e_var 3 rfl (pv 3))) (fun hc => (e_tup (a_cons (e_var 0 rfl (pv 0)) (a_cons (e_var 1 rfl (pv 1)) (a_cons (e_var 2 rfl (pv 2)) a_nil))))) (fun hc => absurd hc (by decide))) ?h8))))))
  case h0 =>
    exact shQ _
  case h1 =>
    exact shQ _
  case h2 =>
    exact shQ _
  case h3 =>
    exact shQ _
  case h4 =>
    rw [eqvQ, eqvQ, Bool.or_eq_true, decide_eq_true_iff, decide_eq_true_iff] at hc
    have e : rtD a b c = encR a 0 0 := if_pos hc
    rw [e] at q
    exact q
  case h5 =>
    exact ⟨_, rfl, rfl⟩
  case h6 =>
    refine b_never ?_
    rename_i hc1
    rw [eqvQ, eqvQ, Bool.or_eq_false_iff, decide_eq_false_iff_not, decide_eq_false_iff_not] at hc1
    rcases hu with h | h | ⟨g, _⟩
    · exact hc1.1 h
    · exact hc1.2 h
    · have e : QM.sgn c = 1 := QM.sgn_pos g.pos
      rw [e] at hc
      simp at hc
  case h7 =>
    rename_i hc1
    rw [eqvQ, eqvQ, Bool.or_eq_false_iff, decide_eq_false_iff_not, decide_eq_false_iff_not] at hc1
    rcases hu with h | h | ⟨g, h⟩
    · exact absurd h hc1.1
    · exact absurd h hc1.2
    · exact ⟨c, rfl, g.pos, g.irr, h, rfl⟩
  case h8 =>
    rename_i hc1
    rw [eqvQ, eqvQ, Bool.or_eq_false_iff, decide_eq_false_iff_not, decide_eq_false_iff_not] at hc1
    have e : rtD a b c = encR a b c := if_neg (fun z => z.elim hc1.1 hc1.2)
    rw [e] at q
    exact q

theorem h_of_fraction (T : Tp K mg) : Hb P w K mg base 1 "of_fraction" F_of_fraction := by
  have sc : FnScope ["f"] ["f"] (defScope s_of_fraction) := ⟨rfl, rfl, rfl, by decide +kernel, rfl, by decide +kernel, by decide +kernel⟩
  refine T.hb 22 rfl rfl (st := s_of_fraction) sc (fun _ _ _ _ _ _ us hl => match us, hl with | [_], _ => rfl) (fun ds R hF => by obtain ⟨f, rfl, q⟩ := hF; rfl) ?_
  intro f cdv A l s H E p hot W ds R hr hF
  obtain ⟨f, rfl, q⟩ := hF
  refine' (b_ret (e_tup (a_cons (e_var 0 rfl (pv 0)) (a_cons (g_ZERO T) (a_cons (g_ZERO T) a_nil)))) ?h0)
  case h0 =>
    exact q

theorem h_common (T : Tp K mg) : Hb P w K mg base 1 "common" F_common := by
  have sc : FnScope ["r", "s"] ["r", "s"] (defScope s_common) := ⟨rfl, rfl, rfl, by decide +kernel, rfl, by decide +kernel, by decide +kernel⟩
  refine T.hb 25 rfl rfl (st := s_common) sc (fun _ _ _ _ _ _ us hl => match us, hl with | [_, _], _ => rfl) (fun ds R hF => by obtain ⟨a, b, c, a2, b2, c2, rfl, ho, q⟩ := hF; rfl) ?_
  intro f cdv A l s H E p hot W ds R hr hF
  obtain ⟨a, b, c, a2, b2, c2, rfl, ho, q⟩ := hF
  refine' (b_if1 (t_w (w_or (t_eq (unitsH hr) ?h0 ?h1 (e_at (e_var 0 rfl (pv 0)) rfl) (g_ZERO T)) (fun hc => (w_or1 (t_eq (unitsH hr) ?h2 ?h3 (e_at (e_var 1 rfl (pv 1)) rfl) (g_ZERO T)))))) (fun hc => (b_ret (e_ifD (t_eq (unitsH hr) ?h4 ?h5 (e_at (e_var 0 rfl (pv 0)) rfl) (g_ZERO T)) (fun hc => (e_at (e_var 1 rfl (pv 1)) rfl)) (fun hc => (e_at (e_var 0 rfl (pv 0)) rfl))) ?h6)) (fun hc => (b_if1 (t_ne (unitsH hr) ?h7 ?h8 (e_at (e_var 0 rfl (pv 0)) rfl) (e_at (e_var 1 rfl (pv 1)) rfl)) (fun hc => ?h9) (fun hc => (b_ret (e_at (e_var 0 rfl (pv 0)) rfl) ?h10)))))
  case h0 =>
    exact shQ _
  case h1 =>
    exact shQ _
  case h2 =>
    exact shQ _
  case h3 =>
    exact shQ _
  case h4 =>
    exact shQ _
  case h5 =>
    exact shQ _
  case h6 =>
    rw [eqvQ0]
    unfold cmn at q
    by_cases h : b = 0
    · rw [decide_eq_true h, if_pos rfl]
      rw [if_pos h] at q
      exact q
    · rw [decide_eq_false h, if_neg Bool.false_ne_true]
      rw [if_neg h] at q
      exact q
  case h7 =>
    exact shQ _
  case h8 =>
    exact shQ _
  case h9 =>
    refine b_never ?_
    rename_i hc1
    rw [eqvQ0, eqvQ0, Bool.or_eq_false_iff, decide_eq_false_iff_not, decide_eq_false_iff_not] at hc1
    rw [eqvQ] at hc
    rcases ho with h | h | h
    · exact hc1.1 h
    · exact hc1.2 h
    · rw [decide_eq_true h] at hc
      simp at hc
  case h10 =>
    rename_i hc1
    rw [eqvQ0, eqvQ0, Bool.or_eq_false_iff, decide_eq_false_iff_not, decide_eq_false_iff_not] at hc1
    have e : cmn b c c2 = c := if_neg hc1.1
    rw [e] at q
    exact q

theorem h_product (T : Tp K mg) : Hb P w K mg base 6 "product" F_product := by
  have sc : FnScope ["r", "s", "under", "first"] ["r", "s"] (defScope s_product) := ⟨rfl, rfl, rfl, by decide +kernel, rfl, by decide +kernel, by decide +kernel⟩
  have C_add := h_add (P := P) (w := w) (base := base) T
  have C_common := h_common (P := P) (w := w) (base := base) T
  have C_mul := h_mul (P := P) (w := w) (base := base) T
  have C_rooted := h_rooted (P := P) (w := w) (base := base) T
  refine T.hb 27 rfl rfl (st := s_product) sc (fun _ _ _ _ _ _ us hl => match us, hl with | [_, _], _ => rfl) (fun ds R hF => by obtain ⟨a, b, c, a2, b2, c2, rfl, ho, h1, h2, h3, h4, h5, h6, h7, h8, h9, h10, hu, q⟩ := hF; rfl) ?_
  intro f cdv A l s H E p hot W ds R hr hF
  obtain ⟨a, b, c, a2, b2, c2, rfl, ho, h1, h2, h3, h4, h5, h6, h7, h8, h9, h10, hu, q⟩ := hF
  refine' (b_set 2 sc.nd rfl (.inl rfl) (e_callH (C_common.mono (by decide)) hr hot (a_cons (e_var 0 rfl (pv 0)) (a_cons (e_var 1 rfl (pv 1)) a_nil)) ?h0) (b_set 3 sc.nd rfl (.inl rfl) (e_callH (C_add.mono (by decide)) hr hot (a_cons (e_callH (C_mul.mono (by decide)) hr hot (a_cons (e_at (e_var 0 rfl (pv 0)) rfl) (a_cons (e_at (e_var 1 rfl (pv 1)) rfl) a_nil)) ?h1) (a_cons (e_callH (C_mul.mono (by decide)) hr hot (a_cons (e_callH (C_mul.mono (by decide)) hr hot (a_cons (e_at (e_var 0 rfl (pv 0)) rfl) (a_cons (e_at (e_var 1 rfl (pv 1)) rfl) a_nil)) ?h2) (a_cons (e_var 2 rfl (pv 2)) a_nil)) ?h3) a_nil)) ?h4) (b_ret (e_callH (C_rooted.mono (by decide)) hr hot (a_cons (e_var 3 rfl (pv 3)) (a_cons (e_callH (C_add.mono (by decide)) hr hot (a_cons (e_callH (C_mul.mono (by decide)) hr hot (a_cons (e_at (e_var 0 rfl (pv 0)) rfl) (a_cons (e_at (e_var 1 rfl (pv 1)) rfl) a_nil)) ?h5) (a_cons (e_callH (C_mul.mono (by decide)) hr hot (a_cons (e_at (e_var 0 rfl (pv 0)) rfl) (a_cons (e_at (e_var 1 rfl (pv 1)) rfl) a_nil)) ?h6) a_nil)) ?h7) (a_cons (e_var 2 rfl (pv 2)) a_nil))) ?h8) ?h9)))
  case h0 =>
    exact ⟨_, _, _, _, _, _, rfl, ho, rfl⟩
  case h1 =>
    exact ⟨_, _, rfl, h1, h2, rfl⟩
  case h2 =>
    exact ⟨_, _, rfl, h3, h4, rfl⟩
  case h3 =>
    exact ⟨_, _, rfl, h7, h5, rfl⟩
  case h4 =>
    exact ⟨_, _, rfl, h6, h8, rfl⟩
  case h5 =>
    exact ⟨_, _, rfl, h1, h4, rfl⟩
  case h6 =>
    exact ⟨_, _, rfl, h3, h2, rfl⟩
  case h7 =>
    exact ⟨_, _, rfl, h9, h10, rfl⟩
  case h8 =>
    exact ⟨_, _, _, rfl, hu, rfl⟩
  case h9 =>
    exact q

theorem h_sign_two (T : Tp K mg) : Hb P w K mg base 6 "sign_two" F_sign_two := by
  have sc : FnScope ["a", "b", "c", "one", "other"] ["a", "b", "c"] (defScope s_sign_two) := ⟨rfl, rfl, rfl, by decide +kernel, rfl, by decide +kernel, by decide +kernel⟩
  have C_compare_fractions := h_compare_fractions (P := P) (w := w) (base := base) T
  have C_mul := h_mul (P := P) (w := w) (base := base) T
  have C_sign := h_sign (P := P) (w := w) (base := base) T
  refine T.hb 31 rfl rfl (st := s_sign_two) sc (fun _ _ _ _ _ _ us hl => match us, hl with | [_, _, _], _ => rfl) (fun ds R hF => by obtain ⟨a, b, c, rfl, ha, hb, hg, q⟩ := hF; rfl) ?_
  intro f cdv A l s H E p hot W ds R hr hF
  obtain ⟨a, b, c, rfl, ha, hb, hg, q⟩ := hF
  refine' (b_parH 3 4 hot sc.nd rfl rfl (by decide) rfl rfl (a_cons (e_callH (C_sign.mono (by decide)) hr hot (a_cons (e_var 0 rfl (pv 0)) a_nil) ?h0) (a_cons (e_ifI (t_ne (unitsH hr) ?h1 ?h2 (e_var 2 rfl (pv 2)) (g_ZERO T)) (fun hc => (e_callH (C_sign.mono (by decide)) hr hot (a_cons (e_var 1 rfl (pv 1)) a_nil) ?h3)) (fun hc => e_int)) a_nil)) rfl (b_if1 (t_ge (e_mul ?h4 (e_var 3 rfl (pv 3)) (e_var 4 rfl (pv 4))) e_int) (fun hc => (b_ret (e_ifD (t_neI (e_var 3 rfl (pv 3)) e_int) (fun hc => (e_var 3 rfl (pv 3))) (fun hc => (e_var 4 rfl (pv 4)))) ?h5)) (fun hc => (b_ret (e_mul ?h6 (e_var 3 rfl (pv 3)) (e_callH (d := .int (QM.sgn (a * a - b * b * c))) (C_compare_fractions.mono (by decide)) hr hot (a_cons (e_callH (C_mul.mono (by decide)) hr hot (a_cons (e_var 0 rfl (pv 0)) (a_cons (e_var 0 rfl (pv 0)) a_nil)) ?h7) (a_cons (e_callH (C_mul.mono (by decide)) hr hot (a_cons (e_callH (C_mul.mono (by decide)) hr hot (a_cons (e_var 1 rfl (pv 1)) (a_cons (e_var 1 rfl (pv 1)) a_nil)) ?h8) (a_cons (e_var 2 rfl (pv 2)) a_nil)) ?h9) a_nil)) ?h10)) ?h11))))
  case h0 =>
    exact ⟨_, rfl, rfl⟩
  case h1 =>
    exact shQ _
  case h2 =>
    exact shQ _
  case h3 =>
    exact ⟨_, rfl, rfl⟩
  case h4 =>
    refine cmulN (a := 2) (b := 2) (sgn_abs a) ?_
    split
    · exact sgn_abs b
    · decide
  case h5 =>
    have e0 : (if (!PyData.eqv (encQ c) (encQ 0)) = true then QM.sgn b else 0) = (if c ≠ 0 then QM.sgn b else 0) := by
      rw [eqvQ0]
      by_cases h : c = 0 <;> simp [h]
    rw [e0] at hc
    have hc1 := of_decide_eq_true hc
    unfold QM.sg2 at q
    simp only [] at q
    rw [if_pos hc1] at q
    rw [e0]
    by_cases h : QM.sgn a = 0
    · rw [decide_eq_true h]
      rw [if_neg (by simp [h])] at q
      exact q
    · rw [decide_eq_false h]
      rw [if_pos h] at q
      exact q
  case h6 =>
    refine cmulN (a := 2) (b := 2) (sgn_abs a) (sgn_abs _)
  case h7 =>
    exact ⟨_, _, rfl, ha.bd (by decide) (by decide), ha.bd (by decide) (by decide), rfl⟩
  case h8 =>
    exact ⟨_, _, rfl, hb.bd (by decide) (by decide), hb.bd (by decide) (by decide), rfl⟩
  case h9 =>
    exact ⟨_, _, rfl, (hb.mul hb).bd (by decide) (by decide), hg.bd (by decide) (by decide), rfl⟩
  case h10 =>
    exact ⟨_, _, rfl, (ha.mul ha).bd (by decide) (by decide), ((hb.mul hb).mul hg).bd (by decide) (by decide), rfl⟩
  case h11 =>
    have e0 : (if (!PyData.eqv (encQ c) (encQ 0)) = true then QM.sgn b else 0) = (if c ≠ 0 then QM.sgn b else 0) := by
      rw [eqvQ0]
      by_cases h : c = 0 <;> simp [h]
    rw [e0] at hc
    have hc1 := of_decide_eq_false hc
    unfold QM.sg2 at q
    simp only [] at q
    rw [if_neg hc1] at q
    exact q

theorem h_sign_three (T : Tp K mg) : Hb P w K mg base 7 "sign_three" F_sign_three := by
  have sc : FnScope ["a", "b", "c", "d", "e", "one", "other", "squares"] ["a", "b", "c", "d", "e"] (defScope s_sign_three) := ⟨rfl, rfl, rfl, by decide +kernel, rfl, by decide +kernel, by decide +kernel⟩
  have C_add := h_add (P := P) (w := w) (base := base) T
  have C_mul := h_mul (P := P) (w := w) (base := base) T
  have C_sign := h_sign (P := P) (w := w) (base := base) T
  have C_sign_two := h_sign_two (P := P) (w := w) (base := base) T
  have C_sub := h_sub (P := P) (w := w) (base := base) T
  have C_whole := h_whole (P := P) (w := w) (base := base) T
  refine T.hb 33 rfl rfl (st := s_sign_three) sc (fun _ _ _ _ _ _ us hl => match us, hl with | [_, _, _, _, _], _ => rfl) (fun ds R hF => by obtain ⟨a, b, c, d, e, rfl, hc0, he0, ha, hb, hg, hd, he, h1, h2, h3, q⟩ := hF; rfl) ?_
  intro f cdv A l s H E p hot W ds R hr hF
  obtain ⟨a, b, c, d, e, rfl, hc0, he0, ha, hb, hg, hd, he, h1, h2, h3, q⟩ := hF
  refine' (b_if1 (t_w (w_or (t_lt (e_callH (C_sign.mono (by decide)) hr hot (a_cons (e_var 2 rfl (pv 2)) a_nil) ?h0) e_int) (fun hc => (w_or1 (t_lt (e_callH (C_sign.mono (by decide)) hr hot (a_cons (e_var 4 rfl (pv 4)) a_nil) ?h1) e_int))))) (fun hc => ?h2) (fun hc => (b_parH 5 6 hot sc.nd rfl rfl (by decide) rfl rfl (a_cons (e_callH (C_sign_two.mono (by decide)) hr hot (a_cons (e_var 0 rfl (pv 0)) (a_cons (e_var 1 rfl (pv 1)) (a_cons (e_var 2 rfl (pv 2)) a_nil))) ?h3) (a_cons (e_ifI (t_ne (unitsH hr) ?h4 ?h5 (e_var 4 rfl (pv 4)) (g_ZERO T)) (fun hc => (e_callH (C_sign.mono (by decide)) hr hot (a_cons (e_var 3 rfl (pv 3)) a_nil) ?h6)) (fun hc => e_int)) a_nil)) rfl (b_if1 (t_ge (e_mul ?h7 (e_var 5 rfl (pv 5)) (e_var 6 rfl (pv 6))) e_int) (fun hc => (b_ret (e_ifD (t_neI (e_var 5 rfl (pv 5)) e_int) (fun hc => (e_var 5 rfl (pv 5))) (fun hc => (e_var 6 rfl (pv 6)))) ?h8)) (fun hc => (b_set 7 sc.nd rfl (.inl rfl) (e_callH (C_sub.mono (by decide)) hr hot (a_cons (e_callH (C_add.mono (by decide)) hr hot (a_cons (e_callH (C_mul.mono (by decide)) hr hot (a_cons (e_var 0 rfl (pv 0)) (a_cons (e_var 0 rfl (pv 0)) a_nil)) ?h9) (a_cons (e_callH (C_mul.mono (by decide)) hr hot (a_cons (e_callH (C_mul.mono (by decide)) hr hot (a_cons (e_var 1 rfl (pv 1)) (a_cons (e_var 1 rfl (pv 1)) a_nil)) ?h10) (a_cons (e_var 2 rfl (pv 2)) a_nil)) ?h11) a_nil)) ?h12) (a_cons (e_callH (C_mul.mono (by decide)) hr hot (a_cons (e_callH (C_mul.mono (by decide)) hr hot (a_cons (e_var 3 rfl (pv 3)) (a_cons (e_var 3 rfl (pv 3)) a_nil)) ?h13) (a_cons (e_var 4 rfl (pv 4)) a_nil)) ?h14) a_nil)) ?h15) (b_ret (e_mul ?h16 (e_var 5 rfl (pv 5)) (e_callH (d := .int (QM.sg2 (a * a + b * b * c - d * d * e) (a * b * 2) c)) (C_sign_two.mono (by decide)) hr hot (a_cons (e_var 7 rfl (pv 7)) (a_cons (e_callH (d := encQ (a * b * 2)) (C_mul.mono (by decide)) hr hot (a_cons (e_callH (C_mul.mono (by decide)) hr hot (a_cons (e_var 0 rfl (pv 0)) (a_cons (e_var 1 rfl (pv 1)) a_nil)) ?h17) (a_cons (e_callH (C_whole.mono (by decide)) hr hot (a_cons e_int a_nil) ?h18) a_nil)) ?h19) (a_cons (e_var 2 rfl (pv 2)) a_nil))) ?h20)) ?h21)))))))
  case h0 =>
    exact ⟨_, rfl, rfl⟩
  case h1 =>
    exact ⟨_, rfl, rfl⟩
  case h2 =>
    refine b_never ?_
    have n : ∀ z : Rat, 0 ≤ z → ¬ QM.sgn z < 0 := fun z hz y => by
      rcases QM.sgn_cases z with ⟨_, e⟩ | ⟨h, _⟩ | ⟨_, e⟩
      · rw [e] at y; exact absurd y (by decide)
      · grind
      · rw [e] at y; exact absurd y (by decide)
    rw [Bool.or_eq_true, decide_eq_true_iff, decide_eq_true_iff] at hc
    rcases hc with h | h
    · exact n c hc0 h
    · exact n e he0 h
  case h3 =>
    exact ⟨_, _, _, rfl, ha, hb, hg, rfl⟩
  case h4 =>
    exact shQ _
  case h5 =>
    exact shQ _
  case h6 =>
    exact ⟨_, rfl, rfl⟩
  case h7 =>
    refine cmulN (a := 2) (b := 2) (sg2_abs a b c) ?_
    split
    · exact sgn_abs d
    · decide
  case h8 =>
    have e0 : (if (!PyData.eqv (encQ e) (encQ 0)) = true then QM.sgn d else 0) = (if e ≠ 0 then QM.sgn d else 0) := by
      rw [eqvQ0]
      by_cases h : e = 0 <;> simp [h]
    rw [e0] at hc
    have hc1 := of_decide_eq_true hc
    unfold QM.sg3 at q
    simp only [] at q
    rw [if_pos hc1] at q
    rw [e0]
    by_cases h : QM.sg2 a b c = 0
    · rw [decide_eq_true h]
      rw [if_neg (by simp [h])] at q
      exact q
    · rw [decide_eq_false h]
      rw [if_pos h] at q
      exact q
  case h9 =>
    exact ⟨_, _, rfl, ha.bd (by decide) (by decide), ha.bd (by decide) (by decide), rfl⟩
  case h10 =>
    exact ⟨_, _, rfl, hb.bd (by decide) (by decide), hb.bd (by decide) (by decide), rfl⟩
  case h11 =>
    exact ⟨_, _, rfl, (hb.mul hb).bd (by decide) (by decide), hg.bd (by decide) (by decide), rfl⟩
  case h12 =>
    exact ⟨_, _, rfl, (ha.mul ha).bd (by decide) (by decide), ((hb.mul hb).mul hg).bd (by decide) (by decide), rfl⟩
  case h13 =>
    exact ⟨_, _, rfl, hd.bd (by decide) (by decide), hd.bd (by decide) (by decide), rfl⟩
  case h14 =>
    exact ⟨_, _, rfl, (hd.mul hd).bd (by decide) (by decide), he.bd (by decide) (by decide), rfl⟩
  case h15 =>
    exact ⟨_, _, rfl, h1, ((hd.mul hd).mul he).bd (by decide) (by decide), rfl⟩
  case h16 =>
    exact cmulN (a := 2) (b := 2) (sg2_abs a b c) (sg2_abs _ _ _)
  case h17 =>
    exact ⟨_, _, rfl, ha.bd (by decide) (by decide), hb.bd (by decide) (by decide), rfl⟩
  case h18 =>
    exact ⟨2, rfl, rfl⟩
  case h19 =>
    exact ⟨_, ((2 : Int) : Rat), rfl, (ha.mul hb).bd (by decide) (by decide), sz2.bd (by decide) (by decide), rfl⟩
  case h20 =>
    exact ⟨_, _, _, rfl, h2, h3, hg, rfl⟩
  case h21 =>
    have e0 : (if (!PyData.eqv (encQ e) (encQ 0)) = true then QM.sgn d else 0) = (if e ≠ 0 then QM.sgn d else 0) := by
      rw [eqvQ0]
      by_cases h : e = 0 <;> simp [h]
    rw [e0] at hc
    have hc1 := of_decide_eq_false hc
    unfold QM.sg3 at q
    simp only [] at q
    rw [if_neg hc1] at q
    exact q

theorem h_compare_signs (T : Tp K mg) : Hb P w K mg base 8 "compare_signs" F_compare_signs := by
  have sc : FnScope ["r", "s"] ["r", "s"] (defScope s_compare_signs) := ⟨rfl, rfl, rfl, by decide +kernel, rfl, by decide +kernel, by decide +kernel⟩
  have C_neg := h_neg (P := P) (w := w) (base := base) T
  have C_sign_three := h_sign_three (P := P) (w := w) (base := base) T
  have C_sub := h_sub (P := P) (w := w) (base := base) T
  refine T.hb 34 rfl rfl (st := s_compare_signs) sc (fun _ _ _ _ _ _ us hl => match us, hl with | [_, _], _ => rfl) (fun ds R hF => by obtain ⟨c0, a, b, c, q, a2, b2, c2, q2, g, o1, o2, rfl, hs, qq⟩ := hF; rfl) ?_
  intro f cdv A l s H E p hot W ds R hr hF
  obtain ⟨c0, a, b, c, q, a2, b2, c2, q2, g, o1, o2, rfl, hs, qq⟩ := hF
  refine' (b_ret (e_callH (d := .int (QM.sg3 (a - a2) b c (-b2) c2)) (C_sign_three.mono (by decide)) hr hot (a_cons (e_callH (C_sub.mono (by decide)) hr hot (a_cons (e_at (e_var 0 rfl (pv 0)) rfl) (a_cons (e_at (e_var 1 rfl (pv 1)) rfl) a_nil)) ?h0) (a_cons (e_at (e_var 0 rfl (pv 0)) rfl) (a_cons (e_at (e_var 0 rfl (pv 0)) rfl) (a_cons (e_callH (C_neg.mono (by decide)) hr hot (a_cons (e_at (e_var 1 rfl (pv 1)) rfl) a_nil) ?h1) (a_cons (e_at (e_var 1 rfl (pv 1)) rfl) a_nil))))) ?h2) ?h3)
  case h0 =>
    rcases hs with ⟨h1, _, _, h4, _, _⟩ | ⟨rfl, _, _, h4, _, _⟩
    · exact ⟨_, _, rfl, h1.bd (by decide) (by decide), h4.bd (by decide) (by decide), rfl⟩
    · exact ⟨_, _, rfl, h4.bd (by decide) (by decide), h4.bd (by decide) (by decide), rfl⟩
  case h1 =>
    exact ⟨_, rfl, rfl⟩
  case h2 =>
    rcases hs with ⟨h1, h2, h3, h4, h5, h6⟩ | ⟨rfl, rfl, rfl, h4, h5, h6⟩
    · have s1 := h1.sub h4
      have s2 := (s1.mul s1).add ((h2.mul h2).mul h3)
      have e5 : (-b2) * (-b2) = b2 * b2 := by grind
      have s3 := s2.sub ((h5.mul h5).mul h6)
      refine ⟨_, _, _, _, _, rfl, o1.nn g, o2.nn g, s1.mono (by decide) (by decide), h2.mono (by decide) (by decide), h3.mono (by decide) (by decide), h5.neg.mono (by decide) (by decide), h6.mono (by decide) (by decide), s2.bd (by decide) (by decide), ?_, ((s1.mul h2).mul sz2).mono (by decide) (by decide), rfl⟩
      rw [e5]
      exact s3.mono (by decide) (by decide)
    · have e0 : a - a = 0 := by grind
      rw [e0]
      have z0 : (0 : Rat) * 0 + b * b * c = b * b * c := by grind
      have z1 : b * b * c - -b * -b * c = 0 := by grind
      have z2 : 0 * b * 2 = (0 : Rat) := by grind
      refine ⟨_, _, _, _, _, rfl, o1.nn g, o2.nn g, sz00 (by decide) (by decide), h5.mono (by decide) (by decide), h6.mono (by decide) (by decide), h5.neg.mono (by decide) (by decide), h6.mono (by decide) (by decide), ?_, ?_, ?_, rfl⟩
      · rw [z0]
        exact ((h5.mul h5).mul h6).bd (by decide) (by decide)
      · rw [z0, z1]
        exact sz00 (by decide) (by decide)
      · rw [z2]
        exact sz00 (by decide) (by decide)
  case h3 =>
    have e := sg3_co (a := a - a2) g o1 o2.neg
    have e2 : q + -q2 = q - q2 := by grind
    rw [e2] at e
    rw [e]
    exact qq

theorem h__law_is (T : Tp K mg) : Hb P w K mg base 9 "_law_is" F__law_is := by
  have sc : FnScope ["r", "s"] ["r", "s"] (defScope s__law_is) := ⟨rfl, rfl, rfl, by decide +kernel, rfl, by decide +kernel, by decide +kernel⟩
  have C_compare_signs := h_compare_signs (P := P) (w := w) (base := base) T
  refine T.hb 62 rfl rfl (st := s__law_is) sc (fun _ _ _ _ _ _ us hl => match us, hl with | [_, _], _ => rfl) (fun ds R hF => by obtain ⟨c0, a, b, c, q, a2, b2, c2, q2, g, o1, o2, rfl, hs, qq⟩ := hF; rfl) ?_
  intro f cdv A l s H E p hot W ds R hr hF
  obtain ⟨c0, a, b, c, q, a2, b2, c2, q2, g, o1, o2, rfl, hs, qq⟩ := hF
  refine' (b_ret (e_eqI (e_callH (d := .int (QM.S c0 (a - a2) (q - q2))) (C_compare_signs.mono (by decide)) hr hot (a_cons (e_var 0 rfl (pv 0)) (a_cons (e_var 1 rfl (pv 1)) a_nil)) ?h0) e_int) ?h1)
  case h0 =>
    exact ⟨c0, a, b, c, q, a2, b2, c2, q2, g, o1, o2, rfl, hs, rfl⟩
  case h1 =>
    exact qq

end K65
end
section
set_option Elab.async false
set_option linter.all false
set_option maxRecDepth 100000
set_option maxHeartbeats 2000000
/-! DL10: defs that raise, try .. except over data. -/
namespace DL
open PySem PySem.Spec PyProof.Rows L2 L2H
/-- what a def that raises its class C promises -/
def spN (K : PySem.W.Frag) (C : Addr) (F : List D → Prop) : Sp := fun vs H _ E => ∃ (W : Wd) (ds : List D), W.B H ∧ DpAll K (mask W.M H) vs ds ∧ F ds ∧ ∀ H', W.B H' → Rel W.M H H' → E (.ref C) none H'
structure Cn (P : Program) (w : World) (K : PySem.W.Frag) (mg : Str → Option Value) (base : Heap) (k : Nat) (x : Str) (C : Addr) (F : List D → Prop) : Prop where
  ex : ∃ (f : Addr) (fd : FuncData) (ps : List Str), mg x = some (.ref f) ∧ PySem.W.keepIn K (.ref f) = true ∧ FG P w K mg base (L2N.CX P w) k f fd ps (spN K C F) ∧ Binds K fd ps []
theorem Cn.mono {P : Program} {w : World} {K : PySem.W.Frag} {mg : Str → Option Value} {base : Heap} {j k : Nat} {x : Str} {C : Addr} {F : List D → Prop} (c : Cn P w K mg base j x C F) (h : j ≤ k) : Cn P w K mg base k x C F := by
  obtain ⟨f, fd, ps, h1, h2, h3, h4⟩ := c.ex
  exact ⟨f, fd, ps, h1, h2, h3.mono h, h4⟩
/-- an expression that raises C -/
def tEN (K : PySem.W.Frag) (W : Wd) (ρ : En) (C : Addr) (Wx : WX) : TE := fun σ H _ => W.B H ∧ RE K (mask W.M H) σ ρ ∧ ∀ H', W.B H' → Rel W.M H H' → Wx (.ref C) none σ H'
/-- a block that raises C -/
def tNs (K : PySem.W.Frag) (W : Wd) (ρ : En) (C : Addr) (Wx : WX) : TS := fun _ σ H => W.B H ∧ RE K (mask W.M H) σ ρ ∧ ∀ σ' H', W.B H' → Rel W.M H H' → RE K (mask W.M H') σ' ρ → Wx (.ref C) none σ' H'
section
variable {X : Cx} {W : Wd} {ρ : En} {a b c e e1 e2 : Expr} {es : List Expr} {st : Stmt} {sa rest : List Stmt} {p pos pos' np : Pos} {x : Str} {C : Addr} {F : List D → Prop} {k : Nat} {Wx : WX} {Φ : Oc → Prop}
theorem x_call {ds : List D} (c : Cn X.prog X.w X.K X.mg X.base k x C F) (hr : Room k X.A) (hG : X.A.guards = some []) (tk : L2N.Takes X Wx) (ha : AD X W ρ (e :: es) ds) (h : F ds) (hg : Gl X x := by rfl) (hd : (x == ("__debug__" : Str)) = false := by decide)
    (he : starEach (e :: es) X.env = (false, eval e X.env) :: starEach es X.env := by rfl) (hpl : (backTo pos (starEach es X.env)).any (·.1) = false := by rfl) : PE X (.Call (.Name x p) (e :: es) [] pos) (tEN X.K W ρ C Wx) := by
  obtain ⟨f, fd, ps, h1, h2, h3, h4⟩ := c.ex
  refine ⟨fun pins s σ H Q I ⟨hB, hR, q⟩ => ?_⟩
  refine wpAny_Call_Name_kw (ld_glob I hg h1 ?_ hd)
  refine PySem.W.callWith_K (h₀ := X.base) I.ok.mod.kin h2 (thn (ha.run pos pins s σ H (fun vs H1 => spN X.K C F vs H1 Q (WE Wx σ)) I ⟨hB, hR, fun ds' vs H1 rs B1 l1 p1 => by
    subst rs
    exact ⟨W, ds', B1, p1, h, fun H' B' l' => q H' B' (l1.trans l')⟩⟩) fun us s1 z => ?_) he hpl
  obtain ⟨vs, H1, I1, r1, q1⟩ := z
  refine ⟨I1.kIn, ?_⟩
  have n1 : us.length = ps.length := by rw [← r1.length]; exact h3.sized _ _ _ _ q1
  have bt := h4 s1 us I1.kIn (by rw [List.append_nil]; exact n1)
  rw [List.append_nil] at bt
  refine wpAny_call (codeAny_mono (h3.goes X.A X.stack s1 H1 ⟨us, []⟩ us vs Q (WE Wx σ) hr hG I1.env0 bt r1 q1) fun r s' z => ?_)
  cases r with
  | error e => exact L2N.passAt tk σ pins H1 s1 e s' I1 z
  | ok fl =>
    cases fl with
    | ret u => exact I1.after z
    | next => exact False.elim z
    | brk => exact False.elim z
    | cont => exact False.elim z
theorem pss_nev : ∀ {sts : List Stmt}, PSs X sts tNever := fun {_} => ⟨fun _ _ _ _ _ _ h => h.elim⟩
/-- a call of a plain def, the last of three arguments raises -/
theorem n_ret3 {e3 : Expr} {d1 d2 : D} {y : Str} {kk : Nat} {G : List D → (D → Prop) → Prop} (c : Cb X.prog X.w X.K X.mg X.base kk y G) (hr : Room kk X.A) (hG : X.A.guards = some []) (h1 : ED X W ρ e1 d1) (h2 : ED X W ρ e2 d2) (h3 : PE X e3 (tEN X.K W ρ C Wx))
    (hg : Gl X y := by rfl) (hd : (y == ("__debug__" : Str)) = false := by decide)
    (hs3 : starEach [e3] X.env = (false, eval e3 X.env) :: starEach [] X.env := by rfl) (hs2 : starEach [e2, e3] X.env = (false, eval e2 X.env) :: starEach [e3] X.env := by rfl)
    (he : starEach [e1, e2, e3] X.env = (false, eval e1 X.env) :: starEach [e2, e3] X.env := by rfl) (hpl : (backTo p (starEach [e2, e3] X.env)).any (·.1) = false := by rfl) :
    PSs X (.Return (some (.Call (.Name y np) [e1, e2, e3] [] p)) pos :: rest) (tNs X.K W ρ C Wx) := by
  obtain ⟨f, fd, ps, g1, g2, g3, g4⟩ := c.ex
  refine pss_imp (pss_cons (ps_ret (pe_callG (E := fun _ _ _ => False) g3 hr hG hg g1 g2 g4 pass0 (pa_cons h1 (pa_cons h2 (pa_cons h3 pa_nil hs3) hs2) he) hd he hpl)) pss_nev) fun G σ H ⟨hB, hR, q⟩ => ?_
  refine ⟨hB, hR, fun d v H1 r B1 l1 p1 => ⟨B1, hR.mono l1, fun d v H2 r B2 l2 p2 => ⟨B2, (hR.mono l1).mono l2, fun H' B' l' => ?_⟩⟩⟩
  exact q σ H' B' ((l1.trans l2).trans l') (((hR.mono l1).mono l2).mono l')
theorem n_ifF {sa : List Stmt} (hc : TD X W ρ c false) (h : PSs X rest (tNs X.K W ρ C Wx)) : PSs X (.If c sa [] pos :: rest) (tNs X.K W ρ C Wx) :=
  pss_imp (pss_cons (ps_if hc pss_never pss_nil) h) fun G σ H ⟨hB, hR, q⟩ => ⟨hB, hR, fun H' B' l' => iteF ⟨B', hR.mono l', fun σ2 H2 B2 l2 r2 => q σ2 H2 B2 (l'.trans l2) r2⟩⟩
theorem n_ifT (hc : TD X W ρ c true) (h : PSs X sa (tNs X.K W ρ C Wx)) : PSs X (.If c sa [] pos :: rest) (tNs X.K W ρ C Wx) :=
  pss_imp (pss_cons (ps_if hc h pss_never) pss_nev) fun G σ H ⟨hB, hR, q⟩ => ⟨hB, hR, fun H' B' l' => iteT ⟨B', hR.mono l', fun σ2 H2 B2 l2 r2 => q σ2 H2 B2 (l'.trans l2) r2⟩⟩
theorem n_call {ds : List D} (c : Cn X.prog X.w X.K X.mg X.base k x C F) (hr : Room k X.A) (hG : X.A.guards = some []) (tk : L2N.Takes X Wx) (ha : AD X W ρ (e :: es) ds) (h : F ds) (hg : Gl X x := by rfl) (hd : (x == ("__debug__" : Str)) = false := by decide)
    (he : starEach (e :: es) X.env = (false, eval e X.env) :: starEach es X.env := by rfl) (hpl : (backTo p (starEach es X.env)).any (·.1) = false := by rfl) (hs : swapsWith (.Call (.Name x np) (e :: es) [] p) none pos.line X.env = pure false := by rfl) :
    PSs X (.Expr (.Call (.Name x np) (e :: es) [] p) pos :: rest) (tNs X.K W ρ C Wx) :=
  pss_imp (pss_cons (ps_expr (x_call c hr hG tk ha h hg hd he hpl) hs) pss_nev) fun G σ H ⟨hB, hR, q⟩ => ⟨hB, hR, fun H' B' l' => q σ H' B' l' (hR.mono l')⟩
/-- raise X(), X an own class -/
theorem pmk_own0 {bmB : List Value} {B newId initId : String} (F : ExcBaseFacts B newId initId bmB) (q : PySem.W.excIn X.K C bmB newId = true) (gC : X.mg x = some (.ref C)) (kC : PySem.W.keepIn X.K (.ref C) = true) (r : Raises X (.ref C)) (hg : Gl X x) (hdb : (x == ("__debug__" : Str)) = false := by decide) :
    L2N.PMk X (.Call (.Name x p) [] [] pos) (fun _ H Q => Q (.ref C) none H) := by
  intro pins s σ H Q I h
  refine wpAny_Call_Name_kw (ld_glob I hg gC (PySem.W.callWith_K0 I.kIn kC ?_) hdb)
  show wpAny _ _ (call (.ref C) []) _ _ _
  obtain ⟨bm, N, nm, qn, bs, hdct, sn, sub, ab, col, dd, k0, k1, k2, k3, k5, mN, hC, hN, hni, T⟩ := exc_obj I.kIn q
  exact wpAny_call_exc_subT F T hC hN hni (fun h' e hm => L2N.mk_of I hm r h (I.hok.gone hm.new)) (Nat.zero_le _)
theorem n_raise {bmB : List Value} {B newId initId : String} (hc : X.calm = true) (tk : L2N.Takes X Wx) (F : ExcBaseFacts B newId initId bmB) (q : PySem.W.excIn X.K C bmB newId = true) (gC : X.mg x = some (.ref C)) (kC : PySem.W.keepIn X.K (.ref C) = true) (r : Raises X (.ref C)) (hg : Gl X x := by rfl) (hdb : (x == ("__debug__" : Str)) = false := by decide) :
    PSs X (.Raise (some (.Call (.Name x p) [] [] pos)) none pos' :: rest) (tNs X.K W ρ C Wx) :=
  pss_imp (pss_cons (L2N.ps_raise hc tk (pmk_own0 F q gC kC r hg hdb)) pss_nev) fun G σ H ⟨hB, hR, q⟩ => q σ H hB (Rel.refl H) hR
/-- try: a block that raises; except X: a block -/
theorem b_try {body suite : List Stmt} {b₀ : Stmt} (hs : X.stack = X.env :: X.outer) (hf : X.env.frame = some X.env.locals) (hnm : Names X x (.ref C)) (hex : PySem.W.exmOne X.K (.ref C) (.ref C) = some true)
    (hb : ∀ (Wx : WX) (pn : List (Addr × Obj)) (xe : Value → Shared → Prop), L2N.Takes (X.tr pn xe) Wx → PSs (X.tr pn xe) body (tNs X.K W ρ C Wx))
    (hsu : ∀ (a : Addr) (pn : List (Addr × Obj)), HotC (X.suite a pn) → BD (X.suite a pn) W ρ (b₀ :: suite) (Thn X W rest Φ)) :
    BD X W ρ (.Try body [.ExceptHandler (some (.Name x np)) none (b₀ :: suite) pos'] [] [] pos :: rest) Φ := by
  refine b_cons ?_
  have hh : L2N.HdsOk X [.ExceptHandler (some (.Name x np)) none (b₀ :: suite) pos'] [((.ref C : Value), fun _ _ _ => tB X.K W ρ (Thn X W rest Φ))] :=
    .cons hnm (fun a oe cls d pn hz hv => by
      obtain ⟨vs, hv⟩ := hv
      have hot : HotC (X.suite a ((a, oe) :: pn)) := ⟨(a, oe), ⟨rfl, vs, hv, hz.2.2 vs hv⟩, List.mem_cons_self ..⟩
      exact hsu a _ hot) .nil
  refine ps_imp (L2N.ps_try_many hs hf (Wout := fun _ _ _ _ => False) (fun _ _ ⟨_, _, _, _, _, _, _, _, _, _, _, _, _, _, _, _, z⟩ => z.elim) (tb := fun Wx => tNs X.K W ρ C Wx) (fun Wx pn xe tk _ => hb Wx pn xe tk) hh) fun G σ H ⟨hB, hR, q1, q2, q3, q4⟩ => ?_
  refine ⟨hB, hR, fun σ' H' B' l' r' => ⟨true, hex, fun _ a _ => ⟨B', r', ?_, ?_, ?_, ?_⟩, fun z => by cases z⟩⟩
  · exact fun ρ2 σ2 H2 f B2 l2 r2 => q1 ρ2 σ2 H2 f B2 (l'.trans l2) r2
  · exact fun d v H2 f B2 l2 p2 => q2 d v H2 f B2 (l'.trans l2) p2
  · exact fun ρ2 σ2 H2 f B2 l2 r2 => q3 ρ2 σ2 H2 f B2 (l'.trans l2) r2
  · exact fun ρ2 σ2 H2 f B2 l2 r2 => q4 ρ2 σ2 H2 f B2 (l'.trans l2) r2
end
end DL
end
section
set_option linter.all false
/-! QM5: which fractions have no root. -/
namespace QM
theorem sq_lt {x y : Rat} (hx : 0 ≤ x) (hy : 0 ≤ y) (h : x * x < y * y) : x < y := by
  refine Rat.not_le.mp fun z => ?_
  have a1 : y * y ≤ x * y := Rat.mul_le_mul_of_nonneg_right z hy
  have a2 : x * y ≤ x * x := Rat.mul_le_mul_of_nonneg_left z hx
  grind
/-- between two squares is none -/
theorem irr_pos {N k : Nat} (h1 : k * k < N) (h2 : N < (k + 1) * (k + 1)) {y : Rat} (hy : 0 < y) : y * y ≠ (N : Rat) := by
  intro e
  have c1 : ((k : Rat) * (k : Rat)) < (N : Rat) := by
    have := Rat.natCast_lt_natCast.mpr h1
    rw [Rat.natCast_mul] at this
    exact this
  have c2 : (N : Rat) < ((k : Rat) + 1) * ((k : Rat) + 1) := by
    have := Rat.natCast_lt_natCast.mpr h2
    rw [Rat.natCast_mul, Rat.natCast_add] at this
    exact this
  have kn : (0 : Rat) ≤ (k : Rat) := by
    have := Rat.natCast_le_natCast.mpr (Nat.zero_le k)
    simpa using this
  have l1 : (k : Rat) < y := sq_lt kn (Rat.le_of_lt hy) (by rw [e]; exact c1)
  have l2 : y < (k : Rat) + 1 := sq_lt (Rat.le_of_lt hy) (by grind) (by rw [e]; exact c2)
  have ed : y * ((y.den : Int) : Rat) = (y.num : Rat) := by
    have := dmul (n := y.num) (d := (y.den : Int)) (by have := y.den_nz; omega)
    rw [Rat.num_divInt_den] at this
    exact this
  have dp : (0 : Rat) < ((y.den : Int) : Rat) := by
    have := Rat.intCast_lt_intCast.mpr (show (0 : Int) < (y.den : Int) by have := Nat.pos_of_ne_zero y.den_nz; omega)
    simpa using this
  -- r = num - k den stands above 0 and below den
  have er : ((y.num - (k : Int) * (y.den : Int) : Int) : Rat) = (y - (k : Rat)) * ((y.den : Int) : Rat) := by
    rw [Rat.intCast_sub, Rat.intCast_mul, ← ed, Rat.intCast_natCast k]
    grind
  have r0 : 0 < y.num - (k : Int) * (y.den : Int) := by
    have h : (0 : Rat) < ((y.num - (k : Int) * (y.den : Int) : Int) : Rat) := by rw [er]; exact Rat.mul_pos (by grind) dp
    have h2 : ((0 : Int) : Rat) < ((y.num - (k : Int) * (y.den : Int) : Int) : Rat) := by simpa using h
    exact Rat.intCast_lt_intCast.mp h2
  have r1 : y.num - (k : Int) * (y.den : Int) < (y.den : Int) := by
    have h : ((y.num - (k : Int) * (y.den : Int) : Int) : Rat) < ((y.den : Int) : Rat) := by
      rw [er]
      have : (y - (k : Rat)) * ((y.den : Int) : Rat) < 1 * ((y.den : Int) : Rat) := Rat.mul_lt_mul_of_pos_right (by grind) dp
      grind
    exact Rat.intCast_lt_intCast.mp h
  -- y is also (N den - k num) / r
  have key : y = Rat.divInt ((N : Int) * (y.den : Int) - (k : Int) * y.num) (y.num - (k : Int) * (y.den : Int)) := by
    have m1 := dmul (n := (N : Int) * (y.den : Int) - (k : Int) * y.num) (d := y.num - (k : Int) * (y.den : Int)) (by omega)
    have m2 : y * ((y.num - (k : Int) * (y.den : Int) : Int) : Rat) = (((N : Int) * (y.den : Int) - (k : Int) * y.num : Int) : Rat) := by
      rw [er, Rat.intCast_sub, Rat.intCast_mul, Rat.intCast_mul, ← ed, Rat.intCast_natCast N, Rat.intCast_natCast k, ← e]
      grind
    have rn : ((y.num - (k : Int) * (y.den : Int) : Int) : Rat) ≠ 0 := fun z => by
      have : y.num - (k : Int) * (y.den : Int) = 0 := Rat.intCast_inj.mp (by simpa using z)
      omega
    have i := Rat.mul_inv_cancel _ rn
    have h : y * (((y.num - (k : Int) * (y.den : Int) : Int) : Rat) * (((y.num - (k : Int) * (y.den : Int) : Int) : Rat))⁻¹) = Rat.divInt ((N : Int) * (y.den : Int) - (k : Int) * y.num) (y.num - (k : Int) * (y.den : Int)) * (((y.num - (k : Int) * (y.den : Int) : Int) : Rat) * (((y.num - (k : Int) * (y.den : Int) : Int) : Rat))⁻¹) := by
      rw [← Rat.mul_assoc, m2, ← m1, Rat.mul_assoc]
    rw [i] at h
    grind
  have hd : y.den ≤ (y.num - (k : Int) * (y.den : Int)).natAbs := by
    have h := congrArg Rat.den key
    rw [Rat.den_divInt, if_neg (by omega)] at h
    have := Nat.div_le_self (y.num - (k : Int) * (y.den : Int)).natAbs (Int.gcd (y.num - (k : Int) * (y.den : Int)) ((N : Int) * (y.den : Int) - (k : Int) * y.num))
    omega
  omega
theorem irr_nat {N k : Nat} (h1 : k * k < N) (h2 : N < (k + 1) * (k + 1)) (y : Rat) : y * y ≠ (N : Rat) := by
  intro e
  have hN : (0 : Rat) < (N : Rat) := by
    have := Rat.natCast_lt_natCast.mpr (show 0 < N by omega)
    simpa using this
  by_cases z : y = 0
  · subst z
    rw [show (0 : Rat) * 0 = 0 by grind] at e
    grind
  · by_cases p : 0 < y
    · exact irr_pos h1 h2 p e
    · exact irr_pos h1 h2 (y := -y) (by grind) (by rw [← e]; grind)
theorem good_of (n d k : Nat) (hn : 0 < n) (hd : 0 < d) (h1 : k * k < n * d) (h2 : n * d < (k + 1) * (k + 1)) : Good ((n : Rat) / (d : Rat)) := by
  have dp : (0 : Rat) < (d : Rat) := by
    have := Rat.natCast_lt_natCast.mpr hd
    simpa using this
  have np : (0 : Rat) < (n : Rat) := by
    have := Rat.natCast_lt_natCast.mpr hn
    simpa using this
  have c : (n : Rat) / (d : Rat) * (d : Rat) = (n : Rat) := Rat.div_mul_cancel (by grind)
  refine ⟨?_, fun x e => ?_⟩
  · refine Rat.not_le.mp fun z => ?_
    have : (n : Rat) / (d : Rat) * (d : Rat) ≤ 0 * (d : Rat) := Rat.mul_le_mul_of_nonneg_right z (Rat.le_of_lt dp)
    grind
  · refine irr_nat h1 h2 (x * (d : Rat)) ?_
    rw [Rat.natCast_mul]
    grind
end QM
end
section
set_option Elab.async false
set_option linter.all false
set_option maxRecDepth 100000
set_option maxHeartbeats 8000000
set_option exponentiation.threshold 20000
namespace K65
open PySem PySem.Spec PyProof.Rows L2 DL QM L2H
variable {K : PySem.W.Frag} {mg : Str → Option Value} {P : Program} {w : World} {base : Heap}
/-! ### _law_bag -/
section
variable {X : Cx} {W : Wd} {ρ : En} {a e elt : Expr} {pos pos' p2 p3 : Pos} {x : Str} {i : Nat} {scope : Scope} {Rj : Nat → D → Prop}
theorem e_headL {ds : List D} {n k : Nat} (ha : ED X W ρ a (.list ds)) : ED X W ρ (.Subscript a (.Slice none (some (.Constant (.int n) k p2)) none p3) pos) (.list (ds.take n)) :=
  pe_imp (pe_slice sl_list ha po_none (po_some pe_int)) fun σ H Q ⟨hB, hR, q⟩ => ⟨hB, hR, fun d v H' r B' l' p' => by
    subst r
    obtain ⟨t, xs, e1, e2, e3⟩ := dp_lst p'
    refine ⟨(n : Int), rfl, t, xs, e1, Same.seq mask_le e2, fun pp hp => ?_⟩
    obtain ⟨c1, c2, c3⟩ := W.new (o := .lst (cutV xs none (some (n : Int)))) B' hp
    refine q _ _ _ rfl c1 (l'.trans c2) ?_
    have e4 : cutV xs none (some (n : Int)) = (xs.drop 0).take n := by
      unfold cutV
      have z1 : HT.sIx xs.length 0 none = 0 := rfl
      have z2 : HT.sIx xs.length xs.length (some (n : Int)) = min n xs.length := by
        unfold HT.sIx
        simp only
        rw [if_neg (by omega)]
        omega
      rw [z1, z2, List.drop_zero, Nat.sub_zero]
      by_cases h : n ≤ xs.length
      · rw [Nat.min_eq_left h]
      · rw [Nat.min_eq_right (by omega), List.take_length, List.take_of_length_le (by omega)]
    have e5 : ds.take n = (ds.drop 0).take n := by rw [List.drop_zero]
    rw [e4, e5]
    exact dp_newL B' hp (dps_cut e3 0 n)⟩
def tLcR (K : PySem.W.Frag) (W : Wd) (ρ : En) (n : Nat) (Rj : Nat → D → Prop) : TE := fun σ H Q => W.B H ∧ RE K (mask W.M H) σ ρ ∧
  ∀ (L : Addr) (vs : List V) (res : List D) (H' : Hp), H' L = some (.lst vs) → DpAll K (mask (W.push L []).M H') vs res → res.length = n → (∀ (i : Nat) (r : D), res[i]? = some r → Rj i r) → W.B H' → Q (.ref L) H'
theorem pe_lcR {ds : List D} (hc : X.calm = true) (nd : X.N.Nodup) (ok : blkC X.N X.env.scope scope [(x, i)] = true) (hi : X.N[i]? = some x) (he : ED X W ρ e (.list ds)) (hz : ds.length ≤ 1000)
    (hx : BlkX X scope fun Y => Loc Y.env.scope x ∧ (Y.fn x = true ∨ Y.env.scope.names.lookup x = some .local))
    (hel : BlkX X scope fun Y => ∀ (D : Addr) (acc : List V) (j : Nat) (d : DL.D), W.M D = false → ds[j]? = some d → EDr Y (W.push D acc) ((ρ.set i .no).set i (.d d)) elt (Rj j))
    (hs : ∀ z, foldedSetIterable e X.env z = pure z := by intro _; rfl) : PE X (.ListComp elt [⟨.Name x pos', e, [], 0⟩] scope pos) (tLcR X.K W ρ ds.length Rj) := by
  have hte : BlkX X scope fun Y => PE Y elt (tEl X.K W ρ i (fun j d => ds[j]? = some d) Rj) :=
    fun s H C cl fp => ⟨fun pins s' σ H' Q I ⟨D, acc, j, d, h1, h2, h3⟩ => (hel s H C cl fp D acc j d h1 h2).run pins s' σ H' Q I h3⟩
  refine pe_imp (pe_lc (own := [(x, i)]) hc nd (pi_list he) (blkOk_by ok) (fun s H C cl fp => pg_name (i := i) nd hi (hx s H C cl fp).1 (hx s H C cl fp).2) (fun _ _ _ _ _ => pts_nil) hte hs) fun σ H Q ⟨hB, hR, q⟩ => ?_
  refine ⟨hB, hR, fun d v H1 r B1 l1 p1 => ?_⟩
  subst r
  obtain ⟨t, xs, e1, e2, e3⟩ := dp_lst p1
  have hlen := DpAll.len e3
  refine ⟨t, e1, ⟨xs, Same.seq mask_le e2⟩, fun D hD => ?_⟩
  have hm : W.M D = false := (W.st H1 D (.lst []) B1 hD).1
  refine lc_list (K := X.K) (a := t) (xs := xs) (g := gName i) (tt := tYes) (te := tEl X.K W ρ i (fun j d => ds[j]? = some d) Rj) (vs := [i]) (σ := σ) (Qd := fun H2 => Q (.ref D) H2) (LcI X.K W H1 D Rj) (lcI_0 B1 hD) (fun j H2 _ h => ?_) (fun j v2 H2 hj h => ?_) fun H2 h => ?_
  · obtain ⟨_, _, _, l, _⟩ := h
    exact Same.seq mask_le (Same.seq l e2)
  · obtain ⟨d, g1, g2⟩ := DpAll.getV e3 hj
    refine ⟨?_, ?_⟩
    · show ((σ.set i none).set i (some v2)).set i none = σ.set i none
      rw [List.set_set, List.set_set]
    · unfold tYes
      refine iteT ?_
      exact lcI_turn (te := fun _ => fun _ _ _ => True) (i := i) (n := ds.length) hD hm (hR.mono l1) (List.getElem?_eq_some_iff.mp g1).1 hz h g2 fun acc H3 σ3 Q3 z => ⟨D, acc, j, d, hm, g1, z⟩
  · obtain ⟨vs, res, hB2, _, hd, p, hl, hr⟩ := h
    exact q D vs res H2 hd p (by rw [hl, hlen]) hr hB2
end
theorem ints_of {K : PySem.W.Frag} {H : Hp} : ∀ {vs : List V} {res : List D}, DpAll K H vs res → (∀ r ∈ res, ∃ c : Int, r = .int c ∧ 0 ≤ c) → ∃ cs : List Int, vs = cs.map V.int ∧ (∀ c ∈ cs, 0 ≤ c) ∧ cs.length = res.length
  | _, [], h, _ => by cases h; exact ⟨[], rfl, fun c hc => absurd hc List.not_mem_nil, rfl⟩
  | _, r :: res, h, hr => by
    cases h with
    | cons h1 h2 =>
      obtain ⟨c, rfl, hc⟩ := hr r (List.mem_cons_self ..)
      obtain ⟨cs, rfl, hcs, hl⟩ := ints_of h2 (fun r hm => hr r (List.mem_cons_of_mem _ hm))
      rw [dp_int h1]
      exact ⟨c :: cs, rfl, fun z hz => (List.mem_cons.mp hz).elim (fun e => by rw [e]; exact hc) (hcs z), by rw [List.length_cons, List.length_cons, hl]⟩
theorem dps_ints {K : PySem.W.Frag} {H : Hp} : ∀ ns : List Int, DpAll K H (ns.map V.int) (ns.map PyData.int)
  | [] => .nil
  | n :: ns => .cons (.int n) (dps_ints ns)
def spBag (K : PySem.W.Frag) : Sp := fun vs H Q _ => ∃ (a : Addr) (ns : List Int), vs = [.ref a] ∧ SqL K H a (ns.map V.int) ∧ ∀ b l H', BagAt b l H' → Q (.ref b) H'
theorem c__law_bag (T : Tp K mg) : ∃ (f : Addr) (fd : FuncData), mg "_law_bag" = some (.ref f) ∧ PySem.W.keepIn K (.ref f) = true ∧ FG P w K mg base CX0 1 f fd ["script"] (spBag K) ∧ Binds K fd ["script"] [] := by
  have sc : FnScope ["script", "cell"] ["script"] (defScope s__law_bag) := ⟨rfl, rfl, rfl, by decide +kernel, rfl, by decide +kernel, by decide +kernel⟩
  obtain ⟨fd, U⟩ := T.c.def_ (K := K) (i := 50) (d := ⟨("_law_bag", none), "_law_bag", "_law_bag", defArgs s__law_bag, defBody s__law_bag, defScope s__law_bag, [], []⟩) rfl
  have hb : Binding "_law_bag" "_law_bag" ["script"] s__law_bag := fun _ _ _ _ _ _ us hl => match us, hl with | [_], _ => rfl
  refine ⟨_, fd, T.glo 50 rfl, U.kp, FG.of U sc (fun vs H Q E q => ?_) (fun cdv A l0 s H vs Q E hr hG q => ?_), U.bindsN hb⟩
  · obtain ⟨a, ns, rfl, _⟩ := q
    rfl
  obtain ⟨a, ns, rfl, hS, q⟩ := q
  let X : Cx := (cxOf CX0 P w K mg base ["script", "cell"] "_law_bag" (defScope s__law_bag) (He.ga K "_law_bag") cdv A l0 s H E).nox
  have bd : PSs X (defBody s__law_bag) (tSeq (tRet (tLst (tCons (tC (.int 0)) (tCons (tC (.int 1234567891)) (tCons (tC (.int 0)) (tCons (tLcR K Wd.pure [.d (.list (ns.map PyData.int)), .no] ((ns.map PyData.int).take 63).length (fun _ r => ∃ c : Int, r = .int c ∧ 0 ≤ c)) tNil)))))) tNext) := by
    refine pss_cons (ps_ret (pe_lst (pa_cons pe_int (pa_cons pe_int (pa_cons pe_int (pa_cons (pe_lcR (X := X) (i := 1) (x := "cell") (ds := (ns.map PyData.int).take 63) rfl sc.nd (show blkC ["script", "cell"] (defScope s__law_bag) _ [("cell", 1)] = true by decide +kernel) rfl (e_headL (e_var 0 rfl (pv 0))) (Nat.le_trans (List.length_take_le ..) (by decide)) (fun _ _ _ _ _ => ⟨.inl rfl, .inr rfl⟩) ?hel) pa_nil)))))) pss_nil
    case hel =>
      intro s1 H1 C1 cl fp D1 acc j d hD hj
      have hm : d ∈ ns.map PyData.int := List.mem_of_mem_take (List.mem_of_getElem? hj)
      obtain ⟨n, _, rfl⟩ := List.mem_map.mp hm
      exact EDr.weak (e_abs T.f_abs (e_var 1 rfl (pv 1))) fun r e => ⟨_, e, by omega⟩
  refine ⟨_, bd.nox, ?_⟩
  have hR : RE K (mask Wd.pure.M H) (L2.start ["script", "cell"] [V.ref a]) [.d (.list (ns.map PyData.int)), .no] := by
    refine ⟨rfl, fun i x e => ?_⟩
    match i, e with
    | 0, e =>
      cases e
      have e1 : mask Wd.pure.M H = H := mask_no
      rw [e1]
      exact ⟨.ref a, rfl, .lst hS (dps_ints ns)⟩
    | 1, e => cases e; trivial
    | i + 2, e => cases e
  refine ⟨trivial, hR, fun L vs res H' h1 h2 h3 h4 _ => ?_⟩
  refine ⟨by show 4 ≤ sizeLine; decide, fun b hb => ?_⟩
  obtain ⟨cs, rfl, hcs, hl⟩ := ints_of h2 (fun r hm => by
    obtain ⟨i, hi⟩ := List.getElem?_of_mem hm
    exact h4 i r hi)
  have ne : b ≠ L := fun z => by
    subst z
    rw [h1] at hb
    cases hb
  refine q b L _ ⟨ne, 0, 1234567891, 0, cs, upd_same, by rw [upd_ne (Ne.symm ne)]; exact h1, by decide, ⟨by decide, by decide⟩, by decide, hcs, ?_⟩
  rw [hl, h3]
  exact List.length_take_le ..
/-! ### what raises -/
theorem Tp.nothing (T : Tp K mg) : mg "Nothing" = some (.ref (He.ga K "Nothing")) ∧ PySem.W.excIn K (He.ga K "Nothing") He.veBase "ValueError.__new__" = true ∧ PySem.W.keepIn K (.ref (He.ga K "Nothing")) = true ∧ PySem.W.subIn K (.ref (He.ga K "Nothing")) (.type "BaseException") = some true ∧ PySem.W.typeIn K (.ref (He.ga K "Nothing")) = some (.type "type") ∧ PySem.W.exmOne K (.ref (He.ga K "Nothing")) (.ref (He.ga K "Nothing")) = some true := by
  have e1 := He.exc_ok (T.c.fact 85 (f := .exc "Nothing") rfl)
  have e2 := He.exm_ok (T.c.fact 86 (f := .exm "Nothing" "Nothing" true) rfl)
  exact ⟨T.glo 84, e1.1, e1.2.1, e1.2.2.1, e1.2.2.2, e2⟩
theorem Tp.cn (T : Tp K mg) (i : Nat) {x name qual : Str} {st : Stmt} {N ps : List Str} {k : Nat} {F : List D → Prop}
    (hd : fn[i]? = some ⟨(x, none), name, qual, defArgs st, defBody st, defScope st, [], []⟩) (hf : fa[i]? = some (.glo x)) (S : FnScope N ps (defScope st)) (hb : Binding name qual ps st) (hl : ∀ ds, F ds → ds.length = ps.length)
    (hbody : ∀ (f : Addr) (cdv : Value) (A : Around) (l : List Env) (s : Shared) (H : Hp) (E : XK) (W : Wd) (ds : List D), Room k (A.deeper (envOfC qual (defScope st) s.heap.objs.size f cdv)) → (A.deeper (envOfC qual (defScope st) s.heap.objs.size f cdv)).guards = some [] → F ds →
      PSs (cxOf (L2N.CX P w) P w K mg base N qual (defScope st) f cdv A l s H E) (defBody st) (tNs K W (startE N.length ds) (He.ga K "Nothing") (fun cls d _ H' => E cls d H'))) : Cn P w K mg base (k + 1) x (He.ga K "Nothing") F := by
  obtain ⟨fd, U⟩ := T.c.def_ i hd
  refine ⟨_, fd, ps, T.glo i hf, U.kp, FG.of U S (fun vs H Q E q => ?_) (fun cdv A l s H vs Q E hr hG q => ?_), U.bindsN hb⟩
  · obtain ⟨W, ds, _, p1, f1, _⟩ := q
    rw [DpAll.len p1]
    exact hl ds f1
  · obtain ⟨W, ds, hB, p1, f1, q1⟩ := q
    exact ⟨_, hbody _ cdv A l s H E W ds hr hG f1, hB, re_start p1, fun σ' H' B' l' _ => q1 H' B' l'⟩
theorem x_common (T : Tp K mg) : Cn P w K mg base 1 "common" (He.ga K "Nothing") (fun ds => ∃ a b c a2 b2 c2 : Rat, ds = [encR a b c, encR a2 b2 c2] ∧ b ≠ 0 ∧ b2 ≠ 0 ∧ c ≠ c2) := by
  have sc : FnScope ["r", "s"] ["r", "s"] (defScope s_common) := ⟨rfl, rfl, rfl, by decide +kernel, rfl, by decide +kernel, by decide +kernel⟩
  refine T.cn 25 rfl rfl (st := s_common) sc (fun _ _ _ _ _ _ us hl => match us, hl with | [_, _], _ => rfl) (fun ds hF => by obtain ⟨a, b, c, a2, b2, c2, rfl, _⟩ := hF; rfl) ?_
  intro f cdv A l s H E W ds hr hG hF
  obtain ⟨a, b, c, a2, b2, c2, rfl, h1, h2, h3⟩ := hF
  obtain ⟨n1, n2, n3, n4, n5, _⟩ := T.nothing
  refine n_ifF (TD.to (t_w (w_or (t_eq hr.units (shQ b) (shQ 0) (e_at (e_var 0 rfl (pv 0)) rfl) (g_ZERO T)) (fun hc => (w_or1 (t_eq hr.units (shQ b2) (shQ 0) (e_at (e_var 1 rfl (pv 1)) rfl) (g_ZERO T)))))) ?_) (n_ifT (TD.to (t_ne hr.units (shQ c) (shQ c2) (e_at (e_var 0 rfl (pv 0)) rfl) (e_at (e_var 1 rfl (pv 1)) rfl)) ?_) (n_raise rfl (L2N.takes_of rfl rfl rfl rfl) PySem.F.excBase_ValueError n2 n1 n3 (raises_own n4 n5)))
  · rw [eqvQ0, eqvQ0, decide_eq_false h1, decide_eq_false h2]
    rfl
  · rw [eqvQ, decide_eq_false h3]
    rfl
theorem x_rooted (T : Tp K mg) : Cn P w K mg base 2 "rooted" (He.ga K "Nothing") (fun ds => ∃ a b c : Rat, ds = [encQ a, encQ b, encQ c] ∧ b ≠ 0 ∧ c < 0) := by
  have sc : FnScope ["a", "b", "c", "root"] ["a", "b", "c"] (defScope s_rooted) := ⟨rfl, rfl, rfl, by decide +kernel, rfl, by decide +kernel, by decide +kernel⟩
  have C_sign := c_sign (P := P) (w := w) (base := base) T
  refine T.cn 21 rfl rfl (st := s_rooted) sc (fun _ _ _ _ _ _ us hl => match us, hl with | [_, _, _], _ => rfl) (fun ds hF => by obtain ⟨a, b, c, rfl, _⟩ := hF; rfl) ?_
  intro f cdv A l s H E W ds hr hG hF
  obtain ⟨a, b, c, rfl, h1, h2⟩ := hF
  obtain ⟨n1, n2, n3, n4, n5, _⟩ := T.nothing
  refine n_ifF (TD.to (t_w (w_or (t_eq hr.units (shQ b) (shQ 0) (e_var 1 rfl (pv 1)) (g_ZERO T)) (fun hc => (w_or1 (t_eq hr.units (shQ c) (shQ 0) (e_var 2 rfl (pv 2)) (g_ZERO T)))))) ?_) (n_ifT (TD.to (t_lt (e_call (d := .int (sgn c)) (C_sign.mono (by decide)) hr hG (a_cons (e_var 2 rfl (pv 2)) a_nil) ⟨_, rfl, rfl⟩) e_int) ?_) (n_raise rfl (L2N.takes_of rfl rfl rfl rfl) PySem.F.excBase_ValueError n2 n1 n3 (raises_own n4 n5)))
  · rw [eqvQ0, eqvQ0, decide_eq_false h1, decide_eq_false (by grind)]
    rfl
  · rw [sgn_neg h2]
    rfl
theorem x_added (T : Tp K mg) : Cn P w K mg base 6 "added" (He.ga K "Nothing") (fun ds => ∃ a b c a2 b2 c2 : Rat, ds = [encR a b c, encR a2 b2 c2] ∧ b ≠ 0 ∧ b2 ≠ 0 ∧ c ≠ c2 ∧ Bd a ∧ Bd a2 ∧ Bd b ∧ Bd b2) := by
  have sc : FnScope ["r", "s"] ["r", "s"] (defScope s_added) := ⟨rfl, rfl, rfl, by decide +kernel, rfl, by decide +kernel, by decide +kernel⟩
  have C_add := c_add (P := P) (w := w) (base := base) T
  have C_rooted := c_rooted (P := P) (w := w) (base := base) T
  have C_common := x_common (P := P) (w := w) (base := base) T
  refine T.cn 26 rfl rfl (st := s_added) sc (fun _ _ _ _ _ _ us hl => match us, hl with | [_, _], _ => rfl) (fun ds hF => by obtain ⟨a, b, c, a2, b2, c2, rfl, _⟩ := hF; rfl) ?_
  intro f cdv A l s H E W ds hr hG hF
  obtain ⟨a, b, c, a2, b2, c2, rfl, h1, h2, h3, k1, k2, k3, k4⟩ := hF
  exact n_ret3 (C_rooted.mono (by decide)) hr hG (e_call (d := encQ (a + a2)) (C_add.mono (by decide)) hr hG (a_cons (e_at (e_var 0 rfl (pv 0)) rfl) (a_cons (e_at (e_var 1 rfl (pv 1)) rfl) a_nil)) ⟨_, _, rfl, k1, k2, rfl⟩) (e_call (d := encQ (b + b2)) (C_add.mono (by decide)) hr hG (a_cons (e_at (e_var 0 rfl (pv 0)) rfl) (a_cons (e_at (e_var 1 rfl (pv 1)) rfl) a_nil)) ⟨_, _, rfl, k3, k4, rfl⟩)
    (x_call (C_common.mono (by decide)) hr hG (L2N.takes_of rfl rfl rfl rfl) (a_cons (e_var 0 rfl (pv 0)) (a_cons (e_var 1 rfl (pv 1)) a_nil)) ⟨_, _, _, _, _, _, rfl, h1, h2, h3⟩)
end K65
end
section
set_option Elab.async false
set_option linter.all false
set_option maxRecDepth 100000
set_option maxHeartbeats 8000000
set_option exponentiation.threshold 20000
namespace K65
open PySem PySem.Spec PyProof.Rows L2 DL QM L2H
variable {K : PySem.W.Frag} {mg : Str → Option Value} {P : Program} {w : World} {base : Heap}
def CGood (d : D) : Prop := ∃ c : Rat, d = encQ c ∧ Good c ∧ Sz c 40 30
theorem cgood (n d k : Nat) (hn : 0 < n) (hd : 0 < d) (h1 : k * k < n * d) (h2 : n * d < (k + 1) * (k + 1)) (e1 : ((n : Rat) / (d : Rat)).num = (n : Int)) (e2 : ((n : Rat) / (d : Rat)).den = d) (b1 : n < 2 ^ 40) (b2 : d < 2 ^ 30) {m : Int} {m2 : Int} (em : m = (n : Int)) (em2 : m2 = (d : Int)) : CGood (.tuple [.int m, .int m2]) := by
  subst em em2
  exact ⟨(n : Rat) / (d : Rat), encQ_of e1 e2, good_of n d k hn hd h1 h2, by rw [e1, Int.natAbs_natCast]; exact b1, by rw [e2]; exact b2⟩
theorem good2 : Good 2 := by
  have h := good_of 2 1 1 (by decide) (by decide) (by decide) (by decide)
  have e : (((2 : Nat) : Rat) / ((1 : Nat) : Rat)) = 2 := by decide +kernel
  rw [e] at h
  exact h
def spLaw (K : PySem.W.Frag) : Sp := fun vs H Q _ => ∃ (a : Addr) (ns : List Int), vs = [.ref a] ∧ SqL K H a (ns.map V.int) ∧ ∀ H', Q (.bl true) H'
/-- from a bag on -/
def tBag (K : PySem.W.Frag) (ρ : Addr → En) (Φ : Oc → Prop) : TS := fun G σ H => ∃ b l, tB K (bagW b l) (ρ b) Φ G σ H
theorem pss_bag {X : Cx} {sts : List Stmt} {ρ : Addr → En} {Φ : Oc → Prop} (h : ∀ b l, BD X (bagW b l) (ρ b) sts Φ) : PSs X sts (tBag X.K ρ Φ) := ⟨fun pins s σ H G I ⟨b, l, q⟩ => (h b l).run pins s σ H G I q⟩
theorem c_law (T : Tp K mg) {fd : FuncData} (U : FunD K "law" "law" (defArgs s_law) (defBody s_law) (defScope s_law) [] [] (He.ga K "law") fd) : FG P w K mg base CX0 13 (He.ga K "law") fd ["script"] (spLaw K) := by
  have sc : FnScope ["script", "bag", "turn", "c", "two", "three"] ["script"] (defScope s_law) := ⟨rfl, rfl, rfl, by decide +kernel, rfl, by decide +kernel, by decide +kernel⟩
  have C_some := c__law_some (P := P) (w := w) (base := base) T
  have C_rules := c__law_rules_so (P := P) (w := w) (base := base) T
  have C_order := c__law_order_so (P := P) (w := w) (base := base) T
  have C_alike := c__law_alike_so (P := P) (w := w) (base := base) T
  have C_fracs := c__law_fractions_so (P := P) (w := w) (base := base) T
  have X_added := x_added (P := P) (w := w) (base := base) T
  have X_rooted := x_rooted (P := P) (w := w) (base := base) T
  have H_is := h__law_is (P := P) (w := w) (base := base) T
  have H_product := h_product (P := P) (w := w) (base := base) T
  have H_off := h_of_fraction (P := P) (w := w) (base := base) T
  obtain ⟨fb, fdb, gB, kB, FB, bB⟩ := c__law_bag (P := P) (w := w) (base := base) T
  obtain ⟨n1, n2, n3, n4, n5, n6⟩ := T.nothing
  refine FG.of U sc (fun vs H Q E q => ?_) (fun cdv A l0 s H vs Q E hr hG q => ?_)
  · obtain ⟨a, ns, rfl, _⟩ := q
    rfl
  obtain ⟨a, ns, rfl, hS, q⟩ := q
  have hG' : (A.deeper (envOfC "law" (defScope s_law) s.heap.objs.size (He.ga K "law") cdv)).guards = some [] := hG
  let X : Cx := (cxOf CX0 P w K mg base ["script", "bag", "turn", "c", "two", "three"] "law" (defScope s_law) (He.ga K "law") cdv A l0 s H E).nox
  let ρb : Addr → En := fun b => [.no, .v (.ref b), .no, .no, .no, .no]
  let Φ : Oc → Prop := fun o => match o with | .rt d => d = .bool true | _ => False
  have rest : ∀ b l, BD X (bagW b l) (ρb b) ((defBody s_law).drop 1) Φ := by
    intro b l
    have hbW := hb_bagW b l
    refine b_forR (n := 4) (i := 2) (I := fun j ρ' => ∃ x1 x2 : Sl, ρ' = [.no, .v (.ref b), x1, x2, .no, .no]) (Ω := fun ρ' => ∃ x1 x2 : Sl, ρ' = [.no, .v (.ref b), x1, x2, .no, .no]) PassesOwn.never rfl sc.nd rfl (.inl rfl) T.f_range e_int (by decide) (by decide) ⟨.no, .no, rfl⟩ ?turns (fun ρ' h => h) ?after
    case turns =>
      rintro j ρ' hj ⟨x1, x2, rfl⟩
      refine b_setR (i := 3) (R := CGood) sc.nd rfl (.inl rfl) (e_callW (C_some.mono (by decide)) hr hG' (s_raw (pv 1) rfl (s_cons (e_lst (a_cons (e_tup (a_cons e_int (a_cons e_int a_nil))) (a_cons (e_tup (a_cons e_int (a_cons e_int a_nil))) (a_cons (e_tup (a_cons e_int (a_cons e_int a_nil))) (a_cons (e_tup (a_cons (e_add (e_pow (by exact ⟨by decide, by decide, by decide⟩) e_int e_int) e_int) (a_cons e_int a_nil))) (a_cons (e_tup (a_cons e_int (a_cons e_int a_nil))) (a_cons (e_tup (a_cons e_int (a_cons e_int a_nil))) (a_cons (e_tup (a_cons (e_add (e_pow (by exact ⟨by decide, by decide, by decide⟩) e_int e_int) e_int) (a_cons e_int a_nil))) a_nil)))))))) s_nil)) ⟨b, l, _, hbW, rfl, List.cons_ne_nil _ _, Nat.le_of_ble_eq_true rfl, fun d hd => ?menu⟩) (fun d hd => ?go)
      case menu =>
        simp only [List.mem_cons, List.not_mem_nil, or_false] at hd
        rcases hd with rfl | rfl | rfl | rfl | rfl | rfl | rfl
        · exact cgood 2 1 1 (by decide) (by decide) (by decide) (by decide) (by decide +kernel) (by decide +kernel) (by decide) (by decide) (by decide +kernel) (by decide +kernel)
        · exact cgood 3 1 1 (by decide) (by decide) (by decide) (by decide) (by decide +kernel) (by decide +kernel) (by decide) (by decide) (by decide +kernel) (by decide +kernel)
        · exact cgood 5 7 5 (by decide) (by decide) (by decide) (by decide) (by decide +kernel) (by decide +kernel) (by decide) (by decide) (by decide +kernel) (by decide +kernel)
        · exact cgood 1000000000039 1 1000000 (by decide) (by decide) (by decide) (by decide) (by decide +kernel) (by decide +kernel) (by decide) (by decide) (by decide +kernel) (by decide +kernel)
        · exact cgood 1 2 1 (by decide) (by decide) (by decide) (by decide) (by decide +kernel) (by decide +kernel) (by decide) (by decide) (by decide +kernel) (by decide +kernel)
        · exact cgood 6 35 14 (by decide) (by decide) (by decide) (by decide) (by decide +kernel) (by decide +kernel) (by decide) (by decide) (by decide +kernel) (by decide +kernel)
        · exact cgood 1000000007 998244353 999121794 (by decide) (by decide) (by decide) (by decide) (by decide +kernel) (by decide +kernel) (by decide) (by decide) (by decide +kernel) (by decide +kernel)
      obtain ⟨c, rfl, g, h40⟩ := hd
      refine b_if1 (t_w (w_or (t_not (t_val (e_callW (R := fun z => z = .bool true) (C_rules.mono (by decide)) hr hG' (s_raw (pv 1) rfl (s_cons (e_var 3 rfl (pv 3)) s_nil)) ⟨b, l, c, hbW, rfl, g, h40, rfl⟩))) (fun hc => (w_or1 (t_not (t_val (e_callW (R := fun z => z = .bool true) (C_order.mono (by decide)) hr hG' (s_raw (pv 1) rfl (s_cons (e_var 3 rfl (pv 3)) s_nil)) ⟨b, l, c, hbW, rfl, g, h40, rfl⟩))))))) (fun hc => absurd hc (by decide)) (fun _ => ?_)
      refine b_if1 (t_w (w_or (t_not (t_val (e_callW (R := fun z => z = .bool true) (C_alike.mono (by decide)) hr hG' (s_raw (pv 1) rfl (s_cons (e_var 3 rfl (pv 3)) s_nil)) ⟨b, l, c, hbW, rfl, g, h40, rfl⟩))) (fun hc => (w_or1 (t_not (t_val (e_callW (R := fun z => z = .bool true) (C_fracs.mono (by decide)) hr hG' (s_raw (pv 1) rfl s_nil) ⟨b, l, hbW, rfl, rfl⟩))))))) (fun hc => absurd hc (by decide)) (fun _ => ?_)
      exact b_nil ⟨_, _, rfl⟩
    case after =>
      rintro ρ' ⟨x1, x2, rfl⟩
      refine b_un2 4 5 (d1 := encR 0 1 2) (d2 := encR 0 1 3) rfl sc.nd rfl rfl (.inl rfl) (.inl rfl) (e_tup (a_cons (ED.to (d' := encR 0 1 2) (e_tup (a_cons (ED.to (d' := encQ (0 : Rat)) (e_tup (a_cons e_int (a_cons e_int a_nil))) (encQ_of (d := 1) (by decide +kernel) (by decide +kernel))) (a_cons (ED.to (d' := encQ (1 : Rat)) (e_tup (a_cons e_int (a_cons e_int a_nil))) (encQ_of (d := 1) (by decide +kernel) (by decide +kernel))) (a_cons (ED.to (d' := encQ (2 : Rat)) (e_tup (a_cons e_int (a_cons e_int a_nil))) (encQ_of (d := 1) (by decide +kernel) (by decide +kernel))) a_nil)))) rfl) (a_cons (ED.to (d' := encR 0 1 3) (e_tup (a_cons (ED.to (d' := encQ (0 : Rat)) (e_tup (a_cons e_int (a_cons e_int a_nil))) (encQ_of (d := 1) (by decide +kernel) (by decide +kernel))) (a_cons (ED.to (d' := encQ (1 : Rat)) (e_tup (a_cons e_int (a_cons e_int a_nil))) (encQ_of (d := 1) (by decide +kernel) (by decide +kernel))) (a_cons (ED.to (d' := encQ (3 : Rat)) (e_tup (a_cons e_int (a_cons e_int a_nil))) (encQ_of (d := 1) (by decide +kernel) (by decide +kernel))) a_nil)))) rfl) a_nil))) ?_
      refine b_try rfl rfl ⟨rfl, by decide, .inl n1⟩ n6 (fun Wx pn xe tk => n_call (X_added.mono (by decide)) hr hG' tk (a_cons (e_var 4 rfl (pv 4)) (a_cons (e_var 5 rfl (pv 5)) a_nil)) ⟨_, _, _, _, _, _, rfl, by decide +kernel, by decide +kernel, by decide +kernel, sz0.bd (by decide) (by decide), sz0.bd (by decide) (by decide), sz1.bd (by decide) (by decide), sz1.bd (by decide) (by decide)⟩) (fun a pn hot => b_pass (b_nil ?_))
      refine b_try rfl rfl ⟨rfl, by decide, .inl n1⟩ n6 (fun Wx pn xe tk => n_call (X_rooted.mono (by decide)) hr hG' tk (a_cons (ED.to (d' := encQ (0 : Rat)) (e_tup (a_cons e_int (a_cons e_int a_nil))) (encQ_of (d := 1) (by decide +kernel) (by decide +kernel))) (a_cons (ED.to (d' := encQ (1 : Rat)) (e_tup (a_cons e_int (a_cons e_int a_nil))) (encQ_of (d := 1) (by decide +kernel) (by decide +kernel))) (a_cons (ED.to (d' := encQ (-2 : Rat)) (e_tup (a_cons (e_neg e_int) (a_cons e_int a_nil))) (encQ_of (d := 1) (by decide +kernel) (by decide +kernel))) a_nil))) ⟨_, _, _, rfl, by decide +kernel, by decide +kernel⟩) (fun a pn hot => ?_)
      have hrH : RoomH 12 (X.suite a pn).A := ⟨hr.dp, hr.un⟩
      have h40 : Sz 2 40 30 := ⟨by decide +kernel, by decide +kernel⟩
      have L1 : Lv 0 1 1 1 := ⟨sz0, sz1⟩
      have e2 : encR 0 1 2 = nf 2 0 1 := by
        unfold nf
        rw [czn (by decide +kernel)]
      have kp := k_product good2 h40 L1 L1 (by decide)
      rw [← e2] at kp
      refine b_ret (e_callH (d := .bool true) (H_is.mono (by decide)) hrH hot (a_cons (e_callH (d := nf 2 (0 * 0 + 1 * 1 * 2) (0 * 1 + 1 * 0)) (H_product.mono (by decide)) hrH hot (a_cons (e_var 4 rfl (pv 4)) (a_cons (e_var 4 rfl (pv 4)) a_nil)) kp) (a_cons (e_callH (d := nf 2 2 0) (H_off.mono (by decide)) hrH hot (a_cons (ED.to (d' := encQ (2 : Rat)) (e_tup (a_cons e_int (a_cons e_int a_nil))) (encQ_of (d := 1) (by decide +kernel) (by decide +kernel))) a_nil) k_off) a_nil)) (k_is good2 (h40.mono (by decide) (by decide)) (Lv.prod h40 L1 L1) (by grind) (by grind) (by decide))) ?_
      exact rfl
  have bd : PSs X (defBody s_law) (tSeq (tAsg (tCallG (spBag K) (fun _ _ _ => False) (tCons (tVar 0) tNil)) (gName 1)) (tBag K ρb Φ)) :=
    pss_cons (ps_set (i := 1) sc.nd rfl (.inl rfl) (pe_callG (X := X) (FB.mono (by decide)) hr hG' rfl gB kB bB pass0 (pa_cons (pv 0) pa_nil) (by decide) rfl rfl)) (pss_bag (X := X) rest)
  refine ⟨_, bd.nox, .ref a, rfl, a, ns, rfl, hS, fun b l H' hB => ⟨b, l, hB, ?_, ?_, ?_, ?_, ?_⟩⟩
  · refine ⟨rfl, fun i x e => ?_⟩
    match i, e with
    | 0, e => cases e; trivial
    | 1, e => cases e; rfl
    | 2, e => cases e; trivial
    | 3, e => cases e; trivial
    | 4, e => cases e; trivial
    | 5, e => cases e; trivial
    | i + 6, e => cases e
  · exact fun ρ' σ' H2 z => z.elim
  · intro d v H2 z B2 l2 p2
    have z : d = .bool true := z
    subst z
    rw [dp_bl p2]
    exact q H2
  · exact fun ρ' σ' H2 z => z.elim
  · exact fun ρ' σ' H2 z => z.elim
end K65
end
set_option Elab.async false
set_option linter.all false
set_option maxRecDepth 100000
set_option maxHeartbeats 0
namespace DL
open PySem PySem.Spec PyProof.Rows L2
/-! ### a law's end, for a def that asks that no text be under way -/
/-- what the caller's heap tells of the heap that only the module's objects make -/
theorem seen {h : Heap} {H : Hp} {a : Addr} {ob : Obj} (ha : h.get? a = some ob) (hd : ∀ es ep, ob.data ≠ .dict es ep) (hA : ∀ b, H b ≠ none → b = a) :
    ∀ {b : Addr} {m : Str → Option Value}, h.Ns b m → (hidT h H).Ns b m := by
  rintro b m ⟨o, es, ep, e, d, r⟩
  refine ⟨o, es, ep, hidT_get e ?_, d, r⟩
  rcases Classical.em (H b = none) with z | z
  · exact z
  · obtain rfl := hA b z
    exact absurd d (by rw [ha] at e; cases e; exact hd es ep)
theorem seenK {K : PySem.W.Frag} {h : Heap} {H : Hp} {a : Addr} (KX : K.In h) (hA : ∀ b, H b ≠ none → b = a) (hK : H a ≠ none → K.lookup a = none) : K.In (hidT h H) := fun b o e => by
  refine hidT_get (KX b o e) ?_
  rcases Classical.em (H b = none) with z | z
  · exact z
  · obtain rfl := hA b z
    rw [hK z] at e
    cases e
/-- the caller's call, over a heap where nothing but the script may be known -/
theorem call_at {P : Program} {w : World} {K : PySem.W.Frag} {mg mb : Str → Option Value} {k : Nat} {fa a : Addr} {fd : FuncData} {x : Str} {sp : Sp} {s : Shared} {vs : List Value} {H : Hp}
    (KX : K.In s.heap) (G : s.heap.Ns mainGlobals mg) (B : s.heap.Ns builtinsNs mb) (bt : ∀ x : Str, x ≠ "__name__" → mb x = bootBuiltins x) (nl : s.heap.NoLimit) (ng : s.gens = #[])
    (ha : s.heap.get? a = some { cls := .type "list", data := .seq vs.toArray }) (hr : Room k callerA)
    (F : ∀ base : Heap, K.In base → base.Ns mainGlobals mg → FG P w K mg base CX0 k fa fd [x] sp) (bd : ∀ (s : Shared) (u : Value), BindsTo s fd ⟨[u], []⟩ [(x, u)])
    (q : sp [.ref a] H (fun v _ => v = .bl true) fun _ _ _ => False) (hO : Only H) (hok : HOk P w H s.heap) (hA : ∀ b, H b ≠ none → b = a) (hK : H a ≠ none → K.lookup a = none) :
    codeAny (model P w) callerA (.call (.ref fa) ⟨[.ref a], []⟩) (fun r s' => r = .ok (.ret (.bool true)) ∧ OldK s.heap s'.heap ∧ s'.os = s.os ∧ AllBare s'.gens) s := by
  have ns : ∀ {b : Addr} {m : Str → Option Value}, s.heap.Ns b m → (hidT s.heap H).Ns b m := seen ha (fun es ep z => nomatch z) hA
  have kb := seenK KX hA hK
  have lim : (hidT s.heap H).NoLimit := by
    obtain ⟨mc, l1, l2⟩ := nl
    exact ⟨mc, ns l1, l2⟩
  have env : Env0 P w K mg (hidT s.heap H) callerA [] s H := by
    refine ⟨rfl, ⟨kb, ns G, ⟨mb, ns B, bt⟩, lim⟩, fun b o e => of_hidT e, Nat.le_of_eq (hidT_size _ _), trivial, fun b z => ?_, hok, .of_eq ng⟩
    exact nomatch (show b ∈ ([] : List Addr) from z)
  have goal := (F _ kb (ns G)).goes callerA [] s H ⟨[.ref a], []⟩ [.ref a] [.ref a] _ _ hr rfl env (bd s (.ref a)) (.cons rfl .nil) q
  refine codeAny_mono goal fun r s' z => ?_
  match r, z with
  | .error e, z => exact False.elim z
  | .ok .next, z => exact False.elim z
  | .ok .brk, z => exact False.elim z
  | .ok .cont, z => exact False.elim z
  | .ok (.ret u), ⟨v, H', os, bare, un, hok', r', q'⟩ =>
    obtain rfl : v = .bl true := q'
    obtain rfl : u = Value.bool true := r'
    refine ⟨rfl, .of_keep fun b o e => ?_, os, bare⟩
    rcases hO b with z | ⟨ob, xs, z⟩
    · exact un.keep b o e z (fun y => nomatch (show b ∈ ([] : List Addr) from y)) (by simp)
    · have e1 := (hok b _ z).1
      rw [e] at e1
      cases e1
      exact (hok' b _ (un.frzs b o _ z)).1
/-- the call at any script -/
theorem call_law {P : Program} {w : World} {K : PySem.W.Frag} {mg mb : Str → Option Value} {k : Nat} {fa a : Addr} {fd : FuncData} {x : Str} {sp : Sp} {s : Shared} {vs : List Value} {ns : List Int}
    (KX : K.In s.heap) (G : s.heap.Ns mainGlobals mg) (B : s.heap.Ns builtinsNs mb) (bt : ∀ x : Str, x ≠ "__name__" → mb x = bootBuiltins x) (nl : s.heap.NoLimit) (ng : s.gens = #[])
    (ha : s.heap.get? a = some { cls := .type "list", data := .seq vs.toArray }) (hi : IntsAre vs ns) (hl : ns.length ≤ sizeLine) (hr : Room k callerA)
    (F : ∀ base : Heap, K.In base → base.Ns mainGlobals mg → FG P w K mg base CX0 k fa fd [x] sp) (bd : ∀ (s : Shared) (u : Value), BindsTo s fd ⟨[u], []⟩ [(x, u)])
    (q : ∀ H : Hp, SqL K H a (ns.map V.int) → sp [.ref a] H (fun v _ => v = .bl true) fun _ _ _ => False) :
    codeAny (model P w) callerA (.call (.ref fa) ⟨[.ref a], []⟩) (fun r s' => r = .ok (.ret (.bool true)) ∧ OldK s.heap s'.heap ∧ s'.os = s.os ∧ AllBare s'.gens) s := by
  have len := hi.length
  have vv := vals_ints hi
  match hk : K.lookup a with
  | some o =>
    have e := KX a o hk
    rw [ha] at e
    cases e
    have hS : SqL K (fun _ => none) a (ns.map V.int) := .inr ⟨_, vs.toArray, _, hk, rfl, rfl, rfl, by rw [List.size_toArray, len]; exact hl, vv⟩
    exact call_at KX G B bt nl ng ha hr F bd (q _ hS) (fun b => .inl rfl) (fun b u z => nomatch (show (none : Option HO) = some u from z)) (fun b z => absurd rfl z) (fun z => absurd rfl z)
  | none =>
    let H : Hp := fun b => if b = a then some (.frz { cls := .type "list", data := .seq vs.toArray } (.lst (ns.map V.int))) else none
    have at_ : H a = some (.frz { cls := .type "list", data := .seq vs.toArray } (.lst (ns.map V.int))) := if_pos rfl
    have off : ∀ b, b ≠ a → H b = none := fun b z => if_neg z
    have hS : SqL K H a (ns.map V.int) := .inl (.inr ⟨_, at_⟩)
    have only : ∀ b, H b ≠ none → b = a := fun b z => Decidable.byContradiction fun y => z (off b y)
    refine call_at KX G B bt nl ng ha hr F bd (q _ hS) (fun b => ?_) (fun b u z => ?_) only (fun _ => hk)
    · rcases Decidable.em (b = a) with rfl | y
      · exact .inr ⟨_, _, at_⟩
      · exact .inl (off b y)
    · have y := only b (by rw [z]; exact fun y => nomatch y)
      subst y
      rw [at_] at z
      cases z
      exact ⟨ha, by rw [List.length_map]; exact hl, vs, _, vv, ha⟩
/-- the walk's end -/
theorem walk_ofG {l : PySem.W.OpenLaw} {n k : Nat} {q : Program} {loose : List Str} {XP : (Str → Option Value) → Heap → Prop} {YP : World → Heap → Prop} {d : DefRec} {x : Str}
    (hn : l.most = some n) (hn2 : n ≤ sizeLine) (hdf : d.params.defaults = []) (hr : Room k callerA)
    (F : ∀ (w : World) (mg : Str → Option Value) (fa : Addr) (h : Heap), YP w h → h.Ns mainGlobals mg → mg d.name = some (.ref fa) →
      ∃ (K : PySem.W.Frag) (fd : FuncData) (sp : Sp), K.In h ∧ (∀ (s : Shared) (u : Value), BindsTo s fd ⟨[u], []⟩ [(x, u)]) ∧
        (∀ (H : Hp) (a : Addr) (ns : List Int), SqL K H a (ns.map V.int) → sp [.ref a] H (fun v _ => v = .bl true) fun _ _ _ => False) ∧
        ∀ base : Heap, K.In base → base.Ns mainGlobals mg → FG l.prog w K mg base CX0 k fa fd [x] sp) :
    PySem.W.WalkO q loose XP YP l.row.toRowW d [] (fun f vs => PySem.call f vs) := by
  refine Att.attach_call hn hdf fun w s₀ s mg mb fa o pm cd doc a vs ns G Y _ _ _ hmg hobj hints hlen hg => ?_
  obtain ⟨K, fd, sp, KX, hb, hsp, hF⟩ := F w mg fa _ Y G.T.g hmg
  exact call_law KX G.T.g G.T.b G.T.builtins G.T.nolimit hg hobj hints (Nat.le_trans hlen hn2) hr hF hb fun H hS => hsp H a ns hS
end DL
open PySem PySem.W PySem.Calls PyProof.Rows
theorem PySem.Challenge.cw_arcshapes_k65_root_numbers_as_a_field_holds : PySem.Challenge.rw_arcshapes_k65_root_numbers_as_a_field.Holds := by
  w_on; o_law
  refine HandSHeadRun.head_any (r := OpenLaw.row PySem.Challenge.rw_arcshapes_k65_root_numbers_as_a_field) (q := view (OpenLaw.row PySem.Challenge.rw_arcshapes_k65_root_numbers_as_a_field).prog [86]) (H := K65.hk) (ob := K65.ob) (M := 4000) (loose := K65.loose) (d := HandSHeadRun.topDef (OpenLaw.row PySem.Challenge.rw_arcshapes_k65_root_numbers_as_a_field).prog 86) (kwd := []) K65.ob_eq
    (by kernel_rfl) (fun s => by kernel_rfl) K65.run (by kernel_rfl) (by kernel_rfl) (by kernel_rfl) (by rfl) (by first | assumption | decide +kernel) (by decide +kernel) ⟨rfl, rfl, rfl, rfl, rfl, by decide +kernel⟩ ?hw ?hc
  case hw => w_witness2
  case hc =>
    refine DL.walk_ofG (l := PySem.Challenge.rw_arcshapes_k65_root_numbers_as_a_field) (n := 63) (k := 13) (x := "script") rfl (by decide) (by kernel_rfl) ⟨by decide, by decide, by decide⟩ ?F
    intro w mg fa h Y G hmg0
    obtain ⟨K, KX, c, cx⟩ := Y
    have hmg : mg ("law" : PySem.Str) = some (.ref fa) := by
      have e : (HandSHeadRun.topDef (OpenLaw.row PySem.Challenge.rw_arcshapes_k65_root_numbers_as_a_field).prog 86).name = ("law" : PySem.Str) := by kernel_rfl
      rw [← e]
      exact hmg0
    have T : K65.Tp K mg := ⟨c, cx, h, KX, G⟩
    have e := hmg.symm.trans (T.glo 67 (x := "law"))
    cases e
    obtain ⟨fd, U⟩ := c.def_ 67 (d := K65.d_law) rfl
    have b := L2.FunD.bindsA (ps := ["script"]) U fun _ _ _ _ _ _ us hl => match us, hl with | [_], _ => rfl
    refine ⟨K, fd, K65.spLaw K, KX, fun s v => b s [v] rfl, fun H a ns hS => ⟨a, ns, rfl, hS, fun _ => rfl⟩, fun base _ _ => ?_⟩
    exact K65.c_law (P := (PySem.Challenge.rw_arcshapes_k65_root_numbers_as_a_field).prog) (w := w) (base := base) T U
